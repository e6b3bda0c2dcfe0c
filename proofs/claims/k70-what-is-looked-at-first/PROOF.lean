import PyProof.Rows.All
import Wide.All
import OpenK.AllK
import Wide.FinOn
import HandS.ForMost
import HandS.ForExc
import HandS.Wide
import HandS.CallSlots
import HandS.IsInst
import HandS.Flow
import HandS.DeepEq
import HandS.Deep
import HandS.TupAny
import HandS.RaiseMore
import HandS.WordsDict
import HandS.Walk
import KE.GoesComp
import KE.GoesRaise
import HandS.Zip
import KE.GoesEnum
import KE.KExcSuper
import KE.KExcInit
import HandS.Style
import HandS.ExcField
import HandS.Dict
import PyProof.DictUpdate
import HandS.DictComp
import HandS.Sort
import HandS.Text
import PySem.Challenge.RW_answerandproof_k70_whole_what_is_looked
import HandS.Defaults
import KE.KExcLine
set_option Elab.async false
set_option linter.all false
/-! ## XM0 -/
set_option maxHeartbeats 200000
set_option linter.all false
set_option autoImplicit false
set_option maxRecDepth 100000
/-! XM0: data D, a small memory, and readings of the hand layer by plain functions -/
namespace XM
open PySem PySem.Spec
open PyProof.Rows hiding St
open L2 hiding Rd Rd.of Rd.ok

inductive D where
  | non | bl (b : Bool) | int (i : Int) | str (x : Str)
  | tup (ds : List D) | lst (ds : List D) | fz (ds : List D) | dic (ks : List Key) (ds : List D) | ref (i : Nat)

inductive MO where
  | lst (ds : List D) | dic (ks : List Key) (ds : List D) | ins (c : Nat) (fs : List Str) (ds : List D) | gone

abbrev Mem := List MO
abbrev Lc := List (Option D)

/-- where the memory lies in the abstract heap -/
structure SM where
  ρ : Nat → Addr
  M : Mem
  H : Hp
  P : Addr → Prop

def Alv (M : Mem) (i : Nat) : Prop := ∃ o, M[i]? = some o ∧ o ≠ MO.gone
def Al (s : SM) (a : Addr) : Prop := ∃ i, Alv s.M i ∧ s.ρ i = a
/-- neither in the memory nor another's -/
def Fre (s : SM) (a : Addr) : Prop := ¬ Al s a ∧ ¬ s.P a
def Rd (H : Hp) (a : Addr) (u : HO) : Prop := H a = some u ∨ ∃ o, H a = some (.frz o u)

/-- a list that never changes: locked, or of the written part -/
def FzL (K : PySem.W.Frag) (H : Hp) (a : Addr) (xs : List V) : Prop :=
  (∃ o, H a = some (.frz o (.lst xs))) ∨
    ∃ (o : Obj) (its : Array Value) (n : Nat), K.lookup a = some o ∧ o.cls = .type "list" ∧ o.dict = none ∧ o.data = .seq its n ∧ its.size ≤ sizeLine ∧ Vals xs its.toList
theorem FzL.sq {K : PySem.W.Frag} {H : Hp} {a : Addr} {xs : List V} (h : FzL K H a xs) : SqL K H a xs := by
  rcases h with h | h
  · exact .inl (.inr h)
  · exact .inr h
section
variable (K : PySem.W.Frag)
mutual
def Is (s : SM) : D → V → Prop
  | .non, v => v = .non
  | .bl b, v => v = .bl b
  | .int i, v => v = .int i
  | .str x, v => v = .str x
  | .tup ds, v => ∃ a vs, v = .ref a ∧ SqT K s.H a vs ∧ IsL s ds vs
  | .lst ds, v => ∃ a vs, v = .ref a ∧ s.H a = some (.lst vs) ∧ Fre s a ∧ IsL s ds vs
  | .fz ds, v => ∃ a vs, v = .ref a ∧ FzL K s.H a vs ∧ IsL s ds vs
  | .dic ks ds, v => ∃ a kvs, v = .ref a ∧ s.H a = some (.dK kvs) ∧ Fre s a ∧ kvs.map (·.1) = ks ∧ IsL s ds (kvs.map (·.2))
  | .ref i, v => v = .ref (s.ρ i) ∧ i < s.M.length
def IsL (s : SM) : List D → List V → Prop
  | [], vs => vs = []
  | d :: ds, vs => ∃ v r, vs = v :: r ∧ Is s d v ∧ IsL s ds r
end
end

section
variable (K : PySem.W.Frag) (ca : Nat → Addr)
def OkO (s : SM) (a : Addr) : MO → Prop
  | .lst ds => ∃ vs, s.H a = some (.lst vs) ∧ IsL K s ds vs
  | .dic ks ds => ∃ kvs, s.H a = some (.dK kvs) ∧ kvs.map (·.1) = ks ∧ IsL K s ds (kvs.map (·.2))
  | .ins c fs ds => ∃ dx kvs, s.H a = some (.ins (ca c) dx kvs) ∧ kvs.map (·.1) = fs ∧ IsL K s ds (kvs.map (·.2))
  | .gone => True
structure Abs (s : SM) : Prop where
  ok : ∀ i o, s.M[i]? = some o → OkO K ca s (s.ρ i) o
  inj : ∀ i j, Alv s.M i → Alv s.M j → s.ρ i = s.ρ j → i = j
  pv : ∀ i, Alv s.M i → ¬ s.P (s.ρ i)
  pt : ∀ a, s.P a → s.H a ≠ none
end
structure Ext (s s' : SM) : Prop where
  len : s.M.length ≤ s'.M.length
  rho : ∀ i, i < s.M.length → s'.ρ i = s.ρ i
  ali : ∀ i, i < s.M.length → Alv s'.M i → Alv s.M i
  keep : ∀ a o, s.H a = some o → ¬ Al s a → s'.H a = some o
  stay : ∀ a, s.H a ≠ none → s'.H a ≠ none
  new : ∀ i, s.M.length ≤ i → Alv s'.M i → s.H (s'.ρ i) = none
  pv : ∀ a, s'.P a → s.P a ∨ s.H a = none
  pk : ∀ a, s.P a → s'.P a

theorem Alv.lt {M : Mem} {i : Nat} (h : Alv M i) : i < M.length := by
  obtain ⟨o, e, _⟩ := h
  exact (List.getElem?_eq_some_iff.mp e).1
theorem Ext.refl (s : SM) : Ext s s := ⟨Nat.le_refl _, fun _ _ => rfl, fun _ _ h => h, fun _ _ h _ => h, fun _ h => h, fun i h1 h2 => absurd h2.lt (by omega), fun _ h => .inl h, fun _ h => h⟩
theorem Ext.nal {s s' : SM} (E : Ext s s') {a : Addr} (h : s.H a ≠ none) (n : ¬ Al s a) : ¬ Al s' a := by
  rintro ⟨i, h1, h2⟩
  by_cases hi : i < s.M.length
  · exact n ⟨i, E.ali i hi h1, by rw [← E.rho i hi]; exact h2⟩
  · have := E.new i (by omega) h1
    rw [h2] at this
    exact h this
theorem Ext.trans {s s' s'' : SM} (E : Ext s s') (F : Ext s' s'') : Ext s s'' where
  len := Nat.le_trans E.len F.len
  rho := fun i hi => (F.rho i (Nat.lt_of_lt_of_le hi E.len)).trans (E.rho i hi)
  ali := fun i hi h => E.ali i hi (F.ali i (Nat.lt_of_lt_of_le hi E.len) h)
  keep := fun a o h n => F.keep a o (E.keep a o h n) (E.nal (by rw [h]; exact nofun) n)
  stay := fun a h => F.stay a (E.stay a h)
  new := fun i hi h => by
    by_cases hi' : i < s'.M.length
    · have := E.new i hi (F.ali i hi' h)
      rw [F.rho i hi']
      exact this
    · have := F.new i (by omega) h
      cases q : s.H (s''.ρ i) with
      | none => rfl
      | some o => exact absurd this (E.stay _ (by rw [q]; exact nofun))
  pv := fun a h => by
    rcases F.pv a h with h | h
    · exact E.pv a h
    · cases q : s.H a with
      | none => exact .inr rfl
      | some o => exact absurd h (E.stay _ (by rw [q]; exact nofun))
  pk := fun a h => F.pk a (E.pk a h)
theorem Ext.fre {s s' : SM} (E : Ext s s') {a : Addr} (h : s.H a ≠ none) (n : Fre s a) : Fre s' a := ⟨E.nal h n.1, fun z => (E.pv a z).elim n.2 h⟩

section
variable {K : PySem.W.Frag} {ca : Nat → Addr} {s s' : SM}
theorem Rd.some {H : Hp} {a : Addr} {u : HO} (h : Rd H a u) : H a ≠ none := by
  rcases h with h | ⟨o, h⟩ <;> rw [h] <;> exact nofun
theorem Rd.keep {a : Addr} {u : HO} (E : Ext s s') (h : Rd s.H a u) (n : ¬ Al s a) : Rd s'.H a u := by
  rcases h with h | ⟨o, h⟩
  · exact .inl (E.keep a _ h n)
  · exact .inr ⟨o, E.keep a _ h n⟩
theorem Abs.what (A : Abs K ca s) {a : Addr} (h : Al s a) : (∃ vs, s.H a = some (.lst vs)) ∨ (∃ kvs, s.H a = some (.dK kvs)) ∨ ∃ c dx kvs, s.H a = some (.ins c dx kvs) := by
  obtain ⟨i, ⟨o, e, hg⟩, rfl⟩ := h
  have := A.ok i o e
  cases o with
  | lst ds => obtain ⟨vs, h, _⟩ := this; exact .inl ⟨vs, h⟩
  | dic ks ds => obtain ⟨kvs, h, _⟩ := this; exact .inr (.inl ⟨kvs, h⟩)
  | ins c fs ds => obtain ⟨dx, kvs, h, _⟩ := this; exact .inr (.inr ⟨_, dx, kvs, h⟩)
  | gone => exact absurd rfl hg
theorem Abs.ntup (A : Abs K ca s) {a : Addr} {vs : List V} (h : s.H a = some (.tup vs)) : ¬ Al s a := fun z => by
  rcases A.what z with ⟨_, q⟩ | ⟨_, q⟩ | ⟨_, _, _, q⟩ <;> rw [h] at q <;> cases q
theorem Abs.nfrz (A : Abs K ca s) {a : Addr} {o : Obj} {u : HO} (h : s.H a = some (.frz o u)) : ¬ Al s a := fun z => by
  rcases A.what z with ⟨_, q⟩ | ⟨_, q⟩ | ⟨_, _, _, q⟩ <;> rw [h] at q <;> cases q
theorem SqT.keep (A : Abs K ca s) (E : Ext s s') {a : Addr} {vs : List V} (h : SqT K s.H a vs) : SqT K s'.H a vs := by
  rcases h with (h | ⟨o, h⟩) | h
  · exact .inl (.inl (E.keep a _ h (A.ntup h)))
  · exact .inl (.inr ⟨o, E.keep a _ h (A.nfrz h)⟩)
  · exact .inr h
theorem FzL.keep (A : Abs K ca s) (E : Ext s s') {a : Addr} {vs : List V} (h : FzL K s.H a vs) : FzL K s'.H a vs := by
  rcases h with ⟨o, h⟩ | h
  · exact .inl ⟨o, E.keep a _ h (A.nfrz h)⟩
  · exact .inr h
mutual
theorem Is.mono (A : Abs K ca s) (E : Ext s s') : ∀ {d : D} {v : V}, Is K s d v → Is K s' d v
  | .non, _, h => by simp only [Is] at h ⊢; exact h
  | .bl _, _, h => by simp only [Is] at h ⊢; exact h
  | .int _, _, h => by simp only [Is] at h ⊢; exact h
  | .str _, _, h => by simp only [Is] at h ⊢; exact h
  | .tup ds, v, h => by
    simp only [Is] at h ⊢
    obtain ⟨a, vs, e, h1, h2⟩ := h
    exact ⟨a, vs, e, SqT.keep A E h1, IsL.mono A E h2⟩
  | .lst ds, v, h => by
    simp only [Is] at h ⊢
    obtain ⟨a, vs, e, h1, n, h2⟩ := h
    exact ⟨a, vs, e, E.keep a _ h1 n.1, E.fre (by rw [h1]; exact nofun) n, IsL.mono A E h2⟩
  | .fz ds, v, h => by
    simp only [Is] at h ⊢
    obtain ⟨a, vs, e, h1, h2⟩ := h
    exact ⟨a, vs, e, FzL.keep A E h1, IsL.mono A E h2⟩
  | .dic ks ds, v, h => by
    simp only [Is] at h ⊢
    obtain ⟨a, kvs, e, h1, n, hk, h2⟩ := h
    exact ⟨a, kvs, e, E.keep a _ h1 n.1, E.fre (by rw [h1]; exact nofun) n, hk, IsL.mono A E h2⟩
  | .ref i, v, h => by
    simp only [Is] at h ⊢
    exact ⟨by rw [h.1, E.rho i h.2], Nat.lt_of_lt_of_le h.2 E.len⟩
theorem IsL.mono (A : Abs K ca s) (E : Ext s s') : ∀ {ds : List D} {vs : List V}, IsL K s ds vs → IsL K s' ds vs
  | [], _, h => by simp only [IsL] at h ⊢; exact h
  | d :: ds, vs, h => by
    simp only [IsL] at h ⊢
    obtain ⟨v, r, e, h1, h2⟩ := h
    exact ⟨v, r, e, Is.mono A E h1, IsL.mono A E h2⟩
end
theorem IsL.nil_iff {vs : List V} : IsL K s [] vs ↔ vs = [] := by simp only [IsL]
theorem IsL.cons {d : D} {ds : List D} {v : V} {vs : List V} (h : Is K s d v) (t : IsL K s ds vs) : IsL K s (d :: ds) (v :: vs) := by
  simp only [IsL]; exact ⟨v, vs, rfl, h, t⟩
theorem IsL.nil : IsL K s [] [] := by simp only [IsL]
theorem IsL.length : ∀ {ds : List D} {vs : List V}, IsL K s ds vs → vs.length = ds.length
  | [], _, h => by simp only [IsL] at h; rw [h]; rfl
  | d :: ds, vs, h => by
    simp only [IsL] at h
    obtain ⟨v, r, e, h1, h2⟩ := h
    rw [e, List.length_cons, List.length_cons, IsL.length h2]
theorem IsL.get : ∀ {ds : List D} {vs : List V} {i : Nat} {d : D}, IsL K s ds vs → ds[i]? = some d → ∃ v, vs[i]? = some v ∧ Is K s d v
  | [], _, _, _, h, e => by simp at e
  | d :: ds, vs, 0, d', h, e => by
    simp only [IsL] at h
    obtain ⟨v, r, e1, h1, h2⟩ := h
    simp at e; subst e; subst e1
    exact ⟨v, rfl, h1⟩
  | d :: ds, vs, i + 1, d', h, e => by
    simp only [IsL] at h
    obtain ⟨v, r, e1, h1, h2⟩ := h
    subst e1
    obtain ⟨w, q1, q2⟩ := IsL.get (i := i) h2 (by simpa using e)
    exact ⟨w, by simpa using q1, q2⟩
theorem IsL.back : ∀ {ds : List D} {vs : List V} {i : Nat} {v : V}, IsL K s ds vs → vs[i]? = some v → ∃ d, ds[i]? = some d ∧ Is K s d v := fun {ds vs i v} h e => by
  have hl := h.length
  have hi : i < vs.length := (List.getElem?_eq_some_iff.mp e).1
  obtain ⟨w, q1, q2⟩ := h.get (i := i) (d := ds[i]'(by omega)) (List.getElem?_eq_getElem (by omega))
  rw [e] at q1
  cases q1
  exact ⟨_, List.getElem?_eq_getElem (by omega), q2⟩
theorem IsL.append : ∀ {ds es : List D} {vs ws : List V}, IsL K s ds vs → IsL K s es ws → IsL K s (ds ++ es) (vs ++ ws)
  | [], _, _, _, h, t => by simp only [IsL] at h; subst h; exact t
  | d :: ds, es, vs, ws, h, t => by
    simp only [IsL] at h
    obtain ⟨v, r, e, h1, h2⟩ := h
    subst e
    exact IsL.cons h1 (IsL.append h2 t)
theorem IsL.take : ∀ (n : Nat) {ds : List D} {vs : List V}, IsL K s ds vs → IsL K s (ds.take n) (vs.take n)
  | 0, _, _, _ => by simp only [List.take_zero]; exact IsL.nil
  | n + 1, [], _, h => by simp only [IsL] at h; subst h; exact IsL.nil
  | n + 1, d :: ds, vs, h => by
    simp only [IsL] at h
    obtain ⟨v, r, e, h1, h2⟩ := h
    subst e
    exact IsL.cons h1 (IsL.take n h2)
theorem IsL.drop : ∀ (n : Nat) {ds : List D} {vs : List V}, IsL K s ds vs → IsL K s (ds.drop n) (vs.drop n)
  | 0, _, _, h => h
  | n + 1, [], _, h => by simp only [IsL] at h; subst h; exact IsL.nil
  | n + 1, d :: ds, vs, h => by
    simp only [IsL] at h
    obtain ⟨v, r, e, h1, h2⟩ := h
    subst e
    exact IsL.drop n h2
theorem IsL.set {d : D} {v : V} (hd : Is K s d v) : ∀ (n : Nat) {ds : List D} {vs : List V}, IsL K s ds vs → IsL K s (ds.set n d) (vs.set n v)
  | _, [], _, h => by simp only [IsL] at h; subst h; exact IsL.nil
  | 0, d' :: ds, vs, h => by
    simp only [IsL] at h
    obtain ⟨w, r, e, h1, h2⟩ := h
    subst e
    exact IsL.cons hd h2
  | n + 1, d' :: ds, vs, h => by
    simp only [IsL] at h
    obtain ⟨w, r, e, h1, h2⟩ := h
    subst e
    exact IsL.cons h1 (IsL.set hd n h2)

/-- the slots -/
structure AbsL (K : PySem.W.Frag) (s : SM) (L : Lc) (σ : L2.St) : Prop where
  len : L.length = σ.length
  at' : ∀ (i : Nat) (d : D), L[i]? = some (some d) → ∃ v, σ[i]? = some (some v) ∧ Is K s d v
theorem AbsL.mono {L : Lc} {σ : L2.St} (h : AbsL K s L σ) (A : Abs K ca s) (E : Ext s s') : AbsL K s' L σ :=
  ⟨h.len, fun i d e => let ⟨v, h1, h2⟩ := h.at' i d e; ⟨v, h1, h2.mono A E⟩⟩
theorem AbsL.set {L : Lc} {σ : L2.St} (h : AbsL K s L σ) (i : Nat) {d : D} {v : V} (hd : Is K s d v) : AbsL K s (L.set i (some d)) (σ.set i (some v)) := by
  refine ⟨by rw [List.length_set, List.length_set]; exact h.len, fun j d' e => ?_⟩
  by_cases hj : i = j
  · subst hj
    by_cases hl : i < L.length
    · rw [List.getElem?_set_self hl] at e
      cases e
      exact ⟨v, List.getElem?_set_self (by rw [← h.len]; exact hl), hd⟩
    · rw [List.getElem?_eq_none (by rw [List.length_set]; omega)] at e
      cases e
  · rw [List.getElem?_set_ne hj] at e ⊢
    exact h.at' j d' e
end

/-- a run's end -/
inductive Res (α : Type) where
  | ok (a : α) (M : Mem)
  | ex (c : Nat) (fs : List Str) (ds : List D) (M : Mem)
  | stk
def Res.bind {α β : Type} (r : Res α) (k : α → Mem → Res β) : Res β := match r with
  | .ok a M => k a M
  | .ex c fs ds M => .ex c fs ds M
  | .stk => .stk
abbrev EM := Lc → Mem → Res D

section
variable (K : PySem.W.Frag) (ca : Nat → Addr)
structure Sta (s : SM) (L : Lc) (σ : L2.St) (H : Hp) : Prop where
  h : s.H = H
  l : AbsL K s L σ
  a : Abs K ca s
/-- what is behind a run -/
def SatG {α : Type} (I : SM → α → Prop) (E : Value → Option Addr → Hp → Prop) (s : SM) (r : Res α) : Prop := match r with
  | .ok d M' => ∀ s', s'.M = M' → Ext s s' → Abs K ca s' → I s' d
  | .ex c fs ds M' => ∀ s' dd kvs, s'.M = M' → Ext s s' → Abs K ca s' → s'.H dd = some (.xd kvs) → kvs.map (·.1) = fs → IsL K s' ds (kvs.map (·.2)) → E (.ref (ca c)) (some dd) s'.H
  | .stk => False
abbrev Sat (W : WX) (σ : L2.St) (s : SM) (r : Res D) (Q : VK) : Prop := SatG K ca (fun s' d => ∀ v, Is K s' d v → Q v s'.H) (fun c d H => W c d σ H) s r
abbrev SatA (W : WX) (σ : L2.St) (s : SM) (r : Res (List D)) (Q : List V → Hp → Prop) : Prop := SatG K ca (fun s' ds => ∀ vs, IsL K s' ds vs → Q vs s'.H) (fun c d H => W c d σ H) s r
abbrev SatT (W : WX) (σ : L2.St) (s : SM) (r : Res Bool) (Q : Bool → Hp → Prop) : Prop := SatG K ca (fun s' b => Q b s'.H) (fun c d H => W c d σ H) s r
def XT (W : WX) (f : EM) : TE := fun σ H Q => ∃ L s, Sta K ca s L σ H ∧ Sat K ca W σ s (f L s.M) Q
def XA (W : WX) (f : Lc → Mem → Res (List D)) : TA := fun σ H Q => ∃ L s, Sta K ca s L σ H ∧ SatA K ca W σ s (f L s.M) Q
def XB (W : WX) (f : Lc → Mem → Res Bool) : TT := fun σ H Q => ∃ L s, Sta K ca s L σ H ∧ SatT K ca W σ s (f L s.M) Q
end
section
variable {K : PySem.W.Frag} {ca : Nat → Addr} {W : WX} {σ : L2.St} {s s' : SM} {H : Hp} {L : Lc}
theorem SatG.ext {α : Type} {I : SM → α → Prop} {E : Value → Option Addr → Hp → Prop} {r : Res α} (x : Ext s s') (h : SatG K ca I E s r) : SatG K ca I E s' r := by
  cases r with
  | ok d M' => exact fun s2 e x2 a => h s2 e (x.trans x2) a
  | ex c fs ds M' => exact fun s2 dd kvs e x2 a h1 h2 h3 => h s2 dd kvs e (x.trans x2) a h1 h2 h3
  | stk => exact h
theorem SatG.imp {α : Type} {I J : SM → α → Prop} {E : Value → Option Addr → Hp → Prop} {r : Res α} (hi : ∀ s' d, I s' d → J s' d) (h : SatG K ca I E s r) : SatG K ca J E s r := by
  cases r with
  | ok d M' => exact fun s2 e x2 a => hi _ _ (h s2 e x2 a)
  | ex c fs ds M' => exact h
  | stk => exact h
theorem SatG.bind {α β : Type} {I : SM → β → Prop} {E : Value → Option Addr → Hp → Prop} {r : Res α} {k : α → Mem → Res β} (h : SatG K ca I E s (r.bind k)) :
    SatG K ca (fun s' d => Ext s s' ∧ Abs K ca s' ∧ SatG K ca I E s' (k d s'.M)) E s r := by
  cases r with
  | ok d M' => exact fun s2 e x2 a => ⟨x2, a, by rw [e]; exact SatG.ext x2 h⟩
  | ex c fs ds M' => exact h
  | stk => exact h
theorem Sta.ext (S : Sta K ca s L σ H) (x : Ext s s') (a : Abs K ca s') : Sta K ca s' L σ s'.H := ⟨rfl, S.l.mono S.a x, a⟩
/-- a first part, then the rest -/
theorem xt_seq {β : Type} {I : SM → β → Prop} {f : EM} {k : D → Mem → Res β} (S : Sta K ca s L σ H) (h : SatG K ca I (fun c d H => W c d σ H) s ((f L s.M).bind k)) :
    XT K ca W f σ H (fun v H1 => ∃ s' d, Sta K ca s' L σ H1 ∧ Ext s s' ∧ Is K s' d v ∧ SatG K ca I (fun c d H => W c d σ H) s' (k d s'.M)) := by
  refine ⟨L, s, S, SatG.imp (fun s' d hh v hv => ?_) h.bind⟩
  obtain ⟨x, a, q⟩ := hh
  exact ⟨s', d, S.ext x a, x, hv, q⟩
theorem xa_seq {β : Type} {I : SM → β → Prop} {f : Lc → Mem → Res (List D)} {k : List D → Mem → Res β} (S : Sta K ca s L σ H) (h : SatG K ca I (fun c d H => W c d σ H) s ((f L s.M).bind k)) :
    XA K ca W f σ H (fun v H1 => ∃ s' d, Sta K ca s' L σ H1 ∧ Ext s s' ∧ IsL K s' d v ∧ SatG K ca I (fun c d H => W c d σ H) s' (k d s'.M)) := by
  refine ⟨L, s, S, SatG.imp (fun s' d hh v hv => ?_) h.bind⟩
  obtain ⟨x, a, q⟩ := hh
  exact ⟨s', d, S.ext x a, x, hv, q⟩
theorem xb_seq {β : Type} {I : SM → β → Prop} {f : Lc → Mem → Res Bool} {k : Bool → Mem → Res β} (S : Sta K ca s L σ H) (h : SatG K ca I (fun c d H => W c d σ H) s ((f L s.M).bind k)) :
    XB K ca W f σ H (fun b H1 => ∃ s', Sta K ca s' L σ H1 ∧ Ext s s' ∧ SatG K ca I (fun c d H => W c d σ H) s' (k b s'.M)) := by
  refine ⟨L, s, S, SatG.imp (fun s' b hh => ?_) h.bind⟩
  obtain ⟨x, a, q⟩ := hh
  exact ⟨s', S.ext x a, x, q⟩
theorem XT.mono {f : EM} {Q Q' : VK} (h : XT K ca W f σ H Q) (hq : ∀ v H', Q v H' → Q' v H') : XT K ca W f σ H Q' := by
  obtain ⟨L, s, S, q⟩ := h
  exact ⟨L, s, S, SatG.imp (fun s' d hh v hv => hq _ _ (hh v hv)) q⟩
theorem XA.mono {f : Lc → Mem → Res (List D)} {Q Q' : List V → Hp → Prop} (h : XA K ca W f σ H Q) (hq : ∀ v H', Q v H' → Q' v H') : XA K ca W f σ H Q' := by
  obtain ⟨L, s, S, q⟩ := h
  exact ⟨L, s, S, SatG.imp (fun s' d hh v hv => hq _ _ (hh v hv)) q⟩
theorem XB.mono {f : Lc → Mem → Res Bool} {Q Q' : Bool → Hp → Prop} (h : XB K ca W f σ H Q) (hq : ∀ v H', Q v H' → Q' v H') : XB K ca W f σ H Q' := by
  obtain ⟨L, s, S, q⟩ := h
  exact ⟨L, s, S, SatG.imp (fun s' d hh => hq _ _ hh) q⟩
/-- a weaker reading -/
theorem PE.imp {X : Cx} {e : Expr} {t t' : TE} (h : PE X e t) (hi : ∀ σ H Q, t' σ H Q → t σ H Q) : PE X e t' := ⟨fun pins s σ H Q I q => h.run pins s σ H Q I (hi _ _ _ q)⟩
theorem PA.imp {X : Cx} {e : List Expr} {t t' : TA} (h : PA X e t) (hi : ∀ σ H Q, t' σ H Q → t σ H Q) : PA X e t' := ⟨fun pos pins s σ H Q I q => h.run pos pins s σ H Q I (hi _ _ _ q)⟩
theorem PT.imp {X : Cx} {e : Expr} {t t' : TT} (h : PT X e t) (hi : ∀ σ H Q, t' σ H Q → t σ H Q) : PT X e t' := ⟨fun pins s σ H Q I q => h.run pins s σ H Q I (hi _ _ _ q)⟩
theorem PW.imp {X : Cx} {e : Expr} {t t' : TT} (h : PW X e t) (hi : ∀ σ H Q, t' σ H Q → t σ H Q) : PW X e t' := ⟨fun whole pins s σ H Q I q => h.run whole pins s σ H Q I (hi _ _ _ q)⟩
theorem PS.imp {X : Cx} {e : Stmt} {t t' : TS} (h : PS X e t) (hi : ∀ D σ H, t' D σ H → t D σ H) : PS X e t' := ⟨fun pins s σ H Q I q => h.run pins s σ H Q I (hi _ _ _ q)⟩
theorem PSs.imp {X : Cx} {e : List Stmt} {t t' : TS} (h : PSs X e t) (hi : ∀ D σ H, t' D σ H → t D σ H) : PSs X e t' := ⟨fun pins s σ H Q I q => h.run pins s σ H Q I (hi _ _ _ q)⟩
end
end XM
/-! ## XM1 -/
set_option maxHeartbeats 200000
set_option linter.all false
set_option autoImplicit false
set_option maxRecDepth 100000
namespace XM
open PySem PySem.Spec
open PyProof.Rows hiding St
open L2 hiding Rd Rd.of Rd.ok
section
variable {K : PySem.W.Frag} {ca : Nat → Addr} {W : WX} {σ : L2.St} {s s' : SM} {H : Hp} {L : Lc}
/-! ### changes of the heap -/
def SM.laid (s : SM) (p : Addr) (o : HO) : SM := { s with H := upd s.H p o }
theorem Ext.laid {p : Addr} {o : HO} (hp : s.H p = none) : Ext s (s.laid p o) where
  len := Nat.le_refl _
  rho := fun _ _ => rfl
  ali := fun _ _ h => h
  keep := fun a u h _ => by
    show upd s.H p o a = some u
    rw [upd_ne (ne_of_none h hp)]; exact h
  stay := fun a h => by
    show upd s.H p o a ≠ none
    unfold upd
    split
    · exact nofun
    · exact h
  new := fun i h1 h2 => absurd h2.lt (by show ¬ i < s.M.length; omega)
  pv := fun _ h => .inl h
  pk := fun _ h => h
/-- an object's words stand where it stands -/
theorem OkO.mono (A : Abs K ca s) (E : Ext s s') {a a' : Addr} {o : MO} (h : OkO K ca s a o) (e : ∀ u, s.H a = some u → s'.H a' = some u) : OkO K ca s' a' o := by
  cases o with
  | lst ds => obtain ⟨vs, h1, h2⟩ := h; exact ⟨vs, e _ h1, IsL.mono A E h2⟩
  | dic ks ds => obtain ⟨kvs, h1, h2, h3⟩ := h; exact ⟨kvs, e _ h1, h2, IsL.mono A E h3⟩
  | ins c fs ds => obtain ⟨dx, kvs, h1, h2, h3⟩ := h; exact ⟨dx, kvs, e _ h1, h2, IsL.mono A E h3⟩
  | gone => trivial
theorem Abs.laid (A : Abs K ca s) {p : Addr} {o : HO} (hp : s.H p = none) : Abs K ca (s.laid p o) where
  ok := fun i u e => (A.ok i u e).mono A (Ext.laid hp) fun v hv => by
    show upd s.H p o (s.ρ i) = some v
    rw [upd_ne (ne_of_none hv hp)]; exact hv
  inj := A.inj
  pv := A.pv
  pt := fun a h => (Ext.laid (o := o) hp).stay a (A.pt a h)
/-- a new object of the memory -/
def SM.put (s : SM) (p : Addr) (o : HO) (m : MO) : SM := ⟨fun i => if i = s.M.length then p else s.ρ i, s.M ++ [m], upd s.H p o, s.P⟩
theorem alv_app {M : Mem} {m : MO} {i : Nat} (h : Alv (M ++ [m]) i) : (i < M.length ∧ Alv M i) ∨ i = M.length := by
  obtain ⟨o, e, g⟩ := h
  by_cases hi : i < M.length
  · rw [List.getElem?_append_left hi] at e
    exact .inl ⟨hi, o, e, g⟩
  · have := (List.getElem?_eq_some_iff.mp e).1
    rw [List.length_append, List.length_singleton] at this
    exact .inr (by omega)
theorem Ext.put {p : Addr} {o : HO} {m : MO} (hp : s.H p = none) : Ext s (s.put p o m) where
  len := by show s.M.length ≤ (s.M ++ [m]).length; simp
  rho := fun i hi => by show (if i = s.M.length then p else s.ρ i) = _; rw [if_neg (by omega)]
  ali := fun i hi h => by
    rcases alv_app h with ⟨_, q⟩ | q
    · exact q
    · omega
  keep := fun a u h _ => by
    show upd s.H p o a = some u
    rw [upd_ne (ne_of_none h hp)]; exact h
  stay := fun a h => by
    show upd s.H p o a ≠ none
    unfold upd
    split
    · exact nofun
    · exact h
  new := fun i h1 h2 => by
    rcases alv_app h2 with ⟨q, _⟩ | q
    · omega
    · show s.H (if i = s.M.length then p else s.ρ i) = none
      rw [if_pos q]; exact hp
  pv := fun _ h => .inl h
  pk := fun _ h => h
theorem Abs.there (A : Abs K ca s) {i : Nat} (h : Alv s.M i) : ∃ u, s.H (s.ρ i) = some u := by
  rcases A.what ⟨i, h, rfl⟩ with ⟨_, q⟩ | ⟨_, q⟩ | ⟨_, _, _, q⟩ <;> exact ⟨_, q⟩
theorem Abs.put (A : Abs K ca s) {p : Addr} {o : HO} {m : MO} (hp : s.H p = none) (hm : OkO K ca (s.put p o m) p m) : Abs K ca (s.put p o m) where
  ok := fun i u e => by
    show OkO K ca (s.put p o m) (if i = s.M.length then p else s.ρ i) u
    have e : (s.M ++ [m])[i]? = some u := e
    by_cases hi : i < s.M.length
    · rw [List.getElem?_append_left hi] at e
      rw [if_neg (by omega)]
      exact (A.ok i u e).mono A (Ext.put hp) fun v hv => by
        show upd s.H p o (s.ρ i) = some v
        rw [upd_ne (ne_of_none hv hp)]; exact hv
    · have hl := (List.getElem?_eq_some_iff.mp e).1
      rw [List.length_append, List.length_singleton] at hl
      have hi : i = s.M.length := by omega
      subst hi
      rw [List.getElem?_append_right (Nat.le_refl _)] at e
      simp at e
      rw [if_pos rfl, ← e]
      exact hm
  inj := fun i j hi hj e => by
    have e : (if i = s.M.length then p else s.ρ i) = (if j = s.M.length then p else s.ρ j) := e
    rcases alv_app hi with ⟨h1, h2⟩ | h1 <;> rcases alv_app hj with ⟨h3, h4⟩ | h3
    · rw [if_neg (by omega), if_neg (by omega)] at e
      exact A.inj i j h2 h4 e
    · rw [if_neg (by omega), if_pos h3] at e
      obtain ⟨u, hu⟩ := A.there h2
      rw [e, hp] at hu; cases hu
    · rw [if_pos h1, if_neg (by omega)] at e
      obtain ⟨u, hu⟩ := A.there h4
      rw [← e, hp] at hu; cases hu
    · omega
  pv := fun i hi => by
    show ¬ s.P (if i = s.M.length then p else s.ρ i)
    rcases alv_app hi with ⟨h1, h2⟩ | h1
    · rw [if_neg (by omega)]; exact A.pv i h2
    · rw [if_pos h1]; exact fun z => A.pt p z hp
  pt := fun a h => (Ext.put (o := o) (m := m) hp).stay a (A.pt a h)
/-- an object of the memory is changed -/
def SM.chg (s : SM) (i : Nat) (o : HO) (m : MO) : SM := ⟨s.ρ, s.M.set i m, upd s.H (s.ρ i) o, s.P⟩
theorem Ext.chg {i : Nat} {o : HO} {m : MO} (hi : Alv s.M i) : Ext s (s.chg i o m) where
  len := by show s.M.length ≤ (s.M.set i m).length; rw [List.length_set]; exact Nat.le_refl _
  rho := fun _ _ => rfl
  ali := fun j hj h => by
    obtain ⟨u, e, g⟩ := h
    have e : (s.M.set i m)[j]? = some u := e
    by_cases hij : i = j
    · subst hij; exact hi
    · rw [List.getElem?_set_ne hij] at e
      exact ⟨u, e, g⟩
  keep := fun a u h n => by
    show upd s.H (s.ρ i) o a = some u
    rw [upd_ne (fun z => n ⟨i, hi, z.symm⟩)]; exact h
  stay := fun a h => by
    show upd s.H (s.ρ i) o a ≠ none
    unfold upd
    split
    · exact nofun
    · exact h
  new := fun j h1 h2 => absurd h2.lt (by show ¬ j < (s.M.set i m).length; rw [List.length_set]; omega)
  pv := fun _ h => .inl h
  pk := fun _ h => h
theorem Abs.chg (A : Abs K ca s) {i : Nat} {o : HO} {m : MO} (hi : Alv s.M i) (hm : OkO K ca (s.chg i o m) (s.ρ i) m) : Abs K ca (s.chg i o m) where
  ok := fun j u e => by
    have e : (s.M.set i m)[j]? = some u := e
    by_cases hij : i = j
    · subst hij
      rw [List.getElem?_set_self hi.lt] at e
      cases e
      exact hm
    · rw [List.getElem?_set_ne hij] at e
      by_cases hg : u = .gone
      · subst hg; trivial
      · refine (A.ok j u e).mono A (Ext.chg hi) fun v hv => ?_
        show upd s.H (s.ρ i) o (s.ρ j) = some v
        rw [upd_ne (fun z => hij (A.inj i j hi ⟨u, e, hg⟩ z.symm))]; exact hv
  inj := fun a b ha hb e => by
    have w : ∀ a, Alv (s.chg i o m).M a → Alv s.M a := fun a ha => (Ext.chg (o := o) (m := m) hi).ali a (by have := ha.lt; show a < s.M.length; have e : (s.chg i o m).M.length = s.M.length := List.length_set ..; omega) ha
    exact A.inj a b (w a ha) (w b hb) e
  pv := fun a ha => A.pv a ((Ext.chg (o := o) (m := m) hi).ali a (by have := ha.lt; show a < s.M.length; have e : (s.chg i o m).M.length = s.M.length := List.length_set ..; omega) ha)
  pt := fun a h => (Ext.chg (o := o) (m := m) hi).stay a (A.pt a h)
/-- an object is thrown away (it may stand as a plain value) -/
def SM.off (s : SM) (i : Nat) : SM := ⟨s.ρ, s.M.set i .gone, s.H, s.P⟩
theorem alv_off {M : Mem} {i j : Nat} (h : Alv (M.set i .gone) j) : j ≠ i ∧ Alv M j := by
  obtain ⟨u, e, g⟩ := h
  by_cases hij : i = j
  · subst hij
    by_cases hl : i < M.length
    · rw [List.getElem?_set_self hl] at e; cases e; exact absurd rfl g
    · rw [List.getElem?_eq_none (by rw [List.length_set]; omega)] at e; cases e
  · rw [List.getElem?_set_ne hij] at e
    exact ⟨fun z => hij z.symm, u, e, g⟩
theorem Ext.off {i : Nat} : Ext s (s.off i) where
  len := by show s.M.length ≤ (s.M.set i .gone).length; rw [List.length_set]; exact Nat.le_refl _
  rho := fun _ _ => rfl
  ali := fun j hj h => (alv_off h).2
  keep := fun _ _ h _ => h
  stay := fun _ h => h
  new := fun j h1 h2 => absurd h2.lt (by show ¬ j < (s.M.set i .gone).length; rw [List.length_set]; omega)
  pv := fun _ h => .inl h
  pk := fun _ h => h
theorem Abs.off (A : Abs K ca s) {i : Nat} : Abs K ca (s.off i) where
  ok := fun j u e => by
    have e : (s.M.set i .gone)[j]? = some u := e
    by_cases hij : i = j
    · subst hij
      by_cases hl : i < s.M.length
      · rw [List.getElem?_set_self hl] at e; cases e; trivial
      · rw [List.getElem?_eq_none (by rw [List.length_set]; omega)] at e; cases e
    · rw [List.getElem?_set_ne hij] at e
      exact (A.ok j u e).mono A Ext.off fun v hv => hv
  inj := fun a b ha hb e => A.inj a b (alv_off ha).2 (alv_off hb).2 e
  pv := fun a ha => A.pv a (alv_off ha).2
  pt := A.pt
theorem nal_off (A : Abs K ca s) {i : Nat} (hi : Alv s.M i) : Fre (s.off i) (s.ρ i) := by
  refine ⟨?_, A.pv i hi⟩
  rintro ⟨j, h1, h2⟩
  have ⟨n, a⟩ := alv_off h1
  exact n (A.inj j i a hi h2)

/-! ### ends of runs -/
theorem Sat.leaf {d : D} {v : V} {Q : VK} (A : Abs K ca s) (h : Sat K ca W σ s (.ok d s.M) Q) (hv : Is K s d v) : Q v s.H := h s rfl (Ext.refl s) A v hv
/-- a new plain tuple, list -/
theorem is_tup {p : Addr} {vs : List V} {ds : List D} (A : Abs K ca s) (hp : s.H p = none) (h : IsL K s ds vs) : Is K (s.laid p (.tup vs)) (.tup ds) (.ref p) := by
  simp only [Is]
  exact ⟨p, vs, rfl, .inl (.inl (by show upd s.H p _ p = _; exact upd_same)), h.mono A (Ext.laid hp)⟩
theorem nal_laid {p : Addr} {o : HO} (A : Abs K ca s) (hp : s.H p = none) : Fre (s.laid p o) p := by
  refine ⟨?_, fun z => A.pt p z hp⟩
  rintro ⟨i, h1, h2⟩
  obtain ⟨u, hu⟩ := A.there (i := i) h1
  have h2 : s.ρ i = p := h2
  rw [h2, hp] at hu; cases hu
theorem is_lst {p : Addr} {vs : List V} {ds : List D} (A : Abs K ca s) (hp : s.H p = none) (h : IsL K s ds vs) : Is K (s.laid p (.lst vs)) (.lst ds) (.ref p) := by
  simp only [Is]
  exact ⟨p, vs, rfl, (by show upd s.H p _ p = _; exact upd_same), nal_laid A hp, h.mono A (Ext.laid hp)⟩
theorem is_dic {p : Addr} {kvs : List (Key × V)} {ks : List Key} {ds : List D} (A : Abs K ca s) (hp : s.H p = none) (hk : kvs.map (·.1) = ks) (h : IsL K s ds (kvs.map (·.2))) : Is K (s.laid p (.dK kvs)) (.dic ks ds) (.ref p) := by
  simp only [Is]
  exact ⟨p, kvs, rfl, by show upd s.H p _ p = _; exact upd_same, nal_laid A hp, hk, h.mono A (Ext.laid hp)⟩
theorem Sat.tup {ds : List D} {vs : List V} {Q : VK} (A : Abs K ca s) (h : Sat K ca W σ s (.ok (.tup ds) s.M) Q) (hv : IsL K s ds vs) : ∀ p, s.H p = none → Q (.ref p) (upd s.H p (.tup vs)) :=
  fun p hp => h (s.laid p (.tup vs)) rfl (Ext.laid hp) (A.laid hp) _ (is_tup A hp hv)
theorem Sat.lst {ds : List D} {vs : List V} {Q : VK} (A : Abs K ca s) (h : Sat K ca W σ s (.ok (.lst ds) s.M) Q) (hv : IsL K s ds vs) : ∀ p, s.H p = none → Q (.ref p) (upd s.H p (.lst vs)) :=
  fun p hp => h (s.laid p (.lst vs)) rfl (Ext.laid hp) (A.laid hp) _ (is_lst A hp hv)
theorem Sat.dic {ks : List Key} {ds : List D} {kvs : List (Key × V)} {Q : VK} (A : Abs K ca s) (h : Sat K ca W σ s (.ok (.dic ks ds) s.M) Q) (hk : kvs.map (·.1) = ks) (hv : IsL K s ds (kvs.map (·.2))) : ∀ p, s.H p = none → Q (.ref p) (upd s.H p (.dK kvs)) :=
  fun p hp => h (s.laid p (.dK kvs)) rfl (Ext.laid hp) (A.laid hp) _ (is_dic A hp hk hv)
theorem Sat.put {m : MO} {o : HO} {Q : VK} (A : Abs K ca s) (h : Sat K ca W σ s (.ok (.ref s.M.length) (s.M ++ [m])) Q) (hm : ∀ p, s.H p = none → OkO K ca (s.put p o m) p m) : ∀ p, s.H p = none → Q (.ref p) (upd s.H p o) := fun p hp => by
  refine h (s.put p o m) rfl (Ext.put hp) (A.put hp (hm p hp)) _ ?_
  simp only [Is]
  refine ⟨?_, ?_⟩
  · show V.ref p = .ref (if s.M.length = s.M.length then p else _)
    rw [if_pos rfl]
  · show s.M.length < (s.M ++ [m]).length
    simp
end
end XM
/-! ## XM2 -/
set_option maxHeartbeats 200000
set_option linter.all false
set_option autoImplicit false
set_option maxRecDepth 100000
namespace XM
open PySem PySem.Spec
open PyProof.Rows hiding St
open L2 hiding Rd Rd.of Rd.ok
/-! ### data's own functions -/
def cap : Nat := 100000
theorem cap_line : cap ≤ sizeLine := by rw [sizeLine_eq]; decide
theorem cap_lt : cap < sizeLine := by rw [sizeLine_eq]; decide
/-- a sequence's items -/
def D.seq (M : Mem) : D → Option (List D)
  | .tup ds => some ds
  | .lst ds => some ds
  | .fz ds => some ds
  | .ref i => match M[i]? with
    | some (.lst ds) => some ds
    | _ => none
  | _ => none
def D.tru (M : Mem) : D → Option Bool
  | .non => some false
  | .bl b => some b
  | .int i => some (i != 0)
  | .str x => if x.length ≤ cap then some ((x.length : Int) != 0) else none
  | .tup ds => some (!ds.isEmpty)
  | .lst ds => some (!ds.isEmpty)
  | .fz ds => some (!ds.isEmpty)
  | .dic ks _ => some (!ks.isEmpty)
  | .ref i => match M[i]? with
    | some (.lst ds) => some (!ds.isEmpty)
    | some (.dic ks _) => some (!ks.isEmpty)
    | _ => none
def D.keyD : D → Option Key
  | .int i => some (.inl i)
  | .str x => some (.inr x)
  | _ => none
def D.flat : D → Bool
  | .non => true
  | .bl _ => true
  | .int _ => true
  | .str _ => true
  | _ => false
def D.eqF : D → D → Bool
  | .non, .non => true
  | .bl a, .bl b => a == b
  | .bl a, .int b => (if a then 1 else 0) == b
  | .int a, .bl b => a == (if b then 1 else 0)
  | .int a, .int b => a == b
  | .str a, .str b => a == b
  | _, _ => false
def dlook : List Key → List D → Key → Option D
  | k' :: ks, d :: ds, k => if k' = k then some d else dlook ks ds k
  | _, _, _ => none
/-- a dict's keys and values -/
def D.dict (M : Mem) : D → Option (List Key × List D)
  | .dic ks ds => some (ks, ds)
  | .ref i => match M[i]? with
    | some (.dic ks ds) => some (ks, ds)
    | _ => none
  | _ => none
mutual
def D.toP : D → Option PyData
  | .non => some .none
  | .bl b => some (.bool b)
  | .int i => some (.int i)
  | .str x => some (.str x)
  | .tup ds => match toPs ds with
    | some l => some (.tuple l)
    | none => none
  | .lst ds => match toPs ds with
    | some l => some (.list l)
    | none => none
  | .fz _ => none
  | .dic _ _ => none
  | .ref _ => none
def toPs : List D → Option (List PyData)
  | [] => some []
  | d :: ds => match D.toP d with
    | some x => match toPs ds with
      | some l => some (x :: l)
      | none => none
    | none => none
end
/-- by its class -/
def D.isI (t : String) (M : Mem) : D → Option Bool
  | .non => some false
  | .bl _ => some (t == "bool" || t == "int")
  | .int _ => some (t == "int")
  | .str _ => some (t == "str")
  | .tup _ => some (t == "tuple")
  | .lst _ => some false
  | .dic _ _ => some false
  | _ => none

section
variable {K : PySem.W.Frag} {ca : Nat → Addr} {W : WX} {σ : L2.St} {s s' : SM} {H : Hp} {L : Lc}
theorem is_mem (A : Abs K ca s) {i : Nat} {o : MO} {v : V} (h : Is K s (.ref i) v) (e : s.M[i]? = some o) : v = .ref (s.ρ i) ∧ OkO K ca s (s.ρ i) o := by
  simp only [Is] at h
  exact ⟨h.1, A.ok i o e⟩
theorem seq_is (A : Abs K ca s) {d : D} {ds : List D} {v : V} (h : Is K s d v) (e : d.seq s.M = some ds) : ∃ a vs, v = .ref a ∧ (SqL K s.H a vs ∨ SqT K s.H a vs) ∧ IsL K s ds vs := by
  cases d with
  | tup es => cases e; simp only [Is] at h; obtain ⟨a, vs, e1, e2, e3⟩ := h; exact ⟨a, vs, e1, .inr e2, e3⟩
  | lst es => cases e; simp only [Is] at h; obtain ⟨a, vs, e1, e2, _, e3⟩ := h; exact ⟨a, vs, e1, .inl (SqL.of e2), e3⟩
  | fz es => cases e; simp only [Is] at h; obtain ⟨a, vs, e1, e2, e3⟩ := h; exact ⟨a, vs, e1, .inl e2.sq, e3⟩
  | ref i =>
    simp only [D.seq] at e
    split at e
    · rename_i es q
      cases e
      obtain ⟨e1, vs, e2, e3⟩ := is_mem A h q
      exact ⟨_, vs, e1, .inl (SqL.of e2), e3⟩
    · cases e
  | _ => cases e
theorem isEmpty_L : ∀ {ds : List D} {vs : List V}, IsL K s ds vs → vs.isEmpty = ds.isEmpty
  | [], _, h => by simp only [IsL] at h; subst h; rfl
  | _ :: _, _, h => by simp only [IsL] at h; obtain ⟨_, _, e, _, _⟩ := h; subst e; rfl
theorem keys_empty {kvs : List (Key × V)} {ks : List Key} (h : kvs.map (·.1) = ks) : kvs.isEmpty = ks.isEmpty := by subst h; cases kvs <;> rfl
theorem tru_is (A : Abs K ca s) {d : D} {v : V} {k : Bool} (h : Is K s d v) (e : d.tru s.M = some k) : TruV K v s.H k := by
  cases d with
  | non => simp only [Is] at h; subst h; cases e; rfl
  | bl b => simp only [Is] at h; subst h; cases e; rfl
  | int i => simp only [Is] at h; subst h; cases e; rfl
  | str x =>
    simp only [Is] at h; subst h
    simp only [D.tru] at e
    split at e
    · rename_i hx; cases e; exact ⟨Nat.le_trans hx cap_line, rfl⟩
    · cases e
  | tup ds => simp only [Is] at h; obtain ⟨a, vs, rfl, h1, h2⟩ := h; cases e; exact .inr (.inl ⟨vs, h1, by rw [isEmpty_L h2]⟩)
  | lst ds => simp only [Is] at h; obtain ⟨a, vs, rfl, h1, _, h2⟩ := h; cases e; exact .inl ⟨vs, SqL.of h1, by rw [isEmpty_L h2]⟩
  | fz ds => simp only [Is] at h; obtain ⟨a, vs, rfl, h1, h2⟩ := h; cases e; exact .inl ⟨vs, h1.sq, by rw [isEmpty_L h2]⟩
  | dic ks ds => simp only [Is] at h; obtain ⟨a, kvs, rfl, h1, _, hk, h2⟩ := h; cases e; exact .inr (.inr ⟨kvs, h1, by rw [keys_empty hk]⟩)
  | ref i =>
    simp only [D.tru] at e
    split at e
    · rename_i es q
      cases e
      obtain ⟨rfl, vs, e2, e3⟩ := is_mem A h q
      exact .inl ⟨vs, SqL.of e2, by rw [isEmpty_L e3]⟩
    · rename_i ks es q
      cases e
      obtain ⟨rfl, kvs, e2, hk, e3⟩ := is_mem A h q
      exact .inr (.inr ⟨kvs, e2, by rw [keys_empty hk]⟩)
    · cases e
theorem dict_is (A : Abs K ca s) {d : D} {ks : List Key} {ds : List D} {v : V} (h : Is K s d v) (e : d.dict s.M = some (ks, ds)) : ∃ a kvs, v = .ref a ∧ s.H a = some (.dK kvs) ∧ kvs.map (·.1) = ks ∧ IsL K s ds (kvs.map (·.2)) := by
  cases d with
  | dic ks' ds' => cases e; simp only [Is] at h; obtain ⟨a, kvs, e1, e2, _, e3⟩ := h; exact ⟨a, kvs, e1, e2, e3⟩
  | ref i =>
    simp only [D.dict] at e
    split at e
    · rename_i ks' es q
      cases e
      obtain ⟨e1, kvs, e2, e3⟩ := is_mem A h q
      exact ⟨_, kvs, e1, e2, e3⟩
    · cases e
  | _ => cases e
theorem key_is {d : D} {k : Key} {v : V} (h : Is K s d v) (e : d.keyD = some k) : v = kV k := by
  cases d <;> simp only [D.keyD] at e <;> cases e <;> simp only [Is] at h <;> exact h
theorem look_is : ∀ {kvs : List (Key × V)} {ks : List Key} {ds : List D} {k : Key}, kvs.map (·.1) = ks → IsL K s ds (kvs.map (·.2)) →
    (∀ d, dlook ks ds k = some d → ∃ v, valV kvs k = some v ∧ Is K s d v) ∧ (dlook ks ds k = none → valV kvs k = none)
  | [], ks, ds, k, hk, h => by
    subst hk
    simp only [List.map_nil] at h ⊢
    exact ⟨fun d e => by cases ds <;> simp [dlook] at e, fun _ => rfl⟩
  | p :: r, ks, ds, k, hk, h => by
    subst hk
    cases ds with
    | nil => simp only [List.map_cons, IsL] at h; cases h
    | cons d ds =>
      simp only [List.map_cons, IsL] at h
      obtain ⟨v, r', e, h1, h2⟩ := h
      cases e
      simp only [List.map_cons, dlook]
      by_cases q : p.1 = k
      · rw [if_pos q]
        exact ⟨fun d' e' => by cases e'; exact ⟨p.2, valV_pos q, h1⟩, fun e' => by cases e'⟩
      · rw [if_neg q, valV_neg q]
        exact look_is rfl h2
theorem flat_is {d : D} {v : V} (h : Is K s d v) (e : d.flat = true) : flatV v = true := by
  cases d <;> simp only [D.flat] at e <;> simp only [Is] at h <;> first | (subst h; rfl) | cases e
theorem flats_is : ∀ {ds : List D} {vs : List V}, IsL K s ds vs → ds.all D.flat = true → vs.all flatV = true
  | [], _, h, _ => by simp only [IsL] at h; subst h; rfl
  | d :: ds, _, h, e => by
    simp only [IsL] at h; obtain ⟨v, r, e1, h1, h2⟩ := h; subst e1
    rw [List.all_cons, Bool.and_eq_true] at e ⊢
    exact ⟨flat_is h1 e.1, flats_is h2 e.2⟩
theorem eqF_is {d e : D} {v u : V} (h : Is K s d v) (h' : Is K s e u) (f : d.flat = true) (f' : e.flat = true) : eqV v u = D.eqF d e := by
  cases d <;> simp only [D.flat] at f <;> first | (cases f; done) | (cases e <;> simp only [D.flat] at f' <;> first | (cases f'; done) | (simp only [Is] at h h'; subst h; subst h'; rfl))
theorem anyF_is {e : D} {u : V} (h' : Is K s e u) (f' : e.flat = true) : ∀ {ds : List D} {vs : List V}, IsL K s ds vs → ds.all D.flat = true → inV u vs = ds.any fun y => D.eqF y e
  | [], _, h, _ => by simp only [IsL] at h; subst h; rfl
  | d :: ds, _, h, q => by
    simp only [IsL] at h; obtain ⟨v, r, e1, h1, h2⟩ := h; subst e1
    rw [List.all_cons, Bool.and_eq_true] at q
    unfold inV
    rw [List.any_cons, List.any_cons, eqF_is h1 h' q.1 f']
    exact congrArg _ (anyF_is h' f' h2 q.2)
mutual
theorem toP_is (A : Abs K ca s) : ∀ {d : D} {p : PyData} {v : V}, Is K s d v → d.toP = some p → Dp K s.H v p
  | .non, p, v, h, e => by simp only [Is] at h; subst h; simp only [D.toP] at e; cases e; exact .non
  | .bl b, p, v, h, e => by simp only [Is] at h; subst h; simp only [D.toP] at e; cases e; exact .bl b
  | .int i, p, v, h, e => by simp only [Is] at h; subst h; simp only [D.toP] at e; cases e; exact .int i
  | .str x, p, v, h, e => by simp only [Is] at h; subst h; simp only [D.toP] at e; cases e; exact .str x
  | .tup ds, p, v, h, e => by
    simp only [Is] at h; obtain ⟨a, vs, rfl, h1, h2⟩ := h
    simp only [D.toP] at e
    split at e
    · rename_i l q; cases e; exact .tup h1 (toPs_is A h2 q)
    · cases e
  | .lst ds, p, v, h, e => by
    simp only [Is] at h; obtain ⟨a, vs, rfl, h1, _, h2⟩ := h
    simp only [D.toP] at e
    split at e
    · rename_i l q; cases e; exact .lst (SqL.of h1) (toPs_is A h2 q)
    · cases e
  | .fz _, p, v, h, e => by simp only [D.toP] at e; cases e
  | .dic _ _, p, v, h, e => by simp only [D.toP] at e; cases e
  | .ref _, p, v, h, e => by simp only [D.toP] at e; cases e
theorem toPs_is (A : Abs K ca s) : ∀ {ds : List D} {ps : List PyData} {vs : List V}, IsL K s ds vs → toPs ds = some ps → DpAll K s.H vs ps
  | [], ps, vs, h, e => by simp only [IsL] at h; subst h; simp only [toPs] at e; cases e; exact .nil
  | d :: ds, ps, vs, h, e => by
    simp only [IsL] at h; obtain ⟨v, r, e1, h1, h2⟩ := h; subst e1
    simp only [toPs] at e
    split at e
    · rename_i x q
      split at e
      · rename_i l q2; cases e; exact .cons (toP_is A h1 q) (toPs_is A h2 q2)
      · cases e
    · cases e
end
end
end XM
/-! ## XM3 -/
set_option maxHeartbeats 200000
set_option linter.all false
set_option autoImplicit false
set_option maxRecDepth 100000
namespace XM
open PySem PySem.Spec
open PyProof.Rows hiding St
open L2 hiding Rd Rd.of Rd.ok
/-! ### the forms of expressions, as functions -/
def mVar (i : Nat) : EM := fun L M => match L[i]? with
  | some (some d) => .ok d M
  | _ => .stk
def mC (d : D) : EM := fun _ M => .ok d M
def mB1 (f : EM) (k : D → Mem → Res D) : EM := fun L M => (f L M).bind k
def mB2 (f g : EM) (k : D → D → Mem → Res D) : EM := fun L M => (f L M).bind fun d M1 => (g L M1).bind fun e M2 => k d e M2
abbrev AM := Lc → Mem → Res (List D)
abbrev BM := Lc → Mem → Res Bool
def mNil : AM := fun _ M => .ok [] M
def mCons (f : EM) (g : AM) : AM := fun L M => (f L M).bind fun d M1 => (g L M1).bind fun ds M2 => .ok (d :: ds) M2
def mTupK (ds : List D) (M : Mem) : Res D := if ds.length ≤ cap then .ok (.tup ds) M else .stk
def mLstK (ds : List D) (M : Mem) : Res D := if ds.length ≤ cap then .ok (.lst ds) M else .stk
def mMLstK (ds : List D) (M : Mem) : Res D := if ds.length ≤ cap then .ok (.ref M.length) (M ++ [.lst ds]) else .stk
def mA1 (f : AM) (k : List D → Mem → Res D) : EM := fun L M => (f L M).bind k
def mTup (f : AM) : EM := mA1 f mTupK
def mLst (f : AM) : EM := mA1 f mLstK
def mMLst (f : AM) : EM := mA1 f mMLstK
def iK (c : Int → Int → Bool) (g : Int → Int → Int) : D → D → Mem → Res D
  | .int i, .int j, M => if c i j then .ok (.int (g i j)) M else .stk
  | _, _, _ => .stk
def bK (g : Int → Int → Bool) : D → D → Mem → Res D
  | .int i, .int j, M => .ok (.bl (g i j)) M
  | _, _, _ => .stk
def addK : D → D → Mem → Res D
  | .int i, .int j, M => .ok (.int (i + j)) M
  | .str x, .str y, M => if x.length + y.length ≤ cap then .ok (.str (x ++ y)) M else .stk
  | .tup xs, .tup ys, M => if xs.length + ys.length ≤ cap then .ok (.tup (xs ++ ys)) M else .stk
  | .lst xs, .lst ys, M => if xs.length + ys.length ≤ cap then .ok (.lst (xs ++ ys)) M else .stk
  | _, _, _ => .stk
def mMulOk (i j : Int) : Bool := (decide (-(2 ^ 64) < i) && decide (i < 2 ^ 64)) || (decide (-(2 ^ 64) < j) && decide (j < 2 ^ 64))
def mDivOk (_ j : Int) : Bool := decide (0 < j) && decide (j < 1073741824)
def mModOk (_ j : Int) : Bool := decide (0 < j)
def mShlOk (i j : Int) : Bool := decide (0 ≤ j) && decide (j ≤ 1000) && decide (i.natAbs < 2 ^ 64)
def mShrOk (_ j : Int) : Bool := decide (0 ≤ j)
def negK : D → Mem → Res D
  | .int i, M => .ok (.int (-i)) M
  | _, _ => .stk
def eqK (neg : Bool) (d e : D) (M : Mem) : Res D := match d.toP, e.toP with
  | some p, some q => if SeqAt.shaped p && SeqAt.shaped q then .ok (.bl (if neg then !PyData.eqv p q else PyData.eqv p q)) M else .stk
  | _, _ => .stk
def ltsK : D → D → Mem → Res D
  | .str x, .str y, M => .ok (.bl (decide (x.cps.toList < y.cps.toList))) M
  | _, _, _ => .stk
def inK (neg : Bool) (d e : D) (M : Mem) : Res D := match e.seq M with
  | some ds => if d.flat && ds.all D.flat then .ok (.bl (if neg then !(ds.any fun y => D.eqF y d) else ds.any fun y => D.eqF y d)) M else .stk
  | none => .stk
def inSK (neg : Bool) : D → D → Mem → Res D
  | .str x, .str z, M => match x.cps.toList with
    | [c] => .ok (.bl (if neg then !decide (c ∈ z.cps.toList) else decide (c ∈ z.cps.toList))) M
    | _ => .stk
  | _, _, _ => .stk
def inDK (neg : Bool) (d e : D) (M : Mem) : Res D := match e.dict M, d.keyD with
  | some (ks, ds), some k => .ok (.bl (if neg then !(dlook ks ds k).isSome else (dlook ks ds k).isSome)) M
  | _, _ => .stk
def ixK (d e : D) (M : Mem) : Res D := match e with
  | .int i => match d.seq M with
    | some ds => match (ixN ds.length i).bind fun j => ds[j]? with
      | some x => .ok x M
      | none => .stk
    | none => match d with
      | .str z => if z.length ≤ cap then match (ixN z.cps.toList.length i).bind fun j => z.cps.toList[j]? with
        | some c => .ok (.str ⟨#[c]⟩) M
        | none => .stk
        else .stk
      | _ => .stk
  | _ => .stk
def ixDK (d e : D) (M : Mem) : Res D := match d.dict M, e.keyD with
  | some (ks, ds), some k => match dlook ks ds k with
    | some x => .ok x M
    | none => .stk
  | _, _ => .stk
def getK1 (d e : D) (M : Mem) : Res D := match d.dict M, e.keyD with
  | some (ks, ds), some k => .ok ((dlook ks ds k).getD .non) M
  | _, _ => .stk
def cutG {α : Type} (xs : List α) (lo hi : Option Int) : List α := (xs.drop (HT.sIx xs.length 0 lo)).take (HT.sIx xs.length xs.length hi - HT.sIx xs.length 0 lo)
def slK (d : D) (lo hi : Option Int) (M : Mem) : Res D := match d with
  | .tup ds => .ok (.tup (cutG ds lo hi)) M
  | .lst ds => .ok (.lst (cutG ds lo hi)) M
  | .ref i => match M[i]? with
    | some (.lst ds) => .ok (.lst (cutG ds lo hi)) M
    | _ => .stk
  | _ => .stk
abbrev OM := Lc → Mem → Res (Option Int)
def mNoP : OM := fun _ M => .ok none M
def mP (f : EM) : OM := fun L M => (f L M).bind fun d M1 => match d with
  | .int i => .ok (some i) M1
  | _ => .stk
def mSl (f : EM) (g h : OM) : EM := fun L M => (f L M).bind fun d M1 => (g L M1).bind fun lo M2 => (h L M2).bind fun hi M3 => slK d lo hi M3
def notK (d : D) (M : Mem) : Res D := match d.tru M with
  | some b => .ok (.bl (!b)) M
  | none => .stk
def mAndV (f g : EM) : EM := fun L M => (f L M).bind fun d M1 => match d.tru M1 with
  | some true => g L M1
  | some false => .ok d M1
  | none => .stk
def mOrV (f g : EM) : EM := fun L M => (f L M).bind fun d M1 => match d.tru M1 with
  | some true => .ok d M1
  | some false => g L M1
  | none => .stk
def truK (d : D) (M : Mem) : Res Bool := match d.tru M with
  | some b => .ok b M
  | none => .stk
def blK (d : D) (M : Mem) : Res Bool := match d with
  | .bl b => .ok b M
  | _ => .stk
def mT (f : EM) (k : D → Mem → Res Bool) : BM := fun L M => (f L M).bind k
def mAndB (f g : BM) : BM := fun L M => (f L M).bind fun b M1 => if b = true then g L M1 else .ok false M1
def mOrB (f g : BM) : BM := fun L M => (f L M).bind fun b M1 => if b = true then .ok true M1 else g L M1
def mNotB (f : BM) : BM := fun L M => (f L M).bind fun b M1 => .ok (!b) M1
def mIfE (c : BM) (f g : EM) : EM := fun L M => (c L M).bind fun b M1 => if b = true then f L M1 else g L M1
def mChain (f g h : EM) (k1 k2 : D → D → Mem → Res D) : EM := fun L M => (f L M).bind fun x M1 => (g L M1).bind fun y M2 => (k1 x y M2).bind fun z M3 => match z with
  | .bl true => (h L M3).bind fun w M4 => k2 y w M4
  | .bl false => .ok (.bl false) M3
  | _ => .stk

section
variable {X : Cx} {ca : Nat → Addr} {W : WX} {e a b c : Expr} {es : List Expr} {f g h : EM} {pos p : Pos}
/-- an operator's words: its reading from what the function says -/
def OpK (X : Cx) (ca : Nat → Addr) (k : D → D → Mem → Res D) (r : R2) : Prop := ∀ (W : WX) (σ : L2.St) (s : SM) (d e : D) (x y : V) (Q : VK), Abs X.K ca s → Is X.K s d x → Is X.K s e y → Sat X.K ca W σ s (k d e s.M) Q → r x y s.H Q
theorem xe_var (i : Nat) {x : Str} (hN : X.N[i]? = some x := by rfl) (hv : Vis X.env.scope x := by first | exact Or.inl rfl | exact Or.inr (Or.inl rfl) | exact Or.inr (Or.inr rfl)) (hd : (x == ("__debug__" : Str)) = false := by decide)
    (hcd : (x == ("__classdict__" : Str)) = false := by decide) : PE X (.Name x pos) (XT X.K ca W (mVar i)) := PE.imp (pe_var hN hv hd hcd) fun σ H Q ⟨L, s, S, q⟩ => by
  unfold mVar at q
  split at q
  · rename_i d e
    obtain ⟨v, e1, hv⟩ := S.l.at' i d e
    exact ⟨v, e1, by have := Sat.leaf S.a q hv; rw [S.h] at this; exact this⟩
  · exact q.elim
theorem xe_c {v : V} {d : D} (he : PE X e (tC v)) (hi : ∀ s, Is X.K s d v) : PE X e (XT X.K ca W (mC d)) := PE.imp he fun σ H Q ⟨L, s, S, q⟩ => by
  have := Sat.leaf S.a (show Sat X.K ca W σ s (.ok d s.M) Q from q) (hi s)
  rw [S.h] at this; exact this
theorem xe_int {i : Int} {j} : PE X (.Constant (.int i) j pos) (XT X.K ca W (mC (.int i))) := xe_c pe_int fun _ => by simp only [Is]
theorem xe_bl {b : Bool} {j} : PE X (.Constant (.bool b) j pos) (XT X.K ca W (mC (.bl b))) := xe_c pe_bl fun _ => by simp only [Is]
theorem xe_non {j} : PE X (.Constant .none j pos) (XT X.K ca W (mC .non)) := xe_c pe_non fun _ => by simp only [Is]
theorem xe_str {x y : Str} {j} (hx : x = y) : PE X (.Constant (.str x) j pos) (XT X.K ca W (mC (.str y))) := xe_c pe_str fun _ => by simp only [Is]; rw [hx]
theorem xa_nil : PA X [] (XA X.K ca W mNil) := PA.imp pa_nil fun σ H Q ⟨L, s, S, q⟩ => by
  have q : SatA X.K ca W σ s (.ok [] s.M) Q := q
  have := q s rfl (Ext.refl s) S.a [] IsL.nil
  rw [S.h] at this; exact this
theorem xa_cons {fs : AM} (ha : PE X e (XT X.K ca W f)) (hr : PA X es (XA X.K ca W fs)) (hs : starEach (e :: es) X.env = (false, eval e X.env) :: starEach es X.env := by rfl) : PA X (e :: es) (XA X.K ca W (mCons f fs)) :=
  PA.imp (pa_cons ha hr hs) fun σ H Q ⟨L, s, S, q⟩ => by
    refine XT.mono (xt_seq S (k := fun d M1 => (fs L M1).bind fun ds M2 => .ok (d :: ds) M2) q) fun x H1 ⟨s1, d, S1, E1, I1, q1⟩ => ?_
    refine XA.mono (xa_seq S1 q1) fun xs H2 ⟨s2, ds, S2, E2, I2, q2⟩ => ?_
    have := q2 s2 rfl (Ext.refl _) S2.a _ (IsL.cons (I1.mono S1.a E2) I2)
    rw [S2.h] at this; exact this
theorem xe_tup {fs : AM} {x1} (ha : PA X es (XA X.K ca W fs)) : PE X (.Tuple es x1 pos) (XT X.K ca W (mTup fs)) := PE.imp (pe_tup ha) fun σ H Q ⟨L, s, S, q⟩ =>
  XA.mono (xa_seq S (k := mTupK) q) fun xs H1 ⟨s1, ds, S1, E1, I1, q1⟩ => by
    unfold mTupK at q1
    split at q1
    · rename_i hl
      refine ⟨by rw [I1.length]; exact Nat.le_trans hl cap_line, fun p hp => ?_⟩
      rw [← S1.h] at hp ⊢
      exact Sat.tup S1.a q1 I1 p hp
    · exact q1.elim
theorem xe_lst {fs : AM} (ha : PA X es (XA X.K ca W fs)) : PE X (.List es pos) (XT X.K ca W (mLst fs)) := PE.imp (pe_lst ha) fun σ H Q ⟨L, s, S, q⟩ =>
  XA.mono (xa_seq S (k := mLstK) q) fun xs H1 ⟨s1, ds, S1, E1, I1, q1⟩ => by
    unfold mLstK at q1
    split at q1
    · rename_i hl
      refine ⟨by rw [I1.length]; exact Nat.le_trans hl cap_line, fun p hp => ?_⟩
      rw [← S1.h] at hp ⊢
      exact Sat.lst S1.a q1 I1 p hp
    · exact q1.elim
theorem xe_mlst {fs : AM} (ha : PA X es (XA X.K ca W fs)) : PE X (.List es pos) (XT X.K ca W (mMLst fs)) := PE.imp (pe_lst ha) fun σ H Q ⟨L, s, S, q⟩ =>
  XA.mono (xa_seq S (k := mMLstK) q) fun xs H1 ⟨s1, ds, S1, E1, I1, q1⟩ => by
    unfold mMLstK at q1
    split at q1
    · rename_i hl
      refine ⟨by rw [I1.length]; exact Nat.le_trans hl cap_line, fun p hp => ?_⟩
      rw [← S1.h] at hp ⊢
      exact Sat.put S1.a q1 (fun p hp => ⟨xs, by show upd s1.H p _ p = _; exact upd_same, I1.mono S1.a (Ext.put hp)⟩) p hp
    · exact q1.elim
/-- two parts, then an operator -/
theorem op_seq {k : D → D → Mem → Res D} {r : R2} (hk : OpK X ca k r) {σ : L2.St} {H : Hp} {Q : VK} (q : XT X.K ca W (mB2 f g k) σ H Q) : tOp r (XT X.K ca W f) (XT X.K ca W g) σ H Q := by
  obtain ⟨L, s, S, q⟩ := q
  refine XT.mono (xt_seq S (k := fun d M1 => (g L M1).bind fun e M2 => k d e M2) q) fun x H1 ⟨s1, d, S1, E1, I1, q1⟩ => ?_
  refine XT.mono (xt_seq S1 (k := fun e M2 => k d e M2) q1) fun y H2 ⟨s2, e, S2, E2, I2, q2⟩ => ?_
  have := hk W σ s2 d e x y Q S2.a (I1.mono S1.a E2) I2 q2
  rw [S2.h] at this; exact this
theorem xe_op {op : Operator} {k : D → D → Mem → Res D} {r : R2} (ho : OpR X (binaryOp op) r) (hk : OpK X ca k r) (ha : PE X a (XT X.K ca W f)) (hb : PE X b (XT X.K ca W g)) : PE X (.BinOp a op b pos) (XT X.K ca W (mB2 f g k)) :=
  PE.imp (pe_op ho ha hb) fun σ H Q q => op_seq hk q
theorem xe_cmp {op : CmpOp} {k : D → D → Mem → Res D} {r : R2} (ho : OpR X (compareOp op) r) (hk : OpK X ca k r) (ha : PE X a (XT X.K ca W f)) (hb : PE X b (XT X.K ca W g)) (hm : behindInMarks op b = false) : PE X (.Compare a [op] [b] pos) (XT X.K ca W (mB2 f g k)) :=
  PE.imp (pe_cmpR ho ha hb hm) fun σ H Q q => op_seq hk q
theorem xe_ix {k : D → D → Mem → Res D} {r : R2} (ho : IxR X r) (hk : OpK X ca k r) (ha : PE X a (XT X.K ca W f)) (hb : PE X b (XT X.K ca W g)) (hs : PlainIx b) : PE X (.Subscript a b pos) (XT X.K ca W (mB2 f g k)) :=
  PE.imp (pe_ix ho ha hb hs) fun σ H Q q => op_seq hk q
/-! ### the operators -/
theorem ok_int {k : Int → Int → Int} {C : Int → Int → Prop} {cc : Int → Int → Bool} (h : ∀ i j, cc i j = true → C i j) : OpK X ca (iK cc k) (rI C fun i j => .int (k i j)) := fun W σ s d e x y Q A hx hy q => by
  unfold iK at q
  split at q
  · split at q
    · rename_i hc
      simp only [Is] at hx hy
      exact ⟨_, _, hx, hy, h _ _ hc, Sat.leaf A q (by simp only [Is])⟩
    · exact q.elim
  · exact q.elim
theorem ok_int0 {k : Int → Int → Int} : OpK X ca (iK (fun _ _ => true) k) (rI0 fun i j => .int (k i j)) := fun W σ s d e x y Q A hx hy q => by
  unfold iK at q
  split at q
  · rw [if_pos rfl] at q
    simp only [Is] at hx hy
    exact ⟨_, _, hx, hy, Sat.leaf A q (by simp only [Is])⟩
  · exact q.elim
theorem ok_bl0 {k : Int → Int → Bool} : OpK X ca (bK k) (rI0 fun i j => .bl (k i j)) := fun W σ s d e x y Q A hx hy q => by
  unfold bK at q
  split at q
  · simp only [Is] at hx hy
    exact ⟨_, _, hx, hy, Sat.leaf A q (by simp only [Is])⟩
  · exact q.elim
theorem xe_sub (ha : PE X a (XT X.K ca W f)) (hb : PE X b (XT X.K ca W g)) : PE X (.BinOp a .Sub b pos) (XT X.K ca W (mB2 f g (iK (fun _ _ => true) fun i j => i - j))) := xe_op op_sub ok_int0 ha hb
theorem xe_mul (ha : PE X a (XT X.K ca W f)) (hb : PE X b (XT X.K ca W g)) : PE X (.BinOp a .Mult b pos) (XT X.K ca W (mB2 f g (iK mMulOk fun i j => i * j))) := xe_op op_mul (ok_int fun i j h => by
  unfold mMulOk at h
  simp only [Bool.or_eq_true, Bool.and_eq_true, decide_eq_true_eq] at h
  exact h) ha hb
theorem xe_fdiv (ha : PE X a (XT X.K ca W f)) (hb : PE X b (XT X.K ca W g)) : PE X (.BinOp a .FloorDiv b pos) (XT X.K ca W (mB2 f g (iK mDivOk fun i j => i / j))) := xe_op op_fdiv (ok_int fun i j h => by
  unfold mDivOk at h
  simp only [Bool.and_eq_true, decide_eq_true_eq] at h
  exact h) ha hb
theorem xe_mod (ha : PE X a (XT X.K ca W f)) (hb : PE X b (XT X.K ca W g)) : PE X (.BinOp a .Mod b pos) (XT X.K ca W (mB2 f g (iK mModOk fun i j => i % j))) := xe_op op_mod (ok_int fun i j h => of_decide_eq_true h) ha hb
theorem xe_shl (ha : PE X a (XT X.K ca W f)) (hb : PE X b (XT X.K ca W g)) : PE X (.BinOp a .LShift b pos) (XT X.K ca W (mB2 f g (iK mShlOk fun i j => i * 2 ^ j.toNat))) := xe_op op_shl (ok_int fun i j h => by
  unfold mShlOk at h
  simp only [Bool.and_eq_true, decide_eq_true_eq] at h
  exact ⟨h.1.1, by omega, h.2⟩) ha hb
theorem xe_shr (ha : PE X a (XT X.K ca W f)) (hb : PE X b (XT X.K ca W g)) : PE X (.BinOp a .RShift b pos) (XT X.K ca W (mB2 f g (iK mShrOk fun i j => i / 2 ^ j.toNat))) := xe_op op_shr (ok_int fun i j h => of_decide_eq_true h) ha hb
def mPowOk (i j : Int) : Bool := decide (0 ≤ j) && decide (j ≤ 1000) && decide (i.natAbs < 2 ^ 64)
theorem xe_pow (ha : PE X a (XT X.K ca W f)) (hb : PE X b (XT X.K ca W g)) : PE X (.BinOp a .Pow b pos) (XT X.K ca W (mB2 f g (iK mPowOk fun i j => i ^ j.toNat))) := xe_op op_pow (ok_int fun i j h => by
  unfold mPowOk at h
  simp only [Bool.and_eq_true, decide_eq_true_eq] at h
  exact ⟨h.1.1, by omega, h.2⟩) ha hb
theorem xe_and2 (ha : PE X a (XT X.K ca W f)) (hb : PE X b (XT X.K ca W g)) : PE X (.BinOp a .BitAnd b pos) (XT X.K ca W (mB2 f g (iK (fun _ _ => true) fun i j => Builtin.bitAnd i j))) := xe_op op_and ok_int0 ha hb
theorem xe_or2 (ha : PE X a (XT X.K ca W f)) (hb : PE X b (XT X.K ca W g)) : PE X (.BinOp a .BitOr b pos) (XT X.K ca W (mB2 f g (iK (fun _ _ => true) fun i j => Builtin.bitOr i j))) := xe_op op_or ok_int0 ha hb
theorem xe_xor2 (ha : PE X a (XT X.K ca W f)) (hb : PE X b (XT X.K ca W g)) : PE X (.BinOp a .BitXor b pos) (XT X.K ca W (mB2 f g (iK (fun _ _ => true) fun i j => Builtin.bitXor i j))) := xe_op op_xor ok_int0 ha hb
theorem ok_add : OpK X ca addK (fun x y H Q => (((∃ i j, x = .int i ∧ y = .int j ∧ Q (.int (i + j)) H) ∨ (∃ i j, x = .str i ∧ y = .str j ∧ i.length + j.length ≤ sizeLine ∧ Q (.str (i ++ j)) H)) ∨ rCatA X.K x y H Q) ∨ rCat x y H Q) := fun W σ s d e x y Q A hx hy q => by
  unfold addK at q
  split at q
  · simp only [Is] at hx hy
    exact .inl (.inl (.inl ⟨_, _, hx, hy, Sat.leaf A q (by simp only [Is])⟩))
  · split at q
    · rename_i hl
      simp only [Is] at hx hy
      exact .inl (.inl (.inr ⟨_, _, hx, hy, Nat.le_trans hl cap_line, Sat.leaf A q (by simp only [Is])⟩))
    · exact q.elim
  · split at q
    · rename_i xs ys hl
      have hx0 := hx
      have hy0 := hy
      simp only [Is] at hx hy
      obtain ⟨a, vs, rfl, h1, h2⟩ := hx
      obtain ⟨b, ws, rfl, h3, h4⟩ := hy
      refine .inl (.inr ⟨a, b, vs, ws, rfl, rfl, h1, h3, by rw [h2.length, h4.length]; exact Nat.le_trans hl cap_line, fun e => ?_, fun _ e => ?_, fun _ _ => Sat.tup A q (h2.append h4)⟩)
      · have : xs = [] := List.eq_nil_of_length_eq_zero (by rw [← h2.length, e]; rfl)
        subst this
        exact Sat.leaf A q hy0
      · have : ys = [] := List.eq_nil_of_length_eq_zero (by rw [← h4.length, e]; rfl)
        subst this
        rw [List.append_nil] at q
        exact Sat.leaf A q hx0
    · exact q.elim
  · split at q
    · rename_i xs ys hl
      simp only [Is] at hx hy
      obtain ⟨a, vs, rfl, h1, _, h2⟩ := hx
      obtain ⟨b, ws, rfl, h3, _, h4⟩ := hy
      exact .inr ⟨a, b, vs, ws, rfl, rfl, h1, h3, by rw [h2.length, h4.length]; exact Nat.le_trans hl cap_line, Sat.lst A q (h2.append h4)⟩
    · exact q.elim
  · exact q.elim
theorem xe_add (ha : PE X a (XT X.K ca W f)) (hb : PE X b (XT X.K ca W g)) : PE X (.BinOp a .Add b pos) (XT X.K ca W (mB2 f g addK)) :=
  xe_op (OpR.or (OpR.or (OpR.or (r := fun x y H Q => ∃ i j, x = .int i ∧ y = .int j ∧ Q (.int (i + j)) H) op_add op_add_str) op_catA) op_cat) ok_add ha hb
theorem xe_neg (ha : PE X a (XT X.K ca W f)) : PE X (.UnaryOp .USub a pos) (XT X.K ca W (mB1 f negK)) := PE.imp (pe_un un_neg ha) fun σ H Q ⟨L, s, S, q⟩ =>
  XT.mono (xt_seq S q) fun x H1 ⟨s1, d, S1, E1, I1, q1⟩ => by
    unfold negK at q1
    split at q1
    · simp only [Is] at I1
      refine ⟨_, I1, ?_⟩
      have := Sat.leaf S1.a q1 (v := .int _) (by simp only [Is] <;> rfl)
      rw [S1.h] at this; exact this
    · exact q1.elim
theorem ok_eq (neg : Bool) : OpK X ca (eqK neg) (fun x y H Q => ∃ d e, Dp X.K H x d ∧ Dp X.K H y e ∧ SeqAt.shaped d = true ∧ SeqAt.shaped e = true ∧ Q (.bl (if neg then !PyData.eqv d e else PyData.eqv d e)) H) := fun W σ s d e x y Q A hx hy q => by
  unfold eqK at q
  split at q
  · rename_i p q' e1 e2
    split at q
    · rename_i hc
      rw [Bool.and_eq_true] at hc
      exact ⟨p, q', toP_is A hx e1, toP_is A hy e2, hc.1, hc.2, Sat.leaf A q (by simp only [Is])⟩
    · exact q.elim
  · exact q.elim
theorem ok_eqE : OpK X ca (eqK false) (rEqD X.K) := fun W σ s d e x y Q A hx hy q => by
  have h := ok_eq false W σ s d e x y Q A hx hy q
  exact h
theorem ok_eqN : OpK X ca (eqK true) (rNeD X.K) := fun W σ s d e x y Q A hx hy q => by
  have h := ok_eq true W σ s d e x y Q A hx hy q
  exact h
theorem xe_eq (hu : X.A.units + 64 < cLine) (ha : PE X a (XT X.K ca W f)) (hb : PE X b (XT X.K ca W g)) : PE X (.Compare a [.Eq] [b] pos) (XT X.K ca W (mB2 f g (eqK false))) := xe_cmp (op_eqD hu) ok_eqE ha hb (nomark _)
theorem xe_ne (hu : X.A.units + 64 < cLine) (ha : PE X a (XT X.K ca W f)) (hb : PE X b (XT X.K ca W g)) : PE X (.Compare a [.NotEq] [b] pos) (XT X.K ca W (mB2 f g (eqK true))) := xe_cmp (op_neD hu) ok_eqN ha hb (nomark _)
theorem xe_lt (ha : PE X a (XT X.K ca W f)) (hb : PE X b (XT X.K ca W g)) : PE X (.Compare a [.Lt] [b] pos) (XT X.K ca W (mB2 f g (bK fun i j => decide (i < j)))) := xe_cmp op_lt ok_bl0 ha hb (nomark _)
theorem xe_le (ha : PE X a (XT X.K ca W f)) (hb : PE X b (XT X.K ca W g)) : PE X (.Compare a [.LtE] [b] pos) (XT X.K ca W (mB2 f g (bK fun i j => decide (i ≤ j)))) := xe_cmp op_le ok_bl0 ha hb (nomark _)
theorem xe_gt (ha : PE X a (XT X.K ca W f)) (hb : PE X b (XT X.K ca W g)) : PE X (.Compare a [.Gt] [b] pos) (XT X.K ca W (mB2 f g (bK fun i j => decide (j < i)))) := xe_cmp op_gt ok_bl0 ha hb (nomark _)
theorem xe_ge (ha : PE X a (XT X.K ca W f)) (hb : PE X b (XT X.K ca W g)) : PE X (.Compare a [.GtE] [b] pos) (XT X.K ca W (mB2 f g (bK fun i j => decide (j ≤ i)))) := xe_cmp op_ge ok_bl0 ha hb (nomark _)
theorem xe_lts (ha : PE X a (XT X.K ca W f)) (hb : PE X b (XT X.K ca W g)) : PE X (.Compare a [.Lt] [b] pos) (XT X.K ca W (mB2 f g ltsK)) := xe_cmp op_lt_str (fun W σ s d e x y Q A hx hy q => by
  unfold ltsK at q
  split at q
  · simp only [Is] at hx hy
    exact ⟨_, _, hx, hy, Sat.leaf A q (by simp only [Is])⟩
  · exact q.elim) ha hb (nomark _)
theorem ok_in (neg : Bool) : OpK X ca (inK neg) (rIn X.K neg) := fun W σ s d e x y Q A hx hy q => by
  unfold inK at q
  split at q
  · rename_i ds e1
    split at q
    · rename_i hc
      rw [Bool.and_eq_true] at hc
      obtain ⟨p, vs, rfl, h1, h2⟩ := seq_is A hy e1
      refine ⟨p, vs, rfl, h1, flat_is hx hc.1, flats_is h2 hc.2, ?_⟩
      rw [anyF_is hx hc.1 h2 hc.2]
      exact Sat.leaf A q (by simp only [Is])
    · exact q.elim
  · exact q.elim
theorem xe_in (ha : PE X a (XT X.K ca W f)) (hb : PE X b (XT X.K ca W g)) (hm : behindInMarks .In b = false := by rfl) : PE X (.Compare a [.In] [b] pos) (XT X.K ca W (mB2 f g (inK false))) := xe_cmp op_in_seq (ok_in false) ha hb hm
theorem xe_nin (ha : PE X a (XT X.K ca W f)) (hb : PE X b (XT X.K ca W g)) (hm : behindInMarks .NotIn b = false := by rfl) : PE X (.Compare a [.NotIn] [b] pos) (XT X.K ca W (mB2 f g (inK true))) := xe_cmp op_notIn_seq (ok_in true) ha hb hm
theorem sign_of {x : Str} {c : Nat} (h : x.cps.toList = [c]) : x = ⟨#[c]⟩ := by
  obtain ⟨a⟩ := x
  have : a = #[c] := by
    apply Array.ext'
    exact h
  rw [this]
theorem xe_inS (ha : PE X a (XT X.K ca W f)) (hb : PE X b (XT X.K ca W g)) (hm : behindInMarks .In b = false := by rfl) : PE X (.Compare a [.In] [b] pos) (XT X.K ca W (mB2 f g (inSK false))) := xe_cmp op_in_sign (fun W σ s d e x y Q A hx hy q => by
  unfold inSK at q
  split at q
  · split at q
    · rename_i e1
      simp only [Is] at hx hy
      rw [sign_of e1] at hx
      exact ⟨_, _, hx, hy, Sat.leaf A q (by simp only [Is] <;> rfl)⟩
    · exact q.elim
  · exact q.elim) ha hb hm
theorem xe_ninS (ha : PE X a (XT X.K ca W f)) (hb : PE X b (XT X.K ca W g)) (hm : behindInMarks .NotIn b = false := by rfl) : PE X (.Compare a [.NotIn] [b] pos) (XT X.K ca W (mB2 f g (inSK true))) := xe_cmp op_notIn_sign (fun W σ s d e x y Q A hx hy q => by
  unfold inSK at q
  split at q
  · split at q
    · rename_i e1
      simp only [Is] at hx hy
      rw [sign_of e1] at hx
      exact ⟨_, _, hx, hy, Sat.leaf A q (by simp only [Is] <;> rfl)⟩
    · exact q.elim
  · exact q.elim) ha hb hm
/-- an item -/
theorem atI_is {s : SM} {K : PySem.W.Frag} {ds : List D} {vs : List V} {i : Int} {d : D} (h : IsL K s ds vs) (e : ((ixN ds.length i).bind fun j => ds[j]?) = some d) : ∃ v, atI vs i = some v ∧ Is K s d v := by
  unfold atI
  rw [h.length]
  cases q : ixN ds.length i with
  | none => rw [q] at e; cases e
  | some j =>
    rw [q] at e
    obtain ⟨v, h1, h2⟩ := h.get (show ds[j]? = some d from e)
    exact ⟨v, h1, h2⟩
theorem ok_ix : OpK X ca ixK (rIx X.K) := fun W σ s d e x y Q A hx hy q => by
  unfold ixK at q
  split at q
  · split at q
    · rename_i ds e1
      split at q
      · rename_i z e2
        obtain ⟨p, vs, rfl, h1, h2⟩ := seq_is A hx e1
        obtain ⟨v, h3, h4⟩ := atI_is h2 e2
        simp only [Is] at hy
        rcases h1 with h1 | h1
        · exact .inl ⟨p, vs, _, v, rfl, hy, h1, h3, Sat.leaf A q h4⟩
        · exact .inr (.inl ⟨p, vs, _, v, rfl, hy, h1, h3, Sat.leaf A q h4⟩)
      · exact q.elim
    · split at q
      · split at q
        · rename_i hz
          split at q
          · rename_i c e2
            simp only [Is] at hx hy
            exact .inr (.inr ⟨_, _, c, hx, hy, Nat.le_trans hz cap_line, e2, Sat.leaf A q (by simp only [Is])⟩)
          · exact q.elim
        · exact q.elim
      · exact q.elim
  · exact q.elim
theorem xe_item (ha : PE X a (XT X.K ca W f)) (hb : PE X b (XT X.K ca W g)) (hs : PlainIx b := by exact fun _ _ => rfl) : PE X (.Subscript a b pos) (XT X.K ca W (mB2 f g ixK)) := xe_ix ix_seq ok_ix ha hb hs
end
end XM
/-! ## XM4 -/
set_option maxHeartbeats 200000
set_option linter.all false
set_option autoImplicit false
set_option maxRecDepth 100000
namespace XM
open PySem PySem.Spec
open PyProof.Rows hiding St
open L2 hiding Rd Rd.of Rd.ok
/-- a list's items -/
def D.lsq (M : Mem) : D → Option (List D)
  | .lst ds => some ds
  | .fz ds => some ds
  | .ref i => match M[i]? with
    | some (.lst ds) => some ds
    | _ => none
  | _ => none
def lenK : List D → Mem → Res D
  | [d], M => match d.seq M with
    | some ds => .ok (.int ds.length) M
    | none => match d.dict M with
      | some (ks, _) => .ok (.int ks.length) M
      | none => match d with
        | .str z => if z.length ≤ cap then .ok (.int z.length) M else .stk
        | _ => .stk
  | _, _ => .stk
def absK : List D → Mem → Res D
  | [.int i], M => .ok (.int (if i < 0 then -i else i)) M
  | _, _ => .stk
def minK : List D → Mem → Res D
  | [.int i, .int j], M => .ok (.int (if j < i then j else i)) M
  | _, _ => .stk
def maxK : List D → Mem → Res D
  | [.int i, .int j], M => .ok (.int (if i < j then j else i)) M
  | _, _ => .stk
def intK : List D → Mem → Res D
  | [.int i], M => .ok (.int i) M
  | [.bl b], M => .ok (.int (if b then 1 else 0)) M
  | _, _ => .stk
def strK : List D → Mem → Res D
  | [.int i], M => if i.natAbs.log2 < 1920 then .ok (.str (toString i)) M else .stk
  | [.str a], M => .ok (.str a) M
  | _, _ => .stk
def tupleK : List D → Mem → Res D
  | [d], M => match d with
    | .tup ds => .ok (.tup ds) M
    | d => match d.lsq M with
      | some ds => .ok (.tup ds) M
      | none => .stk
  | _, _ => .stk
def listK : List D → Mem → Res D
  | [d], M => match d.seq M with
    | some ds => .ok (.lst ds) M
    | none => .stk
  | _, _ => .stk
def mlistK : List D → Mem → Res D
  | [d], M => match d.seq M with
    | some ds => .ok (.ref M.length) (M ++ [.lst ds])
    | none => .stk
  | _, _ => .stk
def bls : List D → Option (List Bool)
  | [] => some []
  | .bl b :: ds => match bls ds with
    | some l => some (b :: l)
    | none => none
  | _ :: _ => none
def allK : List D → Mem → Res D
  | [.lst ds], M => match bls ds with
    | some l => .ok (.bl (l.all id)) M
    | none => .stk
  | _, _ => .stk
def anyK : List D → Mem → Res D
  | [.lst ds], M => match bls ds with
    | some l => .ok (.bl (l.any id)) M
    | none => .stk
  | _, _ => .stk
def isiK (t : String) (d : D) (M : Mem) : Res D := match d.isI t M with
  | some b => .ok (.bl b) M
  | none => .stk
def mCall (fs : AM) (n : Nat) (f : List D → Mem → Res D) (dds : List D) : EM := fun L M => (fs L M).bind fun ds M1 => if ds.length + dds.length = n then f (ds ++ dds) M1 else .stk
def flook : List Str → List D → Str → Option D
  | k' :: ks, d :: ds, k => if k = k' then some d else flook ks ds k
  | _, _, _ => none
def fldK (c : Nat) (x : Str) (d : D) (M : Mem) : Res D := match d with
  | .ref i => match M[i]? with
    | some (.ins c' fs ds) => if c' = c then match flook fs ds x with
      | some e => .ok e M
      | none => .stk
      else .stk
    | _ => .stk
  | _ => .stk
def mMeth (f : EM) (fs : AM) (c : Nat) (nm : Str) (g : List D → Mem → Res D) : EM := fun L M => (f L M).bind fun d M0 => match d with
  | .ref i => match M0[i]? with
    | some (.ins c' xs _) => if c' = c ∧ nm ∉ xs then (fs L M0).bind fun ds M1 => g (d :: ds) M1 else .stk
    | _ => .stk
  | _ => .stk
def mMake (fs : AM) (c : Nat) (g : List D → Mem → Res D) : EM := fun L M => (fs L M).bind fun ds M1 => (g (.ref M1.length :: ds) (M1 ++ [.ins c [] []])).bind fun v M2 => match v with
  | .non => .ok (.ref M1.length) M2
  | _ => .stk
/-- a def's words -/
def spF (K : PySem.W.Frag) (ca : Nat → Addr) (n : Nat) (f : List D → Mem → Res D) : Sp := fun vs H Q E => ∃ ds s, s.H = H ∧ Abs K ca s ∧ IsL K s ds vs ∧ ds.length = n ∧ SatG K ca (fun s' d => ∀ v, Is K s' d v → Q v s'.H) E s (f ds s.M)
section
variable {X : Cx} {ca : Nat → Addr} {W : WX} {e a b c o : Expr} {es : List Expr} {f g h : EM} {fs : AM} {pos p apos cpos : Pos} {x : Str}
def CallK (X : Cx) (ca : Nat → Addr) (k : List D → Mem → Res D) (r : List V → Hp → VK → Prop) : Prop := ∀ (W : WX) (σ : L2.St) (s : SM) (ds : List D) (vs : List V) (Q : VK), Abs X.K ca s → IsL X.K s ds vs → Sat X.K ca W σ s (k ds s.M) Q → r vs s.H Q
theorem CallR.or {f : Value} {r r' : List V → Hp → VK → Prop} (h : CallR X f r) (h' : CallR X f r') : CallR X f (fun xs H Q => r xs H Q ∨ r' xs H Q) := fun pins s σ H xs us Q I rv q => by
  rcases q with q | q
  · exact h pins s σ H xs us Q I rv q
  · exact h' pins s σ H xs us Q I rv q
theorem lsq_is {K : PySem.W.Frag} {s : SM} (A : Abs K ca s) {d : D} {ds : List D} {v : V} (h : Is K s d v) (e : d.lsq s.M = some ds) : ∃ a vs, v = .ref a ∧ SqL K s.H a vs ∧ IsL K s ds vs := by
  cases d with
  | lst es => cases e; simp only [Is] at h; obtain ⟨a, vs, e1, e2, _, e3⟩ := h; exact ⟨a, vs, e1, SqL.of e2, e3⟩
  | fz es => cases e; simp only [Is] at h; obtain ⟨a, vs, e1, e2, e3⟩ := h; exact ⟨a, vs, e1, e2.sq, e3⟩
  | ref i =>
    simp only [D.lsq] at e
    split at e
    · rename_i es q
      cases e
      obtain ⟨e1, vs, e2, e3⟩ := is_mem A h q
      exact ⟨_, vs, e1, SqL.of e2, e3⟩
    · cases e
  | _ => cases e
theorem call_seq {k : List D → Mem → Res D} {r : List V → Hp → VK → Prop} (hk : CallK X ca k r) {σ : L2.St} {H : Hp} {Q : VK} (q : XT X.K ca W (mA1 fs k) σ H Q) : tCB r (XA X.K ca W fs) σ H Q := by
  obtain ⟨L, s, S, q⟩ := q
  refine XA.mono (xa_seq S (k := k) q) fun vs H1 ⟨s1, ds, S1, E1, I1, q1⟩ => ?_
  have := hk W σ s1 ds vs Q S1.a I1 q1
  rw [S1.h] at this; exact this
theorem xe_callB {id : String} {k : List D → Mem → Res D} {r : List V → Hp → VK → Prop} (hc : CallR X (.builtin id) r) (hk : CallK X ca k r) (hg : Gl X x) (hm : X.mg x = none) (hv : bootBuiltins x = some (.builtin id)) (ha : PA X (e :: es) (XA X.K ca W fs)) (hn : x ≠ "__name__" := by decide) (hdb : (x == ("__debug__" : Str)) = false := by decide)
    (he : starEach (e :: es) X.env = (false, eval e X.env) :: starEach es X.env := by rfl) (hpl : (backTo pos (starEach es X.env)).any (·.1) = false := by rfl) : PE X (.Call (.Name x p) (e :: es) [] pos) (XT X.K ca W (mA1 fs k)) :=
  PE.imp (pe_callB hc hg hm hv ha hn hdb he hpl) fun σ H Q q => call_seq hk q
theorem xe_callT {T : String} {k : List D → Mem → Res D} {r : List V → Hp → VK → Prop} (hc : CallR X (.type T) r) (hk : CallK X ca k r) (hg : Gl X x) (hm : X.mg x = none) (hv : bootBuiltins x = some (.type T)) (ha : PA X (e :: es) (XA X.K ca W fs)) (hn : x ≠ "__name__" := by decide) (hdb : (x == ("__debug__" : Str)) = false := by decide)
    (he : starEach (e :: es) X.env = (false, eval e X.env) :: starEach es X.env := by rfl) (hpl : (backTo pos (starEach es X.env)).any (·.1) = false := by rfl) : PE X (.Call (.Name x p) (e :: es) [] pos) (XT X.K ca W (mA1 fs k)) :=
  PE.imp (pe_callTy hc hg hm hv ha hn hdb he hpl) fun σ H Q q => call_seq hk q
theorem isl1 {K : PySem.W.Frag} {s : SM} {d : D} {vs : List V} (h : IsL K s [d] vs) : ∃ v, vs = [v] ∧ Is K s d v := by
  simp only [IsL] at h
  obtain ⟨v, r, e1, h1, e2⟩ := h
  subst e2
  exact ⟨v, e1, h1⟩
theorem isl2 {K : PySem.W.Frag} {s : SM} {d d' : D} {vs : List V} (h : IsL K s [d, d'] vs) : ∃ v v', vs = [v, v'] ∧ Is K s d v ∧ Is K s d' v' := by
  simp only [IsL] at h
  obtain ⟨v, r, e1, h1, v', r', e2, h2, e3⟩ := h
  subst e3 e2
  exact ⟨v, v', e1, h1, h2⟩
theorem ck_len : CallK X ca lenK (fun xs H Q => (∃ x n, xs = [x] ∧ LenV X.K x H n ∧ Q (.int n) H) ∨ (∃ a kvs, xs = [V.ref a] ∧ H a = some (.dK kvs) ∧ Q (.int kvs.length) H)) := fun W σ s ds vs Q A hx q => by
  unfold lenK at q
  split at q
  · obtain ⟨v, rfl, hv⟩ := isl1 hx
    split at q
    · rename_i es e1
      obtain ⟨a, us, rfl, h1, h2⟩ := seq_is A hv e1
      refine .inl ⟨_, es.length, rfl, ?_, Sat.leaf A q (by simp only [Is])⟩
      rcases h1 with h1 | h1
      · exact .inl ⟨us, h1, h2.length.symm⟩
      · exact .inr ⟨us, h1, h2.length.symm⟩
    · split at q
      · rename_i ks ds e1
        obtain ⟨a, kvs, rfl, h1, hk, h2⟩ := dict_is A hv e1
        refine .inr ⟨a, kvs, rfl, h1, ?_⟩
        have : kvs.length = ks.length := by rw [← hk, List.length_map]
        rw [this]
        exact Sat.leaf A q (by simp only [Is])
      · split at q
        · split at q
          · rename_i hz
            simp only [Is] at hv
            subst hv
            exact .inl ⟨_, _, rfl, ⟨Nat.le_trans hz cap_line, rfl⟩, Sat.leaf A q (by simp only [Is])⟩
          · exact q.elim
        · exact q.elim
  · exact q.elim
theorem xe_len (hg : Gl X "len") (hm : X.mg "len" = none) (ha : PA X [e] (XA X.K ca W fs)) (he : starEach [e] X.env = (false, eval e X.env) :: starEach [] X.env := by rfl) : PE X (.Call (.Name "len" p) [e] [] pos) (XT X.K ca W (mA1 fs lenK)) :=
  xe_callB (CallR.or call_len call_lenD) ck_len hg hm PySem.boot_len ha (by decide) (by decide) he
theorem xe_abs (hg : Gl X "abs") (hm : X.mg "abs" = none) (ha : PA X [e] (XA X.K ca W fs)) (he : starEach [e] X.env = (false, eval e X.env) :: starEach [] X.env := by rfl) : PE X (.Call (.Name "abs" p) [e] [] pos) (XT X.K ca W (mA1 fs absK)) :=
  xe_callB call_abs (fun W σ s ds vs Q A hx q => by
    unfold absK at q
    split at q
    · obtain ⟨v, rfl, hv⟩ := isl1 hx
      simp only [Is] at hv
      subst hv
      exact ⟨_, rfl, Sat.leaf A q (by simp only [Is])⟩
    · exact q.elim) hg hm (by decide +kernel) ha (by decide) (by decide) he
theorem xe_int1 (hg : Gl X "int") (hm : X.mg "int" = none) (ha : PA X [e] (XA X.K ca W fs)) (he : starEach [e] X.env = (false, eval e X.env) :: starEach [] X.env := by rfl) : PE X (.Call (.Name "int" p) [e] [] pos) (XT X.K ca W (mA1 fs intK)) :=
  xe_callT call_int1 (fun W σ s ds vs Q A hx q => by
    unfold intK at q
    split at q
    · obtain ⟨v, rfl, hv⟩ := isl1 hx
      simp only [Is] at hv
      subst hv
      exact .inl ⟨_, rfl, Sat.leaf A q (by simp only [Is])⟩
    · obtain ⟨v, rfl, hv⟩ := isl1 hx
      simp only [Is] at hv
      subst hv
      exact .inr ⟨_, rfl, Sat.leaf A q (by simp only [Is])⟩
    · exact q.elim) hg hm (by decide +kernel) ha (by decide) (by decide) he
theorem xe_str1 (hg : Gl X "str") (hm : X.mg "str" = none) (ha : PA X [e] (XA X.K ca W fs)) (he : starEach [e] X.env = (false, eval e X.env) :: starEach [] X.env := by rfl) : PE X (.Call (.Name "str" p) [e] [] pos) (XT X.K ca W (mA1 fs strK)) :=
  xe_callT (CallR.or call_str_int SkE.call_str_str) (fun W σ s ds vs Q A hx q => by
    unfold strK at q
    split at q
    · obtain ⟨v, rfl, hv⟩ := isl1 hx
      simp only [Is] at hv
      subst hv
      split at q
      · rename_i hl
        exact .inl ⟨_, rfl, hl, Sat.leaf A q (by simp only [Is])⟩
      · exact q.elim
    · obtain ⟨v, rfl, hv⟩ := isl1 hx
      simp only [Is] at hv
      subst hv
      exact .inr ⟨_, rfl, Sat.leaf A q (by simp only [Is])⟩
    · exact q.elim) hg hm (by decide +kernel) ha (by decide) (by decide) he
theorem xe_list1 (hg : Gl X "list") (hm : X.mg "list" = none) (ha : PA X [e] (XA X.K ca W fs)) (he : starEach [e] X.env = (false, eval e X.env) :: starEach [] X.env := by rfl) : PE X (.Call (.Name "list" p) [e] [] pos) (XT X.K ca W (mA1 fs listK)) :=
  xe_callT call_list_of (fun W σ s ds vs Q A hx q => by
    unfold listK at q
    split at q
    · obtain ⟨v, rfl, hv⟩ := isl1 hx
      split at q
      · rename_i es e1
        obtain ⟨a, us, rfl, h1, h2⟩ := seq_is A hv e1
        exact ⟨a, us, rfl, h1, Sat.lst A q h2⟩
      · exact q.elim
    · exact q.elim) hg hm (by decide +kernel) ha (by decide) (by decide) he
theorem xe_mlist1 (hg : Gl X "list") (hm : X.mg "list" = none) (ha : PA X [e] (XA X.K ca W fs)) (he : starEach [e] X.env = (false, eval e X.env) :: starEach [] X.env := by rfl) : PE X (.Call (.Name "list" p) [e] [] pos) (XT X.K ca W (mA1 fs mlistK)) :=
  xe_callT call_list_of (fun W σ s ds vs Q A hx q => by
    unfold mlistK at q
    split at q
    · obtain ⟨v, rfl, hv⟩ := isl1 hx
      split at q
      · rename_i es e1
        obtain ⟨a, us, rfl, h1, h2⟩ := seq_is A hv e1
        exact ⟨a, us, rfl, h1, Sat.put A q fun p hp => ⟨us, by show upd s.H p _ p = _; exact upd_same, h2.mono A (Ext.put hp)⟩⟩
      · exact q.elim
    · exact q.elim) hg hm (by decide +kernel) ha (by decide) (by decide) he
theorem xe_tuple1 (hg : Gl X "tuple") (hm : X.mg "tuple" = none) (ha : PA X [e] (XA X.K ca W fs)) (he : starEach [e] X.env = (false, eval e X.env) :: starEach [] X.env := by rfl) : PE X (.Call (.Name "tuple" p) [e] [] pos) (XT X.K ca W (mA1 fs tupleK)) :=
  xe_callT call_tuple_of (fun W σ s ds vs Q A hx q => by
    unfold tupleK at q
    split at q
    · obtain ⟨v, rfl, hv⟩ := isl1 hx
      split at q
      · have hv0 := hv
        simp only [Is] at hv
        obtain ⟨a, us, rfl, h1, h2⟩ := hv
        exact ⟨a, us, rfl, .inr ⟨h1, Sat.leaf A q hv0⟩⟩
      · rename_i d hn
        split at q
        · rename_i es e1
          obtain ⟨a, us, rfl, h1, h2⟩ := lsq_is A hv e1
          exact ⟨a, us, rfl, .inl ⟨h1, Sat.tup A q h2⟩⟩
        · exact q.elim
    · exact q.elim) hg hm (by decide +kernel) ha (by decide) (by decide) he

theorem bls_is {K : PySem.W.Frag} {s : SM} : ∀ {ds : List D} {vs : List V} {l : List Bool}, IsL K s ds vs → bls ds = some l → vs = l.map V.bl
  | [], _, l, h, e => by simp only [IsL] at h; subst h; simp only [bls] at e; cases e; rfl
  | d :: ds, _, l, h, e => by
    simp only [IsL] at h
    obtain ⟨v, r, e1, h1, h2⟩ := h
    subst e1
    cases d <;> simp only [bls] at e <;> first | (cases e; done) | skip
    split at e
    · rename_i l' e2
      cases e
      simp only [Is] at h1
      rw [h1, bls_is h2 e2]; rfl
    · cases e
theorem xe_all (hc : X.calm = true) (hg : Gl X "all") (hm : X.mg "all" = none) (ha : PA X [e] (XA X.K ca W fs)) (he : starEach [e] X.env = (false, eval e X.env) :: starEach [] X.env := by rfl) : PE X (.Call (.Name "all" p) [e] [] pos) (XT X.K ca W (mA1 fs allK)) :=
  xe_callB (cr_all hc) (fun W σ s ds vs Q A hx q => by
    unfold allK at q
    split at q
    · obtain ⟨v, rfl, hv⟩ := isl1 hx
      split at q
      · rename_i l e1
        simp only [Is] at hv
        obtain ⟨a, us, rfl, h1, _, h2⟩ := hv
        exact ⟨a, l, rfl, by rw [← bls_is h2 e1]; exact SqL.of h1, Sat.leaf A q (by simp only [Is])⟩
      · exact q.elim
    · exact q.elim) hg hm (by decide +kernel) ha (by decide) (by decide) he
theorem xe_any (hc : X.calm = true) (hg : Gl X "any") (hm : X.mg "any" = none) (ha : PA X [e] (XA X.K ca W fs)) (he : starEach [e] X.env = (false, eval e X.env) :: starEach [] X.env := by rfl) : PE X (.Call (.Name "any" p) [e] [] pos) (XT X.K ca W (mA1 fs anyK)) :=
  xe_callB (cr_any hc) (fun W σ s ds vs Q A hx q => by
    unfold anyK at q
    split at q
    · obtain ⟨v, rfl, hv⟩ := isl1 hx
      split at q
      · rename_i l e1
        simp only [Is] at hv
        obtain ⟨a, us, rfl, h1, _, h2⟩ := hv
        exact ⟨a, l, rfl, by rw [← bls_is h2 e1]; exact SqL.of h1, Sat.leaf A q (by simp only [Is])⟩
      · exact q.elim
    · exact q.elim) hg hm (by decide +kernel) ha (by decide) (by decide) he
theorem sqT_ty {K : PySem.W.Frag} {H : Hp} {a : Addr} {vs : List V} (h : SqT K H a vs) : TyX K H (.ref a) (.type "tuple") := by
  rcases h with (h | ⟨o, h⟩) | ⟨o, its, n, h, hc, _⟩
  · exact .base (.tup h)
  · exact .fTuple h
  · exact .kTuple h hc
theorem isi_is {K : PySem.W.Frag} {s : SM} {t : String} {d : D} {v : V} {b : Bool} (h : Is K s d v) (e : d.isI t s.M = some b)
    (k0 : kitB "NoneType" t = some false) (k1 : kitB "bool" t = some (t == "bool" || t == "int")) (k2 : kitB "int" t = some (t == "int")) (k3 : kitB "str" t = some (t == "str")) (k4 : kitB "tuple" t = some (t == "tuple"))
    (k5 : kitB "list" t = some false) (k6 : kitB "dict" t = some false) : ∃ ty, TyX K s.H v ty ∧ PySem.W.kitOne K ty (.type t) = some b := by
  cases d with
  | non => simp only [Is] at h; subst h; cases e; exact ⟨_, .base .non, kit_ty k0⟩
  | bl b => simp only [Is] at h; subst h; cases e; exact ⟨_, .base (.bl b), kit_ty k1⟩
  | int i => simp only [Is] at h; subst h; cases e; exact ⟨_, .base (.int i), kit_ty k2⟩
  | str x => simp only [Is] at h; subst h; cases e; exact ⟨_, .base (.str x), kit_ty k3⟩
  | tup ds => simp only [Is] at h; obtain ⟨a, vs, rfl, h1, _⟩ := h; cases e; exact ⟨_, sqT_ty h1, kit_ty k4⟩
  | lst ds => simp only [Is] at h; obtain ⟨a, vs, rfl, h1, _⟩ := h; cases e; exact ⟨_, .base (.lst h1), kit_ty k5⟩
  | dic ks ds => simp only [Is] at h; obtain ⟨a, vs, rfl, h1, _⟩ := h; cases e; exact ⟨_, .base (.dK h1), kit_ty k6⟩
  | fz ds => cases e
  | ref i => cases e
theorem xe_isi {t : String} {tx : Str} {p2 : Pos} (hg : Gl X "isinstance") (hm : X.mg "isinstance" = none) (ha : PE X e (XT X.K ca W f)) (hg2 : Gl X tx) (hm2 : X.mg tx = none) (hb2 : bootBuiltins tx = some (.type t)) (hn2 : tx ≠ "__name__" := by decide) (hd2 : (tx == ("__debug__" : Str)) = false := by decide)
    (he : starEach [e, .Name tx p2] X.env = (false, eval e X.env) :: starEach [.Name tx p2] X.env := by rfl)
    (k0 : kitB "NoneType" t = some false := by decide +kernel) (k1 : kitB "bool" t = some (t == "bool" || t == "int") := by decide +kernel) (k2 : kitB "int" t = some (t == "int") := by decide +kernel) (k3 : kitB "str" t = some (t == "str") := by decide +kernel) (k4 : kitB "tuple" t = some (t == "tuple") := by decide +kernel)
    (k5 : kitB "list" t = some false := by decide +kernel) (k6 : kitB "dict" t = some false := by decide +kernel) : PE X (.Call (.Name "isinstance" p) [e, .Name tx p2] [] pos) (XT X.K ca W (mB1 f (isiK t))) :=
  PE.imp (pe_callB call_isi hg hm (by decide +kernel) (pa_cons ha (pa_cons (pe_bltn (v := .ty t) hg2 hm2 hb2 rfl hn2 hd2) pa_nil) he) (he := he)) fun σ H Q ⟨L, s, S, q⟩ =>
    XT.mono (xt_seq S q) fun x H1 ⟨s1, d, S1, E1, I1, q1⟩ => by
      unfold isiK at q1
      split at q1
      · rename_i b e1
        obtain ⟨ty, h1, h2⟩ := isi_is I1 e1 k0 k1 k2 k3 k4 k5 k6
        have h3 := Sat.leaf S1.a q1 (v := .bl b) (by simp only [Is])
        rw [S1.h] at h1 h3
        exact ⟨x, .ty t, ty, .type t, b, rfl, .ty t, h1, h2, h3⟩
      · exact q1.elim
/-- a def of the text is called -/
theorem xe_call {k n : Nat} {fa : Addr} {fd : FuncData} {ps : List Str} {F : List D → Mem → Res D} {dvs : List V} {dus : List Value} {dds : List D} (tk : Takes X W) (Fo : FnOk X.prog X.w X.K X.mg X.base (L2.CX X.prog X.w) k fa fd ps (spF X.K ca n F)) (hr : Room k X.A)
    (hm : X.mg x = some (.ref fa)) (hk : PySem.W.keepIn X.K (.ref fa) = true) (hb : Binds X.K fd ps dus) (hd : Vals dvs dus) (hdd : ∀ s, IsL X.K s dds dvs) (hg : Gl X x)
    (ha : PA X (e :: es) (XA X.K ca W fs)) (hdb : (x == ("__debug__" : Str)) = false := by decide) (he : starEach (e :: es) X.env = (false, eval e X.env) :: starEach es X.env := by rfl) (hpl : (backTo pos (starEach es X.env)).any (·.1) = false := by rfl) :
    PE X (.Call (.Name x p) (e :: es) [] pos) (XT X.K ca W (mCall fs n F dds)) :=
  PE.imp (pe_callSD Fo hr hg hm hk hb hd (fun σ => passAt tk σ) ha hdb he hpl) fun σ H Q ⟨L, s, S, q⟩ => by
    refine XA.mono (xa_seq S q) fun vs H1 ⟨s1, ds, S1, E1, I1, q1⟩ => ?_
    split at q1
    · rename_i hn
      exact ⟨ds ++ dds, s1, S1.h, S1.a, I1.append (hdd s1), by rw [List.length_append]; exact hn, q1⟩
    · exact q1.elim
end
end XM
/-! ## XM5 -/
set_option maxHeartbeats 200000
set_option linter.all false
set_option autoImplicit false
set_option maxRecDepth 100000
namespace XM
open PySem PySem.Spec
open PyProof.Rows hiding St
open L2 hiding Rd Rd.of Rd.ok
section
variable {X : Cx} {ca : Nat → Addr} {W : WX} {e a b c o : Expr} {es rest : List Expr} {f g h : EM} {fs : AM} {F G : BM} {pos p p2 apos cpos : Pos} {x : Str}
/-! ### dicts -/
theorem dget_of {s : SM} {K : PySem.W.Frag} (A : Abs K ca s) {d e : D} {ks : List Key} {ds : List D} {k : Key} {u y : V} (hd : Is K s d u) (he : d.dict s.M = some (ks, ds)) (hk : Is K s e y) (ek : e.keyD = some k) :
    ∃ a o, u = .ref a ∧ DGet s.H a y o ∧ (∀ z, dlook ks ds k = some z → ∃ v, o = some v ∧ Is K s z v) ∧ (dlook ks ds k = none → o = none) := by
  obtain ⟨a, kvs, rfl, h1, h2, h3⟩ := dict_is A hd he
  obtain ⟨l1, l2⟩ := look_is (k := k) h2 h3
  rw [key_is hk ek]
  exact ⟨a, _, rfl, DGet.k h1, fun z q => l1 z q, l2⟩
theorem inDK_is (neg : Bool) {σ : L2.St} {H : Hp} {Q : VK} {L : Lc} {s : SM} (S : Sta X.K ca s L σ H) (q : Sat X.K ca W σ s (mB2 f g (inDK neg) L s.M) Q) :
    XT X.K ca W f σ H (fun y H1 => XT X.K ca W g σ H1 fun x H2 => ∃ a o, x = .ref a ∧ DGet H2 a y o ∧ Q (.bl (if neg then !o.isSome else o.isSome)) H2) := by
  refine XT.mono (xt_seq S (k := fun d M1 => (g L M1).bind fun e M2 => inDK neg d e M2) q) fun y H1 ⟨s1, d, S1, E1, I1, q1⟩ => ?_
  refine XT.mono (xt_seq S1 (k := fun e M2 => inDK neg d e M2) q1) fun x H2 ⟨s2, e, S2, E2, I2, q2⟩ => ?_
  unfold inDK at q2
  split at q2
  · rename_i ks ds k e1 e2
    obtain ⟨a, o, rfl, h1, h2, h3⟩ := dget_of S2.a I2 e1 (I1.mono S1.a E2) e2
    rw [S2.h] at h1
    refine ⟨a, o, rfl, h1, ?_⟩
    have hh : (dlook ks ds k).isSome = o.isSome := by
      cases q : dlook ks ds k with
      | none => rw [h3 q]; rfl
      | some z => obtain ⟨v, e3, _⟩ := h2 z q; rw [e3]; rfl
    rw [← hh, ← S2.h]
    exact Sat.leaf S2.a q2 (by simp only [Is])
  · exact q2.elim
theorem xc_din (hu : X.A.units + 64 < cLine) (hi : PE X a (XT X.K ca W f)) (ho : PE X b (XT X.K ca W g)) (hm : behindInMarks .In b = false := by rfl) : PE X (.Compare a [.In] [b] pos) (XT X.K ca W (mB2 f g (inDK false))) :=
  PE.imp (pe_cmp (pc_din (by omega) hi ho) hm) fun σ H Q ⟨L, s, S, q⟩ => inDK_is false S q
theorem xc_dnin (hu : X.A.units + 64 < cLine) (hi : PE X a (XT X.K ca W f)) (ho : PE X b (XT X.K ca W g)) (hm : behindInMarks .NotIn b = false := by rfl) : PE X (.Compare a [.NotIn] [b] pos) (XT X.K ca W (mB2 f g (inDK true))) :=
  PE.imp (pe_cmp (pc_dnotin (by omega) hi ho) hm) fun σ H Q ⟨L, s, S, q⟩ => inDK_is true S q
theorem xe_ixD (hu : X.A.units + 64 < cLine) (ho : PE X a (XT X.K ca W f)) (hi : PE X b (XT X.K ca W g)) (hs : NoSl b := by exact fun _ _ => rfl) : PE X (.Subscript a b pos) (XT X.K ca W (mB2 f g ixDK)) :=
  PE.imp (pe_dget (by omega) ho hi hs) fun σ H Q ⟨L, s, S, q⟩ => by
    refine XT.mono (xt_seq S (k := fun d M1 => (g L M1).bind fun e M2 => ixDK d e M2) q) fun y H1 ⟨s1, d, S1, E1, I1, q1⟩ => ?_
    refine XT.mono (xt_seq S1 (k := fun e M2 => ixDK d e M2) q1) fun x H2 ⟨s2, e, S2, E2, I2, q2⟩ => ?_
    unfold ixDK at q2
    split at q2
    · rename_i ks ds k e1 e2
      split at q2
      · rename_i z e3
        obtain ⟨a, o, rfl, h1, h2, h3⟩ := dget_of S2.a (I1.mono S1.a E2) e1 I2 e2
        obtain ⟨v, rfl, hv⟩ := h2 z e3
        have := Sat.leaf S2.a q2 hv
        rw [S2.h] at this h1
        exact ⟨a, v, rfl, h1, this⟩
      · exact q2.elim
    · exact q2.elim
def getK2 (d e z : D) (M : Mem) : Res D := match d.dict M, e.keyD with
  | some (ks, ds), some k => .ok ((dlook ks ds k).getD z) M
  | _, _ => .stk
def mGet2 (f g h : EM) : EM := fun L M => (f L M).bind fun d M1 => match d.dict M1 with
  | some _ => (g L M1).bind fun e M2 => (h L M2).bind fun z M3 => getK2 d e z M3
  | none => .stk
theorem xe_get2 (hu : X.A.units + 64 < cLine) (ho : PE X o (XT X.K ca W f)) (he : PE X a (XT X.K ca W g)) (hf : PE X b (XT X.K ca W h)) (m : M2 X o "get" apos a b cpos := by exact ⟨rfl, rfl, rfl, rfl⟩) : PE X (.Call (.Attribute o "get" apos) [a, b] [] cpos) (XT X.K ca W (mGet2 f g h)) :=
  PE.imp (pe_dget2 (by omega) ho he hf m) fun σ H Q ⟨L, s, S, q⟩ => by
    refine XT.mono (xt_seq S (k := fun d M1 => match d.dict M1 with
      | some _ => (g L M1).bind fun e M2 => (h L M2).bind fun z M3 => getK2 d e z M3
      | none => .stk) q) fun x H1 ⟨s1, d, S1, E1, I1, q1⟩ => ?_
    split at q1
    · rename_i kd e1
      obtain ⟨a, kvs, rfl, h1, h2, h3⟩ := dict_is S1.a I1 (ks := kd.1) (ds := kd.2) e1
      rw [S1.h] at h1
      refine ⟨a, rfl, .inl ⟨kvs, .inl h1⟩, ?_⟩
      refine XT.mono (xt_seq S1 (k := fun e M2 => (h L M2).bind fun z M3 => getK2 d e z M3) q1) fun y H2 ⟨s2, e, S2, E2, I2, q2⟩ => ?_
      refine XT.mono (xt_seq S2 (k := fun z M3 => getK2 d e z M3) q2) fun w H3 ⟨s3, z, S3, E3, I3, q3⟩ => ?_
      unfold getK2 at q3
      split at q3
      · rename_i ks ds k e2 e3
        obtain ⟨a', o, e5, h5, h6, h7⟩ := dget_of S3.a ((I1.mono S1.a E2).mono S2.a E3) e2 (I2.mono S2.a E3) e3
        cases e5
        rw [S3.h] at h5
        refine ⟨o, h5, ?_⟩
        rw [← S3.h]
        cases q : dlook ks ds k with
        | none => rw [h7 q]; rw [q] at q3; exact Sat.leaf S3.a q3 I3
        | some z' => obtain ⟨v, e6, hv⟩ := h6 z' q; rw [e6]; rw [q] at q3; exact Sat.leaf S3.a q3 hv
      · exact q3.elim
    · exact q1.elim
/-! ### slices -/
def XO (K : PySem.W.Frag) (ca : Nat → Addr) (W : WX) (f : OM) : TO := fun σ H Q => ∃ L s, Sta K ca s L σ H ∧ SatG K ca (fun s' (o : Option Int) => Q o s'.H) (fun c d H => W c d σ H) s (f L s.M)
theorem xo_none : PO X none (XO X.K ca W mNoP) := ⟨fun pins s σ H Q I ⟨L, t, S, q⟩ => po_none.run pins s σ H Q I (by
  have q : SatG X.K ca (fun s' (o : Option Int) => Q o s'.H) (fun c d H => W c d σ H) t (.ok none t.M) := q
  have : Q none t.H := q t rfl (Ext.refl t) S.a
  rw [S.h] at this; exact this)⟩
theorem xo_some (hp : PE X a (XT X.K ca W f)) : PO X (some a) (XO X.K ca W (mP f)) := ⟨fun pins s σ H Q I ⟨L, t, S, q⟩ => (po_some hp).run pins s σ H Q I (by
  refine XT.mono (xt_seq S (k := fun d M1 => match d with
    | .int i => .ok (some i) M1
    | _ => .stk) q) fun x H1 ⟨s1, d, S1, E1, I1, q1⟩ => ?_
  split at q1
  · rename_i i
    simp only [Is] at I1
    have : Q (some i) s1.H := q1 s1 rfl (Ext.refl s1) S1.a
    rw [S1.h] at this
    exact ⟨i, I1, this⟩
  · exact q1.elim)⟩
theorem cutV_eq (xs : List V) (lo hi : Option Int) : cutV xs lo hi = cutG xs lo hi := rfl
theorem cut_is {K : PySem.W.Frag} {s : SM} {ds : List D} {vs : List V} (h : IsL K s ds vs) (lo hi : Option Int) : IsL K s (cutG ds lo hi) (cutG vs lo hi) := by
  unfold cutG
  rw [h.length]
  exact (h.drop _).take _
theorem cut_all {α : Type} {xs : List α} {lo hi : Option Int} (h : HT.sIx xs.length 0 lo = 0 ∧ HT.sIx xs.length xs.length hi = xs.length) : cutG xs lo hi = xs := by
  unfold cutG
  rw [h.1, h.2]
  simp
theorem xe_slice {lo hi : Option Expr} {gl gh : OM} (he : PE X e (XT X.K ca W f)) (hl : PO X lo (XO X.K ca W gl)) (hh : PO X hi (XO X.K ca W gh)) : PE X (.Subscript e (.Slice lo hi none p2) pos) (XT X.K ca W (mSl f gl gh)) :=
  PE.imp (pe_slice (SlR.or sl_list sl_tupA) he hl hh) fun σ H Q ⟨L, s, S, q⟩ => by
    refine XT.mono (xt_seq S (k := fun d M1 => (gl L M1).bind fun lo M2 => (gh L M2).bind fun hi M3 => slK d lo hi M3) q) fun x H1 ⟨s1, d, S1, E1, I1, q1⟩ => ?_
    refine ⟨L, s1, S1, SatG.imp (fun s2 l hh => ?_) (SatG.bind q1)⟩
    obtain ⟨E2, A2, q2⟩ := hh
    refine ⟨L, s2, S1.ext E2 A2, SatG.imp (fun s3 u hh => ?_) (SatG.bind q2)⟩
    obtain ⟨E3, A3, q3⟩ := hh
    have I3 := (I1.mono S1.a E2).mono A2 E3
    unfold slK at q3
    split at q3
    · rename_i ds
      have I0 := I3
      simp only [Is] at I3
      obtain ⟨a, vs, rfl, h1, h2⟩ := I3
      refine .inr ⟨a, vs, rfl, h1, fun hw => ?_, fun hw => ?_⟩
      · rw [h2.length] at hw
        rw [cut_all hw] at q3
        exact Sat.leaf A3 q3 I0
      · exact Sat.tup A3 q3 (cut_is h2 _ _)
    · rename_i ds
      simp only [Is] at I3
      obtain ⟨a, vs, rfl, h1, _, h2⟩ := I3
      exact .inl ⟨a, vs, rfl, SqL.of h1, Sat.lst A3 q3 (cut_is h2 _ _)⟩
    · split at q3
      · rename_i ds e1
        obtain ⟨rfl, vs, h1, h2⟩ := is_mem A3 I3 e1
        exact .inl ⟨_, vs, rfl, SqL.of h1, Sat.lst A3 q3 (cut_is h2 _ _)⟩
      · exact q3.elim
    · exact q3.elim
/-! ### truth -/
theorem xe_not (ha : PE X a (XT X.K ca W f)) : PE X (.UnaryOp .Not a pos) (XT X.K ca W (mB1 f notK)) := PE.imp (pe_notT ha) fun σ H Q ⟨L, s, S, q⟩ =>
  XT.mono (xt_seq S q) fun x H1 ⟨s1, d, S1, E1, I1, q1⟩ => by
    unfold notK at q1
    split at q1
    · rename_i k e1
      have h1 := tru_is S1.a I1 e1
      have h2 := Sat.leaf S1.a q1 (v := .bl (!k)) (by simp only [Is])
      rw [S1.h] at h1 h2
      exact ⟨k, h1, h2⟩
    · exact q1.elim
theorem xe_one {op : BoolOp} (ha : PE X a (XT X.K ca W f)) : PE X (.BoolOp op [a] pos) (XT X.K ca W f) := pe_one ha
theorem xe_and (ha : PE X a (XT X.K ca W f)) (hb : PE X (.BoolOp .And (b :: rest) pos) (XT X.K ca W g)) : PE X (.BoolOp .And (a :: b :: rest) pos) (XT X.K ca W (mAndV f g)) := PE.imp (pe_andT ha hb) fun σ H Q ⟨L, s, S, q⟩ =>
  XT.mono (xt_seq S (k := fun d M1 => match d.tru M1 with
  | some true => g L M1
  | some false => .ok d M1
  | none => .stk) q) fun x H1 ⟨s1, d, S1, E1, I1, q1⟩ => by
    split at q1
    · rename_i e1
      have h1 := tru_is S1.a I1 e1
      rw [S1.h] at h1
      exact ⟨true, h1, by rw [if_pos rfl]; exact ⟨L, s1, S1, q1⟩⟩
    · rename_i e1
      have h1 := tru_is S1.a I1 e1
      have h2 := Sat.leaf S1.a q1 I1
      rw [S1.h] at h1 h2
      exact ⟨false, h1, by rw [if_neg Bool.false_ne_true]; exact h2⟩
    · exact q1.elim
theorem xe_or (ha : PE X a (XT X.K ca W f)) (hb : PE X (.BoolOp .Or (b :: rest) pos) (XT X.K ca W g)) : PE X (.BoolOp .Or (a :: b :: rest) pos) (XT X.K ca W (mOrV f g)) := PE.imp (pe_orT ha hb) fun σ H Q ⟨L, s, S, q⟩ =>
  XT.mono (xt_seq S (k := fun d M1 => match d.tru M1 with
  | some true => .ok d M1
  | some false => g L M1
  | none => .stk) q) fun x H1 ⟨s1, d, S1, E1, I1, q1⟩ => by
    split at q1
    · rename_i e1
      have h1 := tru_is S1.a I1 e1
      have h2 := Sat.leaf S1.a q1 I1
      rw [S1.h] at h1 h2
      exact ⟨true, h1, by rw [if_pos rfl]; exact h2⟩
    · rename_i e1
      have h1 := tru_is S1.a I1 e1
      rw [S1.h] at h1
      exact ⟨false, h1, by rw [if_neg Bool.false_ne_true]; exact ⟨L, s1, S1, q1⟩⟩
    · exact q1.elim
/-- a value as a test (a name, a call, an attribute, a subscript) -/
theorem xt_val (ha : PE X a (XT X.K ca W f)) (he : ∀ whole, isTrue a X.env whole = (do let v ← whole; standAt a.pos; holding [v] (truthy v)) := by intro _; rfl) : PT X a (XB X.K ca W (mT f truK)) := PT.imp (pt_truth ha he) fun σ H Q ⟨L, s, S, q⟩ =>
  XT.mono (xt_seq S (k := truK) q) fun x H1 ⟨s1, d, S1, E1, I1, q1⟩ => by
    unfold truK at q1
    split at q1
    · rename_i k e1
      have h1 := tru_is S1.a I1 e1
      have h2 : Q _ s1.H := q1 s1 rfl (Ext.refl _) S1.a
      rw [S1.h] at h1 h2
      exact ⟨k, h1, h2⟩
    · exact q1.elim
theorem bl_end {σ : L2.St} {H : Hp} {Q : Bool → Hp → Prop} (q : XB X.K ca W (mT f blK) σ H Q) : XT X.K ca W f σ H (fun x H' => ∃ k, x = .bl k ∧ Q k H') := by
  obtain ⟨L, s, S, q⟩ := q
  refine XT.mono (xt_seq S (k := blK) q) fun x H1 ⟨s1, d, S1, E1, I1, q1⟩ => ?_
  unfold blK at q1
  split at q1
  · rename_i k
    simp only [Is] at I1
    have h2 : Q _ s1.H := q1 s1 rfl (Ext.refl _) S1.a
    rw [S1.h] at h2
    exact ⟨k, I1, h2⟩
  · exact q1.elim
/-- a comparison as a test -/
theorem xt_cmp {op : CmpOp} {k : D → D → Mem → Res D} {r : R2} (ho : OpR X (compareOp op) r) (hk : OpK X ca k r) (ha : PE X a (XT X.K ca W f)) (hb : PE X b (XT X.K ca W g)) (hm : behindInMarks op b = false) : PT X (.Compare a [op] [b] pos) (XB X.K ca W (mT (mB2 f g k) blK)) :=
  PT.imp (pt_cmpR ho ha hb hm) fun σ H Q q => op_seq hk (bl_end q)
theorem xt_eq (hu : X.A.units + 64 < cLine) (ha : PE X a (XT X.K ca W f)) (hb : PE X b (XT X.K ca W g)) : PT X (.Compare a [.Eq] [b] pos) (XB X.K ca W (mT (mB2 f g (eqK false)) blK)) := xt_cmp (op_eqD hu) ok_eqE ha hb (nomark _)
theorem xt_ne (hu : X.A.units + 64 < cLine) (ha : PE X a (XT X.K ca W f)) (hb : PE X b (XT X.K ca W g)) : PT X (.Compare a [.NotEq] [b] pos) (XB X.K ca W (mT (mB2 f g (eqK true)) blK)) := xt_cmp (op_neD hu) ok_eqN ha hb (nomark _)
theorem xt_lt (ha : PE X a (XT X.K ca W f)) (hb : PE X b (XT X.K ca W g)) : PT X (.Compare a [.Lt] [b] pos) (XB X.K ca W (mT (mB2 f g (bK fun i j => decide (i < j))) blK)) := xt_cmp op_lt ok_bl0 ha hb (nomark _)
theorem xt_le (ha : PE X a (XT X.K ca W f)) (hb : PE X b (XT X.K ca W g)) : PT X (.Compare a [.LtE] [b] pos) (XB X.K ca W (mT (mB2 f g (bK fun i j => decide (i ≤ j))) blK)) := xt_cmp op_le ok_bl0 ha hb (nomark _)
theorem xt_gt (ha : PE X a (XT X.K ca W f)) (hb : PE X b (XT X.K ca W g)) : PT X (.Compare a [.Gt] [b] pos) (XB X.K ca W (mT (mB2 f g (bK fun i j => decide (j < i))) blK)) := xt_cmp op_gt ok_bl0 ha hb (nomark _)
theorem xt_ge (ha : PE X a (XT X.K ca W f)) (hb : PE X b (XT X.K ca W g)) : PT X (.Compare a [.GtE] [b] pos) (XB X.K ca W (mT (mB2 f g (bK fun i j => decide (j ≤ i))) blK)) := xt_cmp op_ge ok_bl0 ha hb (nomark _)
theorem xt_in (ha : PE X a (XT X.K ca W f)) (hb : PE X b (XT X.K ca W g)) (hm : behindInMarks .In b = false := by rfl) : PT X (.Compare a [.In] [b] pos) (XB X.K ca W (mT (mB2 f g (inK false)) blK)) := xt_cmp op_in_seq (ok_in false) ha hb hm
theorem xt_nin (ha : PE X a (XT X.K ca W f)) (hb : PE X b (XT X.K ca W g)) (hm : behindInMarks .NotIn b = false := by rfl) : PT X (.Compare a [.NotIn] [b] pos) (XB X.K ca W (mT (mB2 f g (inK true)) blK)) := xt_cmp op_notIn_seq (ok_in true) ha hb hm
theorem xt_lts (ha : PE X a (XT X.K ca W f)) (hb : PE X b (XT X.K ca W g)) : PT X (.Compare a [.Lt] [b] pos) (XB X.K ca W (mT (mB2 f g ltsK) blK)) := xt_cmp op_lt_str (fun W σ s d e x y Q A hx hy q => by
  unfold ltsK at q
  split at q
  · simp only [Is] at hx hy
    exact ⟨_, _, hx, hy, Sat.leaf A q (by simp only [Is])⟩
  · exact q.elim) ha hb (nomark _)
theorem xt_inS (ha : PE X a (XT X.K ca W f)) (hb : PE X b (XT X.K ca W g)) (hm : behindInMarks .In b = false := by rfl) : PT X (.Compare a [.In] [b] pos) (XB X.K ca W (mT (mB2 f g (inSK false)) blK)) := xt_cmp op_in_sign (fun W σ s d e x y Q A hx hy q => by
  unfold inSK at q
  split at q
  · split at q
    · rename_i e1
      simp only [Is] at hx hy
      rw [sign_of e1] at hx
      exact ⟨_, _, hx, hy, Sat.leaf A q (by simp only [Is] <;> rfl)⟩
    · exact q.elim
  · exact q.elim) ha hb hm
theorem xt_ninS (ha : PE X a (XT X.K ca W f)) (hb : PE X b (XT X.K ca W g)) (hm : behindInMarks .NotIn b = false := by rfl) : PT X (.Compare a [.NotIn] [b] pos) (XB X.K ca W (mT (mB2 f g (inSK true)) blK)) := xt_cmp op_notIn_sign (fun W σ s d e x y Q A hx hy q => by
  unfold inSK at q
  split at q
  · split at q
    · rename_i e1
      simp only [Is] at hx hy
      rw [sign_of e1] at hx
      exact ⟨_, _, hx, hy, Sat.leaf A q (by simp only [Is] <;> rfl)⟩
    · exact q.elim
  · exact q.elim) ha hb hm
theorem xt_din (hu : X.A.units + 64 < cLine) (hi : PE X a (XT X.K ca W f)) (ho : PE X b (XT X.K ca W g)) (hm : behindInMarks .In b = false := by rfl) : PT X (.Compare a [.In] [b] pos) (XB X.K ca W (mT (mB2 f g (inDK false)) blK)) :=
  PT.imp (pt_cmp (pc_din (by omega) hi ho) hm) fun σ H Q q => by
    obtain ⟨L, s, S, q⟩ := bl_end q
    exact inDK_is false S q
theorem xt_dnin (hu : X.A.units + 64 < cLine) (hi : PE X a (XT X.K ca W f)) (ho : PE X b (XT X.K ca W g)) (hm : behindInMarks .NotIn b = false := by rfl) : PT X (.Compare a [.NotIn] [b] pos) (XB X.K ca W (mT (mB2 f g (inDK true)) blK)) :=
  PT.imp (pt_cmp (pc_dnotin (by omega) hi ho) hm) fun σ H Q q => by
    obtain ⟨L, s, S, q⟩ := bl_end q
    exact inDK_is true S q
theorem xt_not (ha : PT X a (XB X.K ca W F)) : PT X (.UnaryOp .Not a pos) (XB X.K ca W (mNotB F)) := PT.imp (pt_not ha) fun σ H Q ⟨L, s, S, q⟩ =>
  XB.mono (xb_seq S (k := fun b M1 => .ok (!b) M1) q) fun b H1 ⟨s1, S1, E1, q1⟩ => by
    have h2 : Q _ s1.H := q1 s1 rfl (Ext.refl _) S1.a
    rw [S1.h] at h2; exact h2
theorem xw_one (ha : PT X a (XB X.K ca W F)) : PW X (.BoolOp .And [a] pos) (XB X.K ca W F) := pw_and1 ha
theorem xw_oneOr (ha : PT X a (XB X.K ca W F)) : PW X (.BoolOp .Or [a] pos) (XB X.K ca W F) := pw_or1 ha
theorem xw_and (ha : PT X a (XB X.K ca W F)) (hb : PW X (.BoolOp .And (b :: rest) pos) (XB X.K ca W G)) : PW X (.BoolOp .And (a :: b :: rest) pos) (XB X.K ca W (mAndB F G)) := PW.imp (pw_and ha hb) fun σ H Q ⟨L, s, S, q⟩ =>
  XB.mono (xb_seq S (k := fun b M1 => if b = true then G L M1 else .ok false M1) q) fun b H1 ⟨s1, S1, E1, q1⟩ => by
    cases b with
    | true => rw [if_pos rfl] at q1 ⊢; exact ⟨L, s1, S1, q1⟩
    | false =>
      rw [if_neg Bool.false_ne_true] at q1 ⊢
      have h2 : Q _ s1.H := q1 s1 rfl (Ext.refl _) S1.a
      rw [S1.h] at h2; exact h2
theorem xw_or (ha : PT X a (XB X.K ca W F)) (hb : PW X (.BoolOp .Or (b :: rest) pos) (XB X.K ca W G)) : PW X (.BoolOp .Or (a :: b :: rest) pos) (XB X.K ca W (mOrB F G)) := PW.imp (pw_or ha hb) fun σ H Q ⟨L, s, S, q⟩ =>
  XB.mono (xb_seq S (k := fun b M1 => if b = true then .ok true M1 else G L M1) q) fun b H1 ⟨s1, S1, E1, q1⟩ => by
    cases b with
    | false => rw [if_neg Bool.false_ne_true] at q1 ⊢; exact ⟨L, s1, S1, q1⟩
    | true =>
      rw [if_pos rfl] at q1 ⊢
      have h2 : Q _ s1.H := q1 s1 rfl (Ext.refl _) S1.a
      rw [S1.h] at h2; exact h2
theorem xe_if (hc : PT X c (XB X.K ca W F)) (ha : PE X a (XT X.K ca W f)) (hb : PE X b (XT X.K ca W g)) : PE X (.IfExp c a b pos) (XT X.K ca W (mIfE F f g)) := PE.imp (pe_ifExp hc ha hb) fun σ H Q ⟨L, s, S, q⟩ =>
  XB.mono (xb_seq S (k := fun b M1 => if b = true then f L M1 else g L M1) q) fun b H1 ⟨s1, S1, E1, q1⟩ => by
    cases b with
    | false => rw [if_neg Bool.false_ne_true] at q1 ⊢; exact ⟨L, s1, S1, q1⟩
    | true => rw [if_pos rfl] at q1 ⊢; exact ⟨L, s1, S1, q1⟩
/-! ### chains -/
theorem chain_is {k1 k2 : D → D → Mem → Res D} {r r' : R2} (hk : OpK X ca k1 r) (hk' : OpK X ca k2 r') {σ : L2.St} {H : Hp} {Q : VK} (q : XT X.K ca W (mChain f g h k1 k2) σ H Q) : tChain r r' (XT X.K ca W f) (XT X.K ca W g) (XT X.K ca W h) σ H Q := by
  obtain ⟨L, s, S, q⟩ := q
  refine XT.mono (xt_seq S (k := fun x M1 => (g L M1).bind fun y M2 => (k1 x y M2).bind fun z M3 => match z with
    | .bl true => (h L M3).bind fun w M4 => k2 y w M4
    | .bl false => .ok (.bl false) M3
    | _ => .stk) q) fun x H1 ⟨s1, d, S1, E1, I1, q1⟩ => ?_
  refine XT.mono (xt_seq S1 (k := fun y M2 => (k1 d y M2).bind fun z M3 => match z with
    | .bl true => (h L M3).bind fun w M4 => k2 y w M4
    | .bl false => .ok (.bl false) M3
    | _ => .stk) q1) fun y H2 ⟨s2, e, S2, E2, I2, q2⟩ => ?_
  have q3 := SatG.bind q2
  have := hk W σ s2 d e x y (fun z H3 => ∃ k, z = .bl k ∧ (if k = true then XT X.K ca W h σ H3 fun w' H4 => r' y w' H4 Q else Q (.bl false) H3)) S2.a (I1.mono S1.a E2) I2 (SatG.imp (fun s3 z hh v hv => ?_) q3)
  · rw [S2.h] at this; exact this
  · obtain ⟨E3, A3, q4⟩ := hh
    split at q4
    · simp only [Is] at hv
      refine ⟨true, hv, ?_⟩
      rw [if_pos rfl]
      have S3 := S2.ext E3 A3
      refine XT.mono (xt_seq S3 (k := fun w M4 => k2 e w M4) q4) fun w H4 ⟨s4, d4, S4, E4, I4, q5⟩ => ?_
      have := hk' W σ s4 e d4 y w Q S4.a ((I2.mono S2.a E3).mono A3 E4) I4 q5
      rw [S4.h] at this; exact this
    · simp only [Is] at hv
      refine ⟨false, hv, ?_⟩
      rw [if_neg Bool.false_ne_true]
      exact Sat.leaf A3 q4 (by simp only [Is])
    · exact q4.elim
theorem xe_chain {op op' : CmpOp} {k1 k2 : D → D → Mem → Res D} {r r' : R2} (ho : OpR X (compareOp op) r) (ho' : OpR X (compareOp op') r') (hk : OpK X ca k1 r) (hk' : OpK X ca k2 r') (ha : PE X a (XT X.K ca W f)) (hb : PE X b (XT X.K ca W g)) (hc : PE X c (XT X.K ca W h))
    (hm : lastMarks [op, op'] [b, c] = false := by with_unfolding_all rfl) : PE X (.Compare a [op, op'] [b, c] pos) (XT X.K ca W (mChain f g h k1 k2)) := PE.imp (pe_chain ho ho' ha hb hc hm) fun σ H Q q => chain_is hk hk' q
theorem xt_chain {op op' : CmpOp} {k1 k2 : D → D → Mem → Res D} {r r' : R2} (ho : OpR X (compareOp op) r) (ho' : OpR X (compareOp op') r') (hk : OpK X ca k1 r) (hk' : OpK X ca k2 r') (ha : PE X a (XT X.K ca W f)) (hb : PE X b (XT X.K ca W g)) (hc : PE X c (XT X.K ca W h))
    (hm : lastMarks [op, op'] [b, c] = false := by with_unfolding_all rfl) : PT X (.Compare a [op, op'] [b, c] pos) (XB X.K ca W (mT (mChain f g h k1 k2) blK)) := PT.imp (pt_chain ho ho' ha hb hc hm) fun σ H Q q => chain_is hk hk' (bl_end q)
/-! ### objects -/
theorem flook_is {K : PySem.W.Frag} {s : SM} : ∀ {kvs : List (Str × V)} {ks : List Str} {ds : List D} {k : Str} {d : D}, kvs.map (·.1) = ks → IsL K s ds (kvs.map (·.2)) → flook ks ds k = some d → ∃ v, kvs.lookup k = some v ∧ Is K s d v
  | [], ks, ds, k, d, hk, h, e => by subst hk; cases ds <;> simp [flook] at e
  | p :: r, ks, ds, k, d, hk, h, e => by
    subst hk
    cases ds with
    | nil => simp only [List.map_cons, IsL] at h; cases h
    | cons d' ds =>
      simp only [List.map_cons, IsL] at h
      obtain ⟨v, r', e1, h1, h2⟩ := h
      cases e1
      simp only [List.map_cons, flook] at e
      by_cases q : k = p.1
      · rw [if_pos q] at e
        cases e
        refine ⟨p.2, ?_, h1⟩
        rw [show p = (p.1, p.2) from rfl, List.lookup_cons]
        simp [q]
      · rw [if_neg q] at e
        obtain ⟨v, h3, h4⟩ := flook_is rfl h2 e
        refine ⟨v, ?_, h4⟩
        rw [show p = (p.1, p.2) from rfl, List.lookup_cons]
        have : (k == p.1) = false := by simp [q]
        rw [this]
        exact h3
theorem lookup_none {kvs : List (Str × V)} {k : Str} (h : k ∉ kvs.map (·.1)) : kvs.lookup k = none := by
  induction kvs with
  | nil => rfl
  | cons p r ih =>
    rw [List.map_cons, List.mem_cons] at h
    rw [show p = (p.1, p.2) from rfl, List.lookup_cons]
    have : (k == p.1) = false := by
      simp only [beq_eq_false_iff_ne, ne_eq]
      exact fun z => h (.inl z)
    rw [this]
    exact ih fun z => h (.inr z)
theorem xe_fld {c : Nat} (cl : Cls X.K (ca c)) (hn : NoAttr X.K (ca c) x) (he : PE X e (XT X.K ca W f)) (hb : attributeBase e x X.env (eval e X.env) = eval e X.env := by rfl) : PE X (.Attribute e x pos) (XT X.K ca W (mB1 f (fldK c x))) :=
  PE.imp (pe_fld he hb) fun σ H Q ⟨L, s, S, q⟩ => XT.mono (xt_seq S q) fun y H1 ⟨s1, d, S1, E1, I1, q1⟩ => by
    unfold fldK at q1
    split at q1
    · split at q1
      · rename_i c' fs ds e1
        split at q1
        · rename_i hc
          subst hc
          split at q1
          · rename_i z e2
            obtain ⟨rfl, dx, kvs, h1, h2, h3⟩ := is_mem S1.a I1 e1
            obtain ⟨v, h4, h5⟩ := flook_is h2 h3 e2
            have h6 := Sat.leaf S1.a q1 h5
            rw [S1.h] at h1 h6
            exact ⟨_, _, dx, kvs, v, rfl, h1, cl, hn, h4, h6⟩
          · exact q1.elim
        · exact q1.elim
      · exact q1.elim
    · exact q1.elim
end
end XM
/-! ## XMc -/
set_option maxHeartbeats 200000
set_option linter.all false
set_option autoImplicit false
set_option maxRecDepth 100000
set_option maxHeartbeats 1000000
namespace XM
open PySem PySem.Spec
open PyProof.Rows hiding St
open L2 hiding Rd Rd.of Rd.ok
/-! ### an exception out of a comprehension -/
section
variable {M : Model} {A : Around} {E : Value → Shared → Prop} {s : Shared} {Z : Obj → Prop} {base : Heap} {env : Env} {outer : List Env} {L e : Addr}
open HandSPX in
/-- noted by this frame, whatever mark it has but this frame's -/
theorem looks_anyZ {fl : Value} {Q : Unit → Shared → Prop} (hZ : Steady Z) (hfr : A.frames = some (env :: outer)) (hf : env.frame = some L) (hkb : base.StaysIn s.heap) (hen : base.get? e = none) (hl : s.heap.FunFrames base (env :: outer)) (ht : TracedZ s.heap base e Z fl) (hne : (fl == rawInt L) = false)
    (hQ : ∀ h', HeldZ base (env :: outer) e Z L h' → s.heap.UpToSlots h' → Q () { s with heap := h' }) : wpAny M A (noteFrame (.ref e) env) Q E s := by
  obtain ⟨oe, vs, T, oT, ts, he, hz, hd, h1, hnT, hTe, hT, hdT, h3⟩ := ht
  unfold noteFrame
  simp only [hf]
  refine wpAny_bind (wpAny_field he hd h1 ?_)
  rw [if_pos (show (Value.ref T != Value.none) = true from by simp)]
  refine wpAny_bind (wpAny_field hT hdT h3 ?_)
  rw [if_neg (by rw [hne]; exact Bool.false_ne_true)]
  refine wpAny_bind (wpAny_setField hT hdT (Array.getElem?_eq_some_iff.mp h3).1 ?_)
  have other : ∀ b, b ≠ T → (s.heap.update T (Obj.mapFields (·.setIfInBounds 3 Value.none))).get? b = s.heap.get? b := fun b hb => Heap.get?_update_other _ _ (Ne.symm hb)
  have noRecord : ∀ b o, s.heap.get? b = some o → (∀ vs, o.data ≠ .fields vs) → b ≠ T := fun b o hb hnf q => by
    rw [q, hT] at hb; injection hb with hb; subst hb; exact hnf ts hdT
  refine wpAny_entryZ hZ hfr (hl.of_keeps fun b o hb hnf => ⟨o, (other b (noRecord b o hb hnf)).trans hb, rfl⟩) hf ((other e (Ne.symm hTe)).trans he)
    (fun b o hbo => (other b fun q => by rw [q, hnT] at hbo; cases hbo).trans (hkb b o hbo)) hen hd (Array.getElem?_eq_some_iff.mp h1).1 hz fun h' hN => ?_
  obtain ⟨x1, x2, x3, x4⟩ := hN
  exact hQ h' ⟨x1, hen, x2, x3⟩ fun b o hb hnf => x4 b o ((other b (noRecord b o hb hnf)).trans hb) hnf
open HandSPX in
/-- the exception in the air of this frame is noted -/
theorem sky_note {C : Addr} {Q : Unit → Shared → Prop} (hZ : Steady Z) (hfr : A.frames = some (env :: outer)) (hf : env.frame = some L) (hCL : C ≠ L) (x : Sky base (env :: outer) e Z C s.heap)
    (hQ : ∀ h', HeldZ base (env :: outer) e Z L h' → s.heap.UpToSlots h' → Q () { s with heap := h' }) : wpAny M A (noteFrame (.ref e) env) Q E s := by
  rcases x with ⟨hB, hn, hl, oe, vs, he, hz, hd, h1⟩ | fl | hh
  · exact look_newZ hZ hfr hl hf he hB hn hd h1 hz hQ
  · exact looks_onZ hZ hfr hf fl hQ
  · obtain ⟨a1, a2, a3, a4⟩ := hh
    refine looks_anyZ hZ hfr hf a1 a2 a3 a4 ?_ hQ
    have hz : ¬ (((C : Nat) : Int) = ((L : Nat) : Int)) := fun h => hCL (Int.ofNat_inj.mp h)
    simp [rawInt]
    exact hz
end
theorem upToSlots_ns {h h' : Heap} {L : Addr} {m : Str → Option Value} (hn : h.Ns L m) (hk : h.UpToSlots h') : h'.Ns L m := by
  obtain ⟨oL, es, ep, hoL, hdL, r⟩ := hn
  obtain ⟨sl, e⟩ := hk L oL hoL fun vs q => by rw [hdL] at q; cases q
  exact ⟨_, es, ep, e, hdL, r⟩
theorem hideC (h : Heap) (C : Addr) : ∃ G : Heap, (∀ b, b ≠ C → G.get? b = h.get? b) ∧ G.get? C = none := by
  obtain ⟨G, g1, g2⟩ := restrict h fun b => decide (b ≠ C)
  exact ⟨G, fun b hb => g1 b (decide_eq_true hb), g2 C (by simp)⟩
section
variable {X : Cx} {W : WX}
/-- what the block of a comprehension (at C, its frame ce) wishes of an exception, is had where the def takes it -/
theorem takes_blk {pins : List (Addr × Obj)} {σ : L2.St} {H3 : Hp} {s3 : Shared} {scope : Scope} {ce : Env} {fp : List Addr} {use : Option (Value → Sem Unit)} {Qf : Value → Shared → Prop} {D : Addr}
    (hstk : X.stack = X.env :: X.outer) (hfr : X.env.frame = some X.env.locals) (tk : Takes X W) (I3 : L2.Inv X pins σ H3 s3) (f3 : ∀ b ∈ fp, FpOk X pins H3 b) (cL : ce.locals = s3.heap.objs.size) (cf : ce.frame = X.env.frame) :
    Takes ((X.blk s3 H3 scope ce fp).wish (notedBy (model X.prog X.w) X.A ce fun e s' => compEnds (model X.prog X.w) X.A X.xe use Qf (.ref D) ce (.error e) s')) (fun c d _ H => W c d σ H) := by
  rintro u s' ⟨a, B, sI, pins', σ', H', cls, d, rfl, I', nb, up, sky, na, os, ag, w⟩
  have I' : L2.Inv (X.blk s3 H3 scope ce fp) pins' σ' H' sI := I'.unwish
  have nb : ∀ b o, sI.heap.get? b = some o → b ∉ frs X.stack → B.get? b = some o := nb
  have sky : Sky B X.stack a (Zc cls d) ce.locals s'.heap := sky
  have w : W cls d σ H' := w
  rw [cL] at sky
  have hLlt : X.env.locals < s3.heap.objs.size := I3.lt
  have hCL : s3.heap.objs.size ≠ X.env.locals := Nat.ne_of_gt hLlt
  have hframes : X.A.frames = some (X.env :: X.outer) := by rw [I3.ok.frames, hstk]
  rw [hstk] at sky
  -- the frame's note is X.env's
  show wpAny (model X.prog X.w) X.A (noteFrame (.ref a) ce) _ _ s'
  rw [noteFrame_env _ cf]
  refine sky_note Zc.steady hframes hfr hCL sky fun h1 hh up1 => ?_
  -- the block is let go
  have upI : sI.heap.UpToSlots h1 := up.trans up1
  obtain ⟨m, hn, _⟩ := I'.loc
  have hn : sI.heap.Ns ce.locals m := hn
  rw [cL] at hn
  have hn1 : h1.Ns s3.heap.objs.size m := upToSlots_ns hn upI
  show CompFails _ _ _ _ _ _
  refine ⟨m, by rw [cL]; exact hn1, fun h2 m2 hn2 hs2 => ?_⟩
  rw [cL] at hn2 hs2
  -- the ground without the block
  obtain ⟨B2, b1, b2⟩ := hideC B s3.heap.objs.size
  obtain ⟨G, g1, g2⟩ := hideC sI.heap s3.heap.objs.size
  obtain ⟨hB, hBa, hFF, ⟨oe, vs, T, oT, ts, te, tz, td, t1, tT, tTe, tTo, tTd, t3⟩⟩ := hh
  have nC : ∀ (b : Addr) (o : Obj), h1.get? b = some o → (∃ vs, o.data = .fields vs) → b ≠ s3.heap.objs.size := fun b o e ⟨vs, ev⟩ z => by
    obtain ⟨oC, es, ep, e1, e2, _⟩ := hn1
    rw [z, e1] at e
    cases e
    rw [e2] at ev; cases ev
  have aC := nC a oe te ⟨_, td⟩
  have TC := nC T oT tTo ⟨_, tTd⟩
  have st2 : B2.StaysIn h2 := fun b o e => by
    by_cases hb : b = s3.heap.objs.size
    · rw [hb, b2] at e; cases e
    · rw [b1 b hb] at e
      exact (hs2.2 b hb).trans (hB b o e)
  have B2n : ∀ b, B.get? b = none → B2.get? b = none := fun b e => by
    by_cases hb : b = s3.heap.objs.size
    · rw [hb]; exact b2
    · rw [b1 b hb]; exact e
  have ff2 : h2.FunFrames B2 (X.env :: X.outer) := by
    have f0 : h1.FunFrames B2 (X.env :: X.outer) := funFrames_none hFF fun b hb => B2n b (hFF.mem hb).1
    exact Heap.FunFrames.sameBut hs2 hn2 f0
  have held2 : HandSPX.HeldZ B2 (X.env :: X.outer) a (Zc cls d) X.env.locals h2 :=
    ⟨st2, B2n a hBa, ff2, oe, vs, T, oT, ts, (hs2.2 a aC).trans te, tz, td, t1, B2n T tT, tTe, (hs2.2 T TC).trans tTo, tTd, t3⟩
  unfold PySem.passOn
  refine wpAny_bind (wpAny_field ((hs2.2 a aC).trans te) td t1 ?_)
  rw [if_neg (show ¬ ((Value.ref T == Value.none) = true) from by simp)]
  rw [cf, hfr]
  refine wpAny_bind (HandSPX.setFlight_onZ held2 fun h4 held4 up4 => ?_)
  refine wpAny_throw ?_
  -- the def takes it
  have HC : H' s3.heap.objs.size = none := by
    have z : H' ce.locals = none := I'.free
    rw [cL] at z; exact z
  have hokG : HOk X.prog X.w H' G := fun b o e => (I'.hok b o e).stay (fun c v hc q => by
      rw [g1 c ?_]; exact q
      rintro rfl
      rcases hc with rfl | hc
      · rw [HC] at e; cases e
      · rw [HC] at hc; cases hc) (fun _ q => q) fun _ _ q => q
  have nC3 : ∀ b o, s3.heap.get? b = some o → b ≠ s3.heap.objs.size := fun b o e => Nat.ne_of_lt (Heap.lt_size e)
  have bs : Un (frs X.stack) fp H3 H' s3.heap sI.heap := I'.base
  have un : Un (frs X.stack) fp H3 H' s3.heap G :=
    ⟨fun b o e n h1 h2 => by rw [g1 b (nC3 b o e)]; exact bs.keep b o e n h1 h2, fun b o e n h1 h2 => by rw [g1 b (nC3 b o e)]; exact bs.slot b o e n h1 h2, bs.free, fun b o e h2 => by rw [g1 b (nC3 b o e)]; exact bs.there b o e h2, bs.tups, bs.frzs, bs.tbls⟩
  have osI : sI.os = s3.os := I'.os
  have IX : L2.Inv X pins σ H' { sI with heap := G } := I3.call' (s' := { sI with heap := G }) (ch := fp) osI un hokG I'.bare fun b hb => ⟨(f3 b hb).2.2.2.1, (f3 b hb).2.1, (f3 b hb).2.2.2.2.1, (f3 b hb).2.2.2.2.2⟩
  refine tk _ _ ⟨a, B2, { sI with heap := G }, pins, σ, H', cls, d, rfl, IX, fun b o e hb => ?_, ?_, .inr (.inr ?_), na, os, ag, w⟩
  · by_cases hbC : b = s3.heap.objs.size
    · have e : G.get? b = some o := e
      rw [hbC, g2] at e; cases e
    · have e : G.get? b = some o := e
      rw [g1 b hbC] at e
      rw [b1 b hbC]
      exact nb b o e hb
  · intro b o e hnf
    have e : G.get? b = some o := e
    by_cases hbC : b = s3.heap.objs.size
    · rw [hbC, g2] at e; cases e
    · rw [g1 b hbC] at e
      obtain ⟨sl, q⟩ := upI b o e hnf
      have q2 : h2.get? b = some { o with slots := sl } := (hs2.2 b hbC).trans q
      obtain ⟨sl2, q3⟩ := up4 b _ q2 hnf
      exact ⟨sl2, q3⟩
  · rw [hstk]; exact held4
end
end XM
/-! ## XMd -/
set_option maxHeartbeats 200000
set_option linter.all false
set_option autoImplicit false
set_option maxRecDepth 100000
set_option maxHeartbeats 2000000
namespace XM
open PySem PySem.Spec
open PyProof.Rows hiding St
open L2 hiding Rd Rd.of Rd.ok
section
variable {X : Cx} {W : WX}
/-- a block's wish: what the def takes at its slots -/
abbrev WB (W : WX) (σ : L2.St) : WX := fun c d _ H => W c d σ H
theorem lc_coreX {pins : List (Addr × Obj)} {s : Shared} {σ : L2.St} {H : Hp} {Q : VK} {elt tg iter : Expr} {ifs : List Expr} {scope : Scope} {own : List (Str × Nat)} {pos pos' : Pos} {wi : TI} {g : TG} {tt : L2.St → TT} {te : L2.St → TE} {use : Option (Value → Sem Unit)} {Qf : Value → Shared → Prop}
    (hc : X.calm = true) (hN : X.N.Nodup) (hstk : X.stack = X.env :: X.outer) (hfr : X.env.frame = some X.env.locals) (tk : Takes X W) (I : L2.Inv X pins σ H s) (hi : PI X tg iter wi) (ok : BlkOk X.N X.env.scope scope own)
    (hg : ∀ (s : Shared) (H : Hp) (C : Addr) (cl : List (Str × Addr)) (fp : List Addr), PG (X.blk s H scope (compEnvC scope cl C X.env) fp) tg g)
    (ht : ∀ (s : Shared) (H : Hp) (C : Addr) (cl : List (Str × Addr)) (fp : List Addr) (xe : Value → Shared → Prop), Takes ((X.blk s H scope (compEnvC scope cl C X.env) fp).wish xe) (WB W σ) → PTs ((X.blk s H scope (compEnvC scope cl C X.env) fp).wish xe) ifs (tt σ))
    (he : ∀ (s : Shared) (H : Hp) (C : Addr) (cl : List (Str × Addr)) (fp : List Addr) (xe : Value → Shared → Prop), Takes ((X.blk s H scope (compEnvC scope cl C X.env) fp).wish xe) (WB W σ) → PE ((X.blk s H scope (compEnvC scope cl C X.env) fp).wish xe) elt (te σ)) (hs : ∀ x, foldedSetIterable iter X.env x = pure x)
    (h : tLc wi g (tt σ) (te σ) (own.map (·.2)) σ H Q)
    (hRR : ∀ D C s' m H', L2.Inv X pins σ H' s' → Q (.ref D) H' → s'.heap.Ns C m → FpOk X pins H' C → ∀ ce : Env, ce.locals = C → compEnds (model X.prog X.w) X.A X.xe use Qf (.ref D) ce (.ok .next) s') :
    wpAny (model X.prog X.w) X.A (comprehension (.ListComp elt [⟨tg, iter, ifs, 0⟩] scope pos) scope X.env pos' (newList []) false (eval iter X.env) use) Qf X.xe s := by
  have hfree : ∀ y ∈ scope.names, y.2 = .free → ∃ c, X.env.cells.lookup y.1 = some c := fun y hy e => by
    rcases ok.free y hy e with k | k
    · exact I.ok.has _ (.inl k)
    · exact I.ok.has _ (.inr k)
  refine comprehension_at (use := use) rfl hs (closure_ok hfree) ok.kind (fun y hy e => by rw [ok.uniq y hy, e])
    (thn (hi.run pins s σ H _ I h) fun xv s1 hx => thn hx fun itv s2 h2 => ?_)
  obtain ⟨it, fp, tn, J, H2, e, I2, T, st2, f2, q⟩ := h2
  subst e
  refine wpAny_newObj_type (newEnv_comp ?_) (by show 0 ≤ sizeLine; decide)
  generalize hD : s2.heap.objs.size = D
  have hDn : H2 D = none := I2.hok.fresh (Nat.le_of_eq hD)
  obtain ⟨W0, ⟨m0, w0⟩, turn⟩ := q D hDn
  -- the new list
  generalize hs3 : ({ s2 with heap := s2.heap.push { cls := .type "list", data := .seq ([] : List Value).toArray } } : Shared) = s3
  have I3 : L2.Inv X pins σ (upd H2 D (.lst [])) s3 := by
    rw [← hs3]
    refine I2.laid (t' := s2.toks) (fun b o e => Heap.get?_push_of_some _ e) (Nat.le_of_eq hD) ⟨Nat.zero_le _, [], 0, .nil, ?_⟩
    rw [← hD]
    exact Heap.get?_push_size _ rfl
  have h3 : s3.heap = s2.heap.push { cls := .type "list", data := .seq ([] : List Value).toArray } := by rw [← hs3]
  have sz : ∀ b ∈ fp, b < s2.heap.objs.size := fun b hb => by
    obtain ⟨o, e, _⟩ := T.obj _ _ st2 b hb
    exact Heap.lt_size e
  have f3 : ∀ b ∈ fp, FpOk X pins (upd H2 D (.lst [])) b ∧ b < s3.heap.objs.size := fun b hb => by
    have hlt := sz b hb
    refine ⟨⟨?_, (f2 b hb).2⟩, by rw [h3, Heap.size_push]; exact Nat.lt_succ_of_lt hlt⟩
    rw [upd_ne (by rw [← hD]; exact Nat.ne_of_lt hlt)]
    exact (f2 b hb).1
  have st3 : tn 0 s3.heap := T.keep _ _ _ st2 fun b _ o e => by rw [h3]; exact Heap.get?_push_of_some _ e
  have I4 := block_start I3 ok hN f3
  have pg := hg s3 (upd H2 D (.lst [])) s3.heap.objs.size (cellsFrom (s3.heap.objs.size + 1) scope.names (cloFrom X.env.cells scope.names [])) fp
  have pt := ht s3 (upd H2 D (.lst [])) s3.heap.objs.size (cellsFrom (s3.heap.objs.size + 1) scope.names (cloFrom X.env.cells scope.names [])) fp
  have pe := he s3 (upd H2 D (.lst [])) s3.heap.objs.size (cellsFrom (s3.heap.objs.size + 1) scope.names (cloFrom X.env.cells scope.names [])) fp
  show codeAny _ _ (.compStart (.ListComp elt [⟨tg, iter, ifs, 0⟩] scope pos) 0 (.ref it) (.ref D) (compEnvC scope (cellsFrom (s3.heap.objs.size + 1) scope.names (cloFrom X.env.cells scope.names [])) s3.heap.objs.size X.env)) (compEnds (model X.prog X.w) X.A X.xe use Qf (.ref D) (compEnvC scope (cellsFrom (s3.heap.objs.size + 1) scope.names (cloFrom X.env.cells scope.names [])) s3.heap.objs.size X.env)) { s3 with heap := pushCells (s3.heap.push { cls := .type "dict", data := .dict #[] }) scope.names }
  have nfp : ∀ b ∈ fp, (upd H2 D (.lst [])) b = none := fun b hb => (f3 b hb).1.1
  have cf0 : (compEnvC scope (cellsFrom (s3.heap.objs.size + 1) scope.names (cloFrom X.env.cells scope.names [])) s3.heap.objs.size X.env).frame = X.env.frame := rfl
  generalize hce : compEnvC scope (cellsFrom (s3.heap.objs.size + 1) scope.names (cloFrom X.env.cells scope.names [])) s3.heap.objs.size X.env = ce at I4 pg pt pe cf0 ⊢
  have cL : ce.locals = s3.heap.objs.size := by subst hce; rfl
  generalize hH3 : upd H2 D (.lst []) = H3 at I3 I4 pg pt pe w0 nfp f3
  have tkb := takes_blk (scope := scope) (ce := ce) (fp := fp) (use := use) (Qf := Qf) (D := D) hstk hfr tk I3 (fun b hb => (f3 b hb).1) cL cf0
  generalize hxe : (notedBy (model X.prog X.w) X.A ce fun e s' => compEnds (model X.prog X.w) X.A X.xe use Qf (.ref D) ce (.error e) s') = xe at tkb
  have pt := pt xe tkb
  have pe := pe xe tkb
  generalize hs4 : ({ s3 with heap := pushCells (s3.heap.push { cls := .type "dict", data := .dict #[] }) scope.names } : Shared) = s4 at I4 ⊢
  have st4 : tn 0 s4.heap := T.keep _ _ _ st3 fun b _ o e => by rw [← hs4]; exact pushCells_keeps _ _ _ _ (Heap.get?_push_of_some _ e)
  have stat : ∀ {σ' : L2.St} {H' : Hp} {s' : Shared}, L2.Inv (X.blk s3 H3 scope ce fp) [] σ' H' s' → (∀ b ∈ fp, H' b = none) → ∀ b ∈ fp, FpOk (X.blk s3 H3 scope ce fp) [] H' b := fun {σ' H' s'} I' hn b hb =>
    ⟨hn b hb, (I'.ok.exf b hb).1, I'.ok.exfs b hb, .inl hb, fun x c e => (I'.ok.exf b hb).2 x c e, fun p hp => absurd (show p ∈ ([] : List (Addr × Obj)) ++ [] from hp) (by simp)⟩
  have loop : codeAny (model X.prog X.w) X.A (.compLoop (.ListComp elt [⟨tg, iter, ifs, 0⟩] scope pos) 0 (.ref it) (.ref D) ce) (compEnds (model X.prog X.w) X.A X.xe use Qf (.ref D) ce) s4 := by
    refine compLoop_any (fun n s' => ∃ i H', L2.Inv (X.blk s3 H3 scope ce fp) [] (wipe σ (own.map (·.2))) H' s' ∧ tn i s'.heap ∧ (∀ b ∈ fp, H' b = none) ∧ W0 i n H') ?_ m0 ⟨0, H3, I4, st4, nfp, w0⟩
    rintro n s5 ⟨i, H5, I5, st5, n5, w5⟩
    rw [hxe]
    rcases turn i n H5 w5 with ⟨stop, qq⟩ | ⟨go, Nx, hNx, step⟩
    · have td := T.done (X.blk s3 H3 scope ce fp) rfl rfl rfl hc i [] s5 _ H5 (fun _ _ => False) I5 (stat I5 n5) st5 stop
      refine thnF td fun r s6 ⟨hr, I6⟩ => ?_
      subst hr
      -- back in the def's context
      have I7 : L2.Inv X pins σ H5 s6 := I3.call' (ch := fp) I6.os I6.base I6.hok I6.bare fun b hb => ⟨(f3 b hb).1.2.2.2.1, (f3 b hb).1.2.1, (f3 b hb).1.2.2.2.2.1, (f3 b hb).1.2.2.2.2.2⟩
      have nC : H5 s3.heap.objs.size = none := by
        have z : H5 ce.locals = none := I6.free
        rw [cL] at z
        exact z
      obtain ⟨m, hn, _⟩ := I6.loc
      have hn : s6.heap.Ns ce.locals m := hn
      rw [cL] at hn
      exact hRR D s3.heap.objs.size s6 m H5 I7 qq hn (I3.fpOk (Nat.le_refl _) nC) ce cL
    · have ti := T.item (X.blk s3 H3 scope ce fp) rfl rfl rfl hc i [] s5 _ H5 (fun _ _ => False) I5 (stat I5 n5) st5 go
      refine thnF ti fun r s6 ⟨u, hr, h6⟩ => ?_
      subst hr
      refine thnF h6 fun _ s7 ⟨x, H7, I7, r7, y7, st7, n7⟩ => ?_
      have I7' := I7.pinned (stat I7 n7) (T.obj _ _ st7)
      refine thnF (pg.run _ s7 _ H7 x u _ I7' r7 (step x H7 y7)) fun _ s8 ⟨σ8, H8, I8, hw8, q8⟩ => ?_
      refine thn (pt.run _ s8 σ8 H8 _ (I8.wish xe) q8) fun b s9 ⟨H9, I9, q9⟩ => ?_
      have I9 := I9.unwish
      -- the turn's end
      have fin : ∀ {s' : Shared} {H' : Hp}, L2.Inv (X.blk s3 H3 scope ce fp) ([] ++ pinsAt fp s7.heap) σ8 H' s' → Nx H' → ∃ m, m < n ∧ ∃ i H', L2.Inv (X.blk s3 H3 scope ce fp) [] (wipe σ (own.map (·.2))) H' s' ∧ tn i s'.heap ∧ (∀ b ∈ fp, H' b = none) ∧ W0 i m H' := fun {s' H'} I' nx => by
        obtain ⟨m', hm, w'⟩ := hNx H' nx
        have pin' : ∀ b ∈ fp, ∀ o, s7.heap.get? b = some o → s'.heap.get? b = some o ∧ H' b = none := fun b hb o e =>
          let z := I'.pin (b, o) (List.mem_append_right _ (List.mem_append_right _ (mem_pinsAt hb e)))
          ⟨z.1, z.2.1⟩
        have hl : (wipe σ (own.map (·.2))).length = σ8.length := by rw [← hw8, wipe_length]
        refine ⟨m', hm, i + 1, H', (I'.unpinned (pins := [])).weak hl (fun j v e => ?_), T.keep _ _ _ st7 fun b hb o e => (pin' b hb o e).1, fun b hb => ?_, w'⟩
        · rw [← hw8] at e
          exact (wipe_some e).1
        · obtain ⟨o, e, _⟩ := T.obj _ _ st7 b hb
          exact (pin' b hb o e).2
      cases b with
      | false =>
        simp only [Bool.false_eq_true, if_false] at q9 ⊢
        exact fin I9 q9
      | true =>
        simp only [if_true] at q9 ⊢
        refine thn (pe.run _ s9 σ8 H9 _ (I9.wish xe) q9) fun z s10 ⟨yv, H10, I10, r10, acc, hD10, hz10, nx⟩ => ?_
        exact app_ok (X := X.blk s3 H3 scope ce fp) I10.unwish hD10 hz10 r10 fun s11 I11 => fin I11 nx
  exact codeAny_compStart_list loop (T.self X.A 0 _ _ _ st4 loop)
/-- as a value -/
theorem pe_lcX {elt tg iter : Expr} {ifs : List Expr} {scope : Scope} {own : List (Str × Nat)} {pos : Pos} {wi : TI} {g : TG} {tt : L2.St → TT} {te : L2.St → TE} (hc : X.calm = true) (hN : X.N.Nodup) (hstk : X.stack = X.env :: X.outer) (hfr : X.env.frame = some X.env.locals) (tk : Takes X W) (hi : PI X tg iter wi) (ok : BlkOk X.N X.env.scope scope own)
    (hg : ∀ (s : Shared) (H : Hp) (C : Addr) (cl : List (Str × Addr)) (fp : List Addr), PG (X.blk s H scope (compEnvC scope cl C X.env) fp) tg g)
    (ht : ∀ (σ : L2.St) (s : Shared) (H : Hp) (C : Addr) (cl : List (Str × Addr)) (fp : List Addr) (xe : Value → Shared → Prop), Takes ((X.blk s H scope (compEnvC scope cl C X.env) fp).wish xe) (WB W σ) → PTs ((X.blk s H scope (compEnvC scope cl C X.env) fp).wish xe) ifs (tt σ))
    (he : ∀ (σ : L2.St) (s : Shared) (H : Hp) (C : Addr) (cl : List (Str × Addr)) (fp : List Addr) (xe : Value → Shared → Prop), Takes ((X.blk s H scope (compEnvC scope cl C X.env) fp).wish xe) (WB W σ) → PE ((X.blk s H scope (compEnvC scope cl C X.env) fp).wish xe) elt (te σ)) (hs : ∀ x, foldedSetIterable iter X.env x = pure x := by intro _; rfl) :
    PE X (.ListComp elt [⟨tg, iter, ifs, 0⟩] scope pos) (fun σ => tLc wi g (tt σ) (te σ) (own.map (·.2)) σ) := by
  refine ⟨fun pins s σ H Q I h => ?_⟩
  rw [eval_ListComp]
  refine lc_coreX hc hN hstk hfr tk I hi ok hg (ht σ) (he σ) hs h fun D C s' m H' I' q hn f ce hce => ?_
  subst hce
  refine ⟨m, hn, fun h'' sb => ?_⟩
  obtain ⟨f0, f1, f2, f3, f4, f5⟩ := f
  exact ⟨.ref D, H', I'.turned (t' := s'.toks) (fun b o hb e => (sb.2 b hb).trans e) f0 f1 f3 f4 f5, rfl, q⟩
end
end XM
/-! ## XMe -/
set_option maxHeartbeats 200000
set_option linter.all false
set_option autoImplicit false
set_option maxRecDepth 100000
namespace XM
open PySem PySem.Spec
open PyProof.Rows hiding St
open L2 hiding Rd Rd.of Rd.ok
/-! ### what is walked -/
inductive It' where
  | seq (d : D) | enum (d : D) | zip (a b : D) | rng (lo : Int) (n : Nat) | str (x : Str)
/-- the i-th item: none where the function knows nothing, some none behind the end -/
def It'.at (M : Mem) (i : Nat) : It' → Option (Option D)
  | .seq d => match d.seq M with
    | some ds => some ds[i]?
    | none => none
  | .enum d => match d.seq M with
    | some ds => some (match ds[i]? with
      | some x => some (.tup [.int i, x])
      | none => none)
    | none => none
  | .zip a b => match a.seq M, b.seq M with
    | some xs, some ys => some (match xs[i]?, ys[i]? with
      | some x, some y => some (.tup [x, y])
      | _, _ => none)
    | _, _ => none
  | .rng lo n => some (if i < n then some (.int (lo + i)) else none)
  | .str x => some (match x.cps[i]? with
    | some c => some (.str ⟨#[c]⟩)
    | none => none)
section
variable (K : PySem.W.Frag) (ca : Nat → Addr)
/-- an iterator's words from this state on -/
def JOk (s : SM) (J : It) (it : It') : Prop := ∀ s1, Ext s s1 → Abs K ca s1 → ∀ i,
  (it.at s1.M i = some none → J.stop i s1.H) ∧
  (∀ d, it.at s1.M i = some (some d) → J.go i s1.H ∧ ∀ x H', J.yld i s1.H x H' → ∃ s2, s2.H = H' ∧ s2.M = s1.M ∧ Ext s1 s2 ∧ Abs K ca s2 ∧ Is K s2 d x)
def XI (W : WX) (f : Lc → Mem → Res It') : TI := fun σ H R => ∃ L s, Sta K ca s L σ H ∧ SatG K ca (fun s' it => ∀ J, JOk K ca s' J it → R J s'.H) (fun c d H => W c d σ H) s (f L s.M)
end
section
variable {X : Cx} {ca : Nat → Addr} {W : WX} {e e2 tg : Expr} {f g : EM} {fs : AM} {p pos : Pos}
theorem XI.mono' {K : PySem.W.Frag} {f : Lc → Mem → Res It'} {σ : L2.St} {H : Hp} {R R' : It → Hp → Prop} (h : XI K ca W f σ H R) (hr : ∀ J H, R J H → R' J H) : XI K ca W f σ H R' := by
  obtain ⟨L, s, S, q⟩ := h
  exact ⟨L, s, S, SatG.imp (fun s' it hh J hJ => hr _ _ (hh J hJ)) q⟩
theorem PI.imp {iter : Expr} {t t' : TI} (h : PI X tg iter t) (hi : ∀ σ H R, t' σ H R → t σ H R) : PI X tg iter t' := ⟨fun pins s σ H R I q => h.run pins s σ H R I (hi _ _ _ q)⟩
/-- a list or a tuple -/
def iSeq (K : PySem.W.Frag) (tl : TE) : TI := fun σ H R => tl σ H fun x H1 => ∃ a, x = .ref a ∧ (((∃ xs, SqL K H1 a xs) ∧ R (Itl K a) H1) ∨ ((∃ xs, SqT K H1 a xs) ∧ R (Itt K a) H1))
theorem pi_seq {l : Expr} {tl : TE} (hl : PE X l tl) : PI X tg l (iSeq X.K tl) := by
  refine ⟨fun pins s σ H R I h => ?_⟩
  refine thn (hl.run pins s σ H _ I h) fun v s1 ⟨x, H1, I1, r1, q1⟩ => ?_
  obtain ⟨a, e, q⟩ := q1
  subst e
  cases r1
  have fp : ∀ b ∈ [s1.heap.objs.size], FpOk X pins H1 b := fun b hb => by
    have e : b = s1.heap.objs.size := by simpa using hb
    subst e
    exact I1.fpOk (Nat.le_refl _) (I1.hok.fresh (Nat.le_refl _))
  rcases q with ⟨⟨xs, hq⟩, q⟩ | ⟨⟨xs, hq⟩, q⟩
  · obtain ⟨its, rv, p, hz⟩ := I1.list hq
    refine wpAny_pyIter_list p.isList ?_
    exact ⟨s1.heap.objs.size, [s1.heap.objs.size], _, _, H1, rfl, I1.kept (t' := s1.toks) fun b o e => Heap.get?_push_of_some _ e, turn_list a _, ⟨_, Heap.get?_push_size _ rfl, rfl, rfl⟩, fp, q⟩
  · obtain ⟨its, rv, p, hz⟩ := I1.tuple hq
    refine wpAny_pyIter_tuple (show s1.heap.IsTuple a its.toArray from p) ?_
    exact ⟨s1.heap.objs.size, [s1.heap.objs.size], _, _, H1, rfl, I1.kept (t' := s1.toks) fun b o e => Heap.get?_push_of_some _ e, turn_tuple a _, ⟨_, Heap.get?_push_size _ rfl, rfl, rfl⟩, fp, q⟩
/-- the tracked thing is a list throughout, or a tuple throughout -/
theorem seq_kind {K : PySem.W.Frag} {s : SM} {d : D} {v : V} {ds : List D} (A : Abs K ca s) (h : Is K s d v) (e : d.seq s.M = some ds) : ∃ a, v = .ref a ∧
    ((∀ s1, Ext s s1 → Abs K ca s1 → ∀ es, d.seq s1.M = some es → ∃ vs, SqL K s1.H a vs ∧ IsL K s1 es vs) ∨ (∀ s1, Ext s s1 → Abs K ca s1 → ∀ es, d.seq s1.M = some es → ∃ vs, SqT K s1.H a vs ∧ IsL K s1 es vs)) := by
  cases d with
  | tup es =>
    have h0 := h
    simp only [Is] at h0; obtain ⟨a, vs, rfl, h1, h2⟩ := h0
    refine ⟨a, rfl, .inr fun s1 x A1 es' e' => ?_⟩
    cases e'
    exact ⟨vs, SqT.keep A x h1, h2.mono A x⟩
  | lst es =>
    simp only [Is] at h; obtain ⟨a, vs, rfl, h1, n, h2⟩ := h
    refine ⟨a, rfl, .inl fun s1 x A1 es' e' => ?_⟩
    cases e'
    exact ⟨vs, SqL.of (x.keep a _ h1 n.1), h2.mono A x⟩
  | fz es =>
    simp only [Is] at h; obtain ⟨a, vs, rfl, h1, h2⟩ := h
    refine ⟨a, rfl, .inl fun s1 x A1 es' e' => ?_⟩
    cases e'
    exact ⟨vs, (FzL.keep A x h1).sq, h2.mono A x⟩
  | ref i =>
    have h0 := h
    simp only [Is] at h0
    refine ⟨_, h0.1, .inl fun s1 x A1 es' e' => ?_⟩
    simp only [D.seq] at e'
    split at e'
    · rename_i es q
      cases e'
      obtain ⟨e1, vs, e2, e3⟩ := is_mem A1 (h.mono A x) q
      rw [x.rho i h0.2] at e2
      exact ⟨vs, SqL.of e2, e3⟩
    · cases e'
  | _ => cases e
theorem sqL_inj {K : PySem.W.Frag} {H : Hp} {a : Addr} {xs ys : List V} (h : SqL K H a xs) (h' : ∀ zs, SqL K H a zs → zs[0]? = zs[0]? → True) : True := trivial
theorem jok_list {K : PySem.W.Frag} {s : SM} {d : D} {a : Addr} (h : ∀ s1, Ext s s1 → Abs K ca s1 → ∀ es, d.seq s1.M = some es → ∃ vs, SqL K s1.H a vs ∧ IsL K s1 es vs) : JOk K ca s (Itl K a) (.seq d) := fun s1 x A1 i => by
  refine ⟨fun e => ?_, fun z e => ?_⟩
  · simp only [It'.at] at e
    split at e
    · rename_i es q
      obtain ⟨vs, h1, h2⟩ := h s1 x A1 es q
      have e : es[i]? = none := by simpa using e
      exact ⟨vs, h1, by rw [h2.length]; exact List.getElem?_eq_none_iff.mp e⟩
    · cases e
  · simp only [It'.at] at e
    split at e
    · rename_i es q
      obtain ⟨vs, h1, h2⟩ := h s1 x A1 es q
      have e : es[i]? = some z := by simpa using e
      obtain ⟨v, h3, h4⟩ := h2.get e
      refine ⟨⟨vs, v, h1, h3⟩, fun y H' hy => ?_⟩
      obtain ⟨rfl, hy⟩ := hy
      have : v = y := Option.some.inj (h3.symm.trans (hy vs h1))
      subst this
      exact ⟨s1, rfl, rfl, Ext.refl _, A1, h4⟩
    · cases e
theorem jok_tup {K : PySem.W.Frag} {s : SM} {d : D} {a : Addr} (h : ∀ s1, Ext s s1 → Abs K ca s1 → ∀ es, d.seq s1.M = some es → ∃ vs, SqT K s1.H a vs ∧ IsL K s1 es vs) : JOk K ca s (Itt K a) (.seq d) := fun s1 x A1 i => by
  refine ⟨fun e => ?_, fun z e => ?_⟩
  · simp only [It'.at] at e
    split at e
    · rename_i es q
      obtain ⟨vs, h1, h2⟩ := h s1 x A1 es q
      have e : es[i]? = none := by simpa using e
      exact ⟨vs, h1, by rw [h2.length]; exact List.getElem?_eq_none_iff.mp e⟩
    · cases e
  · simp only [It'.at] at e
    split at e
    · rename_i es q
      obtain ⟨vs, h1, h2⟩ := h s1 x A1 es q
      have e : es[i]? = some z := by simpa using e
      obtain ⟨v, h3, h4⟩ := h2.get e
      refine ⟨⟨vs, v, h1, h3⟩, fun y H' hy => ?_⟩
      obtain ⟨rfl, hy⟩ := hy
      have : v = y := Option.some.inj (h3.symm.trans (hy vs h1))
      subst this
      exact ⟨s1, rfl, rfl, Ext.refl _, A1, h4⟩
    · cases e
def iK1 (k : D → It') (d : D) (M : Mem) : Res It' := match d.seq M with
  | some _ => .ok (k d) M
  | none => .stk
def mISeq (f : EM) : Lc → Mem → Res It' := fun L M => (f L M).bind (iK1 .seq)
theorem xi_seq (he : PE X e (XT X.K ca W f)) : PI X tg e (XI X.K ca W (mISeq f)) := PI.imp (pi_seq he) fun σ H R ⟨L, s, S, q⟩ =>
  XT.mono (xt_seq S (k := iK1 .seq) q) fun x H1 ⟨s1, d, S1, E1, I1, q1⟩ => by
    unfold iK1 at q1
    split at q1
    · rename_i ds e1
      obtain ⟨a, rfl, hk⟩ := seq_kind S1.a I1 e1
      obtain ⟨b, vs, eb, hb, _⟩ := seq_is S1.a I1 e1
      cases eb
      have q2 : ∀ J, JOk X.K ca s1 J _ → R J s1.H := q1 s1 rfl (Ext.refl _) S1.a
      rw [S1.h] at q2
      rcases hk with hk | hk
      · obtain ⟨vs, h1, _⟩ := hk s1 (Ext.refl _) S1.a ds e1
        rw [S1.h] at h1
        exact ⟨a, rfl, .inl ⟨⟨vs, h1⟩, q2 _ (jok_list hk)⟩⟩
      · obtain ⟨vs, h1, _⟩ := hk s1 (Ext.refl _) S1.a ds e1
        rw [S1.h] at h1
        exact ⟨a, rfl, .inr ⟨⟨vs, h1⟩, q2 _ (jok_tup hk)⟩⟩
    · exact q1.elim
/-- a text's signs -/
def iStrK : D → Mem → Res It'
  | .str x, M => .ok (.str x) M
  | _, _ => .stk
def mIStr (f : EM) : Lc → Mem → Res It' := fun L M => (f L M).bind iStrK
theorem xi_str (he : PE X e (XT X.K ca W f)) : PI X tg e (XI X.K ca W (mIStr f)) := PI.imp (pi_str he) fun σ H R ⟨L, s, S, q⟩ =>
  XT.mono (xt_seq S (k := iStrK) q) fun y H1 ⟨s1, d, S1, E1, I1, q1⟩ => by
    unfold iStrK at q1
    split at q1
    · rename_i x
      simp only [Is] at I1
      have q2 : ∀ J, JOk X.K ca s1 J _ → R J s1.H := q1 s1 rfl (Ext.refl _) S1.a
      rw [S1.h] at q2
      refine ⟨x, I1, q2 _ fun s2 x2 A2 i => ⟨fun e => ?_, fun z e => ?_⟩⟩
      · simp only [It'.at] at e
        split at e
        · cases e
        · rename_i q
          exact (Array.getElem?_eq_none_iff).mp q
      · simp only [It'.at] at e
        split at e
        · rename_i c q
          cases e
          refine ⟨(Array.getElem?_eq_some_iff.mp q).1, fun v H' hv => ?_⟩
          obtain ⟨rfl, c', h1, rfl⟩ := hv
          have : c = c' := Option.some.inj (q.symm.trans h1)
          subst this
          exact ⟨s2, rfl, rfl, Ext.refl _, A2, by simp only [Is]⟩
        · cases e
    · exact q1.elim
/-- ranges -/
def iRngK1 : List D → Mem → Res It'
  | [.int j], M => if -(2 ^ 62) ≤ j ∧ j < 2 ^ 62 then .ok (.rng 0 j.toNat) M else .stk
  | _, _ => .stk
def iRngK2 : List D → Mem → Res It'
  | [.int i, .int j], M => if -(2 ^ 62) ≤ i ∧ i < 2 ^ 62 ∧ -(2 ^ 62) ≤ j ∧ j < 2 ^ 62 then .ok (.rng i (j - i).toNat) M else .stk
  | _, _ => .stk
def mIRng1 (fs : AM) : Lc → Mem → Res It' := fun L M => (fs L M).bind iRngK1
def mIRng2 (fs : AM) : Lc → Mem → Res It' := fun L M => (fs L M).bind iRngK2
theorem jok_rng {K : PySem.W.Frag} {s : SM} {lo : Int} {n : Nat} : JOk K ca s (Itr lo n) (.rng lo n) := fun s2 x2 A2 i => by
  refine ⟨fun e => ?_, fun z e => ?_⟩
  · simp only [It'.at] at e
    split at e
    · cases e
    · rename_i q; show n ≤ i; omega
  · simp only [It'.at] at e
    split at e
    · rename_i q
      cases e
      refine ⟨q, fun v H' hv => ?_⟩
      obtain ⟨rfl, rfl⟩ := hv
      exact ⟨s2, rfl, rfl, Ext.refl _, A2, by simp only [Is]⟩
    · cases e
theorem xi_rng1 (hg : Gl X "range") (hm : X.mg "range" = none) (ha : PA X [e] (XA X.K ca W fs)) (hs : starEach [e] X.env = [(false, eval e X.env)] := by rfl) : PI X tg (.Call (.Name "range" p) [e] [] pos) (XI X.K ca W (mIRng1 fs)) :=
  PI.imp (pi_range1 hg hm ha hs) fun σ H R ⟨L, s, S, q⟩ => XA.mono (xa_seq S (k := iRngK1) q) fun vs H1 ⟨s1, ds, S1, E1, I1, q1⟩ => by
    unfold iRngK1 at q1
    split at q1
    · split at q1
      · rename_i hb
        obtain ⟨v, rfl, hv⟩ := isl1 I1
        simp only [Is] at hv
        subst hv
        have q2 : ∀ J, JOk X.K ca s1 J _ → R J s1.H := q1 s1 rfl (Ext.refl _) S1.a
        rw [S1.h] at q2
        exact ⟨_, rfl, hb.1, hb.2, q2 _ jok_rng⟩
      · exact q1.elim
    · exact q1.elim
theorem xi_rng2 {e2 : Expr} (hg : Gl X "range") (hm : X.mg "range" = none) (ha : PA X [e, e2] (XA X.K ca W fs)) (hs : starEach [e, e2] X.env = [(false, eval e X.env), (false, eval e2 X.env)] := by rfl) (hs2 : starEach [e2] X.env = [(false, eval e2 X.env)] := by rfl) : PI X tg (.Call (.Name "range" p) [e, e2] [] pos) (XI X.K ca W (mIRng2 fs)) :=
  PI.imp (pi_range2 hg hm ha hs hs2) fun σ H R ⟨L, s, S, q⟩ => XA.mono (xa_seq S (k := iRngK2) q) fun vs H1 ⟨s1, ds, S1, E1, I1, q1⟩ => by
    unfold iRngK2 at q1
    split at q1
    · split at q1
      · rename_i hb
        obtain ⟨v, u, rfl, hv, hu⟩ := isl2 I1
        simp only [Is] at hv hu
        subst hv hu
        have q2 : ∀ J, JOk X.K ca s1 J _ → R J s1.H := q1 s1 rfl (Ext.refl _) S1.a
        rw [S1.h] at q2
        exact ⟨_, _, rfl, hb, q2 _ jok_rng⟩
      · exact q1.elim
    · exact q1.elim
end
end XM
/-! ## XMen -/
set_option maxHeartbeats 200000
set_option linter.all false
set_option autoImplicit false
set_option maxRecDepth 100000
namespace XM
open PySem PySem.Spec
open PyProof.Rows hiding St
open L2 hiding Rd Rd.of Rd.ok
set_option maxHeartbeats 1000000 in
theorem meets_enum1 {v : Value} {o : Obj} {H : Heap → Prop} (B : Begins v o H) :
    Meets (Builtin.«enumerate.__new__» ⟨[.type "enumerate", v], []⟩) (fun _ R s => H s.heap ∧
      R (.ok (.ret (.ref (s.heap.push o).objs.size))) { s with heap := (s.heap.push o).push { cls := .type "enumerate", data := .fields #[.none, .bool false, .ref s.heap.objs.size, rawInt 0, .none, .none] } }) :=
  .of_wp fun prog w A R s h => by
    obtain ⟨hp, g, d, tk, os⟩ := s; obtain ⟨h1, h⟩ := h
    have hsub := sub_enumerate
    have q1 : ∀ {A' : Around} {E : Value → Shared → Prop} {Q : Value → Shared → Prop}, Q (.ref hp.objs.size) ⟨hp.push o, g, d, tk, os⟩ → wpAny (model prog w) A' (pyIter v) Q E ⟨hp, g, d, tk, os⟩ :=
      fun q => B.iter prog w _ _ ⟨hp, g, d, tk, os⟩ _ h1 q
    wp_walk using q1
    refine wpAny_stack_any fun st => wpAny_pure ?_
    split
    · rename_i c _ _ _ _ _
      cases (c == Value.type "enumerate")
      · wp_walk using q1
        exact ⟨_, rfl, h⟩
      · wp_walk using q1
        exact ⟨_, rfl, h⟩
    · wp_walk using q1
      exact ⟨_, rfl, h⟩
section
variable {prog : Program} {w : World} {A : Around} {E : Value → Shared → Prop} {s : Shared}
theorem enum1_begins {v : Value} {o : Obj} {H : Heap → Prop} {Q : Value → Shared → Prop} (B : Begins v o H) (h1 : H s.heap)
    (h : ∀ h', IsEnum h' (s.heap.objs.size + 1) s.heap.objs.size 0 .none → h'.get? s.heap.objs.size = some o → h'.objs.size = s.heap.objs.size + 2 →
      (∀ b o, s.heap.get? b = some o → h'.get? b = some o) → Q (.ref (s.heap.objs.size + 1)) { s with heap := h' }) :
    wpAny (model prog w) A (call (.type "enumerate") [v]) Q E s := by
  refine callType_new F.called_enumerate (by decide) (F.typeCall_enumerate_1 _) (F.newCall_enumerate_1 _) (fun obj => F.args_object_init_2 obj _) F.entry_enumerate_new
    (meets_enum1 B) ⟨h1, ?_⟩
  have hz : (s.heap.push o).objs.size = s.heap.objs.size + 1 := Heap.size_push ..
  show _ ∧ _
  rw [hz]
  have he : IsEnum ((s.heap.push o).push { cls := .type "enumerate", data := .fields #[.none, .bool false, .ref s.heap.objs.size, rawInt 0, .none, .none] }) (s.heap.objs.size + 1) s.heap.objs.size 0 .none := by
    have := Heap.get?_push_size (s.heap.push o) (o := { cls := .type "enumerate", data := .fields #[.none, .bool false, .ref s.heap.objs.size, rawInt 0, .none, .none] }) rfl
    rw [hz] at this; exact this
  refine ⟨⟨_, he, rfl⟩, h _ he (Heap.get?_push_of_some _ (Heap.get?_push_size _ B.free)) (by rw [Heap.size_push, hz]) fun b o x => Heap.get?_push_of_some _ (Heap.get?_push_of_some _ x)⟩
end
/-- the tuple at a, its items in new pairs with their places -/
def IteT (K : PySem.W.Frag) (a : Addr) : It :=
  ⟨fun i H => ∃ (xs : List V) (x : V), SqT K H a xs ∧ xs[i]? = some x, fun i H v H' => ∃ T x, v = .ref T ∧ H T = none ∧ H' = upd H T (.tup [.int (i : Nat), x]) ∧ ∀ xs, SqT K H a xs → xs[i]? = some x, fun i H => ∃ xs : List V, SqT K H a xs ∧ xs.length ≤ i⟩
theorem turn_enumT {P : Program} {w : World} {K : PySem.W.Frag} {elts : List Expr} {kk : Nat} {tpos : Pos} (a e it : Addr) :
    Turn P w K (.Tuple elts kk tpos) (IteT K a) [e, it] e (fun i h => (∃ old, IsEnum h e it ((i : Nat) : Int) old) ∧ h.IsTupleIter it a i ∧ e ≠ it ∧ a ≠ it ∧ a ≠ e) where
  mem := by simp
  obj := fun i h st b hb => by
    obtain ⟨⟨old, he⟩, ⟨o, ho, hc, hd⟩, _⟩ := st
    have e' : b = e ∨ b = it := by simpa using hb
    rcases e' with z | z
    · rw [z]; exact ⟨_, he, fun v q => nomatch q⟩
    · rw [z]; exact ⟨o, ho, fun v q => by rw [hd] at q; cases q⟩
  keep := fun i h h' st k => let ⟨⟨old, he⟩, hi, hne⟩ := st; ⟨⟨old, k e (by simp) _ he⟩, hi.at fun o q => k it (by simp) o q, hne⟩
  item := by
    intro X hP hw hK hc i pins s σ H E I hf st hg
    subst hP hw hK
    obtain ⟨⟨old, he⟩, hit, hne, hai, hae⟩ := st
    obtain ⟨xs, x, hq, hx⟩ := hg
    obtain ⟨its, rv, p, hz⟩ := I.tuple hq
    obtain ⟨u, hu, ru⟩ := rv.get hx
    have hel : e < s.heap.objs.size := Heap.lt_size he
    have hil : it < s.heap.objs.size := by obtain ⟨_, q, _⟩ := hit; exact Heap.lt_size q
    have hh : X.A.in1.handled = none := I.ok.hd hc
    have hsz : i < its.toArray.size := by
      have := (List.getElem?_eq_some_iff.mp hu).1
      simpa using this
    refine wpAny_pyNext_enum_itemD (Draws.tuple hh it a hai its.toArray) he ⟨hit, p⟩ hsz hne (by simp [hne, Ne.symm hae]) fun x' h' tk hpx ho hst' hT hsz' hk => ?_
    have exu : x' = u := by
      have h1 : its.toArray[i]? = some x' := hpx
      have h2 : its.toArray[i]? = some u := by simpa using hu
      exact Option.some.inj (h1.symm.trans h2)
    subst exu
    refine ⟨_, rfl, wpAny_letOwnedTupleGo_enum (s := { s with heap := h', toks := tk + 1 }) ho fun h'' he' sb => ?_⟩
    have hT2 : h''.get? s.heap.objs.size = some { cls := .type "tuple", data := .seq #[.int i tk, x'] } := (sb.2 _ (Nat.ne_of_gt hel)).trans hT
    have new : ObjOk X.prog X.w (upd H s.heap.objs.size (.tup [.int (i : Nat), x])) h'' s.heap.objs.size (.tup [.int (i : Nat), x]) :=
      ⟨by show 2 ≤ sizeLine; decide, [.int i tk, x'], .cons ⟨_, rfl⟩ (.cons ru .nil), ⟨_, hT2, rfl, _, rfl⟩⟩
    have I1 : L2.Inv X pins σ (upd H s.heap.objs.size (.tup [.int (i : Nat), x])) { s with heap := h'', toks := tk + 1 } :=
      I.turnedNew (ch := [e, it]) (fun b ob hb q => (sb.2 b (fun z => hb (by simp [z]))).trans (hk b ob (fun z => hb (by simp [z])) (fun z => hb (by simp [z])) q)) hf (Nat.le_refl _) new
    refine ⟨.ref s.heap.objs.size, _, I1, rfl, ⟨_, x, rfl, I.hok.fresh (Nat.le_refl _), rfl, fun ys hy => by rw [I.tuple_inj hy hq]; exact hx⟩, ⟨⟨x', ?_⟩, hst'.1.at fun o q => (sb.2 it (Ne.symm hne)).trans q, hne, hai, hae⟩, fun b hb => ?_⟩
    · have e1 : ((i + 1 : Nat) : Int) = (i : Int) + 1 := by omega
      rw [e1]; exact he'
    · have hb' : b < s.heap.objs.size := by
        have e' : b = e ∨ b = it := by simpa using hb
        rcases e' with z | z
        · rw [z]; exact hel
        · rw [z]; exact hil
      rw [upd_ne (Nat.ne_of_lt hb')]
      exact (hf b hb).1
  done := by
    intro X hP hw hK hc i pins s σ H E I hf st hg
    subst hP hw hK
    obtain ⟨⟨old, he⟩, hit, hne, hai, hae⟩ := st
    obtain ⟨xs, hq, hx⟩ := hg
    obtain ⟨its, rv, p, hz⟩ := I.tuple hq
    obtain ⟨f0, f1, f2, f3, f4, f5⟩ := hf it (by simp)
    have hl := rv.length
    have hh : X.A.in1.handled = none := I.ok.hd hc
    have D : Draws X.prog X.w X.A.in1 it [it, a] its.toArray.size (fun i v => its.toArray[i]? = some v) (fun i h => h.IsTupleIter it a i ∧ h.IsTuple a its.toArray) := Draws.tuple hh it a hai its.toArray
    have hT : s.TypeIs (.ref e) "enumerate" := ⟨_, he, rfl⟩
    have D2 : Draws X.prog X.w X.A.in1 it [it, a] i (fun _ _ => False) (fun j h => j = i ∧ h.IsTupleIter it a i ∧ h.IsTuple a its.toArray) :=
      ⟨fun _ _ st => let ⟨o, ho, _⟩ := st.2.1; ⟨o, ho⟩, fun _ _ _ st hk => ⟨st.1, st.2.1.at fun o e => hk it (by simp) o e, st.2.2.at fun o e => hk a (by simp) o e⟩, fun j s Q E hj st => by omega, fun s Q E st hQ => wpAny_nextOf_tuple_end (i := i) hh st.2.1 st.2.2 (by simp; omega) hQ⟩
    exact wpAny_pyNext_enum_endD D2 he ⟨rfl, hit, p⟩ fun h' eb => ⟨rfl, I.turned (t' := s.toks) (fun b o hb q => eb b o hb q) f0 f1 f3 f4 f5⟩
  self := fun A i s Q E st h => let ⟨⟨_, he⟩, _⟩ := st; wpAny_pyIter_enum he h
section
variable {X : Cx} {ca : Nat → Addr} {W : WX} {e e2 tg : Expr} {f g : EM} {fs : AM} {p pos tpos : Pos} {elts : List Expr} {kk : Nat}
def iEnumA (K : PySem.W.Frag) (ta : TA) : TI := fun σ H R => ta σ H fun vs H1 => ∃ a xs, vs = [.ref a] ∧ ((SqL K H1 a xs ∧ R (Ite K a) H1) ∨ (SqT K H1 a xs ∧ R (IteT K a) H1))
theorem pi_enumA {ta : TA} (hg : Gl X "enumerate") (hm : X.mg "enumerate" = none) (ha : PA X [e] ta) (hs : starEach [e] X.env = [(false, eval e X.env)] := by rfl) :
    PI X (.Tuple elts kk tpos) (.Call (.Name "enumerate" p) [e] [] pos) (iEnumA X.K ta) := by
  refine ⟨fun pins s σ H R I h => ?_⟩
  refine Call_ (ld_blt I hg hm boot_enumerate (PyProof.Rows.callWith_type1 (thn (ha.run pos pins s σ H _ I h) fun us s1 ⟨vs, H1, I1, r1, q1⟩ => ?_) hs rfl))
  obtain ⟨a, xs, ex, q⟩ := q1
  subst ex
  cases r1 with
  | cons r rr =>
    cases rr
    cases r
    have fp : ∀ b ∈ [s1.heap.objs.size + 1, s1.heap.objs.size], FpOk X pins H1 b := fun b hb => by
      have e' : b = s1.heap.objs.size + 1 ∨ b = s1.heap.objs.size := by simpa using hb
      have hle : s1.heap.objs.size ≤ b := by
        rcases e' with z | z
        · rw [z]; exact Nat.le_add_right _ _
        · rw [z]; exact Nat.le_refl _
      exact I1.fpOk hle (I1.hok.fresh hle)
    rcases q with ⟨hq, q⟩ | ⟨hq, q⟩
    · obtain ⟨its, rv, p', hz⟩ := I1.list hq
      refine call_enumerate_list p'.isList fun h' he hit hsz hk => wpAny_pyIter_enum he ?_
      have I2 : L2.Inv X pins σ H1 { s1 with heap := h' } := I1.kept (t' := s1.toks) hk
      exact ⟨s1.heap.objs.size + 1, [s1.heap.objs.size + 1, s1.heap.objs.size], _, _, H1, rfl, I2, turn_enum a (s1.heap.objs.size + 1) s1.heap.objs.size, ⟨⟨.none, he⟩, hit, Nat.succ_ne_self _⟩, fp, q⟩
    · obtain ⟨its, rv, p', hz⟩ := I1.tuple hq
      have hlt : a < s1.heap.objs.size := by obtain ⟨o, ho, _⟩ := p'; exact Heap.lt_size ho
      refine enum1_begins (begins_tuple a its.toArray) p' fun h' he hit hsz hk => wpAny_pyIter_enum he ?_
      have I2 : L2.Inv X pins σ H1 { s1 with heap := h' } := I1.kept (t' := s1.toks) hk
      exact ⟨s1.heap.objs.size + 1, [s1.heap.objs.size + 1, s1.heap.objs.size], _, _, H1, rfl, I2, turn_enumT a (s1.heap.objs.size + 1) s1.heap.objs.size, ⟨⟨.none, he⟩, ⟨_, hit, rfl, rfl⟩, Nat.succ_ne_self _, Nat.ne_of_lt hlt, Nat.ne_of_lt (Nat.lt_succ_of_lt hlt)⟩, fp, q⟩
theorem is_pair {K : PySem.W.Frag} {s1 : SM} (A1 : Abs K ca s1) {T : Addr} {i : Int} {z : D} {v : V} (hT : s1.H T = none) (h : Is K s1 z v) : Is K (s1.laid T (.tup [.int i, v])) (.tup [.int i, z]) (.ref T) :=
  is_tup A1 hT (IsL.cons (by simp only [Is]) (IsL.cons h IsL.nil))
theorem jok_enum {K : PySem.W.Frag} {s : SM} {d : D} {a : Addr} (h : ∀ s1, Ext s s1 → Abs K ca s1 → ∀ es, d.seq s1.M = some es → ∃ vs, SqL K s1.H a vs ∧ IsL K s1 es vs) : JOk K ca s (Ite K a) (.enum d) := fun s1 x A1 i => by
  refine ⟨fun e => ?_, fun z e => ?_⟩
  · simp only [It'.at] at e
    split at e
    · rename_i es q
      obtain ⟨vs, h1, h2⟩ := h s1 x A1 es q
      split at e
      · cases e
      · rename_i q2
        exact ⟨vs, h1, by rw [h2.length]; exact List.getElem?_eq_none_iff.mp q2⟩
    · cases e
  · simp only [It'.at] at e
    split at e
    · rename_i es q
      obtain ⟨vs, h1, h2⟩ := h s1 x A1 es q
      split at e
      · rename_i y q2
        cases e
        obtain ⟨v, h3, h4⟩ := h2.get q2
        refine ⟨⟨vs, v, h1, h3⟩, fun y' H' hy => ?_⟩
        obtain ⟨T, v', rfl, hT, rfl, hv⟩ := hy
        have : v = v' := Option.some.inj (h3.symm.trans (hv vs h1))
        subst this
        exact ⟨s1.laid T _, rfl, rfl, Ext.laid hT, A1.laid hT, is_pair A1 hT h4⟩
      · cases e
    · cases e
theorem jok_enumT {K : PySem.W.Frag} {s : SM} {d : D} {a : Addr} (h : ∀ s1, Ext s s1 → Abs K ca s1 → ∀ es, d.seq s1.M = some es → ∃ vs, SqT K s1.H a vs ∧ IsL K s1 es vs) : JOk K ca s (IteT K a) (.enum d) := fun s1 x A1 i => by
  refine ⟨fun e => ?_, fun z e => ?_⟩
  · simp only [It'.at] at e
    split at e
    · rename_i es q
      obtain ⟨vs, h1, h2⟩ := h s1 x A1 es q
      split at e
      · cases e
      · rename_i q2
        exact ⟨vs, h1, by rw [h2.length]; exact List.getElem?_eq_none_iff.mp q2⟩
    · cases e
  · simp only [It'.at] at e
    split at e
    · rename_i es q
      obtain ⟨vs, h1, h2⟩ := h s1 x A1 es q
      split at e
      · rename_i y q2
        cases e
        obtain ⟨v, h3, h4⟩ := h2.get q2
        refine ⟨⟨vs, v, h1, h3⟩, fun y' H' hy => ?_⟩
        obtain ⟨T, v', rfl, hT, rfl, hv⟩ := hy
        have : v = v' := Option.some.inj (h3.symm.trans (hv vs h1))
        subst this
        exact ⟨s1.laid T _, rfl, rfl, Ext.laid hT, A1.laid hT, is_pair A1 hT h4⟩
      · cases e
    · cases e
def iEnumK : List D → Mem → Res It'
  | [d], M => match d.seq M with
    | some _ => .ok (.enum d) M
    | none => .stk
  | _, _ => .stk
def mIEnum (fs : AM) : Lc → Mem → Res It' := fun L M => (fs L M).bind iEnumK
theorem xi_enum (hg : Gl X "enumerate") (hm : X.mg "enumerate" = none) (ha : PA X [e] (XA X.K ca W fs)) (hs : starEach [e] X.env = [(false, eval e X.env)] := by rfl) : PI X (.Tuple elts kk tpos) (.Call (.Name "enumerate" p) [e] [] pos) (XI X.K ca W (mIEnum fs)) :=
  PI.imp (pi_enumA hg hm ha hs) fun σ H R ⟨L, s, S, q⟩ => XA.mono (xa_seq S (k := iEnumK) q) fun vs H1 ⟨s1, ds, S1, E1, I1, q1⟩ => by
    unfold iEnumK at q1
    split at q1
    · obtain ⟨v, rfl, hv⟩ := isl1 I1
      split at q1
      · rename_i es e1
        obtain ⟨a, rfl, hk⟩ := seq_kind S1.a hv e1
        have q2 : ∀ J, JOk X.K ca s1 J _ → R J s1.H := q1 s1 rfl (Ext.refl _) S1.a
        rw [S1.h] at q2
        rcases hk with hk | hk
        · obtain ⟨vs, h1, _⟩ := hk s1 (Ext.refl _) S1.a es e1
          rw [S1.h] at h1
          exact ⟨a, vs, rfl, .inl ⟨h1, q2 _ (jok_enum hk)⟩⟩
        · obtain ⟨vs, h1, _⟩ := hk s1 (Ext.refl _) S1.a es e1
          rw [S1.h] at h1
          exact ⟨a, vs, rfl, .inr ⟨h1, q2 _ (jok_enumT hk)⟩⟩
      · exact q1.elim
    · exact q1.elim
end
end XM
/-! ## XMf -/
set_option maxHeartbeats 200000
set_option linter.all false
set_option autoImplicit false
set_option maxRecDepth 100000
namespace XM
open PySem PySem.Spec
open PyProof.Rows hiding St
open L2 hiding Rd Rd.of Rd.ok
/-! ### statements -/
inductive SRes where
  | nx (L : Lc) (M : Mem) | rt (d : D) (M : Mem) | bk (L : Lc) (M : Mem) | ct (L : Lc) (M : Mem)
  | ex (c : Nat) (fs : List Str) (ds : List D) (L : Lc) (M : Mem) | stk
abbrev SMr := Lc → Mem → SRes
def bindS {α : Type} (r : Res α) (L : Lc) (k : α → Mem → SRes) : SRes := match r with
  | .ok a M => k a M
  | .ex c fs ds M => .ex c fs ds L M
  | .stk => .stk
def mNop : SMr := fun L M => .nx L M
def mSeq (f g : SMr) : SMr := fun L M => match f L M with
  | .nx L' M' => g L' M'
  | r => r
def mSet (i : Nat) (f : EM) : SMr := fun L M => bindS (f L M) L fun d M1 => .nx (L.set i (some d)) M1
def mRet (f : EM) : SMr := fun L M => bindS (f L M) L fun d M1 => .rt d M1
def mRetN : SMr := fun _ M => .rt .non M
def mDo (f : EM) : SMr := fun L M => bindS (f L M) L fun _ M1 => .nx L M1
def mIf (c : BM) (f g : SMr) : SMr := fun L M => bindS (c L M) L fun b M1 => if b = true then f L M1 else g L M1
def mBrk : SMr := fun L M => .bk L M
def mCnt : SMr := fun L M => .ct L M
def mNever : SMr := fun _ _ => .stk
def mRaise (fs : AM) (c : Nat) (ns : List Str) : SMr := fun L M => bindS (fs L M) L fun ds M1 => .ex c ns ds L M1
abbrev TgM := D → Lc → Option Lc
def gN (i : Nat) : TgM := fun d L => some (L.set i (some d))
def gTs : List TgM → List D → Lc → Option Lc
  | [], [], L => some L
  | g :: gs, d :: ds, L => match g d L with
    | some L' => gTs gs ds L'
    | none => none
  | _, _, _ => none
def gT (gs : List TgM) : TgM := fun d L => match d with
  | .tup ds => gTs gs ds L
  | _ => none
def mAsg (g : TgM) (f : EM) : SMr := fun L M => bindS (f L M) L fun d M1 => match g d L with
  | some L' => .nx L' M1
  | none => .stk
def mAug (i : Nat) (f : EM) (k : D → D → Mem → Res D) : SMr := fun L M => match L[i]? with
  | some (some x) => bindS (f L M) L fun d M1 => bindS (k x d M1) L fun z M2 => .nx (L.set i (some z)) M2
  | _ => .stk
def forG (g : TgM) (body : SMr) (J : It') : Nat → Nat → Lc → Mem → SRes
  | 0, _, _, _ => .stk
  | n + 1, i, L, M => match J.at M i with
    | none => .stk
    | some none => .nx L M
    | some (some d) => match g d L with
      | none => .stk
      | some L1 => match body L1 M with
        | .nx L2 M2 => forG g body J n (i + 1) L2 M2
        | .ct L2 M2 => forG g body J n (i + 1) L2 M2
        | .bk L2 M2 => .nx L2 M2
        | r => r
def mFor (it : Lc → Mem → Res It') (g : TgM) (body : SMr) : SMr := fun L M => bindS (it L M) L fun J M1 => forG g body J cap 0 L M1
def whileG (c : BM) (body : SMr) : Nat → Lc → Mem → SRes
  | 0, _, _ => .stk
  | n + 1, L, M => bindS (c L M) L fun b M1 => if b = true then match body L M1 with
    | .nx L2 M2 => whileG c body n L2 M2
    | .ct L2 M2 => whileG c body n L2 M2
    | .bk L2 M2 => .nx L2 M2
    | r => r
    else .nx L M1
def mWhile (c : BM) (body : SMr) : SMr := fun L M => whileG c body cap L M
/-- a body's end as a call's -/
def SRes.fn : SRes → Res D
  | .nx _ M => .ok .non M
  | .rt d M => .ok d M
  | .ex c fs ds _ M => .ex c fs ds M
  | _ => .stk
def startL (n : Nat) (ds : List D) : Lc := ds.map some ++ List.replicate (n - ds.length) none
section
variable (K : PySem.W.Frag) (ca : Nat → Addr)
def SatS (W : WX) (Dn : Ends) (s : SM) : SRes → Prop
  | .nx L M => ∀ s' σ', s'.M = M → Ext s s' → Sta K ca s' L σ' s'.H → Dn.nx σ' s'.H
  | .rt d M => ∀ s' v, s'.M = M → Ext s s' → Abs K ca s' → Is K s' d v → Dn.rt v s'.H
  | .bk L M => ∀ s' σ', s'.M = M → Ext s s' → Sta K ca s' L σ' s'.H → Dn.bk σ' s'.H
  | .ct L M => ∀ s' σ', s'.M = M → Ext s s' → Sta K ca s' L σ' s'.H → Dn.ct σ' s'.H
  | .ex c fs ds L M => ∀ s' σ' dd kvs, s'.M = M → Ext s s' → Sta K ca s' L σ' s'.H → s'.H dd = some (.xd kvs) → kvs.map (·.1) = fs → IsL K s' ds (kvs.map (·.2)) → W (.ref (ca c)) (some dd) σ' s'.H
  | .stk => False
def XS (W : WX) (f : SMr) : TS := fun Dn σ H => ∃ L s, Sta K ca s L σ H ∧ SatS K ca W Dn s (f L s.M)
def Only (sl : List Nat) (σ σ' : L2.St) : Prop := σ'.length = σ.length ∧ ∀ j, j ∉ sl → σ'[j]? = σ[j]?
def XG (g : TgM) (sl : List Nat) : TG := fun v σ H Q => ∃ L s d L', Sta K ca s L σ H ∧ Is K s d v ∧ g d L = some L' ∧ ∀ σ', Sta K ca s L' σ' H → Only sl σ σ' → Q σ' H
def XGs (gs : List TgM) (sl : List Nat) : TGs := fun vs σ H Q => ∃ L s ds L', Sta K ca s L σ H ∧ IsL K s ds vs ∧ gTs gs ds L = some L' ∧ ∀ σ', Sta K ca s L' σ' H → Only sl σ σ' → Q σ' H
end
section
variable {K : PySem.W.Frag} {ca : Nat → Addr} {W : WX} {Dn : Ends} {s s' : SM} {L : Lc} {σ : L2.St} {H : Hp}
theorem SatS.ext {r : SRes} (x : Ext s s') (h : SatS K ca W Dn s r) : SatS K ca W Dn s' r := by
  cases r with
  | nx L M => exact fun s2 σ2 e x2 S => h s2 σ2 e (x.trans x2) S
  | rt d M => exact fun s2 v e x2 A i => h s2 v e (x.trans x2) A i
  | bk L M => exact fun s2 σ2 e x2 S => h s2 σ2 e (x.trans x2) S
  | ct L M => exact fun s2 σ2 e x2 S => h s2 σ2 e (x.trans x2) S
  | ex c fs ds L M => exact fun s2 σ2 dd kvs e x2 S => h s2 σ2 dd kvs e (x.trans x2) S
  | stk => exact h
theorem Sta.self (S : Sta K ca s L σ H) : Sta K ca s L σ s.H := ⟨rfl, S.l, S.a⟩
theorem Sta.set (S : Sta K ca s L σ H) (i : Nat) {d : D} {v : V} (hd : Is K s d v) : Sta K ca s (L.set i (some d)) (σ.set i (some v)) H := ⟨S.h, S.l.set i hd, S.a⟩
/-- an expression, then the rest -/
theorem xs_seq {f : EM} {k : D → Mem → SRes} (S : Sta K ca s L σ H) (h : SatS K ca W Dn s (bindS (f L s.M) L k)) :
    XT K ca W f σ H (fun v H1 => ∃ s' d, Sta K ca s' L σ H1 ∧ Ext s s' ∧ Is K s' d v ∧ SatS K ca W Dn s' (k d s'.M)) := by
  refine ⟨L, s, S, ?_⟩
  cases e : f L s.M with
  | ok d M' =>
    rw [e] at h
    exact fun s2 e2 x A v hv => ⟨s2, d, S.ext x A, x, hv, by rw [e2]; exact SatS.ext x h⟩
  | ex c fs ds M' =>
    rw [e] at h
    exact fun s2 dd kvs e2 x A => h s2 σ dd kvs e2 x (S.ext x A)
  | stk => rw [e] at h; exact h
theorem xsa_seq {f : AM} {k : List D → Mem → SRes} (S : Sta K ca s L σ H) (h : SatS K ca W Dn s (bindS (f L s.M) L k)) :
    XA K ca W f σ H (fun v H1 => ∃ s' d, Sta K ca s' L σ H1 ∧ Ext s s' ∧ IsL K s' d v ∧ SatS K ca W Dn s' (k d s'.M)) := by
  refine ⟨L, s, S, ?_⟩
  cases e : f L s.M with
  | ok d M' =>
    rw [e] at h
    exact fun s2 e2 x A v hv => ⟨s2, d, S.ext x A, x, hv, by rw [e2]; exact SatS.ext x h⟩
  | ex c fs ds M' =>
    rw [e] at h
    exact fun s2 dd kvs e2 x A => h s2 σ dd kvs e2 x (S.ext x A)
  | stk => rw [e] at h; exact h
theorem xsb_seq {f : BM} {k : Bool → Mem → SRes} (S : Sta K ca s L σ H) (h : SatS K ca W Dn s (bindS (f L s.M) L k)) :
    XB K ca W f σ H (fun b H1 => ∃ s', Sta K ca s' L σ H1 ∧ Ext s s' ∧ SatS K ca W Dn s' (k b s'.M)) := by
  refine ⟨L, s, S, ?_⟩
  cases e : f L s.M with
  | ok d M' =>
    rw [e] at h
    exact fun s2 e2 x A => ⟨s2, S.ext x A, x, by rw [e2]; exact SatS.ext x h⟩
  | ex c fs ds M' =>
    rw [e] at h
    exact fun s2 dd kvs e2 x A => h s2 σ dd kvs e2 x (S.ext x A)
  | stk => rw [e] at h; exact h
theorem xsi_seq {f : Lc → Mem → Res It'} {k : It' → Mem → SRes} (S : Sta K ca s L σ H) (h : SatS K ca W Dn s (bindS (f L s.M) L k)) :
    XI K ca W f σ H (fun J H1 => ∃ s' it, Sta K ca s' L σ H1 ∧ Ext s s' ∧ JOk K ca s' J it ∧ SatS K ca W Dn s' (k it s'.M)) := by
  refine ⟨L, s, S, ?_⟩
  cases e : f L s.M with
  | ok d M' =>
    rw [e] at h
    exact fun s2 e2 x A J hJ => ⟨s2, d, S.ext x A, x, hJ, by rw [e2]; exact SatS.ext x h⟩
  | ex c fs ds M' =>
    rw [e] at h
    exact fun s2 dd kvs e2 x A => h s2 σ dd kvs e2 x (S.ext x A)
  | stk => rw [e] at h; exact h
theorem nx_end (S : Sta K ca s L σ H) (h : SatS K ca W Dn s (.nx L s.M)) : Dn.nx σ H := by
  have : Dn.nx σ s.H := h s σ rfl (Ext.refl s) S.self
  rw [S.h] at this; exact this
end
section
variable {X : Cx} {ca : Nat → Addr} {W : WX} {e c : Expr} {f : EM} {F G : SMr} {B : BM} {fs : AM} {st : Stmt} {sts : List Stmt} {pos pos' : Pos} {x : Str}
theorem xss_nil : PSs X [] (XS X.K ca W mNop) := PSs.imp pss_nil fun Dn σ H ⟨L, s, S, q⟩ => nx_end S q
theorem xss_one (h : PS X st (XS X.K ca W F)) : PSs X [st] (XS X.K ca W F) := pss_one h
theorem xss_cons (h1 : PS X st (XS X.K ca W F)) (h2 : PSs X sts (XS X.K ca W G)) : PSs X (st :: sts) (XS X.K ca W (mSeq F G)) := PSs.imp (pss_cons h1 h2) fun Dn σ H ⟨L, s, S, q⟩ => by
  refine ⟨L, s, S, ?_⟩
  have q : SatS X.K ca W Dn s (match F L s.M with
    | .nx L' M' => G L' M'
    | r => r) := q
  cases e : F L s.M with
  | nx L' M' =>
    rw [e] at q
    exact fun s2 σ2 e2 x2 S2 => ⟨L', s2, S2, by rw [e2]; exact SatS.ext x2 q⟩
  | rt d M' => rw [e] at q; exact q
  | bk L' M' => rw [e] at q; exact q
  | ct L' M' => rw [e] at q; exact q
  | ex c fs ds L' M' => rw [e] at q; exact q
  | stk => rw [e] at q; exact q
theorem xs_never : PS X st (XS X.K ca W mNever) := PS.imp ps_never fun Dn σ H ⟨L, s, S, q⟩ => q
theorem xss_never : PSs X sts (XS X.K ca W mNever) := PSs.imp pss_never fun Dn σ H ⟨L, s, S, q⟩ => q
theorem xs_pass : PS X (.Pass pos) (XS X.K ca W mNop) := PS.imp ps_pass fun Dn σ H ⟨L, s, S, q⟩ => nx_end S q
theorem xs_set (i : Nat) (hN : X.N.Nodup) (he : PE X e (XT X.K ca W f)) (hi : X.N[i]? = some x := by rfl) (hx : Loc X.env.scope x := by first | exact Or.inl rfl | exact Or.inr rfl) (hs : swapsWith e (some (.Name x pos')) pos.line X.env = pure false := by rfl)
    (hf : X.fn x = true ∨ X.env.scope.names.lookup x = some .local := by first | exact .inl rfl | exact .inr rfl) : PS X (.Assign [.Name x pos'] e pos) (XS X.K ca W (mSet i f)) := PS.imp (ps_set hN hi hx he hs hf) fun Dn σ H ⟨L, s, S, q⟩ =>
  XT.mono (xs_seq S q) fun v H1 ⟨s1, d, S1, E1, I1, q1⟩ => nx_end (S1.set i I1) q1
theorem xs_ret (he : PE X e (XT X.K ca W f)) : PS X (.Return (some e) pos) (XS X.K ca W (mRet f)) := PS.imp (ps_ret he) fun Dn σ H ⟨L, s, S, q⟩ =>
  XT.mono (xs_seq S q) fun v H1 ⟨s1, d, S1, E1, I1, q1⟩ => by
    have : Dn.rt v s1.H := q1 s1 v rfl (Ext.refl _) S1.a I1
    rw [S1.h] at this; exact this
theorem xs_retN : PS X (.Return none pos) (XS X.K ca W mRetN) := PS.imp ps_retN fun Dn σ H ⟨L, s, S, q⟩ => by
  have q : SatS X.K ca W Dn s (.rt .non s.M) := q
  have : Dn.rt .non s.H := q s .non rfl (Ext.refl _) S.a (by simp only [Is])
  rw [S.h] at this; exact this
theorem xs_do (he : PE X e (XT X.K ca W f)) (hs : swapsWith e none pos.line X.env = pure false := by rfl) : PS X (.Expr e pos) (XS X.K ca W (mDo f)) := PS.imp (ps_expr he hs) fun Dn σ H ⟨L, s, S, q⟩ =>
  XT.mono (xs_seq S q) fun v H1 ⟨s1, d, S1, E1, I1, q1⟩ => nx_end S1 q1
theorem xs_if {a b : List Stmt} (hc : PT X c (XB X.K ca W B)) (ha : PSs X a (XS X.K ca W F)) (hb : PSs X b (XS X.K ca W G)) : PS X (.If c a b pos) (XS X.K ca W (mIf B F G)) := PS.imp (ps_if hc ha hb) fun Dn σ H ⟨L, s, S, q⟩ =>
  XB.mono (xsb_seq S (k := fun b M1 => if b = true then F L M1 else G L M1) q) fun b H1 ⟨s1, S1, E1, q1⟩ => by
    cases b with
    | true => rw [if_pos rfl] at q1 ⊢; exact ⟨L, s1, S1, q1⟩
    | false => rw [if_neg Bool.false_ne_true] at q1 ⊢; exact ⟨L, s1, S1, q1⟩
theorem xs_brk : PS X (.Break pos) (XS X.K ca W mBrk) := PS.imp ps_break fun Dn σ H ⟨L, s, S, q⟩ => by
  have q : SatS X.K ca W Dn s (.bk L s.M) := q
  have : Dn.bk σ s.H := q s σ rfl (Ext.refl _) S.self
  rw [S.h] at this; exact this
theorem xs_cnt : PS X (.Continue pos) (XS X.K ca W mCnt) := PS.imp ps_continue fun Dn σ H ⟨L, s, S, q⟩ => by
  have q : SatS X.K ca W Dn s (.ct L s.M) := q
  have : Dn.ct σ s.H := q s σ rfl (Ext.refl _) S.self
  rw [S.h] at this; exact this
/-! ### targets -/
theorem PG.imp {tg : Expr} {t t' : TG} (h : PG X tg t) (hi : ∀ v σ H Q, t' v σ H Q → t v σ H Q) : PG X tg t' := ⟨fun pins s σ H v u Q I r q => h.run pins s σ H v u Q I r (hi _ _ _ _ q)⟩
theorem PGs.imp {tg : List Expr} {t t' : TGs} (h : PGs X tg t) (hi : ∀ v σ H Q, t' v σ H Q → t v σ H Q) : PGs X tg t' := ⟨fun pins s σ H v u Q I r q => h.run pins s σ H v u Q I r (hi _ _ _ _ q)⟩
theorem xg_name (i : Nat) (hN : X.N.Nodup) (hi : X.N[i]? = some x := by rfl) (hx : Loc X.env.scope x := by first | exact Or.inl rfl | exact Or.inr rfl) (hf : X.fn x = true ∨ X.env.scope.names.lookup x = some .local := by first | exact .inl rfl | exact .inr rfl) : PG X (.Name x pos) (XG X.K ca (gN i) [i]) :=
  PG.imp (pg_name hN hi hx hf) fun v σ H Q ⟨L, s, d, L', S, I, e, q⟩ => by
    cases e
    exact q _ (S.set i I) ⟨List.length_set .., fun j hj => List.getElem?_set_ne (fun z => hj (by rw [z]; exact List.mem_singleton.mpr rfl))⟩
theorem xgs_nil : PGs X [] (XGs X.K ca [] []) := PGs.imp pgs_nil fun vs σ H Q ⟨L, s, ds, L', S, I, e, q⟩ => by
  cases ds with
  | nil => simp only [gTs] at e; cases e; simp only [IsL] at I; exact ⟨I, q σ S ⟨rfl, fun _ _ => rfl⟩⟩
  | cons d ds => simp only [gTs] at e; cases e
theorem xgs_cons {tg : Expr} {tgs : List Expr} {g : TgM} {gs : List TgM} {sl sls : List Nat} (h1 : PG X tg (XG X.K ca g sl)) (h2 : PGs X tgs (XGs X.K ca gs sls)) (hs : (assignEach (tg :: tgs) X.env).map (·.2) = assign tg X.env :: (assignEach tgs X.env).map (·.2) := by rfl) : PGs X (tg :: tgs) (XGs X.K ca (g :: gs) (sl ++ sls)) :=
  PGs.imp (pgs_cons h1 h2 hs) fun vs σ H Q ⟨L, s, ds, L', S, I, e, q⟩ => by
    cases ds with
    | nil => simp only [gTs] at e; cases e
    | cons d ds =>
      simp only [IsL] at I
      obtain ⟨v, r, rfl, I1, I2⟩ := I
      simp only [gTs] at e
      split at e
      · rename_i L1 e1
        exact ⟨v, r, rfl, L, s, d, L1, S, I1, e1, fun σ' S' o1 => ⟨L1, s, ds, L', S', I2, e, fun σ2 S2 o2 => q σ2 S2 ⟨o2.1.trans o1.1, fun j hj => (o2.2 j fun z => hj (List.mem_append_right _ z)).trans (o1.2 j fun z => hj (List.mem_append_left _ z))⟩⟩⟩
      · cases e
theorem gTs_len : ∀ {gs : List TgM} {ds : List D} {L L' : Lc}, gTs gs ds L = some L' → ds.length = gs.length
  | [], [], _, _, _ => rfl
  | [], _ :: _, _, _, e => by simp only [gTs] at e; cases e
  | _ :: _, [], _, _, e => by simp only [gTs] at e; cases e
  | g :: gs, d :: ds, L, L', e => by
    simp only [gTs] at e
    split at e
    · rw [List.length_cons, List.length_cons, gTs_len e]
    · cases e
theorem xg_tup {es : List Expr} {k : Nat} {gs : List TgM} {sl : List Nat} {n : Nat} (hc : X.calm = true) (h : PGs X es (XGs X.K ca gs sl)) (hn : (assignEach es X.env).length = n := by rfl) (hst : (assignEach es X.env).findIdx? (·.1) = none := by rfl) (hl : gs.length = n := by rfl) : PG X (.Tuple es k pos) (XG X.K ca (gT gs) sl) :=
  PG.imp (pg_tup hc h hn hst) fun v σ H Q ⟨L, s, d, L', S, I, e, q⟩ => by
    unfold gT at e
    split at e
    · rename_i ds
      simp only [Is] at I
      obtain ⟨a, vs, rfl, h1, h2⟩ := I
      rw [S.h] at h1
      exact ⟨a, vs, rfl, h1, by rw [h2.length, gTs_len e, hl], L, s, ds, L', S, h2, e, q⟩
    · cases e
theorem xs_asg {tg : Expr} {g : TgM} {sl : List Nat} (he : PE X e (XT X.K ca W f)) (hg : PG X tg (XG X.K ca g sl)) (hs : swapsWithSole [tg] e pos.line X.env = pure false := by rfl) (hw : swappedStores [tg] e X.env = pure none := by rfl)
    (h1 : (assignEach [tg] X.env).map (·.2) = [assign tg X.env] := by rfl) : PS X (.Assign [tg] e pos) (XS X.K ca W (mAsg g f)) := PS.imp (ps_asg he hg hs hw h1) fun Dn σ H ⟨L, s, S, q⟩ =>
  XT.mono (xs_seq S (k := fun d M1 => match g d L with
  | some L' => .nx L' M1
  | none => .stk) q) fun v H1 ⟨s1, d, S1, E1, I1, q1⟩ => by
    split at q1
    · rename_i L' e1
      exact ⟨L, s1, d, L', S1, I1, e1, fun σ' S' _ => nx_end S' q1⟩
    · exact q1.elim
/-! ### loops -/
theorem for_is {K : PySem.W.Frag} {g : TgM} {sl : List Nat} {F : SMr} {it : It'} {Dn : Ends} {s0 s : SM} {J : It} {L : Lc} {σ : L2.St} {H : Hp} (hJ : JOk K ca s0 J it) (n : Nat) (S : Sta K ca s L σ H) (E0 : Ext s0 s) (q : SatS K ca W Dn s (forG g F it n 0 L s.M)) :
    ∃ W0 : Nat → Nat → L2.St → Hp → Prop, (∃ m, W0 0 m σ H) ∧ ∀ i m σ H, W0 i m σ H →
      (J.stop i H ∧ Dn.nx σ H) ∨ (J.go i H ∧ ∃ N : L2.St → Hp → Prop, (∀ σ' H', N σ' H' → ∃ m', m' < m ∧ W0 (i + 1) m' σ' H') ∧ ∀ x H', J.yld i H x H' → XG K ca g sl x σ H' fun σ2 H2 => XS K ca W F { Dn with nx := N, ct := N, bk := Dn.nx } σ2 H2) := by
  refine ⟨fun i m σ H => ∃ L s, Sta K ca s L σ H ∧ Ext s0 s ∧ SatS K ca W Dn s (forG g F it m i L s.M), ⟨n, L, s, S, E0, q⟩, ?_⟩
  rintro i m σ H ⟨L, s, S, E0, q⟩
  cases m with
  | zero => exact q.elim
  | succ m =>
    obtain ⟨j1, j2⟩ := hJ s E0 S.a i
    unfold forG at q
    split at q
    · exact q.elim
    · rename_i e1
      have := j1 e1
      rw [S.h] at this
      exact .inl ⟨this, nx_end S q⟩
    · rename_i d e1
      obtain ⟨hgo, hy⟩ := j2 d e1
      rw [S.h] at hgo hy
      split at q
      · exact q.elim
      · rename_i L1 e2
        refine .inr ⟨hgo, fun σ' H' => ∃ L' s', Sta K ca s' L' σ' H' ∧ Ext s0 s' ∧ SatS K ca W Dn s' (forG g F it m (i + 1) L' s'.M), fun σ' H' ⟨L', s', a1, a2, a3⟩ => ⟨m, Nat.lt_succ_self m, L', s', a1, a2, a3⟩, fun x H' yy => ?_⟩
        obtain ⟨s2, h2, m2, E2, A2, I2⟩ := hy x H' yy
        have S2 : Sta K ca s2 L σ H' := ⟨h2, S.l.mono S.a E2, A2⟩
        refine ⟨L, s2, d, L1, S2, I2, e2, fun σ' S' _ => ⟨L1, s2, S', ?_⟩⟩
        have q := SatS.ext E2 q
        rw [m2]
        cases e3 : F L1 s.M with
        | nx L2 M2 =>
          rw [e3] at q
          exact fun s3 σ3 e4 x3 S3 => ⟨L2, s3, S3, (E0.trans E2).trans x3, by rw [e4]; exact SatS.ext x3 q⟩
        | ct L2 M2 =>
          rw [e3] at q
          exact fun s3 σ3 e4 x3 S3 => ⟨L2, s3, S3, (E0.trans E2).trans x3, by rw [e4]; exact SatS.ext x3 q⟩
        | bk L2 M2 =>
          rw [e3] at q
          exact fun s3 σ3 e4 x3 S3 => q s3 σ3 e4 x3 S3
        | rt d M2 => rw [e3] at q; exact q
        | ex c fs ds L2 M2 => rw [e3] at q; exact q
        | stk => rw [e3] at q; exact q
theorem xs_for {tg iter : Expr} {body : List Stmt} {g : TgM} {sl : List Nat} {it : Lc → Mem → Res It'} (hp : PassesOwn (model X.prog X.w) X.A X.env X.xe) (hc : X.calm = true) (hi : PI X tg iter (XI X.K ca W it)) (hg : PG X tg (XG X.K ca g sl)) (hb : PSs X body (XS X.K ca W F)) (hs : ∀ x, foldedSetIterable iter X.env x = pure x := by intro _; rfl) :
    PS X (.For tg iter body [] pos) (XS X.K ca W (mFor it g F)) := PS.imp (ps_for hp hc hi hg hb (hs := hs)) fun Dn σ H ⟨L, s, S, q⟩ =>
  XI.mono' (xsi_seq S (k := fun J M1 => forG g F J cap 0 L M1) q) fun J H1 ⟨s1, jt, S1, E1, hJ, q1⟩ => for_is hJ cap S1 (Ext.refl _) q1
theorem while_is {K : PySem.W.Frag} {B : BM} {F : SMr} {Dn : Ends} {s : SM} {L : Lc} {σ : L2.St} {H : Hp} (n : Nat) (S : Sta K ca s L σ H) (q : SatS K ca W Dn s (whileG B F n L s.M)) : tWhile (XB K ca W B) (XS K ca W F) Dn σ H := by
  refine ⟨fun m σ H => ∃ L s, Sta K ca s L σ H ∧ SatS K ca W Dn s (whileG B F m L s.M), ⟨n, L, s, S, q⟩, ?_⟩
  rintro m σ H ⟨L, s, S, q⟩
  cases m with
  | zero => exact q.elim
  | succ m =>
    unfold whileG at q
    refine XB.mono (xsb_seq S q) fun b H1 ⟨s1, S1, E1, q1⟩ => ?_
    cases b with
    | false => rw [if_neg Bool.false_ne_true] at q1 ⊢; exact nx_end S1 q1
    | true =>
      rw [if_pos rfl] at q1 ⊢
      refine ⟨fun σ' H' => ∃ L' s', Sta K ca s' L' σ' H' ∧ SatS K ca W Dn s' (whileG B F m L' s'.M), fun σ' H' ⟨L', s', a1, a2⟩ => ⟨m, Nat.lt_succ_self m, L', s', a1, a2⟩, L, s1, S1, ?_⟩
      cases e3 : F L s1.M with
      | nx L2 M2 =>
        rw [e3] at q1
        exact fun s3 σ3 e4 x3 S3 => ⟨L2, s3, S3, by rw [e4]; exact SatS.ext x3 q1⟩
      | ct L2 M2 =>
        rw [e3] at q1
        exact fun s3 σ3 e4 x3 S3 => ⟨L2, s3, S3, by rw [e4]; exact SatS.ext x3 q1⟩
      | bk L2 M2 =>
        rw [e3] at q1
        exact fun s3 σ3 e4 x3 S3 => q1 s3 σ3 e4 x3 S3
      | rt d M2 => rw [e3] at q1; exact q1
      | ex c fs ds L2 M2 => rw [e3] at q1; exact q1
      | stk => rw [e3] at q1; exact q1
theorem xs_while {body : List Stmt} (hp : PassesOwn (model X.prog X.w) X.A X.env X.xe) (hc : PT X c (XB X.K ca W B)) (hb : PSs X body (XS X.K ca W F)) : PS X (.While c body [] pos) (XS X.K ca W (mWhile B F)) :=
  PS.imp (ps_while hp hc hb) fun Dn σ H ⟨L, s, S, q⟩ => while_is cap S q
end
end XM
/-! ## XMg -/
set_option maxHeartbeats 200000
set_option linter.all false
set_option autoImplicit false
set_option maxRecDepth 100000
set_option maxHeartbeats 1000000
namespace XM
open PySem PySem.Spec
open PyProof.Rows hiding St
open L2 hiding Rd Rd.of Rd.ok
/-! ### comprehensions -/
def mYes : BM := fun _ M => .ok true M
def wipeL (L : Lc) : List Nat → Lc
  | [] => L
  | v :: vs => (wipeL L vs).set v none
def lcG (g : TgM) (t : BM) (f : EM) (J : It') (L0 : Lc) : Nat → Nat → List D → Mem → Res D
  | 0, _, _, _ => .stk
  | n + 1, i, acc, M => match J.at M i with
    | none => .stk
    | some none => .ok (.lst acc) M
    | some (some d) => match g d L0 with
      | none => .stk
      | some L1 => (t L1 M).bind fun b M1 => if b = true then (f L1 M1).bind fun x M2 => lcG g t f J L0 n (i + 1) (acc ++ [x]) M2 else lcG g t f J L0 n (i + 1) acc M1
def mLc (it : Lc → Mem → Res It') (g : TgM) (t : BM) (f : EM) (vs : List Nat) : EM := fun L M => (it L M).bind fun J M1 => lcG g t f J (wipeL L vs) cap 0 [] M1
section
variable {K : PySem.W.Frag} {ca : Nat → Addr} {W : WX} {σ : L2.St} {s s' : SM} {H : Hp} {L : Lc}
theorem AbsL.wipe (h : AbsL K s L σ) : ∀ vs, AbsL K s (wipeL L vs) (L2.wipe σ vs)
  | [] => h
  | v :: vs => by
    have q := AbsL.wipe h vs
    refine ⟨by unfold wipeL L2.wipe; rw [List.length_set, List.length_set]; exact q.len, fun i d e => ?_⟩
    unfold wipeL at e
    unfold L2.wipe
    by_cases hv : v = i
    · subst hv
      by_cases hl : v < (wipeL L vs).length
      · rw [List.getElem?_set_self hl] at e; cases e
      · rw [List.getElem?_eq_none (by rw [List.length_set]; omega)] at e; cases e
    · rw [List.getElem?_set_ne hv] at e ⊢
      exact q.at' i d e
/-- private addresses are given back -/
def SM.dis (s : SM) (P : Addr → Prop) : SM := ⟨s.ρ, s.M, s.H, P⟩
mutual
theorem Is.dis {P : Addr → Prop} (hP : ∀ a, P a → s.P a) : ∀ {d : D} {v : V}, Is K s d v → Is K (s.dis P) d v
  | .non, _, h => by simp only [Is] at h ⊢; exact h
  | .bl _, _, h => by simp only [Is] at h ⊢; exact h
  | .int _, _, h => by simp only [Is] at h ⊢; exact h
  | .str _, _, h => by simp only [Is] at h ⊢; exact h
  | .tup ds, v, h => by
    simp only [Is] at h ⊢
    obtain ⟨a, vs, e, h1, h2⟩ := h
    exact ⟨a, vs, e, h1, IsL.dis hP h2⟩
  | .lst ds, v, h => by
    simp only [Is] at h ⊢
    obtain ⟨a, vs, e, h1, n, h2⟩ := h
    exact ⟨a, vs, e, h1, ⟨n.1, fun z => n.2 (hP a z)⟩, IsL.dis hP h2⟩
  | .fz ds, v, h => by
    simp only [Is] at h ⊢
    obtain ⟨a, vs, e, h1, h2⟩ := h
    exact ⟨a, vs, e, h1, IsL.dis hP h2⟩
  | .dic ks ds, v, h => by
    simp only [Is] at h ⊢
    obtain ⟨a, kvs, e, h1, n, hk, h2⟩ := h
    exact ⟨a, kvs, e, h1, ⟨n.1, fun z => n.2 (hP a z)⟩, hk, IsL.dis hP h2⟩
  | .ref i, v, h => by
    simp only [Is] at h ⊢
    exact h
theorem IsL.dis {P : Addr → Prop} (hP : ∀ a, P a → s.P a) : ∀ {ds : List D} {vs : List V}, IsL K s ds vs → IsL K (s.dis P) ds vs
  | [], _, h => by simp only [IsL] at h ⊢; exact h
  | d :: ds, vs, h => by
    simp only [IsL] at h ⊢
    obtain ⟨v, r, e, h1, h2⟩ := h
    exact ⟨v, r, e, Is.dis hP h1, IsL.dis hP h2⟩
end
theorem OkO.dis {P : Addr → Prop} (hP : ∀ a, P a → s.P a) {a : Addr} : ∀ {o : MO}, OkO K ca s a o → OkO K ca (s.dis P) a o
  | .lst _, ⟨vs, h1, h2⟩ => ⟨vs, h1, h2.dis hP⟩
  | .dic _ _, ⟨kvs, h1, h2, h3⟩ => ⟨kvs, h1, h2, h3.dis hP⟩
  | .ins _ _ _, ⟨dx, kvs, h1, h2, h3⟩ => ⟨dx, kvs, h1, h2, h3.dis hP⟩
  | .gone, _ => trivial
theorem Abs.dis {P : Addr → Prop} (hP : ∀ a, P a → s.P a) (A : Abs K ca s) : Abs K ca (s.dis P) :=
  ⟨fun i o e => (A.ok i o e).dis hP, A.inj, fun i hi z => A.pv i hi (hP _ z), fun a z => A.pt a (hP a z)⟩
/-- a private object is changed -/
def SM.priv (s : SM) (p : Addr) (o : HO) : SM := ⟨s.ρ, s.M, upd s.H p o, s.P⟩
section
variable {p : Addr} {o : HO} (hp : s.P p) (hl : (∀ vs, s.H p ≠ some (.tup vs)) ∧ ∀ o u, s.H p ≠ some (.frz o u))
include hp hl
mutual
theorem Is.priv : ∀ {d : D} {v : V}, Is K s d v → Is K (s.priv p o) d v
  | .non, _, h => by simp only [Is] at h ⊢; exact h
  | .bl _, _, h => by simp only [Is] at h ⊢; exact h
  | .int _, _, h => by simp only [Is] at h ⊢; exact h
  | .str _, _, h => by simp only [Is] at h ⊢; exact h
  | .tup ds, v, h => by
    simp only [Is] at h ⊢
    obtain ⟨a, vs, e, h1, h2⟩ := h
    refine ⟨a, vs, e, ?_, IsL.priv h2⟩
    rcases h1 with (h1 | ⟨o', h1⟩) | h1
    · exact .inl (.inl (by show upd s.H p o a = _; rw [upd_ne (fun z => hl.1 _ (by rw [← z]; exact h1))]; exact h1))
    · exact .inl (.inr ⟨o', by show upd s.H p o a = _; rw [upd_ne (fun z => hl.2 _ _ (by rw [← z]; exact h1))]; exact h1⟩)
    · exact .inr h1
  | .lst ds, v, h => by
    simp only [Is] at h ⊢
    obtain ⟨a, vs, e, h1, n, h2⟩ := h
    exact ⟨a, vs, e, by show upd s.H p o a = _; rw [upd_ne (fun z => n.2 (by rw [z]; exact hp))]; exact h1, n, IsL.priv h2⟩
  | .fz ds, v, h => by
    simp only [Is] at h ⊢
    obtain ⟨a, vs, e, h1, h2⟩ := h
    refine ⟨a, vs, e, ?_, IsL.priv h2⟩
    rcases h1 with ⟨o', h1⟩ | h1
    · exact .inl ⟨o', by show upd s.H p o a = _; rw [upd_ne (fun z => hl.2 _ _ (by rw [← z]; exact h1))]; exact h1⟩
    · exact .inr h1
  | .dic ks ds, v, h => by
    simp only [Is] at h ⊢
    obtain ⟨a, kvs, e, h1, n, hk, h2⟩ := h
    exact ⟨a, kvs, e, by show upd s.H p o a = _; rw [upd_ne (fun z => n.2 (by rw [z]; exact hp))]; exact h1, n, hk, IsL.priv h2⟩
  | .ref i, v, h => by
    simp only [Is] at h ⊢
    exact h
theorem IsL.priv : ∀ {ds : List D} {vs : List V}, IsL K s ds vs → IsL K (s.priv p o) ds vs
  | [], _, h => by simp only [IsL] at h ⊢; exact h
  | d :: ds, vs, h => by
    simp only [IsL] at h ⊢
    obtain ⟨v, r, e, h1, h2⟩ := h
    exact ⟨v, r, e, Is.priv h1, IsL.priv h2⟩
end
theorem Abs.priv (A : Abs K ca s) : Abs K ca (s.priv p o) where
  ok := fun i u e => by
    have h := A.ok i u e
    by_cases hg : u = .gone
    · subst hg; trivial
    · have ne : s.ρ i ≠ p := fun z => A.pv i ⟨u, e, hg⟩ (z ▸ hp)
      have k : ∀ w, s.H (s.ρ i) = some w → upd s.H p o (s.ρ i) = some w := fun w hw => by rw [upd_ne ne]; exact hw
      cases u with
      | lst ds => obtain ⟨vs, h1, h2⟩ := h; exact ⟨vs, k _ h1, h2.priv hp hl⟩
      | dic ks ds => obtain ⟨kvs, h1, h2, h3⟩ := h; exact ⟨kvs, k _ h1, h2, h3.priv hp hl⟩
      | ins c fs ds => obtain ⟨dx, kvs, h1, h2, h3⟩ := h; exact ⟨dx, kvs, k _ h1, h2, h3.priv hp hl⟩
      | gone => trivial
  inj := A.inj
  pv := A.pv
  pt := fun a h => by
    show upd s.H p o a ≠ none
    unfold upd
    split
    · exact nofun
    · exact A.pt a h
end
theorem nl_lst {p : Addr} {us : List V} (h : s.H p = some (.lst us)) : (∀ vs, s.H p ≠ some (.tup vs)) ∧ ∀ o u, s.H p ≠ some (.frz o u) := ⟨(fun _ z => by (rw [h] at z; cases z)), (fun _ _ z => by (rw [h] at z; cases z))⟩
theorem nl_dK {p : Addr} {us : List (Key × V)} (h : s.H p = some (.dK us)) : (∀ vs, s.H p ≠ some (.tup vs)) ∧ ∀ o u, s.H p ≠ some (.frz o u) := ⟨(fun _ z => by (rw [h] at z; cases z)), (fun _ _ z => by (rw [h] at z; cases z))⟩
theorem Ext.priv {s0 : SM} {p : Addr} {o : HO} (E : Ext s0 s) (h0 : s0.H p = none) : Ext s0 (s.priv p o) where
  len := E.len
  rho := E.rho
  ali := E.ali
  keep := fun a u h n => by
    show upd s.H p o a = some u
    rw [upd_ne (ne_of_none h h0)]; exact E.keep a u h n
  stay := fun a h => by
    show upd s.H p o a ≠ none
    unfold upd
    split
    · exact nofun
    · exact E.stay a h
  new := E.new
  pv := E.pv
  pk := E.pk
/-- a new private object -/
def SM.own (s : SM) (p : Addr) (o : HO) : SM := ⟨s.ρ, s.M, upd s.H p o, fun a => s.P a ∨ a = p⟩
theorem Ext.own {p : Addr} {o : HO} (hp : s.H p = none) : Ext s (s.own p o) where
  len := Nat.le_refl _
  rho := fun _ _ => rfl
  ali := fun _ _ h => h
  keep := fun a u h _ => by
    show upd s.H p o a = some u
    rw [upd_ne (ne_of_none h hp)]; exact h
  stay := fun a h => by
    show upd s.H p o a ≠ none
    unfold upd
    split
    · exact nofun
    · exact h
  new := fun i h1 h2 => absurd h2.lt (by show ¬ i < s.M.length; omega)
  pv := fun a h => by
    rcases h with h | h
    · exact .inl h
    · exact .inr (h ▸ hp)
  pk := fun _ h => .inl h
theorem Abs.own (A : Abs K ca s) {p : Addr} {o : HO} (hp : s.H p = none) : Abs K ca (s.own p o) where
  ok := fun i u e => (A.ok i u e).mono A (Ext.own hp) fun v hv => by
    show upd s.H p o (s.ρ i) = some v
    rw [upd_ne (ne_of_none hv hp)]; exact hv
  inj := A.inj
  pv := fun i hi z => by
    rcases z with z | z
    · exact A.pv i hi z
    · obtain ⟨u, hu⟩ := A.there hi
      rw [show s.ρ i = p from z, hp] at hu; cases hu
  pt := fun a h => by
    rcases h with h | h
    · exact (Ext.own (o := o) hp).stay a (A.pt a h)
    · rw [h]; show upd s.H p o p ≠ none; rw [upd_same]; exact nofun
theorem Ext.back {s0 : SM} (E : Ext s0 s) : Ext s0 (s.dis s0.P) := ⟨E.len, E.rho, E.ali, E.keep, E.stay, E.new, fun _ h => .inl h, fun _ h => h⟩
/-- a state of a turn: the list at p is private -/
structure Turn (K : PySem.W.Frag) (ca : Nat → Addr) (s0 : SM) (p : Addr) (L : Lc) (σ : L2.St) (acc : List D) (s : SM) (H : Hp) : Prop where
  S : Sta K ca s L σ H
  E : Ext s0 s
  P : s.P p
  A : ∃ us, s.H p = some (.lst us) ∧ IsL K s acc us
theorem Turn.ext {s0 : SM} {p : Addr} {acc : List D} (T : Turn K ca s0 p L σ acc s H) (h0 : s0.H p = none) (x : Ext s s') (a : Abs K ca s') : Turn K ca s0 p L σ acc s' s'.H := by
  obtain ⟨S, E, P, us, h1, h2⟩ := T
  refine ⟨S.ext x a, E.trans x, x.pk p P, us, x.keep p _ h1 ?_, h2.mono S.a x⟩
  rintro ⟨i, hi, e⟩
  exact S.a.pv i hi (e ▸ P)
theorem Turn.app {s0 : SM} {p : Addr} {acc : List D} (T : Turn K ca s0 p L σ acc s H) (h0 : s0.H p = none) {d : D} {v : V} (hd : Is K s d v) : ∃ us, H p = some (.lst us) ∧ us.length = acc.length ∧ Turn K ca s0 p L σ (acc ++ [d]) (s.priv p (.lst (us ++ [v]))) (upd H p (.lst (us ++ [v]))) := by
  obtain ⟨S, E, P, us, h1, h2⟩ := T
  refine ⟨us, by rw [← S.h]; exact h1, h2.length, ⟨by rw [← S.h]; rfl, ⟨S.l.len, fun i d e => ?_⟩, S.a.priv P (nl_lst h1)⟩, E.priv h0, P, us ++ [v], by show upd s.H p _ p = _; exact upd_same, ?_⟩
  · obtain ⟨w, q1, q2⟩ := S.l.at' i d e
    exact ⟨w, q1, q2.priv P (nl_lst h1)⟩
  · exact IsL.append (h2.priv P (nl_lst h1)) (IsL.cons (hd.priv P (nl_lst h1)) IsL.nil)
theorem lc_is {g : TgM} {sl : List Nat} {t : BM} {f : EM} {it : It'} {J : It} {s0 : SM} {L : Lc} {σ : L2.St} {H : Hp} {Q : VK} {vs : List Nat} (hsl : ∀ i ∈ sl, i ∈ vs) (hJ : JOk K ca s0 J it) (S : Sta K ca s0 L σ H) (q : SatG K ca (fun s' d => ∀ v, Is K s' d v → Q v s'.H) (fun c d H => W c d σ H) s0 (lcG g t f it (wipeL L vs) cap 0 [] s0.M)) :
    ∀ p, H p = none → ∃ W0 : Nat → Nat → Hp → Prop, (∃ m, W0 0 m (upd H p (.lst []))) ∧ ∀ i m H, W0 i m H →
      (J.stop i H ∧ Q (.ref p) H) ∨ (J.go i H ∧ ∃ Nx : Hp → Prop, (∀ H', Nx H' → ∃ m', m' < m ∧ W0 (i + 1) m' H') ∧ ∀ x H', J.yld i H x H' → XG K ca g sl x (L2.wipe σ vs) H' fun σ2 H2 => L2.wipe σ2 vs = L2.wipe σ vs ∧ XB K ca (fun c d _ H => W c d σ H) t σ2 H2 fun b H3 =>
        if b = true then XT K ca (fun c d _ H => W c d σ H) f σ2 H3 fun y H4 => ∃ acc, H4 p = some (.lst acc) ∧ acc.length < sizeLine ∧ Nx (upd H4 p (.lst (acc ++ [y]))) else Nx H3) := by
  intro p hp
  rw [← S.h] at hp
  have hwid : ∀ {σ2 : L2.St}, (∀ j, j ∉ sl → σ2[j]? = (L2.wipe σ vs)[j]?) → σ2.length = (L2.wipe σ vs).length → L2.wipe σ2 vs = L2.wipe σ vs := fun {σ2} o hl => by
    apply List.ext_getElem?
    intro i
    have key : ∀ (vs' : List Nat) (τ : L2.St) (i : Nat), (i ∈ vs' → (L2.wipe τ vs')[i]? = if i < τ.length then some none else none) ∧ (i ∉ vs' → (L2.wipe τ vs')[i]? = τ[i]?) := by
      intro vs' τ i
      induction vs' with
      | nil => exact ⟨fun h => by simp at h, fun _ => rfl⟩
      | cons v r ih =>
        unfold L2.wipe
        by_cases hv : v = i
        · subst hv
          refine ⟨fun _ => ?_, fun h => by simp at h⟩
          rw [List.getElem?_set]
          simp [L2.wipe_length]
        · refine ⟨fun h => ?_, fun h => ?_⟩
          · rw [List.getElem?_set_ne hv]
            rcases List.mem_cons.mp h with h | h
            · exact absurd h.symm hv
            · exact ih.1 h
          · rw [List.getElem?_set_ne hv]
            exact ih.2 fun z => h (List.mem_cons_of_mem _ z)
    by_cases hi : i ∈ vs
    · rw [(key vs σ2 i).1 hi, (key vs σ i).1 hi, hl, L2.wipe_length]
    · rw [(key vs σ2 i).2 hi, o i fun z => hi (hsl i z)]
  refine ⟨fun i m H => ∃ s acc, Turn K ca s0 p (wipeL L vs) (L2.wipe σ vs) acc s H ∧ acc.length ≤ i ∧ i + m ≤ cap ∧ SatG K ca (fun s' d => ∀ v, Is K s' d v → Q v s'.H) (fun c d H => W c d σ H) s0 (lcG g t f it (wipeL L vs) m i acc s.M), ⟨cap, s0.own p (.lst []), [], ?_, Nat.le_refl _, by omega, q⟩, ?_⟩
  · exact ⟨⟨by rw [← S.h]; rfl, (S.l.wipe vs).mono S.a (Ext.own hp), S.a.own hp⟩, Ext.own hp, .inr rfl, [], by show upd s0.H p _ p = _; exact upd_same, IsL.nil⟩
  rintro i m H ⟨s, acc, T, hi, him, q⟩
  cases m with
  | zero => exact q.elim
  | succ m =>
    obtain ⟨j1, j2⟩ := hJ s T.E T.S.a i
    unfold lcG at q
    split at q
    · exact q.elim
    · rename_i e1
      have := j1 e1
      rw [T.S.h] at this
      refine .inl ⟨this, ?_⟩
      obtain ⟨us, h1, h2⟩ := T.A
      have hP : ∀ a, s0.P a → s.P a := T.E.pk
      have := q (s.dis s0.P) rfl T.E.back (T.S.a.dis hP) (.ref p) (by
        simp only [Is]
        refine ⟨p, us, rfl, h1, ⟨?_, fun z => S.a.pt p z hp⟩, h2.dis hP⟩
        rintro ⟨k, hk, e⟩
        exact T.S.a.pv k hk (e ▸ T.P))
      rw [← T.S.h]; exact this
    · rename_i d e1
      obtain ⟨hgo, hy⟩ := j2 d e1
      rw [T.S.h] at hgo hy
      split at q
      · exact q.elim
      · rename_i L1 e2
        refine .inr ⟨hgo, fun H' => ∃ m', m' < m + 1 ∧ ∃ s acc, Turn K ca s0 p (wipeL L vs) (L2.wipe σ vs) acc s H' ∧ acc.length ≤ i + 1 ∧ i + 1 + m' ≤ cap ∧ SatG K ca (fun s' d => ∀ v, Is K s' d v → Q v s'.H) (fun c d H => W c d σ H) s0 (lcG g t f it (wipeL L vs) m' (i + 1) acc s.M), fun H' z => z, fun x H' yy => ?_⟩
        obtain ⟨s2, h2, m2, E2, A2, I2⟩ := hy x H' yy
        have T2 := T.ext hp E2 A2
        rw [h2] at T2
        refine ⟨wipeL L vs, s2, d, L1, T2.S, I2, e2, fun σ' S' only => ⟨hwid only.2 only.1, L1, s2, S', ?_⟩⟩
        have exc : ∀ {s3 : SM} {c : Nat} {fs : List Str} {ds : List D} {M' : Mem}, SatG K ca (fun s' d => ∀ v, Is K s' d v → Q v s'.H) (fun c d H => W c d σ H) s0 (Res.ex (α := D) c fs ds M') → Ext s0 s3 → ∀ s' dd kvs, s'.M = M' → Ext s3 s' → Abs K ca s' → s'.H dd = some (.xd kvs) → kvs.map (·.1) = fs → IsL K s' ds (kvs.map (·.2)) → W (.ref (ca c)) (some dd) σ s'.H := fun {s3 c fs ds M'} h E s' dd kvs e x a k1 k2 k3 => by
          have E' := E.trans x
          have hP : ∀ a, s0.P a → s'.P a := E'.pk
          exact h (s'.dis s0.P) dd kvs e E'.back (a.dis hP) k1 k2 (k3.dis hP)
        rw [← m2] at q
        cases e3 : t L1 s2.M with
        | stk => rw [e3] at q; exact q.elim
        | ex c fs ds M' => rw [e3] at q; exact exc q T2.E
        | ok b M' =>
          rw [e3] at q
          intro s3 e4 x3 a3
          have T3 := T2.ext hp x3 a3
          have q : SatG K ca (fun s' d => ∀ v, Is K s' d v → Q v s'.H) (fun c d H => W c d σ H) s0 (if b = true then (f L1 M').bind fun x M2 => lcG g t f it (wipeL L vs) m (i + 1) (acc ++ [x]) M2 else lcG g t f it (wipeL L vs) m (i + 1) acc M') := q
          dsimp only
          cases b with
          | false =>
            rw [if_neg Bool.false_ne_true] at q ⊢
            exact ⟨m, Nat.lt_succ_self m, s3, acc, T3, by omega, by omega, by rw [e4]; exact q⟩
          | true =>
            rw [if_pos rfl] at q ⊢
            refine ⟨L1, s3, S'.ext x3 a3, ?_⟩
            rw [e4]
            cases e5 : f L1 M' with
            | stk => rw [e5] at q; exact q.elim
            | ex c fs ds M' => rw [e5] at q; exact exc q T3.E
            | ok y M' =>
              rw [e5] at q
              intro s4 e6 x4 a4 v hv
              obtain ⟨us, u1, u2, u3⟩ := (T3.ext hp x4 a4).app hp hv
              refine ⟨us, u1, ?_, m, Nat.lt_succ_self m, _, acc ++ [y], u3, by rw [List.length_append, List.length_singleton]; omega, by omega, ?_⟩
              · have : cap < sizeLine := by unfold cap; decide
                omega
              · show SatG K ca _ _ s0 (lcG g t f it (wipeL L vs) m (i + 1) (acc ++ [y]) s4.M)
                rw [e6]; exact q
end
section
variable {X : Cx} {ca : Nat → Addr} {W : WX} {e c elt tg iter : Expr} {ifs : List Expr} {scope : Scope} {f : EM} {B : BM} {it : Lc → Mem → Res It'} {g : TgM} {sl vs : List Nat} {pos pos' : Pos} {own : List (Str × Nat)}
theorem PTs.imp {ifs : List Expr} {t t' : TT} (h : PTs X ifs t) (hi : ∀ σ H Q, t' σ H Q → t σ H Q) : PTs X ifs t' := ⟨fun pins s σ H Q I q => h.run pins s σ H Q I (hi _ _ _ q)⟩
theorem xts_nil : PTs X [] (XB X.K ca W mYes) := PTs.imp pts_nil fun σ H Q ⟨L, s, S, q⟩ => by
  have : Q true s.H := q s rfl (Ext.refl s) S.a
  rw [S.h] at this; exact this
theorem xts_one (h : PT X c (XB X.K ca W B)) : PTs X [c] (XB X.K ca W B) := pts_one h
theorem tlc_is {σ : L2.St} {H : Hp} {Q : VK} (hsl : ∀ i ∈ sl, i ∈ vs) (q : XT X.K ca W (mLc it g B f vs) σ H Q) :
    tLc (XI X.K ca W it) (XG X.K ca g sl) (XB X.K ca (WB W σ) B) (XT X.K ca (WB W σ) f) vs σ H Q := by
  obtain ⟨L, s, S, q⟩ := q
  unfold tLc
  have q : SatG X.K ca (fun s' d => ∀ v, Is X.K s' d v → Q v s'.H) (fun c d H => W c d σ H) s ((it L s.M).bind fun J M1 => lcG g B f J (wipeL L vs) cap 0 [] M1) := q
  refine ⟨L, s, S, SatG.imp (fun s' jt hh J hJ p hp => ?_) q.bind⟩
  obtain ⟨E, A, q⟩ := hh
  exact lc_is hsl hJ (S.ext E A) q p hp
theorem xe_lc (hc : X.calm = true) (hN : X.N.Nodup) (hstk : X.stack = X.env :: X.outer) (hfr : X.env.frame = some X.env.locals) (tk : Takes X W) (hsl : ∀ i ∈ sl, i ∈ own.map (·.2)) (hi : PI X tg iter (XI X.K ca W it)) (ok : BlkOk X.N X.env.scope scope own)
    (hg : ∀ (s : Shared) (H : Hp) (C : Addr) (cl : List (Str × Addr)) (fp : List Addr), PG (X.blk s H scope (compEnvC scope cl C X.env) fp) tg (XG X.K ca g sl))
    (ht : ∀ (σ : L2.St) (s : Shared) (H : Hp) (C : Addr) (cl : List (Str × Addr)) (fp : List Addr) (xe : Value → Shared → Prop), Takes ((X.blk s H scope (compEnvC scope cl C X.env) fp).wish xe) (WB W σ) → PTs ((X.blk s H scope (compEnvC scope cl C X.env) fp).wish xe) ifs (XB X.K ca (WB W σ) B))
    (he : ∀ (σ : L2.St) (s : Shared) (H : Hp) (C : Addr) (cl : List (Str × Addr)) (fp : List Addr) (xe : Value → Shared → Prop), Takes ((X.blk s H scope (compEnvC scope cl C X.env) fp).wish xe) (WB W σ) → PE ((X.blk s H scope (compEnvC scope cl C X.env) fp).wish xe) elt (XT X.K ca (WB W σ) f)) (hs : ∀ x, foldedSetIterable iter X.env x = pure x := by intro _; rfl) :
    PE X (.ListComp elt [⟨tg, iter, ifs, 0⟩] scope pos) (XT X.K ca W (mLc it g B f (own.map (·.2)))) :=
  PE.imp (pe_lcX (tt := fun σ => XB X.K ca (WB W σ) B) (te := fun σ => XT X.K ca (WB W σ) f) hc hN hstk hfr tk hi ok hg ht he hs) fun σ H Q q => tlc_is hsl q
/-- name = [..] on one line, the name a local -/
theorem xs_setLc (i : Nat) {y : Str} {py spos : Pos} (hc : X.calm = true) (hN : X.N.Nodup) (hstk : X.stack = X.env :: X.outer) (hfr : X.env.frame = some X.env.locals) (tk : Takes X W) (hsl : ∀ i ∈ sl, i ∈ own.map (·.2)) (hi : PI X tg iter (XI X.K ca W it)) (ok : BlkOk X.N X.env.scope scope own)
    (hg : ∀ (s : Shared) (H : Hp) (C : Addr) (cl : List (Str × Addr)) (fp : List Addr), PG (X.blk s H scope (compEnvC scope cl C X.env) fp) tg (XG X.K ca g sl))
    (ht : ∀ (σ : L2.St) (s : Shared) (H : Hp) (C : Addr) (cl : List (Str × Addr)) (fp : List Addr) (xe : Value → Shared → Prop), Takes ((X.blk s H scope (compEnvC scope cl C X.env) fp).wish xe) (WB W σ) → PTs ((X.blk s H scope (compEnvC scope cl C X.env) fp).wish xe) ifs (XB X.K ca (WB W σ) B))
    (he : ∀ (σ : L2.St) (s : Shared) (H : Hp) (C : Addr) (cl : List (Str × Addr)) (fp : List Addr) (xe : Value → Shared → Prop), Takes ((X.blk s H scope (compEnvC scope cl C X.env) fp).wish xe) (WB W σ) → PE ((X.blk s H scope (compEnvC scope cl C X.env) fp).wish xe) elt (XT X.K ca (WB W σ) f))
    (hy : X.N[i]? = some y := by rfl) (hyl : X.env.scope.names.lookup y = some .local := by rfl) (hsw : swapsWith (.ListComp elt [⟨tg, iter, ifs, 0⟩] scope pos) (some (.Name y py)) spos.line X.env = pure true := by exact sw_true rfl rfl rfl rfl) (hs : ∀ x, foldedSetIterable iter X.env x = pure x := by intro _; rfl) :
    PS X (.Assign [.Name y py] (.ListComp elt [⟨tg, iter, ifs, 0⟩] scope pos) spos) (XS X.K ca W (mSet i (mLc it g B f (own.map (·.2))))) := by
  refine ⟨fun pins s σ H Dn I h => ?_⟩
  rw [exec_Assign_Name_used _ _ _ _ hsw]
  refine wpAny_bind (wpAny_standAt (wpAny_bind ?_))
  show wpAny _ X.A (do let _ ← comprehension (.ListComp elt [⟨tg, iter, ifs, 0⟩] scope pos) scope X.env (firstIterPos [⟨tg, iter, ifs, 0⟩] pos) (newList []) false (eval iter X.env) (some (assign (.Name y py) X.env))) _ _ s
  have h : tLc (XI X.K ca W it) (XG X.K ca g sl) (XB X.K ca (WB W σ) B) (XT X.K ca (WB W σ) f) (own.map (·.2)) σ H (fun x H1 => gName i x σ H1 Dn.nx) := by
    obtain ⟨L, s, S, q⟩ := h
    refine tlc_is hsl (XT.mono (xs_seq S q) fun v H1 ⟨s1, d, S1, E1, I1, q1⟩ => ?_)
    exact nx_end (S1.set i I1) q1
  refine wpAny_bind (thn (lc_coreX (tt := fun σ => XB X.K ca (WB W σ) B) (te := fun σ => XT X.K ca (WB W σ) f) (Qf := fun _ s' => SP X pins Dn .next s') hc hN hstk hfr tk I hi ok hg (ht σ) (he σ) hs h fun D C s' m H' I' q hn f ce hce => ?_) fun _ s' hq => wpAny_pure (wpAny_pure hq))
  subst hce
  show wpAny _ _ (assign (.Name y py) X.env (.ref D)) _ _ _
  refine wpAny_assign_Name (store_ok2 (v := V.ref D) I' hN hy (.inl hyl) rfl (fun s2 I2 ⟨a, sb, ha⟩ => ?_) (.inr hyl))
  obtain ⟨f0, f1, f2, f3, f4, f5⟩ := f
  have haC : ce.locals ≠ a := by
    rcases ha with z | z
    · rw [z]; exact f1
    · exact fun e => f4 y a z e.symm
  refine ⟨m, hn.sameBut sb haC, fun h3 sb3 => ?_⟩
  exact ⟨_, H', I2.turned (t' := s2.toks) (fun b o hb e => (sb3.2 b hb).trans e) f0 f1 f3 f4 f5, q⟩
end
end XM
/-! ## XMx -/
set_option maxHeartbeats 200000
set_option linter.all false
set_option autoImplicit false
set_option maxRecDepth 100000
set_option maxHeartbeats 2000000
/-! own exceptions whose __init__ says super().__init__(code), then self.code = code; a class under it with one field more -/
namespace XM
open PySem PySem.W PySem.Calls PyProof.Rows PySem.HandSPX
section
variable {K : Frag} {mg : Str → Option Value}
theorem Mod.keeps {h h' : Heap} (m : L2.Mod K mg h) (k : ∀ b o, h.get? b = some o → h'.get? b = some o) : L2.Mod K mg h' :=
  ⟨m.kin.keeps k, m.glob.keeps k, let ⟨mb, h1, h2⟩ := m.blt; ⟨mb, h1.keeps k, h2⟩, m.nolimit.keeps k⟩
end
/-! ### the text -/
def solA : Arguments := { posonlyargs := [], args := [{ arg := "self", annotation := none, pos := ⟨4, 17, 4, 21⟩ }, { arg := "code", annotation := none, pos := ⟨4, 23, 4, 27⟩ }], vararg := none, kwonlyargs := [], kw_defaults := [], kwarg := none, defaults := [] }
abbrev supS (a b c d e f : Pos) : Stmt := .Expr (.Call (.Attribute (.Call (.Name "super" a) [] [] b) "__init__" c) [.Name "code" d] [] e) f
abbrev solB : List Stmt := [supS ⟨5, 8, 5, 13⟩ ⟨5, 8, 5, 15⟩ ⟨5, 8, 5, 24⟩ ⟨5, 25, 5, 29⟩ ⟨5, 8, 5, 30⟩ ⟨5, 8, 5, 30⟩, .Assign [.Attribute (.Name "self" ⟨6, 8, 6, 12⟩) "code" ⟨6, 8, 6, 17⟩] (.Name "code" ⟨6, 20, 6, 24⟩) ⟨6, 8, 6, 24⟩]
def solS : Scope := { kind := .function, names := [(PySem.Str.ofString "self", .local), (PySem.Str.ofString "code", .local), (PySem.Str.ofString "__class__", .free), (PySem.Str.ofString "super", .globalImplicit)], isGenerator := false, isCoroutine := false, more := [] }
def proA : Arguments := { posonlyargs := [], args := [{ arg := "self", annotation := none, pos := ⟨11, 17, 11, 21⟩ }, { arg := "code", annotation := none, pos := ⟨11, 23, 11, 27⟩ }, { arg := "step", annotation := none, pos := ⟨11, 29, 11, 33⟩ }], vararg := none, kwonlyargs := [], kw_defaults := [], kwarg := none, defaults := [] }
abbrev proB : List Stmt := [supS ⟨12, 8, 12, 13⟩ ⟨12, 8, 12, 15⟩ ⟨12, 8, 12, 24⟩ ⟨12, 25, 12, 29⟩ ⟨12, 8, 12, 30⟩ ⟨12, 8, 12, 30⟩, .Assign [.Attribute (.Name "self" ⟨13, 8, 13, 12⟩) "step" ⟨13, 8, 13, 17⟩] (.Name "step" ⟨13, 20, 13, 24⟩) ⟨13, 8, 13, 24⟩]
def proS : Scope := { kind := .function, names := [(PySem.Str.ofString "self", .local), (PySem.Str.ofString "code", .local), (PySem.Str.ofString "step", .local), (PySem.Str.ofString "__class__", .free), (PySem.Str.ofString "super", .globalImplicit)], isGenerator := false, isCoroutine := false, more := [] }
abbrev vmB : List Value := [.type "ValueError", .type "Exception", .type "BaseException", .type "object"]
/-- a def in a class whose body says super(): its function at f, the class's cell cc, the class D -/
structure SupTxt (prog : Program) (K : Frag) (mg : Str → Option Value) (q : Str) (params : Arguments) (body : List Stmt) (scope : Scope) (D f cc cda : Addr) : Prop where
  fn : ∃ (oc : Value) (od : Option Addr) (doc pm : Value) (an : Option Addr) (ct : Value) (osl : Array (Option Value)), K.lookup f = some ⟨oc, od, .func (ksFn "__init__" q params body scope .none .none doc pm an (.ref cda) ct cc), osl⟩
  hcd : codeIn K (.ref cda) q = true
  code : ∃ (ccl : Value) (cdd : Option Addr) (vs : Array Value) (ccs : Array (Option Value)) (file : Str) (tf : Tok), K.lookup cda = some ⟨ccl, cdd, .fields vs, ccs⟩ ∧ vs[2]? = some (.str file tf) ∧ ((prog.main.file : Str) == file) = true
  cell : ∃ (cl : Value) (cld : Option Addr) (csl : Array (Option Value)), K.lookup cc = some ⟨cl, cld, .cell (some (.ref D)), csl⟩
  cls : ∃ cdD, clsIn K D = some cdD
  sup : mg "super" = none
  top : (prog.main.scope.names.lookup ("super" : Str)).isSome = false
  opq : nsIn K cStatics "thirdparty.any" = some none
/-- what a class C over the text's base D must have -/
structure SupCls (K : Frag) (C : Addr) : Prop where
  ini : excInitIn K C vmB "ValueError.__new__" = true
  sve : subIn K (.ref C) (.type "ValueError") = some true
  sa : findIn K (.ref C) "__setattr__" = some (some (.builtin "object.__setattr__"))
  cd : ∃ cd, clsIn K C = some cd ∧ refsVE cd.mro = true ∧ cd.hasDict = true
  noC : findIn K (.ref C) "code" = some none
theorem one_size (v : Value) : [v].length ≤ sizeLine := by
  rw [sizeLine_eq]
  exact (by decide : 1 ≤ 16777216)
section
variable {prog : Program} {w : World} {A : Around} {E : Value → Shared → Prop} {R : Result → Shared → Prop} {s : Shared} {K : Frag} {mg : Str → Option Value} {C D fS cc cda : Addr}
/-- super(), evaluated as an attribute's object, the first parameter being self -/
theorem sup_node {q : Str} {params : Arguments} {bodyT body : List Stmt} {scope : Scope} {f : Addr} {h₀ : Heap} {L x : Addr} {m : Str → Option Value} {news : List (Addr × Obj)} {ox : Obj} {odx : Option Obj} {p0 p1 : Pos} {attr : Str} {whole : Sem Value} {Q : Value → Shared → Prop} {ar : Arg}
    (T : SupTxt prog K mg q params bodyT scope D f cc cda) (G : L2.Mod K mg h₀) (F : Fr h₀ L s.heap m) (N : News h₀ L s.heap news) (hp : (params.posonlyargs ++ params.args).head? = some ar) (hv : m ar.arg = some (.ref x)) (I : InstAt s.heap x ox C odx) (hsub : mroIn K C (.ref D) = some true)
    (hat : (attr == ("__class__" : Str)) = false) (hks : scope.names.lookup ("super" : Str) = some .globalImplicit) (hkc : scope.names.lookup ("__class__" : Str) = some .free) (hka : scope.names.lookup ar.arg = some .local) (hk : scope.kind = .function)
    (h : ∀ so h', Fr h₀ L h' m → News h₀ L h' ((so, ks_superObj D x C) :: news) → (∀ p ∈ news, p.1 < so) → Q (.ref so) { s with heap := h' }) :
    _root_.PySem.wpAt (model prog w) A (.func body (ksEnv q scope L f (.ref cda) cc)) (attributeBase (.Call (.Name "super" p0) [] [] p1) attr (ksEnv q scope L f (.ref cda) cc) whole) Q E s := by
  have X : K.In s.heap := G.kin.keeps F.keep
  obtain ⟨oc, od, doc, pm, an, ct, osl, hf⟩ := T.fn
  obtain ⟨ccl, cdd, vs, ccs, file, tf, hcode, hvs, hfile⟩ := T.code
  obtain ⟨cl, cld, csl, hcell⟩ := T.cell
  obtain ⟨cdD, hD⟩ := T.cls
  obtain ⟨mb, hb1, hb2⟩ := G.blt
  obtain ⟨hh, g, d, t, os⟩ := s
  obtain ⟨oD, hD1, hD2⟩ : ∃ oD, hh.get? D = some oD ∧ oD.data = .cls cdD := by
    unfold clsIn at hD
    split at hD
    · rename_i c d cd' sl ho
      cases hD
      exact ⟨_, X _ _ ho, rfl⟩
    · cases hD
  refine ks_wpAt_super_base (env := ksEnv q scope L f (.ref cda) cc) hks hkc hat rfl (X _ _ hf) rfl hp rfl (X _ _ hcode) rfl hvs hfile T.top ?_
  refine ks_loadName_global hk hks (loadGlobal_builtin (env := ksEnv q scope L f (.ref cda) cc) (G.glob.keeps F.keep) T.sup (hb1.keeps F.keep) ((hb2 _ (by decide +kernel)).trans (by first | boot_by_name | rfl | kernel_rfl)) ⟨rfl, ?_⟩)
  refine wpAny_loadName_free hk hkc rfl ⟨_, X _ _ hcell, rfl⟩ ?_
  refine wpAny_loadName_local hk hka F.ns hv ?_
  refine ks_wpAny_isType_cls hD1 hD2 ⟨rfl, ?_⟩
  refine ks_wpAny_call_super hD1 hD2 I.at_ I.cls (fun c e => ?_) (looks_mroIn X hsub) (fun h' e k => ?_)
  · have := I.no
    unfold notCls at this
    rw [e] at this
    exact Bool.noConfusion this
  · obtain ⟨F', N', l'⟩ := ks_newsPush (s := ⟨hh, g, d, t, os⟩) F N rfl e k
    exact h _ _ F' N' l'
/-- SolverError.__init__ on a fresh exception -/
theorem sol_init (T : SupTxt prog K mg "SolverError.__init__" solA solB solS D fS cc cda) (TC : SupCls K C) (hsub : mroIn K C (.ref D) = some true) (hm : ks_superIn K C D "__init__" = some (some (.builtin "ValueError.__init__")))
    {x t0 : Addr} {v : Value} {base : Heap} (G : L2.Mod K mg base) (hbk : ∀ b o, base.get? b = some o → s.heap.get? b = some o) (hbx : base.get? x = none)
    (hx : s.heap.get? x = some (excObj C t0 none .none)) (hroom : A.depth < recursionLimit)
    (hq : ∀ h' tk dx t1, (∀ b o, b ≠ x → s.heap.get? b = some o → h'.get? b = some o) → h'.get? x = some (excObj C t1 (some dx) .none) → s.heap.objs.size ≤ dx → dx ≠ x → h'.Ns1 dx (fun y => if y = "code" then some v else none) → R (.ok (.ret .none)) { s with heap := h', toks := tk }) :
    codeAny (model prog w) A (.call (.ref fS) ⟨[.ref x, v], []⟩) R s := by
  obtain ⟨oc, od, doc, pm, an, ct, osl, hf⟩ := T.fn
  obtain ⟨cd, hcd, hmro, hhd⟩ := TC.cd
  have X : K.In s.heap := G.kin.keeps hbk
  have hid : ∀ b o, base.get? b = some o → (s.heap.hide x).get? b = some o := fun b o e => (Heap.hide_ne _ (fun z => by rw [z, hbx] at e; cases e)).trans (hbk b o e)
  have G0 : L2.Mod K mg (s.heap.hide x) := Mod.keeps G hid
  refine ks_codeAny_call_defAt (body := solB) (binds := [("self", .ref x), ("code", v)]) hroom (X _ _ hf) rfl (G.nolimit.keeps hbk) (codeRec_of X T.hcd) rfl (BindsTo.of_eq (by first | rfl | with_unfolding_all rfl)) (by show ∀ x ∈ solS.names, x.2 ≠ .cell; decide +kernel) (locs (scope := solS) (by rfl)) (fun h₁ hns hk => ?_)
  have F : Fr (s.heap.hide x) s.heap.objs.size h₁ (fun y => ([(("self" : Str), Value.ref x), (("code" : Str), v)] : List (Str × Value)).reverse.lookup y) := ⟨hns, fun b o e => hk b o (Heap.of_hide e), Nat.le_of_eq (Heap.hide_size _ _)⟩
  have N : News (s.heap.hide x) s.heap.objs.size h₁ [(x, excObj C t0 none .none)] := fun p hp => by
    have : p = (x, excObj C t0 none .none) := by simpa using hp
    subst this
    exact ⟨hk _ _ hx, Nat.ne_of_lt (Heap.lt_size hx), Heap.hide_self _ _⟩
  show _root_.PySem.wpAt _ _ (.func _ (ksEnv "SolverError.__init__" solS s.heap.objs.size fS (.ref cda) cc)) (execs _ (ksEnv "SolverError.__init__" solS s.heap.objs.size fS (.ref cda) cc)) _ _ _
  refine ks_wpAt_execs_cons (ks_wpAt_Expr_any (ks_wpAt_MethodCall ?_))
  refine sup_node (ar := { arg := "self", annotation := none, pos := ⟨4, 17, 4, 21⟩ }) T G0 F N rfl rfl (InstAt.of_exc0 N (.head _)) hsub (by decide) (by decide +kernel) (by decide +kernel) (by decide +kernel) rfl (fun so h2 F2 N2 l2 => ?_)
  refine kxs_method kxs_ValueError F2 G0.kin N2 (.head _) (InstAt.of_exc0 N2 (.tail _ (.head _))) T.opq hm TC.sve (by decide) (fun u h3 F3 N3 l3 => ?_)
  refine kxs_callWith1 (i := "ValueError.__init__") (x := x) N3 (.head _) (spliced_more (wpAny_Name (wpAny_loadName_local (v := v) rfl (by first | rfl | with_unfolding_all rfl | kernel_rfl) F3.ns (by first | rfl | with_unfolding_all rfl | kernel_rfl) (spliced_none ⟨kxs_at N3 (.head _), ?_⟩)) (by decide)))
  have lt0 : ∀ p ∈ [(x, excObj C t0 none .none)], p.1 < s.heap.objs.size := fun p hp => by
    have : p = (x, excObj C t0 none .none) := by simpa using hp
    subst this; exact Heap.lt_size hx
  have nso : so ≠ x := fun z => by have := l2 _ (.head _); rw [z] at this; exact absurd this (Nat.lt_irrefl _)
  have nu : u ≠ x := fun z => by have := l3 _ (.tail _ (.head _)); rw [z] at this; exact absurd this (Nat.lt_irrefl _)
  refine kxs_call (t := t0) (dv := none) (c2 := .none) F3 G0.kin N3 PySem.F.excBase_ValueError TC.ini (.head _) (.tail nu (.tail nso (.head (fun p hp => nomatch hp)))) (one_size v) (fun t' h4 F4 N4 l4 => ?_)
  refine wpAt_of_wpAny ?_
  refine wpAny_execs_cons (plainObj_wpAny_Assign_Attribute ?_)
  have N4x : h4.get? x = some (excObj C t' none .none) := (N4 (x, excObj C t' none .none) (.tail _ (.tail _ (.tail _ (.head _))))).1
  refine wpAny_Name (wpAny_loadName_local (v := v) rfl (by first | rfl | with_unfolding_all rfl | kernel_rfl) F4.ns (by first | rfl | with_unfolding_all rfl | kernel_rfl) ?_) (by decide)
  refine wpAny_Name (wpAny_loadName_local (v := .ref x) rfl (by first | rfl | with_unfolding_all rfl | kernel_rfl) F4.ns (by first | rfl | with_unfolding_all rfl | kernel_rfl) ?_) (by decide)
  refine set_plain (G0.kin.keeps F4.keep) (ox := excObj C t' none .none) (od := none) ⟨N4x, rfl, rfl, trivial⟩ TC.sa ?_
  refine exc_osa (G0.kin.keeps F4.keep) N4x hcd hmro hhd TC.noC (fun h₅ tk₅ dx k₅ dn dne hx₅ hn₅ => ?_)
  have keepAll : ∀ b o, b ≠ x → s.heap.get? b = some o → h₅.get? b = some o := fun b o hb e => k₅ b o hb (F4.keep b o ((Heap.hide_ne _ hb).trans e))
  have hL : s.heap.objs.size < h4.objs.size := F4.ns.lt
  exact wpAny_execs_nil (hq h₅ tk₅ dx t' keepAll hx₅ (Nat.le_of_lt (Nat.lt_of_lt_of_le hL dn)) dne hn₅)
end
section
open Builtin Builtin.ObjectAttr
variable {prog : Program} {w : World} {A : Around} {E : Value → Shared → Prop} {R : Result → Shared → Prop} {hp : Heap} {g : Array GenState} {d : Drawn} {t : Nat} {os : OsState}
theorem store_in_old2 {M : Model} {dx : Addr} {name : Str} {tk : Tok} {v : Value} {m0 : Str → Option Value} {ns : List Str} {Q : Fin → Shared → Prop} (hn : hp.Ns1 dx m0) (hw : Within m0 ns) (hz : ns.length ≤ 1000)
    (hq : ∀ h' tk', h'.Ns1 dx (fun y => if y = name then some v else m0 y) → Heap.SameBut dx hp h' → Q (.done (.ret .none)) ⟨h', g, d, tk', os⟩) :
    wpAny M A (storeInDict dx (.str name tk) name v) Q E ⟨hp, g, d, t, os⟩ := by
  unfold storeInDict newKeyGuard
  refine wpAny_bind (wpAny_pure (wpAny_bind (wpAny_nsSet1 hn fun h' hn' hs => ?_)))
  obtain ⟨oD, esD, epD, hoD, hdD, hcD⟩ := hn'.count (Within.cons name v hw)
  refine wpAny_bind (wpAny_lookBehind hoD (by rw [hdD]; exact pastItsLine_dict (Nat.le_trans hcD (by rw [List.length_cons, sizeLine_eq]; omega))) ?_)
  wp_walk
  exact hq h' _ hn' hs
/-- self.name = v on an exception that has its dict -/
theorem exc_osa2 {K : Frag} {name : Str} {tk : Tok} {v : Value} {x C dx : Addr} {fv : Array Value} {cd : ClassData} {m0 : Str → Option Value} {nl : List Str}
    (X : K.In hp) (hx : hp.get? x = some { cls := .ref C, dict := some dx, data := .fields fv }) (hns : hp.Ns1 dx m0) (hw : Within m0 nl) (hz : nl.length ≤ 1000) (hcd : clsIn K C = some cd) (hm : refsVE cd.mro = true) (hh : cd.hasDict = true) (ha : findIn K (.ref C) name = some none)
    (hq : ∀ h' tk', (∀ b o, b ≠ dx → hp.get? b = some o → h'.get? b = some o) → h'.Ns1 dx (fun y => if y = name then some v else m0 y) → R (.ok (.ret .none)) ⟨h', g, d, tk', os⟩) :
    codeAny (model prog w) A (.call (.builtin "object.__setattr__") ⟨[.ref x, .str name tk, v], []⟩) R ⟨hp, g, d, t, os⟩ := by
  obtain ⟨oD, esD, epD, hoD, hdD, _⟩ := hns.count hw
  have I : InstAt hp x { cls := .ref C, dict := some dx, data := .fields fv } C (some oD) := ⟨hx, rfl, rfl, hoD⟩
  have SF := F.store_object
  have ne := refsVE_ne hm
  have hob : cd.mro.contains (.type "object") = true := (refsVE_contains "object" _ hm).trans (by decide +kernel)
  have sub : Looks (model prog w) hp (isInstance (.ref x) (.type "object")) true := I.type.andThen (looks_mroIn X (by unfold mroIn; rw [hcd, Option.bind_some, if_neg (by rw [ne]; decide), hob]))
  refine codeAny_call_builtin SF.slot.plain SF.entry (@check_slot (model prog w) _ _ ⟨hp, g, d, t, os⟩ "object.__setattr__" "object" "__setattr__" (.ref x) [.str name tk, v] [] _ SF.kind SF.split sub (SF.args (.ref x) (.str name tk) v) ?_)
  have hmr : Looks (model prog w) hp (mroOf (.ref C)) cd.mro := (looks_clsIn X hcd).andThen .now
  have L3 : Looks (model prog w) hp (storeTaker? none) none := .now
  have hcls : Looks (model prog w) hp (classData C) cd := looks_clsIn X hcd
  rw [osa_eq, refuse_eq]
  refine wpAny_bind (wpAny_bind (I.type.at (wpAny_bind (hmr.at ?_))))
  rw [refsVE_pass _ _ hm]
  refine wpAny_pure (wpAny_bind (I.type.at (wpAny_bind ((looks_findIn X ha).at (wpAny_bind (L3.at ?_))))))
  show wpAny _ _ (storeInOwnDict (.ref x) (.ref C) (.str name tk) name v false) _ _ _
  obtain ⟨nm, bs, mro, ns, qn, hd, sn, sb, ab, col, del⟩ := cd
  dsimp only at hh
  subst hh
  unfold storeInOwnDict ownDictForStores
  repeat (first | with_reducible refine store_in_old2 hns hw hz ?_ | with_reducible refine wpAny_loadPart_at hx ?_ | with_reducible refine hcls.at ?_ | wp_step)
  intro h' tk' hn' hs
  exact hq h' tk' (fun b o hb ho => (hs.2 b hb).trans ho) hn'
end
section
variable {prog : Program} {w : World} {A : Around} {E : Value → Shared → Prop} {R : Result → Shared → Prop} {s : Shared} {K : Frag} {mg : Str → Option Value} {C D D2 fS cc cda fP cc2 cda2 : Addr}
/-- ProofError.__init__ on a fresh exception -/
theorem pro_init (T : SupTxt prog K mg "SolverError.__init__" solA solB solS D fS cc cda) (TP : SupTxt prog K mg "ProofError.__init__" proA proB proS D2 fP cc2 cda2) (TC : SupCls K C) (hsub : mroIn K C (.ref D) = some true) (hm : ks_superIn K C D "__init__" = some (some (.builtin "ValueError.__init__")))
    (hsub2 : mroIn K C (.ref D2) = some true) (hm2 : ks_superIn K C D2 "__init__" = some (some (.ref fS))) (noS : findIn K (.ref C) "step" = some none) (tS : typeIn K (.ref fS) = some (.type "function")) (hfS : fnIn K fS = true)
    {x t0 : Addr} {v v2 : Value} {base : Heap} (G : L2.Mod K mg base) (hbk : ∀ b o, base.get? b = some o → s.heap.get? b = some o) (hbx : base.get? x = none)
    (hx : s.heap.get? x = some (excObj C t0 none .none)) (hroom : A.depth + 1 < recursionLimit)
    (hq : ∀ h' tk dx t1, (∀ b o, b ≠ x → s.heap.get? b = some o → h'.get? b = some o) → h'.get? x = some (excObj C t1 (some dx) .none) → s.heap.objs.size ≤ dx → dx ≠ x → h'.Ns1 dx (fun y => if y = "step" then some v2 else if y = "code" then some v else none) → R (.ok (.ret .none)) { s with heap := h', toks := tk }) :
    codeAny (model prog w) A (.call (.ref fP) ⟨[.ref x, v, v2], []⟩) R s := by
  obtain ⟨oc, od, doc, pm, an, ct, osl, hf⟩ := TP.fn
  obtain ⟨cd, hcd, hmro, hhd⟩ := TC.cd
  have X : K.In s.heap := G.kin.keeps hbk
  have hid : ∀ b o, base.get? b = some o → (s.heap.hide x).get? b = some o := fun b o e => (Heap.hide_ne _ (fun z => by rw [z, hbx] at e; cases e)).trans (hbk b o e)
  have G0 : L2.Mod K mg (s.heap.hide x) := Mod.keeps G hid
  refine ks_codeAny_call_defAt (body := proB) (binds := [("self", .ref x), ("code", v), ("step", v2)]) (by omega) (X _ _ hf) rfl (G.nolimit.keeps hbk) (codeRec_of X TP.hcd) rfl (BindsTo.of_eq (by first | rfl | with_unfolding_all rfl)) (by show ∀ x ∈ proS.names, x.2 ≠ .cell; decide +kernel) (locs (scope := proS) (by rfl)) (fun h₁ hns hk => ?_)
  have F : Fr (s.heap.hide x) s.heap.objs.size h₁ (fun y => ([(("self" : Str), Value.ref x), (("code" : Str), v), (("step" : Str), v2)] : List (Str × Value)).reverse.lookup y) := ⟨hns, fun b o e => hk b o (Heap.of_hide e), Nat.le_of_eq (Heap.hide_size _ _)⟩
  have N : News (s.heap.hide x) s.heap.objs.size h₁ [(x, excObj C t0 none .none)] := fun p hp => by
    have : p = (x, excObj C t0 none .none) := by simpa using hp
    subst this
    exact ⟨hk _ _ hx, Nat.ne_of_lt (Heap.lt_size hx), Heap.hide_self _ _⟩
  show _root_.PySem.wpAt _ _ (.func _ (ksEnv "ProofError.__init__" proS s.heap.objs.size fP (.ref cda2) cc2)) (execs _ (ksEnv "ProofError.__init__" proS s.heap.objs.size fP (.ref cda2) cc2)) _ _ _
  refine ks_wpAt_execs_cons (ks_wpAt_Expr_any (ks_wpAt_MethodCall ?_))
  refine sup_node (ar := { arg := "self", annotation := none, pos := ⟨11, 17, 11, 21⟩ }) TP G0 F N rfl rfl (InstAt.of_exc0 N (.head _)) hsub2 (by decide) (by decide +kernel) (by decide +kernel) (by decide +kernel) rfl (fun so h2 F2 N2 l2 => ?_)
  refine ks_method F2 G0.kin N2 (.head _) (InstAt.of_exc0 N2 (.tail _ (.head _))) TP.opq hm2 tS (by decide) (fun u h3 F3 N3 l3 => ?_)
  refine callWith_M G0.kin N3 (.head _) hfS (spliced_more (wpAny_Name (wpAny_loadName_local (v := v) rfl (by first | rfl | with_unfolding_all rfl | kernel_rfl) F3.ns (by first | rfl | with_unfolding_all rfl | kernel_rfl) (spliced_none ⟨methP N3 (.head _) (G0.kin.keeps F3.keep), ?_⟩)) (by decide)))
  refine call_meth N3 (.head _) ?_
  have nso : so ≠ x := fun z => by have := l2 _ (.head _); rw [z] at this; exact absurd this (Nat.lt_irrefl _)
  have nu : u ≠ x := fun z => by have := l3 _ (.tail _ (.head _)); rw [z] at this; exact absurd this (Nat.lt_irrefl _)
  have hx3 : h3.get? x = some (excObj C t0 none .none) := (N3 (x, excObj C t0 none .none) (.tail _ (.tail _ (.head _)))).1
  refine sol_init T TC hsub hm G0 F3.keep (Heap.hide_self _ _) hx3 (by show A.depth + 1 < recursionLimit; exact hroom) (fun h4 tk4 dx t1 k4 hx4 dn dne hn4 => ?_)
  refine wpAt_of_wpAny ?_
  refine wpAny_execs_cons (plainObj_wpAny_Assign_Attribute ?_)
  have hLx : s.heap.objs.size ≠ x := Nat.ne_of_gt (Heap.lt_size hx)
  have ns4 : h4.Ns s.heap.objs.size (fun y => ([(("self" : Str), Value.ref x), (("code" : Str), v), (("step" : Str), v2)] : List (Str × Value)).reverse.lookup y) := by
    obtain ⟨oL, es, ep, hL, r⟩ := F3.ns
    exact ⟨oL, es, ep, k4 _ _ hLx hL, r⟩
  have K4 : ∀ b o, (s.heap.hide x).get? b = some o → h4.get? b = some o := fun b o e => k4 b o (fun z => by rw [z, Heap.hide_self] at e; cases e) (F3.keep b o e)
  refine wpAny_Name (wpAny_loadName_local (v := v2) rfl (by first | rfl | with_unfolding_all rfl | kernel_rfl) ns4 (by first | rfl | with_unfolding_all rfl | kernel_rfl) ?_) (by decide)
  refine wpAny_Name (wpAny_loadName_local (v := .ref x) rfl (by first | rfl | with_unfolding_all rfl | kernel_rfl) ns4 (by first | rfl | with_unfolding_all rfl | kernel_rfl) ?_) (by decide)
  obtain ⟨oD, esD, epD, hoD, _⟩ := id hn4
  refine set_plain (G0.kin.keeps K4) (ox := excObj C t1 (some dx) .none) (od := some oD) ⟨hx4, rfl, rfl, hoD⟩ TC.sa ?_
  refine exc_osa2 (G0.kin.keeps K4) hx4 hn4 (Within.cons "code" v Within.nil) (by decide) hcd hmro hhd noS (fun h₅ tk₅ k₅ hn₅ => ?_)
  have hL : s.heap.objs.size < h3.objs.size := F3.ns.lt
  have dgt : s.heap.objs.size < dx := Nat.lt_of_lt_of_le hL dn
  refine wpAny_execs_nil (hq h₅ tk₅ dx t1 (fun b o hb e => k₅ b o (fun z => ?_) (k4 b o hb (F3.keep b o ((Heap.hide_ne _ hb).trans e)))) (k₅ x _ dne.symm hx4) (Nat.le_of_lt dgt) dne hn₅)
  have := Heap.lt_size e
  rw [z] at this
  exact absurd this (Nat.not_lt.mpr (Nat.le_of_lt dgt))
end
end XM
/-! ## XMy -/
set_option maxHeartbeats 200000
set_option linter.all false
set_option autoImplicit false
set_option maxRecDepth 100000
set_option maxHeartbeats 2000000
namespace XM
open PySem PySem.W PySem.Calls PyProof.Rows PySem.HandSPX
/-- a made exception of an own class -/
structure OwnM (h h' : Heap) (e C d : Addr) (m : Str → Option Value) : Prop where
  keep : ∀ b o, h.get? b = some o → h'.get? b = some o
  new : h.objs.size ≤ e
  obj : ∃ oe vs, h'.get? e = some oe ∧ oe.cls = .ref C ∧ oe.dict = some d ∧ oe.data = .fields vs ∧ vs[1]? = some .none
  dbig : h.objs.size ≤ d
  dne : d ≠ e
  ns : h'.Ns1 d m
/-- the class C is called with as many values as fields -/
def Makes (prog : Program) (w : World) (K : Frag) (mg : Str → Option Value) (C : Addr) (fs : List Str) : Prop :=
  ∀ (A : Around) (R : Result → Shared → Prop) (s : Shared) (vs : List Value) (base : Heap), L2.Mod K mg base → (∀ b o, base.get? b = some o → s.heap.get? b = some o) → base.objs.size ≤ s.heap.objs.size → vs.length = fs.length → A.depth + 2 < recursionLimit →
    (∀ h' tk e d, OwnM s.heap h' e C d (fun y => (fs.zip vs).lookup y) → R (.ok (.ret (.ref e))) { s with heap := h', toks := tk }) → codeAny (model prog w) A (.call (.ref C) ⟨vs, []⟩) R s
section
variable {prog : Program} {w : World} {K : Frag} {mg : Str → Option Value} {C D D2 fS cc cda fP cc2 cda2 : Addr}
theorem exc_made {fI : Addr} {A : Around} {R : Result → Shared → Prop} {s : Shared} {vs : List Value} {m : Str → Option Value} (TC : SupCls K C) (hi : findIn K (.ref C) "__init__" = some (some (.ref fI))) (tI : typeIn K (.ref fI) = some (.type "function")) (X : K.In s.heap) (hz : vs.length ≤ sizeLine)
    (hini : ∀ (R' : Result → Shared → Prop) (s' : Shared) (A' : Around) (x t0 : Addr), A'.depth = A.depth + 1 → (∀ b o, s.heap.get? b = some o → s'.heap.get? b = some o) → x = s.heap.objs.size + 1 → s'.heap.get? x = some (excO C t0) → s'.heap.objs.size = s.heap.objs.size + 2 → s'.gens = s.gens → s'.drawn = s.drawn → s'.os = s.os →
      (∀ h' tk dx t1, (∀ b o, b ≠ x → s'.heap.get? b = some o → h'.get? b = some o) → h'.get? x = some (excObj C t1 (some dx) .none) → s'.heap.objs.size ≤ dx → dx ≠ x → h'.Ns1 dx m → R' (.ok (.ret .none)) { s' with heap := h', toks := tk }) → codeAny (model prog w) A' (.call (.ref fI) ⟨.ref x :: vs, []⟩) R' s')
    (hq : ∀ h' tk e d, OwnM s.heap h' e C d m → R (.ok (.ret (.ref e))) { s with heap := h', toks := tk }) :
    codeAny (model prog w) A (.call (.ref C) ⟨vs, []⟩) R s := by
  obtain ⟨nm, N', qn, bs, bm, hdct, sn, sub, ab, col, dd, k0, k1, k2, k3, k5, hC, hT⟩ := excInit_of X TC.ini
  obtain ⟨oI, hoI, hcI⟩ : ∃ oI, s.heap.get? fI = some oI ∧ oI.cls = .type "function" := by
    obtain ⟨o, ho, hc⟩ := Option.map_eq_some_iff.mp (show (K.lookup fI).map (·.cls) = some (.type "function") from tI)
    exact ⟨o, X _ _ ho, hc⟩
  obtain ⟨hp, g, dr, tk, os⟩ := s
  have k : ∀ b o, hp.get? b = some o → ((hp.push (kdv_tup vs)).push (excO C hp.objs.size)).get? b = some o := fun b o e => Heap.get?_push_of_some _ (Heap.get?_push_of_some _ e)
  have hget : ((hp.push (kdv_tup vs)).push (excO C hp.objs.size)).get? (hp.objs.size + 1) = some (excO C hp.objs.size) := by heap_get
  refine HandSPX.call_own PySem.F.excBase_ValueError hT hC (looks_findIn X hi) (fun self => exc_bind hoI hcI self) hz ?_
  refine hini _ ⟨(hp.push (kdv_tup vs)).push (excO C hp.objs.size), g, dr, tk, os⟩ _ _ _ rfl k rfl hget (by rw [Heap.size_push, Heap.size_push]) rfl rfl rfl (fun h' tk' dx t1 k' hx dn dne hns => ?_)
  have old : ∀ b o, hp.get? b = some o → h'.get? b = some o := fun b o e => k' b o (Nat.ne_of_lt (Nat.lt_succ_of_lt (Heap.lt_size e))) (k b o e)
  have z : hp.objs.size + 1 + 1 ≤ dx := by
    first
      | (simpa only [Heap.size_push] using dn)
      | exact dn
  exact ⟨rfl, hq h' tk' (hp.objs.size + 1) dx ⟨old, Nat.le_succ _, ⟨_, _, hx, rfl, rfl, rfl, rfl⟩, Nat.le_trans (Nat.le_trans (Nat.le_succ _) (Nat.le_succ _)) z, dne, hns⟩⟩
theorem base_new {base h : Heap} {x : Addr} (hsz : base.objs.size ≤ h.objs.size) (hx : x = h.objs.size + 1) : base.get? x = none := by
  subst hx
  exact Heap.get?_none_of_le (Nat.le_trans hsz (Nat.le_succ _))
theorem makes_sol (T : SupTxt prog K mg "SolverError.__init__" solA solB solS D fS cc cda) (TC : SupCls K C) (hsub : mroIn K C (.ref D) = some true) (hm : ks_superIn K C D "__init__" = some (some (.builtin "ValueError.__init__")))
    (hi : findIn K (.ref C) "__init__" = some (some (.ref fS))) (tS : typeIn K (.ref fS) = some (.type "function")) : Makes prog w K mg C ["code"] := fun A R s vs base G hbk hsz hl hroom hq => by
  match vs, hl with
  | [v], _ =>
    refine exc_made (m := fun (y : Str) => if y = "code" then some v else none) TC hi tS (G.kin.keeps hbk) (one_size v) (fun R' s' A' x t0 hA k hx e hs' h1 h2 h3 hq' => ?_) fun h' tk e d M => hq h' tk e d ?_
    · exact sol_init T TC hsub hm G (fun b o q => k b o (hbk b o q)) (base_new hsz hx) e (by omega) hq'
    · obtain ⟨a1, a2, a3, a4, a5, a6⟩ := M
      refine ⟨a1, a2, a3, a4, a5, ?_⟩
      have : (fun (y : Str) => ((["code"] : List Str).zip [v]).lookup y) = fun (y : Str) => if y = "code" then some v else none := by
        funext y
        by_cases h : y = "code"
        · subst h; simp [List.lookup]
        · have : (y == ("code" : Str)) = false := by simpa using h
          simp [List.lookup, h, this]
      rw [this]; exact a6
theorem two_size (v v2 : Value) : [v, v2].length ≤ sizeLine := by
  rw [sizeLine_eq]
  exact (by decide : 2 ≤ 16777216)
theorem makes_pro (T : SupTxt prog K mg "SolverError.__init__" solA solB solS D fS cc cda) (TP : SupTxt prog K mg "ProofError.__init__" proA proB proS D2 fP cc2 cda2) (TC : SupCls K C) (hsub : mroIn K C (.ref D) = some true) (hm : ks_superIn K C D "__init__" = some (some (.builtin "ValueError.__init__")))
    (hsub2 : mroIn K C (.ref D2) = some true) (hm2 : ks_superIn K C D2 "__init__" = some (some (.ref fS))) (noS : findIn K (.ref C) "step" = some none) (tS : typeIn K (.ref fS) = some (.type "function")) (hfS : fnIn K fS = true)
    (hi : findIn K (.ref C) "__init__" = some (some (.ref fP))) (tP : typeIn K (.ref fP) = some (.type "function")) : Makes prog w K mg C ["code", "step"] := fun A R s vs base G hbk hsz hl hroom hq => by
  match vs, hl with
  | [v, v2], _ =>
    refine exc_made (m := fun (y : Str) => if y = "step" then some v2 else if y = "code" then some v else none) TC hi tP (G.kin.keeps hbk) (two_size v v2) (fun R' s' A' x t0 hA k hx e hs' h1 h2 h3 hq' => ?_) fun h' tk e d M => hq h' tk e d ?_
    · exact pro_init T TP TC hsub hm hsub2 hm2 noS tS hfS G (fun b o q => k b o (hbk b o q)) (base_new hsz hx) e (by omega) hq'
    · obtain ⟨a1, a2, a3, a4, a5, a6⟩ := M
      refine ⟨a1, a2, a3, a4, a5, ?_⟩
      have : (fun (y : Str) => ((["code", "step"] : List Str).zip [v, v2]).lookup y) = fun (y : Str) => if y = "step" then some v2 else if y = "code" then some v else none := by
        funext y
        by_cases h : y = "code"
        · subst h
          have : ¬ (("code" : Str) = "step") := by decide
          simp [List.lookup, this]
        · have h1 : (y == ("code" : Str)) = false := by simpa using h
          by_cases h2 : y = "step"
          · subst h2
            simp [List.lookup, h1]
          · have h3 : (y == ("step" : Str)) = false := by simpa using h2
            simp [List.lookup, h, h1, h2, h3]
      rw [this]; exact a6
end
end XM
namespace XM
open PySem PySem.Spec
open PyProof.Rows hiding St
open L2 hiding Rd Rd.of Rd.ok
theorem relO_zip : ∀ {fs : List Str} {vs : List V} {us : List Value}, Vals vs us → ∀ f : Str, RelO ((fs.zip vs).lookup f) ((fs.zip us).lookup f)
  | [], _, _, _, _ => trivial
  | _ :: _, [], [], _, _ => trivial
  | x :: fs, v :: vs, u :: us, h, f => by
    cases h with
    | cons h1 h2 =>
      show RelO (List.lookup f ((x, v) :: fs.zip vs)) (List.lookup f ((x, u) :: fs.zip us))
      rw [List.lookup_cons, List.lookup_cons]
      cases f == x with
      | true => exact h1
      | false => exact relO_zip h2 f
/-- what raising and reading an own exception class wants -/
structure ExC (X : Cx) (x : Str) (C : Addr) (fs : List Str) : Prop where
  gC : X.mg x = some (.ref C)
  kC : PySem.W.keepIn X.K (.ref C) = true
  exC : PySem.W.subIn X.K (.ref C) (.type "BaseException") = some true
  tyC : PySem.W.typeIn X.K (.ref C) = some (.type "type")
  mkE : Makes X.prog X.w X.K X.mg C fs
def tMkE (C : Addr) (fs : List Str) (ta : TA) : L2.St → Hp → XK → Prop := fun σ H Q => ta σ H fun vs H1 => vs.length = fs.length ∧ ∀ d, H1 d = none → Q (.ref C) (some d) (upd H1 d (.xd (fs.zip vs)))
section
variable {X : Cx} {C : Addr} {x : Str} {fs : List Str}
theorem pmk_ex {a : Expr} {es : List Expr} {ta : TA} {p pos : Pos} {k : Nat} (T : ExC X x C fs) (hr : Room k X.A) (hk2 : 2 ≤ k) (ha : PA X (a :: es) ta) (hg : Gl X x) (hd : (x == ("__debug__" : Str)) = false := by decide)
    (he : starEach (a :: es) X.env = (false, eval a X.env) :: starEach es X.env := by rfl) (hpl : (backTo pos (starEach es X.env)).any (·.1) = false := by rfl) :
    PMk X (.Call (.Name x p) (a :: es) [] pos) (tMkE C fs ta) := by
  intro pins s σ H Q I h
  refine wpAny_Call_Name_kw (ld_glob I hg T.gC ?_ hd)
  refine PySem.W.callWith_K (h₀ := X.base) I.ok.mod.kin T.kC (thn (ha.run pos pins s σ H _ I h) fun us s1 hh => ?_) he hpl
  obtain ⟨vs, H1, I1, r1, hl, q1⟩ := hh
  refine ⟨I1.kIn, ?_⟩
  show wpAny _ _ (call (.ref C) us) _ _ _
  have hul : us.length = fs.length := by rw [← hl]; exact (Vals.length r1).symm
  refine wpAny_call (T.mkE _ _ s1 us X.base I1.ok.mod I1.bk (Nat.le_trans I1.ok.bsz I1.sz) hul (by have := hr.dp; omega) fun h' tk' e d M => ?_)
  obtain ⟨hp, g, dr, tk, os⟩ := s1
  show MkP X pins σ Q (.ref e) ⟨h', g, dr, tk', os⟩
  obtain ⟨oe, fv, hoe, hc, hd, hdat, h1⟩ := M.obj
  have hns := M.ns
  obtain ⟨G', g1, g2⟩ := restrict h' fun b => decide (b ≠ e)
  have gk : ∀ b, b ≠ e → G'.get? b = h'.get? b := fun b hb => g1 b (decide_eq_true hb)
  have ge : G'.get? e = none := g2 e (by simp)
  have old : ∀ b o, hp.get? b = some o → G'.get? b = some o := fun b o q => (gk b (Nat.ne_of_lt (Nat.lt_of_lt_of_le (Heap.lt_size q) M.new))).trans (M.keep b o q)
  have ob : ObjOk X.prog X.w (upd H1 d (.xd (fs.zip vs))) G' d (.xd (fs.zip vs)) :=
    ⟨_, hns.at (fun o q => (gk d M.dne).trans q), fun f => relO_zip r1 f⟩
  have J : L2.Inv X pins σ (upd H1 d (.xd (fs.zip vs))) ⟨G', g, dr, tk', os⟩ := I1.laid (t' := tk') old M.dbig ob
  refine ⟨e, oe, fv, ⟨G', g, dr, tk', os⟩, _, .ref C, some d, rfl, J, fun b o q => ?_, ge, hoe, ⟨hc, hd⟩, hdat, h1, ?_, rfl, I1.bare, raises_own T.exC T.tyC, q1 d (I1.hok.fresh M.dbig)⟩
  · by_cases hb : b = e
    · have q' : G'.get? b = some o := q
      rw [hb, ge] at q'; cases q'
    · exact (gk b hb).symm.trans q
  · rw [upd_ne (Ne.symm M.dne)]
    exact I1.hok.fresh M.new
end
def mRz (fs : AM) (c : Nat) (ns : List Str) : SMr := fun L M => bindS (fs L M) L fun ds M1 => if ds.length = ns.length then .ex c ns ds L M1 else .stk
section
variable {X : Cx} {ca : Nat → Addr} {W : WX}
theorem xs_raise {x : Str} {c : Nat} {ns : List Str} {a : Expr} {es : List Expr} {fs : AM} {p pos pos2 : Pos} {k : Nat} (hc : X.calm = true) (tk : Takes X W) (T : ExC X x (ca c) ns) (hr : Room k X.A) (hk2 : 2 ≤ k) (ha : PA X (a :: es) (XA X.K ca W fs)) (hg : Gl X x) (hd : (x == ("__debug__" : Str)) = false := by decide)
    (he : starEach (a :: es) X.env = (false, eval a X.env) :: starEach es X.env := by rfl) (hpl : (backTo pos (starEach es X.env)).any (·.1) = false := by rfl) :
    PS X (.Raise (some (.Call (.Name x p) (a :: es) [] pos)) none pos2) (XS X.K ca W (mRz fs c ns)) := PS.imp (ps_raise hc tk (pmk_ex T hr hk2 ha hg hd he hpl)) fun Dn σ H ⟨L, s, S, q⟩ => by
  refine XA.mono (xsa_seq S (k := fun ds M1 => if ds.length = ns.length then .ex c ns ds L M1 else .stk) q) fun vs H1 ⟨s1, ds, S1, E1, I1, q1⟩ => ?_
  split at q1
  · rename_i hl
    have hv : vs.length = ns.length := by rw [I1.length]; exact hl
    refine ⟨hv, fun d hd => ?_⟩
    rw [← S1.h] at hd ⊢
    have q1 : SatS X.K ca W Dn s1 (.ex c ns ds L s1.M) := q1
    refine q1 (s1.laid d (.xd (ns.zip vs))) σ d (ns.zip vs) rfl (Ext.laid hd) ⟨rfl, S1.l.mono S1.a (Ext.laid hd), S1.a.laid hd⟩ (by show upd s1.H d _ d = _; exact upd_same) ?_ ?_
    · rw [List.map_fst_zip (by omega)]
    · rw [List.map_snd_zip (by omega)]; exact I1.mono S1.a (Ext.laid hd)
  · exact q1.elim
end
end XM
/-! ## XMh -/
set_option maxHeartbeats 200000
set_option linter.all false
set_option autoImplicit false
set_option maxRecDepth 100000
set_option maxHeartbeats 2000000
namespace XM
open PySem PySem.Spec
open PyProof.Rows hiding St
open L2 hiding Rd Rd.of Rd.ok
/-! ### a def by its body -/
theorem absL_start {K : PySem.W.Frag} {s : SM} {ds : List D} {vs : List V} {N : List Str} (I : IsL K s ds vs) : AbsL K s (startL N.length ds) (start N vs) := by
  have hl := I.length
  refine ⟨by unfold startL L2.start; simp [hl], fun i d e => ?_⟩
  unfold startL at e
  by_cases hi : i < ds.length
  · rw [List.getElem?_append_left (by simpa using hi), List.getElem?_map] at e
    cases q : ds[i]? with
    | none => rw [q] at e; cases e
    | some d' =>
      rw [q] at e
      cases e
      obtain ⟨v, h1, h2⟩ := I.get q
      refine ⟨v, ?_, h2⟩
      unfold L2.start
      rw [List.getElem?_append_left (by rw [List.length_map, hl]; exact hi), List.getElem?_map, h1]
      rfl
  · rw [List.getElem?_append_right (by simpa using hi), List.getElem?_replicate] at e
    split at e <;> cases e
section
variable {P : Program} {w : World} {K : PySem.W.Frag} {mg : Str → Option Value} {base : Heap} {ca : Nat → Addr}
abbrev WD (E : XK) : WX := fun c d _ H => E c d H
theorem fn_xs {name qual : Str} {params : Arguments} {body : List Stmt} {scope : Scope} {dV kV doc pm cdv ct oc : Value} {an od : Option Addr} {osl : Array (Option Value)} {N ps : List Str} {f : Addr} {k n : Nat} {F : SMr} {f' : List D → Mem → Res D}
    (lk : K.lookup f = some ⟨oc, od, .func (PySem.W.fnOf name qual params body scope dV kV doc pm an cdv ct), osl⟩) (hcd : PySem.W.codeIn K cdv qual = true) (S : FnScope N ps scope) (hn : ps.length = n) (hf : ∀ ds M, f' ds M = (F (startL N.length ds) M).fn)
    (hb : ∀ (A : Around) (outer : List Env) (s : Shared) (H : Hp) (E : XK), Room k (A.deeper (envOfC qual scope s.heap.objs.size f cdv)) → PSs (cxOf (L2.CX P w) P w K mg base N qual scope f cdv A outer s H E) body (XS K ca (WD E) F)) :
    FnOk P w K mg base (L2.CX P w) (k + 1) f (PySem.W.fnOf name qual params body scope dV kV doc pm an cdv ct) ps (spF K ca n f') := by
  refine fn_of lk hcd S (fun vs H Q E ⟨ds, s, _, _, I, hl, _⟩ => by rw [I.length, hl, hn]) fun A outer s H vs Q E hr ⟨ds, sm, e, Ab, I, hl, q⟩ => ⟨_, hb A outer s H E hr, startL N.length ds, sm, ⟨e, absL_start I, Ab⟩, ?_⟩
  rw [hf] at q
  cases r : F (startL N.length ds) sm.M with
  | nx L M =>
    rw [r] at q
    exact fun s' σ' e' x S' => q s' e' x S'.a .non (by simp only [Is])
  | rt d M =>
    rw [r] at q
    exact fun s' v e' x A' hv => q s' e' x A' v hv
  | bk L M => rw [r] at q; exact q.elim
  | ct L M => rw [r] at q; exact q.elim
  | ex c fs ds L M =>
    rw [r] at q
    exact fun s' σ' dd kvs e' x S' h1 h2 h3 => q s' dd kvs e' x S'.a h1 h2 h3
  | stk => rw [r] at q; exact q.elim
end
/-! ### try: .., except x as n: return .. -/
def mTry (i : Nat) (body : SMr) (isc : Nat → Option Bool) (hx : List Str → List D → Option D) : SMr := fun L M => match body L M with
  | .ex c fs ds L' M' => match isc c with
    | some true => if i < L'.length then match hx fs ds with
      | some d => .rt d M'
      | none => .stk
      else .stk
    | some false => .ex c fs ds L' M'
    | none => .stk
  | r => r
section
variable {X : Cx} {ca : Nat → Addr} {W : WX}
/-- the suite's expression, from what is known of the exception -/
def SuiteOk (K : PySem.W.Frag) (ca : Nat → Addr) (i : Nat) (isc : Nat → Option Bool) (hx : List Str → List D → Option D) (te : Addr → Value → Option Addr → TE) : Prop :=
  ∀ (s : SM) (a : Addr) (c : Nat) (fs : List Str) (ds : List D) (dd : Addr) (kvs : List (Str × V)) (σ : L2.St) (d : D) (Q : VK), Abs K ca s → isc c = some true → σ[i]? = some (some (.ref a)) → s.H dd = some (.xd kvs) → kvs.map (·.1) = fs → IsL K s ds (kvs.map (·.2)) → hx fs ds = some d →
    (∀ v, Is K s d v → Q v s.H) → te a (.ref (ca c)) (some dd) σ s.H Q
theorem xs_try {x n : Str} {cv : Value} (i : Nat) {body : List Stmt} {e : Expr} {np pos pos' rp : Pos} {F : SMr} {isc : Nat → Option Bool} {hx : List Str → List D → Option D} {te : Addr → Value → Option Addr → TE}
    (hs : X.stack = X.env :: X.outer) (hf : X.env.frame = some X.env.locals) (hN : X.N.Nodup) (hi : X.N[i]? = some n) (hln : X.env.kindOf n = some .local) (hc : Names X x cv) (tk : Takes X W)
    (hisc : ∀ c b, isc c = some b → PySem.W.exmOne X.K (.ref (ca c)) cv = some b)
    (hb : ∀ (W : WX) (pn : List (Addr × Obj)) (xe : Value → Shared → Prop), Takes (X.tr pn xe) W → PassesOwn (model X.prog X.w) X.A X.env xe → PSs (X.tr pn xe) body (XS X.K ca W F))
    (hsu : ∀ (a : Addr) (oe : Obj) (cls : Value) (d : Option Addr) (pn : List (Addr × Obj)), Zc cls d oe → (∃ vs, oe.data = .fields vs) → PE (X.suite a ((a, oe) :: pn)) e (te a cls d)) (hte : SuiteOk X.K ca i isc hx te) :
    PS X (.Try body [.ExceptHandler (some (.Name x np)) (some n) [.Return (some e) rp] pos'] [] [] pos) (XS X.K ca W (mTry i F isc hx)) := PS.imp (ps_try_as (tb := fun W => XS X.K ca W F) (ts := fun a cls d Dn σ H => te a cls d σ H Dn.rt) hs hf hN hi hln hc tk hb
      (fun a oe cls d pn hz hd => pss_one (ps_ret (hsu a oe cls d pn hz hd)))) fun Dn σ H ⟨L, s, S, q⟩ => by
  refine ⟨L, s, S, ?_⟩
  have q : SatS X.K ca W Dn s (mTry i F isc hx L s.M) := q
  unfold mTry at q
  cases r : F L s.M with
  | nx L M => rw [r] at q; exact q
  | rt d M => rw [r] at q; exact q
  | bk L M => rw [r] at q; exact q
  | ct L M => rw [r] at q; exact q
  | stk => rw [r] at q; exact q
  | ex c fs ds L' M' =>
    rw [r] at q
    dsimp only at q
    intro s' σ' dd kvs e x S' h1 h2 h3
    cases ec : isc c with
    | none => rw [ec] at q; exact q.elim
    | some b =>
      rw [ec] at q
      refine ⟨b, hisc c b ec, fun hb a ha => ?_, fun hb => ?_⟩
      · subst hb
        dsimp only at q
        split at q
        · rename_i hl
          rw [S'.l.len] at hl
          split at q
          · rename_i d ed
            exact hte s' a c fs ds dd kvs _ d _ S'.a ec (List.getElem?_set_self hl) h1 h2 h3 ed fun v hv => q s' v e x S'.a hv
          · exact q.elim
        · exact q.elim
      · subst hb
        exact q s' σ' dd kvs e x S' h1 h2 h3
end
end XM
/-! ## XMi -/
set_option maxHeartbeats 200000
set_option linter.all false
set_option autoImplicit false
set_option maxRecDepth 100000
set_option maxHeartbeats 2000000
namespace XM
open PySem PySem.Spec
open PyProof.Rows hiding St
open L2 hiding Rd Rd.of Rd.ok
/-! ### stores -/
def putFs (f : Str) : List Str → List Str
  | [] => [f]
  | k :: ks => if k = f then k :: ks else k :: putFs f ks
def putDs (f : Str) (d : D) : List Str → List D → List D
  | k :: ks, e :: es => if k = f then d :: es else e :: putDs f d ks es
  | _, _ => [d]
def drep (k : Key) (d : D) : List Key → List D → List D
  | k' :: ks, e :: es => (if k' = k then d else e) :: drep k d ks es
  | _, _ => []
def dputK (k : Key) (ks : List Key) : List Key := if (ks.any fun k' => decide (k' = k)) = true then ks else ks ++ [k]
def dputD (k : Key) (d : D) (ks : List Key) (ds : List D) : List D := if (ks.any fun k' => decide (k' = k)) = true then drep k d ks ds else ds ++ [d]
section
variable {K : PySem.W.Frag} {ca : Nat → Addr} {W : WX} {s s' : SM} {L : Lc} {σ : L2.St} {H : Hp} {Dn : Ends}
theorem putF_is {f : Str} {d : D} {v : V} (hd : Is K s d v) : ∀ {kvs : List (Str × V)} {ds : List D}, IsL K s ds (kvs.map (·.2)) → (putF f v kvs).map (·.1) = putFs f (kvs.map (·.1)) ∧ IsL K s (putDs f d (kvs.map (·.1)) ds) ((putF f v kvs).map (·.2))
  | [], ds, h => by
    simp only [List.map_nil, IsL.nil_iff] at h
    have := h
    cases ds with
    | nil => exact ⟨rfl, IsL.cons hd IsL.nil⟩
    | cons e es => simp only [List.map_nil, IsL] at h; obtain ⟨_, _, e, _⟩ := h; cases e
  | p :: r, ds, h => by
    cases ds with
    | nil => simp only [List.map_cons, IsL] at h; cases h
    | cons e es =>
      simp only [List.map_cons, IsL] at h
      obtain ⟨v', r', e1, h1, h2⟩ := h
      cases e1
      obtain ⟨g, x⟩ := p
      simp only [putF, List.map_cons, putFs, putDs]
      by_cases q : g = f
      · rw [if_pos q, if_pos q, if_pos q]
        exact ⟨rfl, IsL.cons hd h2⟩
      · rw [if_neg q, if_neg q, if_neg q]
        obtain ⟨a1, a2⟩ := putF_is hd h2
        exact ⟨by rw [List.map_cons, a1], IsL.cons h1 a2⟩
theorem drep_is {k : Key} {d : D} {v : V} (hd : Is K s d v) : ∀ {kvs : List (Key × V)} {ds : List D}, IsL K s ds (kvs.map (·.2)) → IsL K s (drep k d (kvs.map (·.1)) ds) ((kvs.map fun kv => if kv.1 = k then (kv.1, v) else kv).map (·.2))
  | [], ds, h => by
    cases ds with
    | nil => exact IsL.nil
    | cons e es => simp only [List.map_nil, IsL] at h; obtain ⟨_, _, e, _⟩ := h; cases e
  | p :: r, ds, h => by
    cases ds with
    | nil => simp only [List.map_cons, IsL] at h; cases h
    | cons e es =>
      simp only [List.map_cons, IsL] at h
      obtain ⟨v', r', e1, h1, h2⟩ := h
      cases e1
      simp only [List.map_cons, drep]
      refine IsL.cons ?_ (drep_is hd h2)
      by_cases q : p.1 = k
      · rw [if_pos q, if_pos q]; exact hd
      · rw [if_neg q, if_neg q]; exact h1
theorem any_map_key {k : Key} : ∀ {kvs : List (Key × V)}, (kvs.any fun kv => decide (kv.1 = k)) = ((kvs.map (·.1)).any fun k' => decide (k' = k))
  | [] => rfl
  | p :: r => by simp only [List.map_cons, List.any_cons, any_map_key (kvs := r)]
theorem putK_is {k : Key} {d : D} {v : V} (hd : Is K s d v) {kvs : List (Key × V)} {ds : List D} (h : IsL K s ds (kvs.map (·.2))) : (putK kvs k v).map (·.1) = dputK k (kvs.map (·.1)) ∧ IsL K s (dputD k d (kvs.map (·.1)) ds) ((putK kvs k v).map (·.2)) := by
  unfold putK dputK dputD
  rw [any_map_key]
  split
  · refine ⟨?_, drep_is hd h⟩
    rw [List.map_map]
    apply List.map_congr_left
    intro p _
    show (if p.1 = k then (p.1, v) else p).1 = p.1
    split <;> rfl
  · refine ⟨by rw [List.map_append]; rfl, ?_⟩
    rw [List.map_append]
    exact h.append (IsL.cons hd IsL.nil)
theorem Sta.chg (S : Sta K ca s L σ H) {i : Nat} {o : HO} {m : MO} (hi : Alv s.M i) (hm : OkO K ca (s.chg i o m) (s.ρ i) m) : Sta K ca (s.chg i o m) L σ (upd H (s.ρ i) o) :=
  ⟨by rw [← S.h]; rfl, S.l.mono S.a (Ext.chg hi), S.a.chg hi hm⟩
/-- what a state change to s' gives at an end -/
theorem nx_at {M : Mem} (h : SatS K ca W Dn s (.nx L M)) (E : Ext s s') (S : Sta K ca s' L σ H) (e : s'.M = M) : Dn.nx σ H := by
  have : Dn.nx σ s'.H := h s' σ e E S.self
  rw [S.h] at this; exact this
end
def fpS (L : Lc) (c : Nat) (f : Str) (d e : D) (M2 : Mem) : SRes := match e with
  | .ref i => match M2[i]? with
    | some (.ins c' fs ds) => if c' = c ∧ fs.length < 1000 then .nx L (M2.set i (.ins c (putFs f fs) (putDs f d fs ds))) else .stk
    | _ => .stk
  | _ => .stk
def mFP (o : EM) (c : Nat) (f : Str) (v : EM) : SMr := fun L M => bindS (v L M) L fun d M1 => bindS (o L M1) L fun e M2 => fpS L c f d e M2
def subS (L : Lc) (d e j : D) (M3 : Mem) : SRes := match e, j with
  | .ref r, .int k => match M3[r]? with
    | some (.lst ds) => match ixN ds.length k with
      | some n => .nx L (M3.set r (.lst (ds.set n d)))
      | none => .stk
    | _ => .stk
  | _, _ => .stk
def dputS (L : Lc) (d e j : D) (M3 : Mem) : SRes := match e, j.keyD with
  | .ref r, some k => match M3[r]? with
    | some (.dic ks ds) => if ks.length < cap then .nx L (M3.set r (.dic (dputK k ks) (dputD k d ks ds))) else .stk
    | _ => .stk
  | _, _ => .stk
def appK (x d : D) (M2 : Mem) : Res D := match x with
  | .ref r => match M2[r]? with
    | some (.lst ds) => if ds.length < cap then .ok .non (M2.set r (.lst (ds ++ [d]))) else .stk
    | _ => .stk
  | _ => .stk
/-- o[i] = v of a list of the memory -/
def mSub (o i v : EM) : SMr := fun L M => bindS (v L M) L fun d M1 => bindS (o L M1) L fun e M2 => bindS (i L M2) L fun j M3 => subS L d e j M3
/-- o[k] = v of a dict of the memory -/
def mDPut (o i v : EM) : SMr := fun L M => bindS (v L M) L fun d M1 => bindS (o L M1) L fun e M2 => bindS (i L M2) L fun j M3 => dputS L d e j M3
/-- o.append(e) -/
def isLstD (x : D) (M : Mem) : Bool := match x with
  | .ref r => match M[r]? with
    | some (.lst _) => true
    | _ => false
  | _ => false
def appG (e : EM) (L : Lc) (x : D) (M1 : Mem) : Res D := if isLstD x M1 = true then (e L M1).bind fun d M2 => appK x d M2 else .stk
def mApp (o e : EM) : EM := fun L M => (o L M).bind fun x M1 => appG e L x M1
def mDic0 : EM := fun _ M => .ok (.dic [] []) M
def mMDic0 : EM := fun _ M => .ok (.ref M.length) (M ++ [.dic [] []])
def mPar (i j : Nat) (f g : EM) : SMr := fun L M => bindS (f L M) L fun d M1 => bindS (g L M1) L fun e M2 => .nx ((L.set i (some d)).set j (some e)) M2
def mPar3 (i j l : Nat) (f g h : EM) : SMr := fun L M => bindS (f L M) L fun d M1 => bindS (g L M1) L fun e M2 => bindS (h L M2) L fun x M3 => .nx (((L.set i (some d)).set j (some e)).set l (some x)) M3
def augI (g : Int → Int → Int) : D → D → Mem → Res D
  | .int i, .int j, M => .ok (.int (g i j)) M
  | _, _, _ => .stk
def nisK : D → D → Mem → Res D
  | .bl a, .bl b, M => .ok (.bl (!decide (a = b))) M
  | _, _, _ => .stk
section
variable {X : Cx} {ca : Nat → Addr} {W : WX} {o e a b c value : Expr} {f g h v : EM} {pos pos' p p' : Pos} {x y : Str}
theorem alv_at {M : Mem} {i : Nat} {m : MO} (e : M[i]? = some m) (h : m ≠ .gone) : Alv M i := ⟨m, e, h⟩
theorem xs_fput {c : Nat} (cl : Cls X.K (ca c)) (hn : NoAttr X.K (ca c) x) (ho : PE X o (XT X.K ca W f)) (hv : PE X value (XT X.K ca W v)) (hs : swapsWith value (some (.Attribute o x pos')) pos.line X.env = pure false := by rfl) :
    PS X (.Assign [.Attribute o x pos'] value pos) (XS X.K ca W (mFP f c x v)) := PS.imp (ps_fld ho hv hs) fun Dn σ H ⟨L, s, S, q⟩ =>
  XT.mono (xs_seq S (k := fun d M1 => bindS (f L M1) L fun e M2 => fpS L c x d e M2) q) fun y H1 ⟨s1, d, S1, E1, I1, q1⟩ => XT.mono (xs_seq S1 (k := fun e M2 => fpS L c x d e M2) q1) fun z H2 ⟨s2, e, S2, E2, I2, q2⟩ => by
    unfold fpS at q2
    split at q2
    · rename_i i
      split at q2
      · rename_i c' fs ds e1
        split at q2
        · rename_i hc
          obtain ⟨rfl, hl⟩ := hc
          obtain ⟨rfl, dx, kvs, h1, h2, h3⟩ := is_mem S2.a I2 e1
          have hi : Alv s2.M i := alv_at e1 nofun
          have I1' := I1.mono S1.a E2
          subst h2
          obtain ⟨a1, a2⟩ := putF_is (f := x) I1' h3
          rw [S2.h] at h1
          refine ⟨_, _, dx, kvs, rfl, h1, cl, hn, by rw [List.length_map] at hl; exact hl, ?_⟩
          refine nx_at q2 (Ext.chg hi) (S2.chg hi ?_) rfl
          exact ⟨dx, putF x y kvs, by show upd _ _ _ _ = _; exact upd_same, a1, a2.mono S2.a (Ext.chg hi)⟩
        · exact q2.elim
      · exact q2.elim
    · exact q2.elim
theorem xs_sub {i : Expr} (ho : PE X o (XT X.K ca W f)) (hi : PE X i (XT X.K ca W g)) (hv : PE X value (XT X.K ca W v))
    (ha : ∀ v, assign (.Subscript o i p) X.env v = (do
      let ov ← holding [v] (eval o X.env)
      let iv ← holding [v, ov] (eval i X.env)
      standAt p
      holding [v, ov, iv] (setItem ov iv v)
      release [v, ov, iv] []) := by intro _; rfl)
    (hs : swapsWithSole [.Subscript o i p] value pos.line X.env = pure false := by rfl) (hw : swappedStores [.Subscript o i p] value X.env = pure none := by rfl)
    (h1 : (assignEach [.Subscript o i p] X.env).map (·.2) = [assign (.Subscript o i p) X.env] := by rfl) :
    PS X (.Assign [.Subscript o i p] value pos) (XS X.K ca W (mSub f g v)) := PS.imp (ps_asg hv (pg_sub ho hi set_list ha) hs hw h1) fun Dn σ H ⟨L, s, S, q⟩ => by
  refine XT.mono (xs_seq S (k := fun d M1 => bindS (f L M1) L fun e M2 => bindS (g L M2) L fun j M3 => subS L d e j M3) q) fun y H1 hh => ?_
  obtain ⟨s1, d, S1, E1, I1, q1⟩ := hh
  refine XT.mono (xs_seq S1 (k := fun e M2 => bindS (g L M2) L fun j M3 => subS L d e j M3) q1) fun z H2 hh => ?_
  obtain ⟨s2, e, S2, E2, I2, q2⟩ := hh
  refine XT.mono (xs_seq S2 (k := fun j M3 => subS L d e j M3) q2) fun z2 H3 hh => ?_
  obtain ⟨s3, j, S3, E3, I3, q3⟩ := hh
  unfold subS at q3
  split at q3
  · rename_i r k
    split at q3
    · rename_i ds e1
      split at q3
      · rename_i n en
        have I2' := I2.mono S2.a E3
        have I1' := (I1.mono S1.a E2).mono S2.a E3
        obtain ⟨rfl, vs, h1, h2⟩ := is_mem S3.a I2' e1
        simp only [Is] at I3
        subst I3
        have hi : Alv s3.M r := alv_at e1 nofun
        rw [S3.h] at h1
        refine ⟨_, vs, k, n, rfl, rfl, h1, by rw [h2.length]; exact en, ?_⟩
        refine nx_at q3 (Ext.chg hi) (S3.chg hi ?_) rfl
        exact ⟨vs.set n y, by show upd _ _ _ _ = _; exact upd_same, (h2.set I1' n).mono S3.a (Ext.chg hi)⟩
      · exact q3.elim
    · exact q3.elim
  · exact q3.elim
theorem xs_dput {i : Expr} (hu : X.A.units + 64 < cLine) (ho : PE X o (XT X.K ca W f)) (hi : PE X i (XT X.K ca W g)) (hv : PE X value (XT X.K ca W v)) (hs : swapsWith value (some (.Subscript o i p)) pos.line X.env = pure false := by rfl) :
    PS X (.Assign [.Subscript o i p] value pos) (XS X.K ca W (mDPut f g v)) := PS.imp (ps_dput (by omega) ho hi hv hs) fun Dn σ H ⟨L, s, S, q⟩ => by
  refine XT.mono (xs_seq S (k := fun d M1 => bindS (f L M1) L fun e M2 => bindS (g L M2) L fun j M3 => dputS L d e j M3) q) fun y H1 hh => ?_
  obtain ⟨s1, d, S1, E1, I1, q1⟩ := hh
  refine XT.mono (xs_seq S1 (k := fun e M2 => bindS (g L M2) L fun j M3 => dputS L d e j M3) q1) fun z H2 hh => ?_
  obtain ⟨s2, e, S2, E2, I2, q2⟩ := hh
  refine XT.mono (xs_seq S2 (k := fun j M3 => dputS L d e j M3) q2) fun z2 H3 hh => ?_
  obtain ⟨s3, j, S3, E3, I3, q3⟩ := hh
  unfold dputS at q3
  split at q3
  · rename_i r k ek
    split at q3
    · rename_i ks ds e1
      split at q3
      · rename_i hl
        have I2' := I2.mono S2.a E3
        have I1' := (I1.mono S1.a E2).mono S2.a E3
        obtain ⟨rfl, kvs, h1, h2, h3⟩ := is_mem S3.a I2' e1
        have hk := key_is I3 ek
        subst hk
        subst h2
        have hi : Alv s3.M r := alv_at e1 nofun
        rw [S3.h] at h1
        obtain ⟨a1, a2⟩ := putK_is (k := k) I1' h3
        rw [List.length_map] at hl
        refine ⟨_, _, rfl, DPut.k h1 (Nat.lt_trans hl cap_lt), ?_⟩
        refine nx_at q3 (Ext.chg hi) (S3.chg hi ?_) rfl
        exact ⟨putK kvs k y, by show upd _ _ _ _ = _; exact upd_same, a1, a2.mono S3.a (Ext.chg hi)⟩
      · exact q3.elim
    · exact q3.elim
  · exact q3.elim
theorem xe_app {apos : Pos} (ho : PE X o (XT X.K ca W f)) (he : PE X e (XT X.K ca W g))
    (hbase : attributeBase o "append" X.env (eval o X.env) = eval o X.env := by rfl)
    (hfew : ((backTo p (starEach [e] X.env)).all (fun x => !x.1) && (backToKw p (keywordEach [] X.env)).all (fun x => x.1.isSome)
      && decide (([e] : List Expr).length + ([] : List Keyword).length + (if ([] : List Keyword).isEmpty then 0 else 1) < 30)) = true := by rfl)
    (hline : (apos.endLine == p.line) = true := by rfl) (hs : starEach [e] X.env = (false, eval e X.env) :: starEach [] X.env := by rfl) (hplain : (backTo p (starEach [] X.env)).any (·.1) = false := by rfl) :
    PE X (.Call (.Attribute o "append" apos) [e] [] p) (XT X.K ca W (mApp f g)) :=
  PE.imp (pe_bm PySem.F.plainAttrs_list PySem.F.slot_list_append PySem.F.type_list_append mt_append ho (pa_cons he pa_nil hs) hbase hfew hline hs hplain) fun σ H Q ⟨L, s, S, q⟩ => by
    refine XT.mono (xt_seq S (k := fun x M1 => appG g L x M1) q) fun z H1 hh => ?_
    obtain ⟨s1, x, S1, E1, I1, q1⟩ := hh
    unfold appG at q1
    split at q1
    · rename_i hx
      have hx : ∃ r ds, x = .ref r ∧ s1.M[r]? = some (.lst ds) := by
        unfold isLstD at hx
        split at hx
        · split at hx
          · rename_i e1; exact ⟨_, _, rfl, e1⟩
          · cases hx
        · cases hx
      obtain ⟨r, ds0, rfl, e0⟩ := hx
      obtain ⟨ez, vs0, h01, h02⟩ := is_mem S1.a I1 e0
      refine ⟨?_, ?_⟩
      · rw [ez]
        rw [S1.h] at h01
        exact .inl ⟨rfl, vs0, SqL.of h01⟩
      refine XT.mono (xt_seq S1 (k := fun d M2 => appK (.ref r) d M2) q1) fun y H2 hh => ?_
      obtain ⟨s2, d, S2, E2, I2, q2⟩ := hh
      have I1' := I1.mono S1.a E2
      unfold appK at q2
      dsimp only at q2
      split at q2
      · rename_i ds e1
        split at q2
        · rename_i hl
          obtain ⟨rfl, vs, h1, h2⟩ := is_mem S2.a I1' e1
          have hi : Alv s2.M r := alv_at e1 nofun
          have hm : OkO X.K ca (s2.chg r (.lst (vs ++ [y])) (.lst (ds ++ [d]))) (s2.ρ r) (.lst (ds ++ [d])) := ⟨vs ++ [y], by show upd _ _ _ _ = _; exact upd_same, (h2.append (IsL.cons I2 IsL.nil)).mono S2.a (Ext.chg hi)⟩
          have S3 := S2.chg hi hm
          have q3 := q2 _ rfl (Ext.chg hi) S3.a .non (by simp only [Is])
          rw [S3.h] at q3
          rw [S2.h] at h1
          exact ⟨_, vs, y, rfl, rfl, h1, by rw [h2.length]; exact Nat.lt_trans hl cap_lt, q3⟩
        · exact q2.elim
      · exact q2.elim
    · exact q1.elim
theorem xe_dic0 : PE X (.Dict [] [] pos) (XT X.K ca W mDic0) := PE.imp pe_dnewK fun σ H Q ⟨L, s, S, q⟩ p hp => by
  rw [← S.h] at hp ⊢
  exact Sat.dic S.a (show Sat X.K ca W σ s (.ok (.dic [] []) s.M) Q from q) rfl IsL.nil p hp
theorem xe_mdic0 : PE X (.Dict [] [] pos) (XT X.K ca W mMDic0) := PE.imp pe_dnewK fun σ H Q ⟨L, s, S, q⟩ p hp => by
  rw [← S.h] at hp ⊢
  exact Sat.put S.a (show Sat X.K ca W σ s (.ok (.ref s.M.length) (s.M ++ [.dic [] []])) Q from q) (fun p hp => ⟨[], by show upd _ _ _ _ = _; exact upd_same, rfl, IsL.nil⟩) p hp
theorem xs_par (i j : Nat) {px py pt : Pos} {kt k2 pt2} (hc : X.calm = true) (hN : X.N.Nodup) (ha : PE X a (XT X.K ca W f)) (hb : PE X b (XT X.K ca W g)) (hi : X.N[i]? = some x := by rfl) (hj : X.N[j]? = some y := by rfl) (hij : i ≠ j := by decide)
    (hx : X.env.scope.names.lookup x = some .local := by rfl) (hy : X.env.scope.names.lookup y = some .local := by rfl)
    (hw : swappedStores [.Tuple [.Name x px, .Name y py] kt pt] (.Tuple [a, b] k2 pt2) X.env = pure (some [x, y]) := by rfl)
    (hs : swapsWithSole [.Tuple [.Name x px, .Name y py] kt pt] (.Tuple [a, b] k2 pt2) pos.line X.env = pure false := by rfl) (h1 : starEach [a, b] X.env = (false, eval a X.env) :: starEach [b] X.env := by rfl) (h2 : starEach [b] X.env = (false, eval b X.env) :: starEach [] X.env := by rfl) :
    PS X (.Assign [.Tuple [.Name x px, .Name y py] kt pt] (.Tuple [a, b] k2 pt2) pos) (XS X.K ca W (mPar i j f g)) :=
  PS.imp (ps_par hc hN hi hj hij hx hy (pa_cons ha (pa_cons hb pa_nil h2) h1) hw hs) fun Dn σ H ⟨L, s, S, q⟩ => by
    refine XT.mono (xs_seq S (k := fun d M1 => bindS (g L M1) L fun e M2 => .nx ((L.set i (some d)).set j (some e)) M2) q) fun u H1 hh => ?_
    obtain ⟨s1, d, S1, E1, I1, q1⟩ := hh
    refine XT.mono (xs_seq S1 (k := fun e M2 => .nx ((L.set i (some d)).set j (some e)) M2) q1) fun z H2 hh => ?_
    obtain ⟨s2, e, S2, E2, I2, q2⟩ := hh
    exact ⟨u, z, rfl, nx_end ((S2.set i (I1.mono S1.a E2)).set j I2) q2⟩
theorem xs_par3 (i j l : Nat) {z : Str} {px py pz pt : Pos} {kt k2 pt2} (hc : X.calm = true) (hN : X.N.Nodup) (ha : PE X a (XT X.K ca W f)) (hb : PE X b (XT X.K ca W g)) (hd : PE X c (XT X.K ca W h)) (hi : X.N[i]? = some x := by rfl) (hj : X.N[j]? = some y := by rfl) (hl : X.N[l]? = some z := by rfl) (hij : i ≠ j := by decide) (hil : i ≠ l := by decide) (hjl : j ≠ l := by decide)
    (hx : X.env.scope.names.lookup x = some .local := by rfl) (hy : X.env.scope.names.lookup y = some .local := by rfl) (hz : X.env.scope.names.lookup z = some .local := by rfl)
    (hw : swappedStores [.Tuple [.Name x px, .Name y py, .Name z pz] kt pt] (.Tuple [a, b, c] k2 pt2) X.env = pure (some [x, y, z]) := by rfl)
    (hs : swapsWithSole [.Tuple [.Name x px, .Name y py, .Name z pz] kt pt] (.Tuple [a, b, c] k2 pt2) pos.line X.env = pure false := by rfl) (h1 : starEach [a, b, c] X.env = (false, eval a X.env) :: starEach [b, c] X.env := by rfl) (h2 : starEach [b, c] X.env = (false, eval b X.env) :: starEach [c] X.env := by rfl) (h3 : starEach [c] X.env = (false, eval c X.env) :: starEach [] X.env := by rfl) :
    PS X (.Assign [.Tuple [.Name x px, .Name y py, .Name z pz] kt pt] (.Tuple [a, b, c] k2 pt2) pos) (XS X.K ca W (mPar3 i j l f g h)) :=
  PS.imp (ps_par3 hc hN hi hj hl hij hil hjl hx hy hz (pa_cons ha (pa_cons hb (pa_cons hd pa_nil h3) h2) h1) hw hs) fun Dn σ H ⟨L, s, S, q⟩ => by
    refine XT.mono (xs_seq S (k := fun d M1 => bindS (g L M1) L fun e M2 => bindS (h L M2) L fun x M3 => .nx (((L.set i (some d)).set j (some e)).set l (some x)) M3) q) fun u H1 hh => ?_
    obtain ⟨s1, d, S1, E1, I1, q1⟩ := hh
    refine XT.mono (xs_seq S1 (k := fun e M2 => bindS (h L M2) L fun x M3 => .nx (((L.set i (some d)).set j (some e)).set l (some x)) M3) q1) fun u2 H2 hh => ?_
    obtain ⟨s2, e, S2, E2, I2, q2⟩ := hh
    refine XT.mono (xs_seq S2 (k := fun x M3 => .nx (((L.set i (some d)).set j (some e)).set l (some x)) M3) q2) fun u3 H3 hh => ?_
    obtain ⟨s3, x, S3, E3, I3, q3⟩ := hh
    exact ⟨u, u2, u3, rfl, nx_end (((S3.set i ((I1.mono S1.a E2).mono S2.a E3)).set j (I2.mono S2.a E3)).set l I3) q3⟩
theorem xs_augI {op : Operator} {gg : Int → Int → Int} (i : Nat) (hN : X.N.Nodup) (ho : PIp X op (ipI gg)) (he : PE X e (XT X.K ca W f)) (hi : X.N[i]? = some x := by rfl) (hx : Loc X.env.scope x := by first | exact Or.inl rfl | exact Or.inr rfl) (hf : X.fn x = true ∨ X.env.scope.names.lookup x = some .local := by first | exact .inl rfl | exact .inr rfl) :
    PS X (.AugAssign (.Name x p) op e pos) (XS X.K ca W (mAug i f (augI gg))) := PS.imp (ps_aug hN hi hx he ho hf) fun Dn σ H ⟨L, s, S, q⟩ => by
  have q : SatS X.K ca W Dn s (match L[i]? with
    | some (some x) => bindS (f L s.M) L fun d M1 => bindS (augI gg x d M1) L fun z M2 => .nx (L.set i (some z)) M2
    | _ => .stk) := q
  split at q
  · rename_i d0 e0
    obtain ⟨v0, h0, I0⟩ := S.l.at' i d0 e0
    refine ⟨v0, h0, XT.mono (xs_seq S (k := fun d M1 => bindS (augI gg d0 d M1) L fun z M2 => .nx (L.set i (some z)) M2) q) fun y H1 hh => ?_⟩
    obtain ⟨s1, d, S1, E1, I1, q1⟩ := hh
    have I0' := I0.mono S.a E1
    unfold augI at q1
    split at q1
    · rename_i a' b'
      simp only [Is] at I0' I1
      subst I0' I1
      exact ⟨_, _, rfl, rfl, nx_end (S1.set i (d := .int (gg a' b')) (by simp only [Is])) q1⟩
    · exact q1.elim
  · exact q.elim
theorem ok_nis : OpK X ca nisK rNotB := fun W σ s d e x y Q A hx hy q => by
  unfold nisK at q
  split at q
  · simp only [Is] at hx hy
    exact ⟨_, _, hx, hy, Sat.leaf A q (by simp only [Is])⟩
  · exact q.elim
theorem xt_nis (ha : PE X a (XT X.K ca W f)) (hb : PE X b (XT X.K ca W g)) (hm : behindInMarks .IsNot b = false := by first | rfl | exact nomark _) : PT X (.Compare a [.IsNot] [b] pos) (XB X.K ca W (mT (mB2 f g nisK) blK)) := xt_cmp op_notBl ok_nis ha hb hm
/-- a constant of the module -/
theorem xe_glob {v : V} {u : Value} {d : D} (hg : Gl X x) (hm : X.mg x = some u) (r : RelV v u) (hi : ∀ s, Is X.K s d v) (hd : (x == ("__debug__" : Str)) = false := by decide) : PE X (.Name x pos) (XT X.K ca W (mC d)) := xe_c (pe_glob hg hm r hd) hi
end
end XM
/-! ## XMk -/
set_option maxHeartbeats 200000
set_option linter.all false
set_option autoImplicit false
set_option maxRecDepth 100000
set_option maxHeartbeats 2000000
/-! {**d, k: v} -/
namespace XM
open PySem
section
variable {prog : Program} {w : World} {K : Type} [DecidableEq K] {knd : KeyKind prog w K} {A : Around} {E : Value → Shared → Prop} {s : Shared}
theorem wpAny_dictPut_pairs {d : Addr} {kvs : List (K × Value)} {k : K} {key v : Value} {Q : Unit → Shared → Prop} (hkey : knd.is k key = true) (hm : s.heap.DictOf knd d kvs)
    (hQ : ∀ h', h'.DictOf knd d (stored kvs k v) → Heap.SameBut d s.heap h' → Q () { s with heap := h' })
    (hsz : kvs.length ≤ sizeLine := by size_fits) :
    wpAny (model prog w) A (dictPut d (knd.hash k) key v) Q E s := by
  obtain ⟨o, es, ep, ho, hc, hd, hk, hp, hn⟩ := hm
  have hes : es.size ≤ sizeLine := by
    have e1 := hp.length; have e2 : es.toList.length = es.size := by simp
    omega
  unfold dictPut
  refine wpAny_bind (wpAny_dictFind_of hkey ho hd hk ?_)
  have hidx : (es.findIdx? fun e => knd.is k e.key) = kvs.findIdx? fun kv => decide (kv.1 = k) := by
    rw [← hp.findIdx k]; obtain ⟨l⟩ := es; simp
  cases hi : es.findIdx? fun e => knd.is k e.key with
  | some i =>
    refine wpAny_updateDict ho hd (hQ _ ⟨_, _, ep, Heap.get?_update_self _ ho (Obj.isFreed_of_dict (Obj.data_mapDict hd _)),
      hc.mapDict _, Obj.data_mapDict hd _, hk.modify _ _, ?_, ?_⟩ (Heap.SameBut.update ..))
    · rw [stored, if_pos (any_of_findIdx_some (hidx ▸ hi))]
      have hl : (es.toList.findIdx? fun e => knd.is k e.key) = some i := by rw [← hi]; obtain ⟨l⟩ := es; simp
      have := hp.modify hn hl v
      obtain ⟨l⟩ := es
      simpa using this
    · rw [stored, if_pos (any_of_findIdx_some (hidx ▸ hi)), keys_map_store]; exact hn
  | none =>
    have hnot : k ∉ kvs.map (·.1) := not_mem_of_findIdx_none (hidx ▸ hi)
    have hany : ¬ (kvs.any fun kv => decide (kv.1 = k)) = true := by
      rw [List.any_eq_true]; rintro ⟨kv, hkv, he⟩
      exact hnot (List.mem_map.mpr ⟨kv, hkv, of_decide_eq_true he⟩)
    refine wpAny_updateDictKeys (hz := hes) ho hd (hQ _ ⟨_, _, ep + 1, Heap.get?_update_self _ ho (Obj.isFreed_of_dict (Obj.data_mapDictKeys hd _)),
      hc.mapDictKeys _, Obj.data_mapDictKeys hd _, hk.push hkey _, ?_, ?_⟩ (Heap.SameBut.update ..))
    · rw [stored, if_neg hany]
      have := hp.append hkey (knd.hash k) v
      obtain ⟨l⟩ := es
      simpa using this
    · rw [stored, if_neg hany, List.map_append, List.nodup_append]
      refine ⟨hn, by simp, ?_⟩
      intro a ha b hb
      simp only [List.map_cons, List.map_nil, List.mem_singleton] at hb
      subst hb
      exact fun e => hnot (e ▸ ha)
theorem wpAny_mergeLoop {d o : Addr} {kvs more : List (K × Value)} {Q : Unit → Shared → Prop} {oo : Obj} {eso : Array DictEntry} {epo : Nat} (hdo : d ≠ o) (hoo : s.heap.get? o = some oo) (hdo' : oo.data = Data.dict eso epo) (hko : KeysOf knd eso) (hpo : Pairs knd eso.toList more) (hco : oo.ExactDict) (hno : (more.map (·.1)).Nodup) (hlen : more.length = eso.size)
    (hd : s.heap.DictOf knd d kvs)
    (hQ : ∀ h', h'.DictOf knd d (merged kvs more) → h'.DictOf knd o more → Heap.SameBut d s.heap h' → Q () { s with heap := h' })
    (hsz : kvs.length + more.length ≤ sizeLine) : wpAny (model prog w) A (do
          let __do_lift ← dictEntries o
          let epoch ← dictEpoch o
          forIn (List.range __do_lift.size) PUnit.unit fun i __s => do
              let __do_lift ← dictEntries o
              match __do_lift[i]? with
                | some e => do
                  holding [e.key, e.val] (dictPut d e.hash e.key e.val)
                  let __do_lift ← dictEpoch o
                  if (__do_lift != epoch) = true then do
                      (unsupported "dict.changed-during-merge" : Sem PUnit)
                      pure (ForInStep.yield PUnit.unit)
                    else pure (ForInStep.yield PUnit.unit)
                | x => do
                  (unsupported "dict.changed-during-merge" : Sem PUnit)
                  pure (ForInStep.yield PUnit.unit)
          pure ()) Q E s := by
  refine wpAny_bind (wpAny_dictEntries hoo hdo' ?_)
  refine wpAny_bind (wpAny_dictEpoch hoo hdo' ?_)
  refine wpAny_bind ?_
  rw [List.range_eq_range']
  refine wpAny_forIn_list _
      (fun rest _ s' => ∃ h' i, s' = { s with heap := h' } ∧ rest = List.range' i (eso.size - i) ∧ i ≤ eso.size ∧ h'.DictOf knd d (merged kvs (more.take i)) ∧ h'.get? o = some oo ∧ Heap.SameBut d s.heap h')
      _ ?_ ?_ _ _ ⟨s.heap, 0, rfl, by simp, Nat.zero_le _, by simpa [merged] using hd, hoo, Heap.SameBut.refl _ _⟩
  · rintro x rest b s' ⟨h', i, rfl, hr, hi, hd', hoo', hs'⟩
    have hlt : i < eso.size := by
      rcases Nat.lt_or_ge i eso.size with h | h
      · exact h
      · rw [Nat.sub_eq_zero_of_le h] at hr; simp at hr
    obtain ⟨rfl, hrest⟩ : x = i ∧ rest = List.range' (i + 1) (eso.size - (i + 1)) := by
      have e : eso.size - i = (eso.size - (i + 1)) + 1 := by omega
      rw [e, List.range'_succ] at hr
      injection hr with h1 h2
      exact ⟨h1, h2⟩
    refine wpAny_bind (wpAny_dictEntries hoo' hdo' ?_)
    rw [Array.getElem?_eq_getElem hlt]
    obtain ⟨kv, hkv⟩ : ∃ kv, more[x]? = some kv := ⟨more[x]'(by rw [hlen]; exact hlt), List.getElem?_eq_getElem _⟩
    obtain ⟨k, v⟩ := kv
    obtain ⟨hkey, hval⟩ := hpo.get? (e := eso[x]) (by simp [hlt]) hkv
    obtain ⟨k', hkey', hhash⟩ := hko eso[x] (Array.getElem_mem hlt)
    obtain rfl : k' = k := knd.inj _ _ _ hkey' hkey
    show wpAny _ _ (holding [eso[x].key, eso[x].val] (dictPut d eso[x].hash eso[x].key eso[x].val) >>= _) _ _ _
    rw [hhash, hval]
    have hmx : (merged kvs (more.take x)).length ≤ sizeLine := by
      have e1 := merged_length_le kvs (more.take x)
      have e2 : (more.take x).length ≤ more.length := by rw [List.length_take]; omega
      omega
    refine wpAny_bind (wpAny_holding (wpAny_dictPut_pairs (hsz := hmx) hkey hd' fun h'' hd'' hs'' => ?_))
    have hoo'' : h''.get? o = some oo := (hs''.2 o (Ne.symm hdo)).trans hoo'
    refine wpAny_bind (wpAny_dictEpoch hoo'' hdo' ?_)
    rw [if_neg (by simp)]
    exact wpAny_pure ⟨h'', x + 1, rfl, hrest, hlt, by rw [merged_take_succ kvs more x (k', v) hkv]; exact hd'', hoo'', hs'.trans hs''⟩
  · rintro b s' ⟨h', i, rfl, hr, hi, hd', hoo', hs'⟩
    have hin : i = eso.size := by
      rcases Nat.lt_or_ge i eso.size with h | h
      · have e : eso.size - i = (eso.size - (i + 1)) + 1 := by omega
        rw [e, List.range'_succ] at hr; exact nomatch hr
      · exact Nat.le_antisymm hi h
    refine wpAny_pure (hQ h' ?_ ⟨oo, eso, epo, hoo', hco, hdo', hko, hpo, hno⟩ hs')
    rw [hin, ← hlen, List.take_length] at hd'; exact hd'
theorem wpAny_mergeMapping {d o : Addr} {kvs more : List (K × Value)} {Q : Unit → Shared → Prop} (hdo : d ≠ o) (hoS : (o == sysModules) = false) (hnr : ∀ k a, knd.is k (.ref a) = false)
    (hd : s.heap.DictOf knd d kvs) (ho : s.heap.DictOf knd o more)
    (hQ : ∀ h', h'.DictOf knd d (merged kvs more) → h'.DictOf knd o more → Heap.SameBut d s.heap h' → Q () { s with heap := h' })
    (hsz : kvs.length + more.length ≤ sizeLine := by size_fits) :
    wpAny (model prog w) A (mergeMapping d (.ref o) false) Q E s := by
  obtain ⟨od, esd, epd, hod, hcd, hdd, hkd, hpd, hnd⟩ := id hd
  obtain ⟨oo, eso, epo, hoo, hco, hdo', hko, hpo, hno⟩ := id ho
  have hlen : more.length = eso.size := by rw [← hpo.length]; simp
  unfold mergeMapping
  refine wpAny_bind (wpAny_isInstance ho.typeIs isSubtype_dict_dict ?_)
  simp only [if_true]
  refine wpAny_bind (wpAny_specialOf ho.typeIs F.slot_dict_iter.lookup ?_)
  simp only [beq_self_eq_true, pure_bind, hoS, Bool.false_eq_true, if_false]
  refine wpAny_bind (wpAny_dictEntries hod hdd ?_)
  split
  · refine wpAny_bind (wpAny_dictEntries hoo hdo' ?_)
    refine wpAny_bind (wpAny_of_eq (a := PUnit.unit) ?_ ?_)
    · rw [← Array.forIn_toList]
      refine forIn_yield_id _ fun e he c => ?_
      obtain ⟨k, hkey, _⟩ := hko e (Array.mem_toList_iff.mp he)
      split
      · rename_i a ea
        rw [ea, hnr] at hkey; cases hkey
      · rfl
    exact wpAny_mergeLoop hdo hoo hdo' hko hpo hco hno hlen hd hQ hsz
  · exact wpAny_mergeLoop hdo hoo hdo' hko hpo hco hno hlen hd hQ hsz
end
end XM
namespace XM
open PySem PySem.Spec
open PyProof.Rows hiding St
open L2 hiding Rd Rd.of Rd.ok
theorem mix_nr {P : Program} {w : World} (k : Key) (a : Addr) : (mixKind P w).is k (.ref a) = false := by
  cases k <;> rfl
/-- {**e, k: v}: D the new dict, S the second one, that is merged -/
def tDStar (te tk tv : TE) : TE := fun σ H Q => ∀ D, H D = none → te σ (upd H D (.dK [])) fun x H1 => ∃ a kvs, x = .ref a ∧ a ≠ D ∧ H1 a = some (.dK kvs) ∧ H1 D = some (.dK []) ∧ kvs.length < cap ∧
  ∀ S, upd H1 D (.dK kvs) S = none → tk σ (upd (upd H1 D (.dK kvs)) S (.dK [])) fun y H2 => tv σ H2 fun z H3 => ∃ k, y = kV k ∧ H3 S = some (.dK []) ∧ H3 D = some (.dK kvs) ∧ Q (.ref D) (upd (upd H3 S (.dK [(k, z)])) D (.dK (putK kvs k z)))
theorem pe_dstar {X : Cx} {e k v : Expr} {te tk tv : TE} {pos : Pos} (he : PE X e te) (hk : PE X k tk) (hv : PE X v tv) : PE X (.Dict [none, some k] [e, v] pos) (tDStar te tk tv) := by
  refine ⟨fun pins s σ H Q I q => ?_⟩
  rw [arm_eval_Dict]
  refine wpAny_bind (wpAny_standAt ?_)
  show wpAny _ _ (dictDisplay [(none, do let x ← eval e X.env; standAt pos; pure x), (some (eval k X.env), do let x ← eval v X.env; standAt pos; pure x)]) _ _ _
  unfold dictDisplay
  simp only [List.forIn_cons, List.forIn_nil, List.isEmpty_nil, if_true, pure_bind, bind_assoc, List.nil_append, List.length_cons, List.length_nil, List.isEmpty_cons, Bool.false_eq_true, if_false, show ((0 + 1 == 17) = true) = False from by decide]
  refine wpAny_bind (wpAny_alloc ?_)
  have hn := I.hok.fresh (Nat.le_refl s.heap.objs.size)
  have I1 := I.laid (a := s.heap.objs.size) (o := .dK []) (h' := s.heap.push { cls := .type "dict", data := .dict #[] }) (t' := s.toks) (fun _ _ q => Heap.get?_push_of_some _ q) (Nat.le_refl _) (dk_empty s.heap I.big)
  have q := q _ hn
  generalize hD : s.heap.objs.size = D at q I1 ⊢
  refine wpAny_bind (wpAny_holding (wpAny_bind (thn (he.run pins _ σ _ _ I1 q) fun u s1 hh => ?_)))
  obtain ⟨x, H1, I2, rx, a, kvs, ex, ne, ha, hDe, hlen, q⟩ := hh
  subst ex
  obtain rfl : u = Value.ref a := rx
  refine wpAny_bind (wpAny_standAt (wpAny_pure ?_))
  obtain ⟨za, hsa, vs, rel, da⟩ := dk_of I2.hok ha
  obtain ⟨zD, hsD, vs0, rel0, dD⟩ := dk_of I2.hok hDe
  cases rel0
  have hlv : vs.length = kvs.length := (KV.length rel).symm
  have hcap : cap + 1 ≤ sizeLine := cap_lt
  refine wpAny_bind (wpAny_onRaise (wpAny_tryCatch (wpAny_onRaise (wpAny_holding (wpAny_mergeMapping (knd := mixKind X.prog X.w) (Ne.symm ne) hsa mix_nr dD da (fun h2 dD2 da2 sb => ?_) (by rw [List.length_nil]; omega))))))
  obtain ⟨oa, esa, epa, hoa, hca, hda, hka, hpa, hna⟩ := id da
  rw [merged_nil_of_nodup vs hna] at dD2
  have I3 : L2.Inv X pins σ (upd H1 D (.dK kvs)) { s1 with heap := h2, toks := s1.toks } := d_write I2 (by rw [hDe]; exact True.intro) sb (let ⟨q, _, _, hq, _⟩ := dD2; ⟨q, hq⟩) (dk_new za hsD rel dD2)
  -- the second dict
  have hn3 := I3.hok.fresh (Nat.le_refl h2.objs.size)
  have q := q _ hn3
  have hDk : upd H1 D (.dK kvs) D = some (.dK kvs) := upd_same
  have hSD : h2.objs.size ≠ D := fun z => by rw [z, hDk] at hn3; cases hn3
  have I4 := I3.laid (a := h2.objs.size) (o := .dK []) (h' := h2.push { cls := .type "dict", data := .dict #[] }) (t' := s1.toks) (fun _ _ q => Heap.get?_push_of_some _ q) (Nat.le_refl _) (dk_empty h2 I3.big)
  refine wpAny_bind (wpAny_holding (wpAny_subDict (knd := mixKind X.prog X.w) (by simp) ?_))
  show wpAny _ _ (evalPairs [(eval k X.env, do let x ← eval v X.env; standAt pos; pure x)]) _ _ { s1 with heap := h2.push { cls := .type "dict", data := .dict #[] } }
  refine evalPairs_cons (thn (hk.run pins _ σ _ _ I4 q) fun uk s4 hh => ?_)
  obtain ⟨y, H4, I5, ry, q4⟩ := hh
  refine wpAny_bind (thn (hv.run pins s4 σ H4 _ I5 q4) fun uv s5 hh => ?_)
  obtain ⟨z, H5, I6, rz, kk, ey, hS5, hD5, q5⟩ := hh
  subst ey
  refine wpAny_bind (wpAny_standAt (wpAny_pure (evalPairs_nil ?_)))
  have hki := kV_is (P := X.prog) (w := X.w) ry
  obtain ⟨zS, hsS, vsS, relS, dS⟩ := dk_of I6.hok hS5
  cases relS
  obtain ⟨zD5, hsD5, vs5, rel5, dD5⟩ := dk_of I6.hok hD5
  refine ⟨[(kk, uv)], ⟨hki, rfl, trivial⟩, dS, fun h6 dS6 sb6 => ?_⟩
  have dS6 : h6.DictOf (mixKind X.prog X.w) h2.objs.size [(kk, uv)] := dS6
  have I7 : L2.Inv X pins σ (upd H5 h2.objs.size (.dK [(kk, z)])) { s5 with heap := h6, toks := s5.toks + 1 } := d_write I6 (by rw [hS5]; exact True.intro) sb6 (let ⟨q, _, _, hq, _⟩ := dS6; ⟨q, hq⟩) (dk_new (by rw [sizeLine_eq]; show 1 ≤ 16777216; decide) hsS (.cons ⟨rfl, rz⟩ .nil) dS6)
  have dD6 : h6.DictOf (mixKind X.prog X.w) D vs5 := dD5.sameBut sb6 (Ne.symm hSD)
  have hl5 : vs5.length = kvs.length := (KV.length rel5).symm
  refine wpAny_bind (wpAny_onRaise (wpAny_holding (wpAny_mergeMapping (knd := mixKind X.prog X.w) (Ne.symm hSD) hsS mix_nr dD6 dS6 (fun h7 dD7 dS7 sb7 => ?_) (by show vs5.length + 1 ≤ _; omega))))
  have hD7 : upd H5 h2.objs.size (.dK [(kk, z)]) D = some (.dK kvs) := by rw [upd_ne (Ne.symm hSD)]; exact hD5
  have hpl : (putK kvs kk z).length ≤ sizeLine := by
    have := length_putK kvs kk z
    omega
  have I8 : L2.Inv X pins σ (upd (upd H5 h2.objs.size (.dK [(kk, z)])) D (.dK (putK kvs kk z))) { s5 with heap := h7, toks := s5.toks + 1 } := d_write (s := { s5 with heap := h6, toks := s5.toks + 1 }) I7 (by rw [hD7]; exact True.intro) sb7 (let ⟨q, _, _, hq, _⟩ := dD7; ⟨q, hq⟩) (dk_new hpl hsD (rel5.put kk rz) dD7)
  exact wpAny_pure ⟨.ref D, _, I8, rfl, q5⟩
end XM
/-! ## XMl -/
set_option maxHeartbeats 200000
set_option linter.all false
set_option autoImplicit false
set_option maxRecDepth 100000
set_option maxHeartbeats 2000000
namespace XM
open PySem PySem.Spec
open PyProof.Rows hiding St
open L2 hiding Rd Rd.of Rd.ok
/-! ### nothing is raised -/
def noX {α : Type} (f : Lc → Mem → Res α) : Lc → Mem → Res α := fun L M => match f L M with
  | .ok a M' => .ok a M'
  | _ => .stk
abbrev WF : WX := fun _ _ _ _ => False
section
variable {K : PySem.W.Frag} {ca : Nat → Addr} {W : WX} {σ : L2.St} {s s' : SM} {H : Hp} {L : Lc}
theorem satG_no {α : Type} {I : SM → α → Prop} {E : Value → Option Addr → Hp → Prop} {f : Lc → Mem → Res α} {M : Mem} (h : SatG K ca I E s (noX f L M)) : SatG K ca I (fun _ _ _ => False) s (f L M) := by
  unfold noX at h
  cases r : f L M with
  | ok a M' => rw [r] at h; exact h
  | ex c fs ds M' => rw [r] at h; exact h.elim
  | stk => rw [r] at h; exact h
theorem xt_no {f : EM} {Q : VK} (q : XT K ca W (noX f) σ H Q) : XT K ca WF f σ H Q := by
  obtain ⟨L, s, S, q⟩ := q
  exact ⟨L, s, S, satG_no q⟩
theorem xb_no {f : BM} {Q : Bool → Hp → Prop} (q : XB K ca W (noX f) σ H Q) : XB K ca WF f σ H Q := by
  obtain ⟨L, s, S, q⟩ := q
  exact ⟨L, s, S, satG_no q⟩
end
section
variable {ca : Nat → Addr}
theorem dict_ne {K : PySem.W.Frag} {s : SM} (A : Abs K ca s) {d : D} {ks : List Key} {ds : List D} {v : V} (h : Is K s d v) (e : d.dict s.M = some (ks, ds)) {a : Addr} (hv : v = .ref a) {p : Addr} (hp : s.P p) : a ≠ p := by
  cases d with
  | dic ks' ds' =>
    simp only [Is] at h; obtain ⟨a', kvs, e1, e2, n, e3⟩ := h
    rw [e1] at hv; cases hv
    exact fun z => n.2 (z ▸ hp)
  | ref i =>
    simp only [D.dict] at e
    split at e
    · rename_i ks' es q
      obtain ⟨e1, _⟩ := is_mem A h q
      rw [e1] at hv; cases hv
      exact fun z => A.pv i ⟨_, q, nofun⟩ (z ▸ hp)
    · cases e
  | _ => cases e
theorem Sta.own {K : PySem.W.Frag} {s : SM} {L : Lc} {σ : L2.St} {H : Hp} (S : Sta K ca s L σ H) {p : Addr} {o : HO} (hp : s.H p = none) : Sta K ca (s.own p o) L σ (upd H p o) := ⟨by rw [← S.h]; rfl, S.l.mono S.a (Ext.own hp), S.a.own hp⟩
theorem Sta.priv {K : PySem.W.Frag} {s : SM} {L : Lc} {σ : L2.St} {H : Hp} (S : Sta K ca s L σ H) {p : Addr} {o : HO} (hp : s.P p) (hl : (∀ vs, s.H p ≠ some (.tup vs)) ∧ ∀ o u, s.H p ≠ some (.frz o u)) : Sta K ca (s.priv p o) L σ (upd H p o) :=
  ⟨by rw [← S.h]; rfl, ⟨S.l.len, fun i d e => let ⟨w, q1, q2⟩ := S.l.at' i d e; ⟨w, q1, q2.priv hp hl⟩⟩, S.a.priv hp hl⟩
theorem Ext.hold {K : PySem.W.Frag} {s s' : SM} (E : Ext s s') (A : Abs K ca s) {p : Addr} {o : HO} (hp : s.P p) (h : s.H p = some o) : s'.H p = some o := E.keep p o h (by rintro ⟨i, hi, e⟩; exact A.pv i hi (e ▸ hp))
end
section
variable {X : Cx} {ca : Nat → Addr} {W : WX} {e e2 c k v o elt tg iter : Expr} {es ifs : List Expr} {scope : Scope} {f g h : EM} {fs : AM} {B : BM} {it : Lc → Mem → Res It'} {gt : TgM} {sl vs : List Nat} {p pos pos' apos : Pos} {own : List (Str × Nat)} {x : Str}
/-- a comprehension in a comprehension's block: nothing is raised in it -/
theorem xe_lc0 (hc : X.calm = true) (hN : X.N.Nodup) (hsl : ∀ i ∈ sl, i ∈ own.map (·.2)) (hi : PI X tg iter (XI X.K ca W it)) (ok : BlkOk X.N X.env.scope scope own)
    (hg : ∀ (s : Shared) (H : Hp) (C : Addr) (cl : List (Str × Addr)) (fp : List Addr), PG (X.blk s H scope (compEnvC scope cl C X.env) fp) tg (XG X.K ca gt sl))
    (ht : ∀ (s : Shared) (H : Hp) (C : Addr) (cl : List (Str × Addr)) (fp : List Addr), PTs (X.blk s H scope (compEnvC scope cl C X.env) fp) ifs (XB X.K ca WF B))
    (he : ∀ (s : Shared) (H : Hp) (C : Addr) (cl : List (Str × Addr)) (fp : List Addr), PE (X.blk s H scope (compEnvC scope cl C X.env) fp) elt (XT X.K ca WF f)) (hs : ∀ x, foldedSetIterable iter X.env x = pure x := by intro _; rfl) :
    PE X (.ListComp elt [⟨tg, iter, ifs, 0⟩] scope pos) (XT X.K ca W (mLc it gt (noX B) (noX f) (own.map (·.2)))) :=
  PE.imp (pe_lc hc hN hi ok hg ht he hs) fun σ H Q q => by
    have q := tlc_is hsl q
    unfold tLc at q ⊢
    refine XI.mono' q fun J H1 q D hD => ?_
    obtain ⟨W0, h0, turn⟩ := q D hD
    refine ⟨W0, h0, fun i m H w => ?_⟩
    rcases turn i m H w with h | ⟨h1, Nx, h2, h3⟩
    · exact .inl h
    · refine .inr ⟨h1, Nx, h2, fun x H' y => ?_⟩
      obtain ⟨L, s, d, L', a1, a2, a3, a4⟩ := h3 x H' y
      refine ⟨L, s, d, L', a1, a2, a3, fun σ' a b => ?_⟩
      obtain ⟨b1, b2⟩ := a4 σ' a b
      refine ⟨b1, XB.mono (xb_no b2) fun b H3 q => ?_⟩
      cases b with
      | false => exact q
      | true => rw [if_pos rfl] at q ⊢; exact xt_no q
/-! ### zip -/
def zipK : List D → Mem → Res It'
  | [.tup a, .tup b], M => .ok (.zip (.tup a) (.tup b)) M
  | [.lst a, .lst b], M => .ok (.zip (.lst a) (.lst b)) M
  | _, _ => .stk
def mIZip (fs : AM) : Lc → Mem → Res It' := fun L M => (fs L M).bind zipK
theorem jok_zipT {K : PySem.W.Frag} {s : SM} {d e : D} {a b : Addr} (hd : ∀ s1, Ext s s1 → Abs K ca s1 → ∀ es, d.seq s1.M = some es → ∃ vs, SqT K s1.H a vs ∧ IsL K s1 es vs) (he : ∀ s1, Ext s s1 → Abs K ca s1 → ∀ es, e.seq s1.M = some es → ∃ vs, SqT K s1.H b vs ∧ IsL K s1 es vs) : JOk K ca s (RZ.ItzT K a b) (.zip d e) := fun s1 x A1 i => by
  refine ⟨fun q => ?_, fun z q => ?_⟩
  · simp only [It'.at] at q
    split at q
    · rename_i ds es q1 q2
      obtain ⟨vs, h1, h2⟩ := hd s1 x A1 ds q1
      obtain ⟨ws, h3, h4⟩ := he s1 x A1 es q2
      refine ⟨vs, ws, h1, h3, ?_⟩
      rw [h2.length, h4.length]
      split at q
      · cases q
      · rename_i hn
        by_cases l1 : ds.length ≤ i
        · exact .inl l1
        · by_cases l2 : es.length ≤ i
          · exact .inr l2
          · exact (hn ds[i] es[i] (List.getElem?_eq_getElem (by omega)) (List.getElem?_eq_getElem (by omega))).elim
    · cases q
  · simp only [It'.at] at q
    split at q
    · rename_i ds es q1 q2
      obtain ⟨vs, h1, h2⟩ := hd s1 x A1 ds q1
      obtain ⟨ws, h3, h4⟩ := he s1 x A1 es q2
      split at q
      · rename_i u v eu ev
        cases q
        obtain ⟨u', k1, k2⟩ := h2.get eu
        obtain ⟨v', k3, k4⟩ := h4.get ev
        refine ⟨⟨vs, ws, u', v', h1, h3, k1, k3⟩, fun y H' hy => ?_⟩
        obtain ⟨T, x1, x2, rfl, nT, rfl, f1, f2⟩ := hy
        have e1 : x1 = u' := Option.some.inj ((f1 vs h1).symm.trans k1)
        have e2 : x2 = v' := Option.some.inj ((f2 ws h3).symm.trans k3)
        subst e1 e2
        exact ⟨s1.laid T (.tup [x1, x2]), rfl, rfl, Ext.laid nT, A1.laid nT, is_tup A1 nT (IsL.cons k2 (IsL.cons k4 IsL.nil))⟩
      · cases q
    · cases q
theorem jok_zipL {K : PySem.W.Frag} {s : SM} {d e : D} {a b : Addr} (hd : ∀ s1, Ext s s1 → Abs K ca s1 → ∀ es, d.seq s1.M = some es → ∃ vs, SqL K s1.H a vs ∧ IsL K s1 es vs) (he : ∀ s1, Ext s s1 → Abs K ca s1 → ∀ es, e.seq s1.M = some es → ∃ vs, SqL K s1.H b vs ∧ IsL K s1 es vs) : JOk K ca s (Itz K a b) (.zip d e) := fun s1 x A1 i => by
  refine ⟨fun q => ?_, fun z q => ?_⟩
  · simp only [It'.at] at q
    split at q
    · rename_i ds es q1 q2
      obtain ⟨vs, h1, h2⟩ := hd s1 x A1 ds q1
      obtain ⟨ws, h3, h4⟩ := he s1 x A1 es q2
      refine ⟨vs, ws, h1, h3, ?_⟩
      rw [h2.length, h4.length]
      split at q
      · cases q
      · rename_i hn
        by_cases l1 : ds.length ≤ i
        · exact .inl l1
        · by_cases l2 : es.length ≤ i
          · exact .inr l2
          · exact (hn ds[i] es[i] (List.getElem?_eq_getElem (by omega)) (List.getElem?_eq_getElem (by omega))).elim
    · cases q
  · simp only [It'.at] at q
    split at q
    · rename_i ds es q1 q2
      obtain ⟨vs, h1, h2⟩ := hd s1 x A1 ds q1
      obtain ⟨ws, h3, h4⟩ := he s1 x A1 es q2
      split at q
      · rename_i u v eu ev
        cases q
        obtain ⟨u', k1, k2⟩ := h2.get eu
        obtain ⟨v', k3, k4⟩ := h4.get ev
        refine ⟨⟨vs, ws, u', v', h1, h3, k1, k3⟩, fun y H' hy => ?_⟩
        obtain ⟨T, x1, x2, rfl, nT, rfl, f1, f2⟩ := hy
        have e1 : x1 = u' := Option.some.inj ((f1 vs h1).symm.trans k1)
        have e2 : x2 = v' := Option.some.inj ((f2 ws h3).symm.trans k3)
        subst e1 e2
        exact ⟨s1.laid T (.tup [x1, x2]), rfl, rfl, Ext.laid nT, A1.laid nT, is_tup A1 nT (IsL.cons k2 (IsL.cons k4 IsL.nil))⟩
      · cases q
    · cases q
theorem xi_zip {elts : List Expr} {kk : Nat} {tpos : Pos} (hg : Gl X "zip") (hm : X.mg "zip" = none) (ha : PA X [e, e2] (XA X.K ca W fs))
    (hs : starEach [e, e2] X.env = (false, eval e X.env) :: starEach [e2] X.env := by rfl) (hpl : (backTo pos (starEach [e2] X.env)).any (·.1) = false := by rfl) :
    PI X (.Tuple elts kk tpos) (.Call (.Name "zip" p) [e, e2] [] pos) (XI X.K ca W (mIZip fs)) :=
  PI.imp (RZ.pi_zipA hg hm ha hs hpl) fun σ H R ⟨L, s, S, q⟩ => XA.mono (xa_seq S (k := zipK) q) fun vs H1 ⟨s1, ds, S1, E1, I1, q1⟩ => by
    unfold zipK at q1
    split at q1
    · rename_i a b
      obtain ⟨v, u, rfl, hv, hu⟩ := isl2 I1
      have hv0 := hv
      have hu0 := hu
      simp only [Is] at hv hu
      obtain ⟨p1, vs, rfl, h1, h2⟩ := hv
      obtain ⟨p2, ws, rfl, h3, h4⟩ := hu
      have q2 : ∀ J, JOk X.K ca s1 J _ → R J s1.H := q1 s1 rfl (Ext.refl _) S1.a
      have j := jok_zipT (ca := ca) (d := .tup a) (e := .tup b) (a := p1) (b := p2) (fun s2 x A2 es q => by cases q; exact ⟨vs, SqT.keep S1.a x h1, h2.mono S1.a x⟩) (fun s2 x A2 es q => by cases q; exact ⟨ws, SqT.keep S1.a x h3, h4.mono S1.a x⟩)
      rw [S1.h] at q2 h1 h3
      exact ⟨p1, p2, vs, ws, rfl, .inr ⟨h1, h3, q2 _ j⟩⟩
    · rename_i a b
      obtain ⟨v, u, rfl, hv, hu⟩ := isl2 I1
      simp only [Is] at hv hu
      obtain ⟨p1, vs, rfl, h1, n1, h2⟩ := hv
      obtain ⟨p2, ws, rfl, h3, n3, h4⟩ := hu
      have q2 : ∀ J, JOk X.K ca s1 J _ → R J s1.H := q1 s1 rfl (Ext.refl _) S1.a
      have j := jok_zipL (ca := ca) (K := X.K) (d := .lst a) (e := .lst b) (a := p1) (b := p2) (fun s2 x A2 es q => by cases q; exact ⟨vs, SqL.of (x.keep _ _ h1 n1.1), h2.mono S1.a x⟩) (fun s2 x A2 es q => by cases q; exact ⟨ws, SqL.of (x.keep _ _ h3 n3.1), h4.mono S1.a x⟩)
      rw [S1.h] at q2 h1 h3
      exact ⟨p1, p2, vs, ws, rfl, .inl ⟨SqL.of h1, SqL.of h3, q2 _ j⟩⟩
    · exact q1.elim
/-! ### {**d, k: v} -/
def starK (ks : List Key) (ds : List D) (k v : D) (M : Mem) : Res D := match k.keyD with
  | some kk => .ok (.dic (dputK kk ks) (dputD kk v ks ds)) M
  | none => .stk
def starG (g h : EM) (L : Lc) (d : D) (M1 : Mem) : Res D := match d.dict M1 with
  | some (ks, ds) => if ks.length < cap then (g L M1).bind fun k M2 => (h L M2).bind fun v M3 => starK ks ds k v M3 else .stk
  | none => .stk
def mDStar (f g h : EM) : EM := fun L M => (f L M).bind fun d M1 => starG g h L d M1
theorem xt_base {K : PySem.W.Frag} {s0 s : SM} {L : Lc} {σ : L2.St} {H : Hp} {β : Type} {I : SM → β → Prop} {f : EM} {k : D → Mem → Res β} (E : Ext s0 s) (S : Sta K ca s L σ H) (h : SatG K ca I (fun c d H => W c d σ H) s0 ((f L s.M).bind k)) :
    XT K ca W f σ H (fun v H1 => ∃ s' d, Sta K ca s' L σ H1 ∧ Ext s s' ∧ Is K s' d v ∧ SatG K ca I (fun c d H => W c d σ H) s0 (k d s'.M)) := by
  refine ⟨L, s, S, ?_⟩
  cases r : f L s.M with
  | ok d M' =>
    rw [r] at h
    exact fun s2 e2 x A v hv => ⟨s2, d, S.ext x A, x, hv, by rw [e2]; exact h⟩
  | ex c fs ds M' =>
    rw [r] at h
    exact fun s2 dd kvs e2 x A h1 h2 h3 => h s2 dd kvs e2 (E.trans x) A h1 h2 h3
  | stk => rw [r] at h; exact h
theorem xe_dstar (he : PE X e (XT X.K ca W f)) (hk : PE X k (XT X.K ca W g)) (hv : PE X v (XT X.K ca W h)) : PE X (.Dict [none, some k] [e, v] pos) (XT X.K ca W (mDStar f g h)) := PE.imp (pe_dstar he hk hv) fun σ H Q ⟨L, s, S, q⟩ D hD => by
  rw [← S.h] at hD
  have S0 := S.own (o := .dK []) hD
  have q : SatG X.K ca (fun s' d => ∀ v, Is X.K s' d v → Q v s'.H) (fun c d H => W c d σ H) s ((f L s.M).bind fun d M1 => starG g h L d M1) := q
  have h0 := xt_base (k := fun d M1 => starG g h L d M1) (Ext.own (o := .dK []) hD) S0 q
  refine XT.mono h0 fun x H1 hh => ?_
  obtain ⟨s1, d, S1, E1, I1, q1⟩ := hh
  have E01 := (Ext.own (o := .dK []) hD).trans E1
  unfold starG at q1
  split at q1
  · rename_i ks ds ed
    split at q1
    · rename_i hl
      obtain ⟨a, kvs, rfl, h1, h2, h3⟩ := dict_is S1.a I1 ed
      have hPD : s1.P D := E1.pk D (.inr rfl)
      have hne := dict_ne S1.a I1 ed rfl hPD
      have hD1 : s1.H D = some (.dK []) := E1.hold S0.a (.inr rfl) (by show upd s.H D _ D = _; exact upd_same)
      have hlk : kvs.length < cap := by rw [← h2, List.length_map] at hl; exact hl
      refine ⟨a, kvs, rfl, hne, by rw [← S1.h]; exact h1, by rw [← S1.h]; exact hD1, hlk, fun Z hZ => ?_⟩
      rw [← S1.h] at hZ
      have S2 := S1.priv (o := .dK kvs) hPD (nl_dK hD1)
      have E02 : Ext s (s1.priv D (.dK kvs)) := E01.priv hD
      have I3 : IsL X.K (s1.priv D (.dK kvs)) ds (kvs.map (·.2)) := h3.priv hPD (nl_dK hD1)
      have hZ2 : (s1.priv D (.dK kvs)).H Z = none := hZ
      have S3 := S2.own (o := .dK []) hZ2
      have E03 := E02.trans (Ext.own (o := .dK []) hZ2)
      have I3 := I3.mono S2.a (Ext.own (o := .dK []) hZ2)
      have hDZ : D ≠ Z := fun z => by
        have hz : upd s1.H D (.dK kvs) Z = none := hZ
        rw [← z, upd_same] at hz; cases hz
      have hD3 : (((s1.priv D (.dK kvs)).own Z (.dK []))).H D = some (.dK kvs) := by
        show upd (upd s1.H D (.dK kvs)) Z (.dK []) D = _
        rw [upd_ne hDZ, upd_same]
      have hPD3 : (((s1.priv D (.dK kvs)).own Z (.dK []))).P D := .inl hPD
      refine XT.mono (xt_base (k := fun k M2 => (h L M2).bind fun v M3 => starK ks ds k v M3) E03 S3 q1) fun y H2 hh => ?_
      obtain ⟨s4, k', S4, E4, I4, q4⟩ := hh
      refine XT.mono (xt_base (k := fun v M3 => starK ks ds k' v M3) (E03.trans E4) S4 q4) fun z H3 hh => ?_
      obtain ⟨s5, v', S5, E5, I5, q5⟩ := hh
      have I4' := I4.mono S4.a E5
      have E35 := E4.trans E5
      unfold starK at q5
      split at q5
      · rename_i kk ek
        have hy := key_is I4' ek
        subst hy
        have hD5 := E35.hold S3.a hPD3 hD3
        have hZ5 : s5.H Z = some (.dK []) := E35.hold S3.a (.inr rfl) (by show upd _ Z _ Z = _; exact upd_same)
        have hPZ5 : s5.P Z := E35.pk Z (.inr rfl)
        have hPD5 : s5.P D := E35.pk D hPD3
        have I3' := I3.mono S3.a E35
        refine ⟨kk, rfl, by rw [← S5.h]; exact hZ5, by rw [← S5.h]; exact hD5, ?_⟩
        have S6 := S5.priv (o := .dK [(kk, z)]) hPZ5 (nl_dK hZ5)
        have hD6 : (s5.priv Z (.dK [(kk, z)])).H D = some (.dK kvs) := by show upd s5.H Z _ D = _; rw [upd_ne hDZ]; exact hD5
        have S7 := S6.priv (o := .dK (putK kvs kk z)) hPD5 (nl_dK hD6)
        have hsub : ∀ a, s.P a → s5.P a := fun a ha => (E03.trans E35).pk a ha
        have I3a : IsL X.K (s5.priv Z (.dK [(kk, z)])) ds (kvs.map (·.2)) := I3'.priv hPZ5 (nl_dK hZ5)
        have I5a : Is X.K (s5.priv Z (.dK [(kk, z)])) v' z := I5.priv hPZ5 (nl_dK hZ5)
        subst h2
        obtain ⟨a1, a2⟩ := putK_is (k := kk) I5a I3a
        have a3 := IsL.priv (s := s5.priv Z (.dK [(kk, z)])) (o := .dK (putK kvs kk z)) hPD5 (nl_dK hD6) a2
        have hsZ : s.H Z = none := by
          cases hz : s.H Z with
          | none => rfl
          | some o => exact absurd hZ2 (E02.stay Z (by rw [hz]; exact nofun))
        have E7 : Ext s (((s5.priv Z (.dK [(kk, z)])).priv D (.dK (putK kvs kk z))).dis s.P) := Ext.back (Ext.priv (Ext.priv (E03.trans E35) hsZ) hD)
        have fin := q5 (((s5.priv Z (.dK [(kk, z)])).priv D (.dK (putK kvs kk z))).dis s.P) rfl E7 (S7.a.dis hsub) (.ref D) (by
          simp only [Is]
          refine ⟨D, putK kvs kk z, rfl, by show upd _ D _ D = _; exact upd_same, ⟨?_, fun w => S.a.pt D w hD⟩, a1, IsL.dis (s := (s5.priv Z (.dK [(kk, z)])).priv D (.dK (putK kvs kk z))) hsub a3⟩
          rintro ⟨i, hi, e⟩
          exact S7.a.pv i hi (by have e : (((s5.priv Z (.dK [(kk, z)])).priv D (.dK (putK kvs kk z)))).ρ i = D := e; rw [e]; exact hPD5))
        rw [← S5.h]; exact fin
      · exact q5.elim
    · exact q1.elim
  · exact q1.elim
end
end XM
/-! ## XMm -/
set_option maxHeartbeats 200000
set_option linter.all false
set_option autoImplicit false
set_option maxRecDepth 100000
set_option maxHeartbeats 2000000
namespace XM
open PySem PySem.Spec
open PyProof.Rows hiding St
open L2 hiding Rd Rd.of Rd.ok
/-! ### {k: v, ..} -/
abbrev PM := Lc → Mem → Res (List (Key × D))
def mPNil : PM := fun _ M => .ok [] M
def pairK (k d : D) (ps : List (Key × D)) (M : Mem) : Res (List (Key × D)) := match k.keyD with
  | some kk => .ok ((kk, d) :: ps) M
  | none => .stk
def mPCons (f g : EM) (r : PM) : PM := fun L M => (f L M).bind fun k M1 => (g L M1).bind fun d M2 => (r L M2).bind fun ps M3 => pairK k d ps M3
def dputs : List (Key × D) → List Key → List D → List Key × List D
  | [], ks, ds => (ks, ds)
  | (k, d) :: r, ks, ds => dputs r (dputK k ks) (dputD k d ks ds)
def dispK (ps : List (Key × D)) (M : Mem) : Res D := if ps.length ≤ 15 then .ok (.dic (dputs ps [] []).1 (dputs ps [] []).2) M else .stk
def mDisp (r : PM) : EM := fun L M => (r L M).bind dispK
/-- pairs as they were read -/
def IsP (K : PySem.W.Frag) (s : SM) (ps : List (Key × D)) (kvs : List (Key × V)) : Prop := kvs.map (·.1) = ps.map (·.1) ∧ IsL K s (ps.map (·.2)) (kvs.map (·.2))
section
variable {K : PySem.W.Frag} {ca : Nat → Addr} {W : WX}
theorem mergeK_is {s : SM} : ∀ {ps : List (Key × D)} {more : List (Key × V)} {kvs : List (Key × V)} {ks : List Key} {ds : List D}, IsP K s ps more → kvs.map (·.1) = ks → IsL K s ds (kvs.map (·.2)) →
    (mergeK kvs more).map (·.1) = (dputs ps ks ds).1 ∧ IsL K s (dputs ps ks ds).2 ((mergeK kvs more).map (·.2))
  | [], [], kvs, ks, ds, h, hk, hd => ⟨hk, hd⟩
  | [], _ :: _, _, _, _, h, _, _ => by cases h.1
  | _ :: _, [], _, _, _, h, _, _ => by cases h.1
  | (k, d) :: ps, (k', v) :: more, kvs, ks, ds, h, hk, hd => by
    obtain ⟨h1, h2⟩ := h
    rw [List.map_cons, List.map_cons, List.cons.injEq] at h1
    obtain ⟨hk1, h1⟩ := h1
    have hk1 : k' = k := hk1
    subst hk1
    rw [List.map_cons, List.map_cons] at h2
    simp only [IsL] at h2
    obtain ⟨v', r, e, h3, h4⟩ := h2
    cases e
    subst hk
    obtain ⟨a1, a2⟩ := putK_is (k := k') h3 hd
    have z := mergeK_is (ps := ps) (more := more) (kvs := putK kvs k' v) ⟨h1, h4⟩ a1 a2
    exact z
/-- a reading of pairs -/
def XP (K : PySem.W.Frag) (ca : Nat → Addr) (W : WX) (s0 : SM) (r : PM) (σ : L2.St) (H : Hp) (Q : List (Key × V) → Hp → Prop) : Prop :=
  ∃ L s, Sta K ca s L σ H ∧ Ext s0 s ∧ SatG K ca (fun s' ps => ∀ kvs, IsP K s' ps kvs → Q kvs s'.H) (fun c d H => W c d σ H) s (r L s.M)
inductive PairsX (K : PySem.W.Frag) (ca : Nat → Addr) (W : WX) : List (TE × TE) → PM → Prop
  | nil : PairsX K ca W [] mPNil
  | cons {f g : EM} {r : PM} {trs : List (TE × TE)} : PairsX K ca W trs r → PairsX K ca W ((XT K ca W f, XT K ca W g) :: trs) (mPCons f g r)
theorem pairs_is {trs : List (TE × TE)} {r : PM} (h : PairsX K ca W trs r) : ∀ (s : SM) (L : Lc) (σ : L2.St) (H : Hp) (β : Type) (I : SM → β → Prop) (k : List (Key × D) → Mem → Res β) (s0 : SM) (Q : List (V × V) → Hp → Prop), Ext s0 s → Sta K ca s L σ H → SatG K ca I (fun c d H => W c d σ H) s0 ((r L s.M).bind k) →
    (∀ s' pd kvs H1, Sta K ca s' L σ H1 → Ext s s' → IsP K s' pd kvs → SatG K ca I (fun c d H => W c d σ H) s0 (k pd s'.M) → Q (kvs.map (fun kv => (kV kv.1, kv.2))) H1) → tPairs trs σ H Q := by
  induction h with
  | nil => exact fun s L σ H β I k s0 Q E S q hQ => hQ s [] [] H S (Ext.refl _) ⟨rfl, IsL.nil⟩ q
  | @cons f g r trs h ih =>
    intro s L σ H β I k s0 Q E S q hQ
    have q : SatG K ca I (fun c d H => W c d σ H) s0 ((f L s.M).bind fun kd M1 => ((g L M1).bind fun d M2 => (r L M2).bind fun ps M3 => (pairK kd d ps M3)).bind k) := by
      have e : (mPCons f g r L s.M).bind k = ((f L s.M).bind fun kd M1 => ((g L M1).bind fun d M2 => (r L M2).bind fun ps M3 => (pairK kd d ps M3)).bind k) := by
        unfold mPCons
        cases f L s.M <;> rfl
      rw [← e]; exact q
    refine XT.mono (xt_base E S q) fun x H1 hh => ?_
    obtain ⟨s1, kd, S1, E1, I1, q1⟩ := hh
    have q1 : SatG K ca I (fun c d H => W c d σ H) s0 ((g L s1.M).bind fun d M2 => ((r L M2).bind fun ps M3 => (pairK kd d ps M3)).bind k) := by
      have e : ((g L s1.M).bind fun d M2 => (r L M2).bind fun ps M3 => (pairK kd d ps M3)).bind k = ((g L s1.M).bind fun d M2 => ((r L M2).bind fun ps M3 => (pairK kd d ps M3)).bind k) := by
        cases g L s1.M <;> rfl
      rw [← e]; exact q1
    refine XT.mono (xt_base (E.trans E1) S1 q1) fun y H2 hh => ?_
    obtain ⟨s2, d, S2, E2, I2, q2⟩ := hh
    have q2 : SatG K ca I (fun c d H => W c d σ H) s0 ((r L s2.M).bind fun ps M3 => (pairK kd d ps M3).bind k) := by
      have e : ((r L s2.M).bind fun ps M3 => (pairK kd d ps M3)).bind k = ((r L s2.M).bind fun ps M3 => (pairK kd d ps M3).bind k) := by
        cases r L s2.M <;> rfl
      rw [← e]; exact q2
    refine ih s2 L σ H2 β I (fun ps M3 => (pairK kd d ps M3).bind k) s0 _ ((E.trans E1).trans E2) S2 q2 fun s3 pd kvs H3 S3 E3 I3 q3 => ?_
    have I1' := (I1.mono S1.a E2).mono S2.a E3
    have I2' := I2.mono S2.a E3
    unfold pairK at q3
    split at q3
    · rename_i kk ek
      have hx := key_is I1' ek
      subst hx
      exact hQ s3 ((kk, d) :: pd) ((kk, y) :: kvs) H3 S3 ((E1.trans E2).trans E3) ⟨by rw [List.map_cons, List.map_cons, I3.1], IsL.cons I2' I3.2⟩ q3
    · exact q3.elim
end
/-- the texts' pairs, read -/
structure PPX (X : Cx) (ca : Nat → Addr) (W : WX) (pos : Pos) (keys : List (Option Expr)) (values : List Expr) (r : PM) : Prop where
  p : ∃ trs, PPs X pos keys values trs ∧ PairsX X.K ca W trs r
section
variable {X : Cx} {ca : Nat → Addr} {W : WX} {e e2 k v o : Expr} {es : List Expr} {ks : List (Option Expr)} {f g h : EM} {fs : AM} {r : PM} {p pos pos' apos : Pos} {x : Str}
theorem xp_nil : PPX X ca W pos [] [] mPNil := ⟨[], pps_nil, .nil⟩
theorem xp_cons (hk : PE X k (XT X.K ca W f)) (hv : PE X v (XT X.K ca W g)) (hr : PPX X ca W pos ks es r) : PPX X ca W pos (some k :: ks) (v :: es) (mPCons f g r) :=
  let ⟨trs, h1, h2⟩ := hr.p
  ⟨(XT X.K ca W f, XT X.K ca W g) :: trs, pps_cons hk hv h1, .cons h2⟩
theorem xe_disp (h : PPX X ca W pos ks es r) (hall : ks.all (·.isSome) = true := by rfl) (hl : ks.length = es.length := by rfl) (h0 : ks ≠ [] := by simp) (h15 : ks.length ≤ 15 := by decide) : PE X (.Dict ks es pos) (XT X.K ca W (mDisp r)) := by
  obtain ⟨trs, h1, h2⟩ := h.p
  refine PE.imp (pe_disp h1 hall hl h0 h15) fun σ H Q ⟨L, s, S, q⟩ D hD => ?_
  rw [← S.h] at hD
  have S0 := S.own (o := .dK []) hD
  have q : SatG X.K ca (fun s' d => ∀ v, Is X.K s' d v → Q v s'.H) (fun c d H => W c d σ H) s ((r L s.M).bind dispK) := q
  refine pairs_is h2 (s.own D (.dK [])) L σ _ _ _ dispK s _ (Ext.own hD) S0 q fun s1 pd kvs H1 S1 E1 I1 q1 => ?_
  have hPD : s1.P D := E1.pk D (.inr rfl)
  have hD1 : s1.H D = some (.dK []) := E1.hold S0.a (.inr rfl) (by show upd s.H D _ D = _; exact upd_same)
  unfold dispK at q1
  split at q1
  · rename_i hl15
    have hlk : kvs.length = pd.length := by have := congrArg List.length I1.1; simpa using this
    refine ⟨by rw [← S1.h]; exact hD1, kvs, rfl, by omega, ?_⟩
    obtain ⟨a1, a2⟩ := mergeK_is (kvs := []) (ks := []) (ds := []) I1 rfl IsL.nil
    have S2 := S1.priv (o := .dK (mergeK [] kvs)) hPD (nl_dK hD1)
    have a3 := IsL.priv (s := s1) (o := .dK (mergeK [] kvs)) hPD (nl_dK hD1) a2
    have hsub : ∀ a, s.P a → s1.P a := fun a ha => ((Ext.own (o := .dK []) hD).trans E1).pk a ha
    have E2 : Ext s ((s1.priv D (.dK (mergeK [] kvs))).dis s.P) := Ext.back (Ext.priv ((Ext.own (o := .dK []) hD).trans E1) hD)
    have fin := q1 ((s1.priv D (.dK (mergeK [] kvs))).dis s.P) rfl E2 (S2.a.dis hsub) (.ref D) (by
      simp only [Is]
      refine ⟨D, mergeK [] kvs, rfl, by show upd _ D _ D = _; exact upd_same, ⟨?_, fun w => S.a.pt D w hD⟩, a1, IsL.dis (s := s1.priv D (.dK (mergeK [] kvs))) hsub a3⟩
      rintro ⟨i, hi, e⟩
      exact S2.a.pv i hi (by have e : (s1.priv D (.dK (mergeK [] kvs))).ρ i = D := e; rw [e]; exact hPD))
    rw [← S1.h]; exact fin
  · exact q1.elim
end
end XM
/-! ## XMn -/
set_option maxHeartbeats 200000
set_option linter.all false
set_option autoImplicit false
set_option maxRecDepth 100000
set_option maxHeartbeats 2000000
namespace XM
open PySem PySem.Spec
open PyProof.Rows hiding St
open L2 hiding Rd Rd.of Rd.ok
/-! ### {k: v for ..} -/
def dcG (g : TgM) (t : BM) (fk fv : EM) (J : It') (L0 : Lc) : Nat → Nat → List Key → List D → Mem → Res D
  | 0, _, _, _, _ => .stk
  | n + 1, i, ks, ds, M => match J.at M i with
    | none => .stk
    | some none => .ok (.dic ks ds) M
    | some (some d) => match g d L0 with
      | none => .stk
      | some L1 => (t L1 M).bind fun b M1 => if b = true then (fk L1 M1).bind fun k M2 => (fv L1 M2).bind fun x M3 => match k.keyD with
        | some kk => dcG g t fk fv J L0 n (i + 1) (dputK kk ks) (dputD kk x ks ds) M3
        | none => .stk
        else dcG g t fk fv J L0 n (i + 1) ks ds M1
def mDc (it : Lc → Mem → Res It') (g : TgM) (t : BM) (fk fv : EM) (vs : List Nat) : EM := fun L M => (it L M).bind fun J M1 => dcG g (noX t) (noX fk) (noX fv) J (wipeL L vs) cap 0 [] [] M1
section
variable {K : PySem.W.Frag} {ca : Nat → Addr} {W : WX} {σ : L2.St} {s s' : SM} {H : Hp} {L : Lc}
structure TurnD (K : PySem.W.Frag) (ca : Nat → Addr) (s0 : SM) (p : Addr) (L : Lc) (σ : L2.St) (ks : List Key) (ds : List D) (s : SM) (H : Hp) : Prop where
  S : Sta K ca s L σ H
  E : Ext s0 s
  P : s.P p
  A : ∃ us, s.H p = some (.dK us) ∧ us.map (·.1) = ks ∧ IsL K s ds (us.map (·.2))
theorem TurnD.ext {s0 : SM} {p : Addr} {ks : List Key} {ds : List D} (T : TurnD K ca s0 p L σ ks ds s H) (x : Ext s s') (a : Abs K ca s') : TurnD K ca s0 p L σ ks ds s' s'.H := by
  obtain ⟨S, E, P, us, h1, h2, h3⟩ := T
  exact ⟨S.ext x a, E.trans x, x.pk p P, us, x.hold S.a P h1, h2, h3.mono S.a x⟩
theorem TurnD.put {s0 : SM} {p : Addr} {ks : List Key} {ds : List D} (T : TurnD K ca s0 p L σ ks ds s H) (h0 : s0.H p = none) {d : D} {v : V} (k : Key) (hd : Is K s d v) : ∃ us, H p = some (.dK us) ∧ us.length = ks.length ∧ TurnD K ca s0 p L σ (dputK k ks) (dputD k d ks ds) (s.priv p (.dK (putK us k v))) (upd H p (.dK (putK us k v))) := by
  obtain ⟨S, E, P, us, h1, h2, h3⟩ := T
  subst h2
  obtain ⟨a1, a2⟩ := putK_is (k := k) hd h3
  exact ⟨us, by rw [← S.h]; exact h1, by simp, S.priv P (nl_dK h1), E.priv h0, P, putK us k v, by show upd s.H p _ p = _; exact upd_same, a1, a2.priv P (nl_dK h1)⟩
theorem noX_ok {α β : Type} {I : SM → β → Prop} {E : Value → Option Addr → Hp → Prop} {f : Lc → Mem → Res α} {k : α → Mem → Res β} {M : Mem} (h : SatG K ca I E s ((noX f L M).bind k)) : ∃ a M', f L M = .ok a M' ∧ SatG K ca I E s (k a M') := by
  unfold noX at h
  cases r : f L M with
  | ok a M' => rw [r] at h; exact ⟨a, M', rfl, h⟩
  | ex c fs ds M' => rw [r] at h; exact h.elim
  | stk => rw [r] at h; exact h.elim
theorem dputK_len (k : Key) (ks : List Key) : (dputK k ks).length ≤ ks.length + 1 := by
  unfold dputK
  split
  · omega
  · rw [List.length_append]; exact Nat.le_refl _
theorem dc_is {g : TgM} {sl : List Nat} {t : BM} {fk fv : EM} {it : It'} {J : It} {s0 : SM} {L : Lc} {σ : L2.St} {H : Hp} {Q : VK} {vs : List Nat} {E : Value → Option Addr → Hp → Prop} (hsl : ∀ i ∈ sl, i ∈ vs) (hJ : JOk K ca s0 J it) (S : Sta K ca s0 L σ H) (q : SatG K ca (fun s' d => ∀ v, Is K s' d v → Q v s'.H) E s0 (dcG g (noX t) (noX fk) (noX fv) it (wipeL L vs) cap 0 [] [] s0.M)) :
    ∀ p, H p = none → ∃ W0 : Nat → Nat → Hp → Prop, (∃ m, W0 0 m (upd H p (.dK []))) ∧ ∀ i m H, W0 i m H →
      (J.stop i H ∧ Q (.ref p) H) ∨ (J.go i H ∧ ∃ Nx : Hp → Prop, (∀ H', Nx H' → ∃ m', m' < m ∧ W0 (i + 1) m' H') ∧ ∀ x H', J.yld i H x H' → XG K ca g sl x (L2.wipe σ vs) H' fun σ2 H2 => L2.wipe σ2 vs = L2.wipe σ vs ∧ XB K ca WF t σ2 H2 fun b H3 =>
        if b = true then XT K ca WF fk σ2 H3 fun y H4 => XT K ca WF fv σ2 H4 fun z H5 => ∃ kvs k, y = kV k ∧ H5 p = some (.dK kvs) ∧ kvs.length < sizeLine ∧ Nx (upd H5 p (.dK (putK kvs k z))) else Nx H3) := by
  intro p hp
  rw [← S.h] at hp
  have hwid : ∀ {σ2 : L2.St}, (∀ j, j ∉ sl → σ2[j]? = (L2.wipe σ vs)[j]?) → σ2.length = (L2.wipe σ vs).length → L2.wipe σ2 vs = L2.wipe σ vs := fun {σ2} o hl => by
    apply List.ext_getElem?
    intro i
    have key : ∀ (vs' : List Nat) (τ : L2.St) (i : Nat), (i ∈ vs' → (L2.wipe τ vs')[i]? = if i < τ.length then some none else none) ∧ (i ∉ vs' → (L2.wipe τ vs')[i]? = τ[i]?) := by
      intro vs' τ i
      induction vs' with
      | nil => exact ⟨fun h => by simp at h, fun _ => rfl⟩
      | cons v r ih =>
        unfold L2.wipe
        by_cases hv : v = i
        · subst hv
          refine ⟨fun _ => ?_, fun h => by simp at h⟩
          rw [List.getElem?_set]
          simp [L2.wipe_length]
        · refine ⟨fun h => ?_, fun h => ?_⟩
          · rw [List.getElem?_set_ne hv]
            rcases List.mem_cons.mp h with h | h
            · exact absurd h.symm hv
            · exact ih.1 h
          · rw [List.getElem?_set_ne hv]
            exact ih.2 fun z => h (List.mem_cons_of_mem _ z)
    by_cases hi : i ∈ vs
    · rw [(key vs σ2 i).1 hi, (key vs σ i).1 hi, hl, L2.wipe_length]
    · rw [(key vs σ2 i).2 hi, o i fun z => hi (hsl i z)]
  refine ⟨fun i m H => ∃ s ks ds, TurnD K ca s0 p (wipeL L vs) (L2.wipe σ vs) ks ds s H ∧ ks.length ≤ i ∧ i + m ≤ cap ∧ SatG K ca (fun s' d => ∀ v, Is K s' d v → Q v s'.H) E s0 (dcG g (noX t) (noX fk) (noX fv) it (wipeL L vs) m i ks ds s.M), ⟨cap, s0.own p (.dK []), [], [], ?_, Nat.le_refl _, by omega, q⟩, ?_⟩
  · exact ⟨⟨by rw [← S.h]; rfl, (S.l.wipe vs).mono S.a (Ext.own hp), S.a.own hp⟩, Ext.own hp, .inr rfl, [], by show upd s0.H p _ p = _; exact upd_same, rfl, IsL.nil⟩
  rintro i m H ⟨s, ks, ds, T, hi, him, q⟩
  cases m with
  | zero => exact q.elim
  | succ m =>
    obtain ⟨j1, j2⟩ := hJ s T.E T.S.a i
    unfold dcG at q
    split at q
    · exact q.elim
    · rename_i e1
      have := j1 e1
      rw [T.S.h] at this
      refine .inl ⟨this, ?_⟩
      obtain ⟨us, h1, h2, h3⟩ := T.A
      have hP : ∀ a, s0.P a → s.P a := T.E.pk
      have := q (s.dis s0.P) rfl T.E.back (T.S.a.dis hP) (.ref p) (by
        simp only [Is]
        refine ⟨p, us, rfl, h1, ⟨?_, fun z => S.a.pt p z hp⟩, h2, h3.dis hP⟩
        rintro ⟨k, hk, e⟩
        exact T.S.a.pv k hk (e ▸ T.P))
      rw [← T.S.h]; exact this
    · rename_i d e1
      obtain ⟨hgo, hy⟩ := j2 d e1
      rw [T.S.h] at hgo hy
      split at q
      · exact q.elim
      · rename_i L1 e2
        refine .inr ⟨hgo, fun H' => ∃ m', m' < m + 1 ∧ ∃ s ks ds, TurnD K ca s0 p (wipeL L vs) (L2.wipe σ vs) ks ds s H' ∧ ks.length ≤ i + 1 ∧ i + 1 + m' ≤ cap ∧ SatG K ca (fun s' d => ∀ v, Is K s' d v → Q v s'.H) E s0 (dcG g (noX t) (noX fk) (noX fv) it (wipeL L vs) m' (i + 1) ks ds s.M), fun H' z => z, fun x H' yy => ?_⟩
        obtain ⟨s2, h2, m2, E2, A2, I2⟩ := hy x H' yy
        have T2 := T.ext E2 A2
        rw [h2] at T2
        refine ⟨wipeL L vs, s2, d, L1, T2.S, I2, e2, fun σ' S' only => ⟨hwid only.2 only.1, L1, s2, S', ?_⟩⟩
        rw [← m2] at q
        obtain ⟨b, M', e3, q⟩ := noX_ok q
        rw [e3]
        intro s3 e4 x3 a3
        have T3 := T2.ext x3 a3
        dsimp only
        cases b with
        | false =>
          rw [if_neg Bool.false_ne_true] at q ⊢
          exact ⟨m, Nat.lt_succ_self m, s3, ks, ds, T3, by omega, by omega, by rw [e4]; exact q⟩
        | true =>
          rw [if_pos rfl] at q ⊢
          refine ⟨L1, s3, S'.ext x3 a3, ?_⟩
          rw [e4]
          obtain ⟨y, M1, e5, q⟩ := noX_ok q
          rw [e5]
          intro s4 e6 x4 a4 v hv
          obtain ⟨z, M2, e7, q⟩ := noX_ok q
          refine ⟨L1, s4, (S'.ext x3 a3).ext x4 a4, ?_⟩
          rw [e6, e7]
          intro s5 e8 x5 a5 v2 hv2
          have hv := hv.mono a4 x5
          split at q
          · rename_i kk ek
            have hk := key_is hv ek
            subst hk
            obtain ⟨us, u1, u2, u3⟩ := ((T3.ext x4 a4).ext x5 a5).put hp kk hv2
            refine ⟨us, kk, rfl, u1, ?_, m, Nat.lt_succ_self m, _, _, _, u3, by have := dputK_len kk ks; omega, by omega, ?_⟩
            · have : cap < sizeLine := cap_lt
              omega
            · show SatG K ca _ _ s0 (dcG g (noX t) (noX fk) (noX fv) it (wipeL L vs) m (i + 1) (dputK kk ks) (dputD kk z ks ds) s5.M)
              rw [e8]; exact q
          · exact q.elim
end
section
variable {X : Cx} {ca : Nat → Addr} {W : WX} {e c kx vx tg iter o : Expr} {ifs : List Expr} {scope : Scope} {f g fk fv : EM} {fs : AM} {B : BM} {it : Lc → Mem → Res It'} {gt : TgM} {sl vs : List Nat} {p pos pos' apos : Pos} {own : List (Str × Nat)} {x : Str}
theorem xe_dc (hc : X.calm = true) (hN : X.N.Nodup) (hsl : ∀ i ∈ sl, i ∈ own.map (·.2)) (hi : PI X tg iter (XI X.K ca W it)) (ok : BlkOk X.N X.env.scope scope own)
    (hg : ∀ (s : Shared) (H : Hp) (C : Addr) (cl : List (Str × Addr)) (fp : List Addr), PG (X.blk s H scope (compEnvC scope cl C X.env) fp) tg (XG X.K ca gt sl)) (ht : ∀ (s : Shared) (H : Hp) (C : Addr) (cl : List (Str × Addr)) (fp : List Addr), PTs (X.blk s H scope (compEnvC scope cl C X.env) fp) ifs (XB X.K ca WF B))
    (hk : ∀ (s : Shared) (H : Hp) (C : Addr) (cl : List (Str × Addr)) (fp : List Addr), PE (X.blk s H scope (compEnvC scope cl C X.env) fp) kx (XT X.K ca WF fk))
    (he : ∀ (s : Shared) (H : Hp) (C : Addr) (cl : List (Str × Addr)) (fp : List Addr), PE (X.blk s H scope (compEnvC scope cl C X.env) fp) vx (XT X.K ca WF fv)) (hs : ∀ x, foldedSetIterable iter X.env x = pure x := by intro _; rfl) :
    PE X (.DictComp kx vx [⟨tg, iter, ifs, 0⟩] scope pos) (XT X.K ca W (mDc it gt B fk fv (own.map (·.2)))) := PE.imp (pe_dc hc hN hi ok hg ht hk he hs) fun σ H Q ⟨L, s, S, q⟩ => by
  have q : SatG X.K ca (fun s' d => ∀ v, Is X.K s' d v → Q v s'.H) (fun c d H => W c d σ H) s ((it L s.M).bind fun J M1 => dcG gt (noX B) (noX fk) (noX fv) J (wipeL L (own.map (·.2))) cap 0 [] [] M1) := q
  unfold tDc
  refine ⟨L, s, S, SatG.imp (fun s' jt hh J hJ p hp => ?_) q.bind⟩
  obtain ⟨E, A, q⟩ := hh
  exact dc_is hsl hJ (S.ext E A) q p hp
end
end XM
/-! ## XMo -/
set_option maxHeartbeats 200000
set_option linter.all false
set_option autoImplicit false
set_option maxRecDepth 100000
set_option maxHeartbeats 2000000
namespace XM
open PySem PySem.Spec
open PyProof.Rows hiding St
open L2 hiding Rd Rd.of Rd.ok
/-! ### any(d.values()), whole numbers -/
theorem truth_ints {prog : Program} {w : World} {A : Around} {is : List Int} {P : Nat → Value → Prop} (h : ∀ i v, P i v → ∃ t, v = Value.int (is.getD i 0) t) : TruthOf prog w A P (fun i => is.getD i 0 != 0) := fun i v s Q E hv hq => by
  obtain ⟨t, rfl⟩ := h i v hv
  exact PySem.P.truthy_int hq
def tAnyVals (td : TE) : TE := fun σ H Q => td σ H fun x H1 => ∃ (a : Addr) (kvs : List (Key × V)) (is : List Int), x = V.ref a ∧ H1 a = some (.dK kvs) ∧ kvs.map (·.2) = is.map V.int ∧ Q (.bl (is.any fun i => i != 0)) H1
theorem any_getD (is : List Int) : ((List.range is.length).any fun i => is.getD i 0 != 0) = is.any fun i => i != 0 := by
  have e : (List.range is.length).map (fun i => is.getD i 0) = is := List.ext_getElem (by simp) fun i h1 h2 => by simp [h2]
  conv => rhs; rw [← e]
  rw [List.any_map]
  rfl
section
variable {X : Cx} {o : Expr} {p pos apos mpos : Pos} {td : TE}
theorem pe_anyVals (hc : X.calm = true) (hg : Gl X "any") (hm : X.mg "any" = none) (hd : PE X o td) (hbase : attributeBase o "values" X.env (eval o X.env) = eval o X.env := by rfl) (hline : (apos.endLine == mpos.line) = true := by rfl)
    (hse : starEach [Expr.Call (.Attribute o "values" apos) [] [] mpos] X.env = [(false, eval (Expr.Call (.Attribute o "values" apos) [] [] mpos) X.env)] := by rfl) :
    PE X (.Call (.Name "any" p) [.Call (.Attribute o "values" apos) [] [] mpos] [] pos) (tAnyVals td) := by
  refine ⟨fun pins s σ H Q I h => ?_⟩
  refine wpAny_Call_Name_kw (ld_blt I hg hm (u := .builtin "any") (by first | rfl | decide +kernel) ?_ (by first | decide +kernel | decide) (by first | decide +kernel | decide))
  rw [hse]
  refine PySem.callWith_builtin1 (wpAny_Call_method0_late hbase hline (thn (hd.run pins s σ H _ I h) fun v s1 ⟨x, H1, I1, r1, a, kvs, is, ex, ha, hv, q⟩ => ?_))
  subst ex
  obtain rfl : v = Value.ref a := r1
  obtain ⟨_, hsys, vs, rel, dof⟩ := dk_of I1.hok ha
  obtain ⟨ep, dat⟩ := dof.dictAt
  have dat' := dat
  obtain ⟨ob, es, ho, ex, hdat, hko, hpr, hnd⟩ := dat'
  refine ⟨"dict", "dict.values", F.plainAttrs_dict, F.slot_dict_values, F.type_dict_values, ⟨ob, ho, ex.1⟩, fun b e => ?_, Calls.callWith_builtin rfl (PySem.evalArgs_none ?_)⟩
  · cases e
    exact ⟨ob, ho, ex.2.1⟩
  refine call_meetsIn F.slot_dict_values ⟨ob, ho, ex.1⟩ F.entry_dict_values (F.args_dict_values_1 _) (meets_dict_values (mixKind X.prog X.w) a hsys) ⟨⟨vs, dof⟩, ?_⟩
  have k1 : ∀ b u, s1.heap.get? b = some u → (s1.heap.push { cls := .type "dict_values", data := .fields #[.ref a] }).get? b = some u := fun b u e => Heap.get?_push_of_some _ e
  have dat1 : (s1.heap.push { cls := .type "dict_values", data := .fields #[.ref a] }).DictAt (mixKind X.prog X.w) a vs ep := dat.keep k1
  have hlv : vs.length = is.length := by
    have e1 := congrArg List.length hv
    rw [List.length_map, List.length_map] at e1
    rw [← e1]
    exact (KV.length rel).symm
  have hval : ∀ (i : Nat) (v : Value), (∃ k, vs[i]? = some (k, v)) → ∃ t, v = Value.int (is.getD i 0) t := fun i v ⟨k, hk⟩ => by
    obtain ⟨x, h1, h2⟩ := KV.at' rel hk
    have e1 : (kvs.map (·.2))[i]? = some x := by rw [List.getElem?_map, h1] <;> rfl
    rw [hv, List.getElem?_map] at e1
    obtain ⟨j, hj, e2⟩ := Option.map_eq_some_iff.mp e1
    subst e2
    obtain ⟨t, e3⟩ := h2
    refine ⟨t, ?_⟩
    rw [e3, List.getD_eq_getElem?_getD, hj] <;> rfl
  refine call_any_walk (wpAny_pyIter_values (v := s1.heap.objs.size) (d := a) ⟨_, Heap.get?_push_size _ rfl, rfl, rfl⟩ dat1 ?_)
  have hlt : a < s1.heap.objs.size := Heap.lt_size ho
  have hsz : (s1.heap.push { cls := .type "dict_values", data := .fields #[.ref a] }).objs.size = s1.heap.objs.size + 1 := Heap.size_push _ _
  refine ⟨_, _, _, _, _, _, _, rfl, Walks.dictValues (knd := mixKind X.prog X.w) (A := X.A.in1) (I.ok.hd hc) (s1.heap.push { cls := .type "dict_values", data := .fields #[.ref a] }).objs.size a (by rw [hsz]; exact Nat.ne_of_lt (Nat.lt_succ_of_lt hlt)) vs ep,
    ⟨⟨_, Heap.get?_push_size _ rfl, rfl, rfl⟩, dat1.keep fun b u e => Heap.get?_push_of_some _ e⟩, truth_ints hval, fun h' tk hk => ?_⟩
  refine ⟨.bl _, H1, I1.kept (t' := tk) fun b u e => hk b u (fun hmem => ?_) (Heap.get?_push_of_some _ (k1 b u e)), rfl, ?_⟩
  · have e1 : b = (s1.heap.push { cls := .type "dict_values", data := .fields #[.ref a] }).objs.size := List.mem_singleton.mp hmem
    have e2 := Heap.lt_size e
    rw [hsz] at e1
    rw [e1] at e2
    exact absurd e2 (Nat.not_lt.mpr (Nat.le_succ _))
  · rw [hlv, any_getD]; exact q
end
def dints : List D → Option (List Int)
  | [] => some []
  | .int i :: ds => match dints ds with
    | some l => some (i :: l)
    | none => none
  | _ :: _ => none
def anyVK (d : D) (M : Mem) : Res D := match d.dict M with
  | some (_, ds) => match dints ds with
    | some is => .ok (.bl (is.any fun i => i != 0)) M
    | none => .stk
  | none => .stk
theorem dints_is {K : PySem.W.Frag} {s : SM} : ∀ {ds : List D} {vs : List V} {l : List Int}, IsL K s ds vs → dints ds = some l → vs = l.map V.int
  | [], _, l, h, e => by simp only [IsL] at h; subst h; simp only [dints] at e; cases e; rfl
  | d :: ds, _, l, h, e => by
    simp only [IsL] at h
    obtain ⟨v, r, e1, h1, h2⟩ := h
    subst e1
    cases d <;> simp only [dints] at e <;> first | (cases e; done) | skip
    split at e
    · rename_i l' e2
      cases e
      simp only [Is] at h1
      rw [h1, dints_is h2 e2]; rfl
    · cases e
def dstrs : List D → Option (List Str)
  | [] => some []
  | .str i :: ds => match dstrs ds with
    | some l => some (i :: l)
    | none => none
  | _ :: _ => none
theorem dstrs_is {K : PySem.W.Frag} {s : SM} : ∀ {ds : List D} {vs : List V} {l : List Str}, IsL K s ds vs → dstrs ds = some l → vs = l.map V.str
  | [], _, l, h, e => by simp only [IsL] at h; subst h; simp only [dstrs] at e; cases e; rfl
  | d :: ds, _, l, h, e => by
    simp only [IsL] at h
    obtain ⟨v, r, e1, h1, h2⟩ := h
    subst e1
    cases d <;> simp only [dstrs] at e <;> first | (cases e; done) | skip
    split at e
    · rename_i l' e2
      cases e
      simp only [Is] at h1
      rw [h1, dstrs_is h2 e2]; rfl
    · cases e
def joinK (a : Str) (d : D) (M : Mem) : Res D := match d.seq M with
  | some ds => match dstrs ds with
    | some ys => if (ys.map (·.length)).sum + ys.length * a.length ≤ cap then .ok (.str (Txt.join a ys)) M else .stk
    | none => .stk
  | none => .stk
def joinG (g : EM) (L : Lc) (x : D) (M1 : Mem) : Res D := match x with
  | .str a => (g L M1).bind fun d M2 => joinK a d M2
  | _ => .stk
def mJoin (f g : EM) : EM := fun L M => (f L M).bind fun x M1 => joinG g L x M1
/-- C(): a new object of the memory, then its __init__ -/
def makeK (c : Nat) (F : List D → Mem → Res D) (M : Mem) : Res D := match F [.ref M.length] (M ++ [.ins c [] []]) with
  | .ok .non M2 => .ok (.ref M.length) M2
  | _ => .stk
def mMake0 (c : Nat) (F : List D → Mem → Res D) : EM := fun _ M => makeK c F M
section
variable {X : Cx} {ca : Nat → Addr} {W : WX} {e o : Expr} {f g : EM} {p pos apos mpos : Pos} {x : Str}
theorem xe_anyV (hc : X.calm = true) (hg : Gl X "any") (hm : X.mg "any" = none) (hd : PE X o (XT X.K ca W f)) (hbase : attributeBase o "values" X.env (eval o X.env) = eval o X.env := by rfl) (hline : (apos.endLine == mpos.line) = true := by rfl)
    (hse : starEach [Expr.Call (.Attribute o "values" apos) [] [] mpos] X.env = [(false, eval (Expr.Call (.Attribute o "values" apos) [] [] mpos) X.env)] := by rfl) :
    PE X (.Call (.Name "any" p) [.Call (.Attribute o "values" apos) [] [] mpos] [] pos) (XT X.K ca W (mB1 f anyVK)) := PE.imp (pe_anyVals hc hg hm hd hbase hline hse) fun σ H Q ⟨L, s, S, q⟩ =>
  XT.mono (xt_seq S q) fun y H1 ⟨s1, d, S1, E1, I1, q1⟩ => by
    unfold anyVK at q1
    split at q1
    · rename_i ks ds ed
      split at q1
      · rename_i is ei
        obtain ⟨a, kvs, rfl, h1, h2, h3⟩ := dict_is S1.a I1 ed
        have h4 := Sat.leaf S1.a q1 (v := .bl (is.any fun i => i != 0)) (by simp only [Is])
        rw [S1.h] at h1 h4
        exact ⟨a, kvs, is, rfl, h1, dints_is h3 ei, h4⟩
      · exact q1.elim
    · exact q1.elim
theorem xe_join (ho : PE X o (XT X.K ca W f)) (he : PE X e (XT X.K ca W g)) (hs : starEach [e] X.env = [(false, eval e X.env)] := by rfl) (hbase : attributeBase o "join" X.env (eval o X.env) = eval o X.env := by rfl) (hline : (apos.endLine == pos.line) = true := by rfl) :
    PE X (.Call (.Attribute o "join" apos) [e] [] pos) (XT X.K ca W (mJoin f g)) := PE.imp (pe_join ho he hs hbase hline) fun σ H Q ⟨L, s, S, q⟩ => by
  refine XT.mono (xt_seq S (k := fun x M1 => joinG g L x M1) q) fun z H1 hh => ?_
  obtain ⟨s1, x, S1, E1, I1, q1⟩ := hh
  unfold joinG at q1
  split at q1
  · rename_i a
    simp only [Is] at I1
    subst I1
    refine ⟨⟨a, rfl⟩, XT.mono (xt_seq S1 (k := fun d M2 => joinK a d M2) q1) fun y H2 hh => ?_⟩
    obtain ⟨s2, d, S2, E2, I2, q2⟩ := hh
    unfold joinK at q2
    split at q2
    · rename_i ds ed
      split at q2
      · rename_i ys ey
        split at q2
        · rename_i hl
          obtain ⟨b, vs, rfl, h1, h2⟩ := seq_is S2.a I2 ed
          have h3 := dstrs_is h2 ey
          subst h3
          have h4 := Sat.leaf S2.a q2 (v := .str (Txt.join a ys)) (by simp only [Is])
          rw [S2.h] at h1 h4
          exact ⟨a, b, ys, rfl, rfl, h1, Nat.le_trans hl (by unfold cap; decide), h4⟩
        · exact q2.elim
      · exact q2.elim
    · exact q2.elim
  · exact q1.elim
theorem xe_make0 {c k : Nat} {f : Addr} {fd : FuncData} {ps : List Str} {F : List D → Mem → Res D} (Mm : Mk X.K (ca c) f) (Fo : FnOk X.prog X.w X.K X.mg X.base (L2.CX X.prog X.w) k f fd ps (spF X.K ca 1 F)) (hr : Room (k + 1) X.A) (hg : Gl X x) (hm : X.mg x = some (.ref (ca c))) (hb : Binds X.K fd ps [])
    (hdb : (x == ("__debug__" : Str)) = false := by decide) : PE X (.Call (.Name x p) [] [] pos) (XT X.K ca W (mMake0 c F)) :=
  PE.imp (pe_make0 Mm Fo hr hg hm hb .nil passL hdb) fun σ H Q ⟨L, s, S, q⟩ y dx hy hdx hne => by
    have q : SatG X.K ca (fun s' d => ∀ v, Is X.K s' d v → Q v s'.H) (fun c d H => W c d σ H) s (makeK c F s.M) := q
    unfold makeK at q
    split at q
    · rename_i M2 e1
      rw [← S.h] at hy hdx ⊢
      have A1 := S.a.laid (o := .own y) hdx
      have hy1 : (s.laid dx (.own y)).H y = none := by
        show upd s.H dx (.own y) y = none
        rw [upd_ne (Ne.symm hne)]; exact hy
      have hok : OkO X.K ca ((s.laid dx (.own y)).put y (.ins (ca c) dx []) (.ins c [] [])) y (.ins c [] []) := ⟨dx, [], by show upd _ y _ y = _; exact upd_same, rfl, IsL.nil⟩
      have A2 := A1.put hy1 hok
      have E2 := (Ext.laid (s := s) (o := .own y) hdx).trans (Ext.put (o := .ins (ca c) dx []) (m := .ins c [] []) hy1)
      refine ⟨[.ref s.M.length], (s.laid dx (.own y)).put y (.ins (ca c) dx []) (.ins c [] []), rfl, A2, ?_, rfl, ?_⟩
      · refine IsL.cons ?_ IsL.nil
        simp only [Is]
        refine ⟨?_, ?_⟩
        · show V.ref y = .ref (if s.M.length = s.M.length then y else _)
          rw [if_pos rfl]
        · show s.M.length < (s.M ++ [_]).length
          simp
      · show SatG X.K ca _ _ _ (F [.ref s.M.length] (s.M ++ [.ins c [] []]))
        rw [e1]
        intro s3 e3 x3 A3 v hv
        simp only [Is] at hv
        refine ⟨hv, q s3 e3 (E2.trans x3) A3 (.ref y) ?_⟩
        simp only [Is]
        have hlt : s.M.length < ((s.laid dx (.own y)).put y (.ins (ca c) dx []) (.ins c [] [])).M.length := by show s.M.length < (s.M ++ [_]).length; simp
        refine ⟨?_, Nat.lt_of_lt_of_le hlt x3.len⟩
        rw [x3.rho _ hlt]
        show V.ref y = .ref (if s.M.length = s.M.length then y else _)
        rw [if_pos rfl]
    · exact q.elim
end
end XM
/-! ## XMp -/
set_option maxHeartbeats 200000
set_option linter.all false
set_option autoImplicit false
set_option maxRecDepth 100000
set_option maxHeartbeats 2000000
namespace XM
open PySem PySem.Spec
open PyProof.Rows hiding St
open L2 hiding Rd Rd.of Rd.ok
def slSK (d : D) (lo hi : Option Int) (M : Mem) : Res D := match d with
  | .str z => if z.length ≤ cap then .ok (.str (cutS z lo hi)) M else .stk
  | _ => .stk
def mSlS (f : EM) (g h : OM) : EM := fun L M => (f L M).bind fun d M1 => (g L M1).bind fun lo M2 => (h L M2).bind fun hi M3 => slSK d lo hi M3
section
variable {X : Cx} {ca : Nat → Addr} {W : WX} {e : Expr} {f : EM} {pos p2 : Pos}
theorem xe_sliceS {lo hi : Option Expr} {gl gh : OM} (he : PE X e (XT X.K ca W f)) (hl : PO X lo (XO X.K ca W gl)) (hh : PO X hi (XO X.K ca W gh)) : PE X (.Subscript e (.Slice lo hi none p2) pos) (XT X.K ca W (mSlS f gl gh)) :=
  PE.imp (pe_slice sl_str he hl hh) fun σ H Q ⟨L, s, S, q⟩ => by
    refine XT.mono (xt_seq S (k := fun d M1 => (gl L M1).bind fun lo M2 => (gh L M2).bind fun hi M3 => slSK d lo hi M3) q) fun x H1 ⟨s1, d, S1, E1, I1, q1⟩ => ?_
    refine ⟨L, s1, S1, SatG.imp (fun s2 l hh => ?_) (SatG.bind q1)⟩
    obtain ⟨E2, A2, q2⟩ := hh
    refine ⟨L, s2, S1.ext E2 A2, SatG.imp (fun s3 u hh => ?_) (SatG.bind q2)⟩
    obtain ⟨E3, A3, q3⟩ := hh
    have I3 := (I1.mono S1.a E2).mono A2 E3
    unfold slSK at q3
    split at q3
    · split at q3
      · rename_i z hz
        simp only [Is] at I3
        exact ⟨z, I3, Nat.le_trans hz cap_line, Sat.leaf A3 q3 (by simp only [Is])⟩
      · exact q3.elim
    · exact q3.elim
end
/-! ### the suites: return e.n; return p + e.n -/
def hxF (nm : Str) (fs : List Str) (ds : List D) : Option D := flook fs ds nm
def hxA (pre nm : Str) (fs : List Str) (ds : List D) : Option D := match flook fs ds nm with
  | some (.str x) => if pre.length + x.length ≤ cap then some (.str (pre ++ x)) else none
  | _ => none
section
variable {K : PySem.W.Frag} {ca : Nat → Addr} {isc : Nat → Option Bool} {i : Nat} {nm pre : Str} {C : Addr}
theorem suite_fld (hC : ∀ c, isc c = some true → ca c = C) : SuiteOk K ca i isc (hxF nm) (fun a cls d => tXf a cls d C nm (tVar i)) := fun s a c fs ds dd kvs σ d Q A ec hσ h1 h2 h3 h4 hQ => by
  obtain ⟨v, h5, h6⟩ := flook_is h2 h3 h4
  exact ⟨.ref a, hσ, rfl, by rw [hC c ec], dd, kvs, v, rfl, h1, h5, hQ v h6⟩
def rAddStr : R2 := fun x y H Q => ∃ i j, x = .str i ∧ y = .str j ∧ i.length + j.length ≤ sizeLine ∧ Q (.str (i ++ j)) H
theorem suite_add (hC : ∀ c, isc c = some true → ca c = C) : SuiteOk K ca i isc (hxA pre nm) (fun a cls d => tOp rAddStr (tC (.str pre)) (tXf a cls d C nm (tVar i))) := fun s a c fs ds dd kvs σ d Q A ec hσ h1 h2 h3 h4 hQ => by
  unfold hxA at h4
  split at h4
  · rename_i x ex
    split at h4
    · rename_i hl
      cases h4
      obtain ⟨v, h5, h6⟩ := flook_is h2 h3 ex
      simp only [Is] at h6
      subst h6
      exact ⟨.ref a, hσ, rfl, by rw [hC c ec], dd, kvs, .str x, rfl, h1, h5, pre, x, rfl, rfl, Nat.le_trans hl cap_line, hQ (.str (pre ++ x)) (by simp only [Is])⟩
    · cases h4
  · cases h4
end
section
variable {X : Cx} {a : Addr} {oe : Obj} {cls : Value} {d : Option Addr} {pn : List (Addr × Obj)} {C : Addr} {n x y : Str} {pos p p2 pz : Pos} {j : Nat}
theorem pe_sfld (i : Nat) (T : XfC X.K C) (hno : PySem.W.findIn X.K (.ref C) n = some none) (hz : Zc cls d oe) (hf : ∃ vs, oe.data = .fields vs) (hN : X.N[i]? = some x := by rfl) (hv : Vis X.env.scope x := by first | exact Or.inl rfl | exact Or.inr (Or.inl rfl)) (hd : (x == ("__debug__" : Str)) = false := by decide)
    (hcd : (x == ("__classdict__" : Str)) = false := by decide) (hb : attributeBase (.Name x p) n X.env (eval (.Name x p) X.env) = eval (.Name x p) X.env := by rfl) : PE (X.suite a ((a, oe) :: pn)) (.Attribute (.Name x p) n pos) (tXf a cls d C n (tVar i)) :=
  pe_xf T hno hz hf (pe_var (X := X.suite a ((a, oe) :: pn)) hN hv hd hcd) hb
theorem pe_sadd (i : Nat) (T : XfC X.K C) (hno : PySem.W.findIn X.K (.ref C) n = some none) (hz : Zc cls d oe) (hf : ∃ vs, oe.data = .fields vs) (hy : y = x) {m : Str} (hN : X.N[i]? = some m := by rfl) (hv : Vis X.env.scope m := by first | exact Or.inl rfl | exact Or.inr (Or.inl rfl)) (hd : (m == ("__debug__" : Str)) = false := by decide)
    (hcd : (m == ("__classdict__" : Str)) = false := by decide) (hb : attributeBase (.Name m p) n X.env (eval (.Name m p) X.env) = eval (.Name m p) X.env := by rfl) : PE (X.suite a ((a, oe) :: pn)) (.BinOp (.Constant (.str y) j pz) .Add (.Attribute (.Name m p) n pos) p2) (tOp rAddStr (tC (.str x)) (tXf a cls d C n (tVar i))) := by
  subst hy
  exact pe_op op_add_str pe_str (pe_sfld i T hno hz hf hN hv hd hcd hb)
end
end XM
/-! ## K70a -/
set_option maxHeartbeats 200000
set_option Elab.async false
set_option linter.all false
set_option autoImplicit false
set_option maxRecDepth 100000
set_option maxHeartbeats 4000000
namespace K70
open PySem PySem.Spec
open PyProof.Rows hiding St
open L2 hiding Rd Rd.of Rd.ok
open XM
abbrev PG : Program := PySem.Challenge.pw_answerandproof_k70_whole_what_is_looked
def topS (i : Nat) : Stmt := PG.main.body.getD i (.Pass ⟨0, 0, 0, 0⟩)
def clsM (s : Stmt) (i : Nat) : Stmt := match s with
  | .ClassDef _ _ _ b _ _ _ _ _ _ _ => b.getD i (.Pass ⟨0, 0, 0, 0⟩)
  | _ => .Pass ⟨0, 0, 0, 0⟩
def mNE : EM := fun _ _ => .stk
theorem xt_w {X : Cx} {ca : Nat → Addr} {W : WX} {e : Expr} {F : BM} (h : PW X e (XB X.K ca W F)) : PT X e (XB X.K ca W F) := h.pt
theorem xe_never {X : Cx} {ca : Nat → Addr} {W : WX} {e : Expr} : PE X e (XT X.K ca W mNE) := ⟨fun pins s σ H Q I ⟨L, s, S, q⟩ => q.elim⟩
structure FT1 (K : PySem.W.Frag) (name qual : Str) (st : Stmt) (f : Addr) (fd : FuncData) : Prop where
  ex : ∃ (oc : Value) (od : Option Addr) (dV kV doc pm : Value) (an : Option Addr) (cdv ct : Value) (osl : Array (Option Value)), fd = PySem.W.fnOf name qual (defArgs st) (defBody st) (defScope st) dV kV doc pm an cdv ct ∧ K.lookup f = some ⟨oc, od, .func fd, osl⟩ ∧ PySem.W.codeIn K cdv qual = true
  kp : PySem.W.keepIn K (.ref f) = true
def sLETTERS : Str := ⟨#[97, 98, 99, 100, 101, 102, 103, 104, 105, 106, 107, 108, 109, 110, 111, 112, 113, 114, 115, 116, 117, 118, 119, 120, 121, 122, 65, 66, 67, 68, 69, 70, 71, 72, 73, 74, 75, 76, 77, 78, 79, 80, 81, 82, 83, 84, 85, 86, 87, 88, 89, 90, 95]⟩
def S0 : Str := ⟨#[40]⟩
def S1 : Str := ⟨#[32]⟩
def S2 : Str := ⟨#[41]⟩
def S3 : Str := ⟨#[48, 49, 50, 51, 52, 53, 54, 55, 56, 57]⟩
def S4 : Str := ⟨#[102, 111, 114, 109]⟩
def S5 : Str := ⟨#[110, 117, 109, 98, 101, 114]⟩
def S6 : Str := ⟨#[105, 110, 116]⟩
def S7 : Str := ⟨#[119, 111, 114, 100]⟩
def S8 : Str := ⟨#[98, 105, 116]⟩
def S9 : Str := ⟨#[115, 111, 114, 116]⟩
def S10 : Str := ⟨#[98, 111, 111, 108]⟩
def S11 : Str := ⟨#[42]⟩
def S12 : Str := ⟨#[115, 111, 109, 101]⟩
def S13 : Str := ⟨#[97, 108, 108]⟩
def S14 : Str := ⟨#[102, 117, 110]⟩
def S15 : Str := ⟨#[102, 97, 108, 115, 101]⟩
def S16 : Str := ⟨#[116, 114, 117, 101]⟩
def S17 : Str := ⟨#[117, 110, 107, 110, 111, 119, 110]⟩
def S18 : Str := ⟨#[97, 114, 114, 97, 121]⟩
def S19 : Str := ⟨#[101, 108, 101, 109]⟩
def S20 : Str := ⟨#[105, 116, 101]⟩
def S21 : Str := ⟨#[61, 62]⟩
def S22 : Str := ⟨#[111, 114]⟩
def S23 : Str := ⟨#[97, 110, 100]⟩
def S24 : Str := ⟨#[110, 111, 116]⟩
def S25 : Str := ⟨#[45]⟩
def S26 : Str := ⟨#[43]⟩
def S27 : Str := ⟨#[60]⟩
def S28 : Str := ⟨#[60, 61]⟩
def S29 : Str := ⟨#[61]⟩
def S30 : Str := ⟨#[119, 114, 105, 116, 101]⟩
def S31 : Str := ⟨#[114, 101, 97, 100]⟩
def S32 : Str := ⟨#[119, 110, 111, 116]⟩
def S33 : Str := ⟨#[119, 108, 116]⟩
def S34 : Str := ⟨#[119, 97, 100, 100]⟩
def S35 : Str := ⟨#[119, 120, 111, 114]⟩
def S36 : Str := ⟨#[119, 111, 114]⟩
def S37 : Str := ⟨#[119, 97, 110, 100]⟩
def S38 : Str := ⟨#[104, 105, 103, 104]⟩
def S39 : Str := ⟨#[108, 111, 119]⟩
def S40 : Str := ⟨#[]⟩
def S41 : Str := ⟨#[115, 97, 109, 101]⟩
def S42 : Str := ⟨#[101, 113]⟩
def S43 : Str := ⟨#[108, 101]⟩
def S44 : Str := ⟨#[108, 101, 118, 101, 108]⟩
def S45 : Str := ⟨#[116, 97, 98, 108, 101]⟩
def S46 : Str := ⟨#[108, 105, 116, 101, 114, 97, 108]⟩
def S47 : Str := ⟨#[103, 111, 97, 108]⟩
def S48 : Str := ⟨#[103, 97, 116, 101]⟩
def S49 : Str := ⟨#[97, 115, 115, 101, 114, 116]⟩
def S50 : Str := ⟨#[114, 117, 112]⟩
def S51 : Str := ⟨#[108, 105, 110, 101, 97, 114]⟩
def S52 : Str := ⟨#[119, 104, 111, 108, 101]⟩
def S53 : Str := ⟨#[101, 113, 117, 97, 108]⟩
def S54 : Str := ⟨#[98, 101, 108, 111, 119]⟩
def S55 : Str := ⟨#[101, 114, 114, 111, 114, 32]⟩
def S56 : Str := ⟨#[101, 114, 114, 111, 114, 32, 117, 110, 107, 110, 111, 119, 110]⟩
def S57 : Str := ⟨#[122, 122]⟩
def S58 : Str := ⟨#[102, 111, 111]⟩
def S59 : Str := ⟨#[101, 114, 114, 111, 114, 32, 110, 117, 109, 98, 101, 114]⟩
def S60 : Str := ⟨#[119]⟩
def S61 : Str := ⟨#[112]⟩
def S62 : Str := ⟨#[110]⟩
def S63 : Str := ⟨#[101, 114, 114, 111, 114]⟩
def S64 : Str := ⟨#[101, 114, 114, 111, 114, 32, 102, 111, 114, 109]⟩
def S65 : Str := ⟨#[101, 114, 114, 111, 114, 32, 115, 111, 114, 116]⟩
def S66 : Str := ⟨#[107]⟩
def dFORMS : D := .tup [.str ⟨#[116, 114, 117, 101]⟩, .str ⟨#[102, 97, 108, 115, 101]⟩, .str ⟨#[110, 111, 116]⟩, .str ⟨#[97, 110, 100]⟩, .str ⟨#[111, 114]⟩, .str ⟨#[61, 62]⟩, .str ⟨#[61]⟩, .str ⟨#[105, 116, 101]⟩, .str ⟨#[60, 61]⟩, .str ⟨#[60]⟩, .str ⟨#[43]⟩, .str ⟨#[45]⟩, .str ⟨#[42]⟩, .str ⟨#[119, 111, 114, 100]⟩, .str ⟨#[119, 97, 110, 100]⟩, .str ⟨#[119, 111, 114]⟩, .str ⟨#[119, 120, 111, 114]⟩, .str ⟨#[119, 110, 111, 116]⟩, .str ⟨#[119, 97, 100, 100]⟩, .str ⟨#[119, 108, 116]⟩, .str ⟨#[98, 105, 116]⟩, .str ⟨#[114, 101, 97, 100]⟩, .str ⟨#[119, 114, 105, 116, 101]⟩, .str ⟨#[97, 108, 108]⟩, .str ⟨#[115, 111, 109, 101]⟩, .str ⟨#[110, 101, 120, 116]⟩, .str ⟨#[98, 111, 111, 108]⟩, .str ⟨#[105, 110, 116]⟩, .str ⟨#[101, 108, 101, 109]⟩, .str ⟨#[102, 117, 110]⟩, .str ⟨#[115, 111, 114, 116]⟩, .str ⟨#[97, 114, 114, 97, 121]⟩]
def isc0 (c : Nat) : Option Bool := if c = 0 then some true else if c = 1 then some false else none
def isc1 (c : Nat) : Option Bool := if c = 1 then some true else if c = 0 then some false else none
abbrev s_shown : Stmt := topS 5
abbrev s_is_integer : Stmt := topS 19
abbrev s_is_name : Stmt := topS 20
abbrev s_need_t : Stmt := topS 21
abbrev s_sort_of : Stmt := topS 23
abbrev s_sort_of_range : Stmt := topS 24
abbrev s_sort_of_word : Stmt := topS 26
abbrev s_sort_of_constant : Stmt := topS 27
abbrev s_sort_of_form : Stmt := topS 28
abbrev s_row_of : Stmt := topS 32
abbrev s_is_farkas : Stmt := topS 33
abbrev s_need_p : Stmt := topS 41
abbrev s_is_gate : Stmt := topS 44
abbrev s_is_sum : Stmt := topS 45
abbrev s_check_proof : Stmt := topS 47
abbrev s_holds : Stmt := topS 48
abbrev s_l_begin : Stmt := topS 50
abbrev s_l_take : Stmt := topS 51
abbrev s_l_pick : Stmt := topS 52
abbrev s_l_code : Stmt := topS 53
abbrev s_l_int : Stmt := topS 54
abbrev s_l_part : Stmt := topS 55
abbrev s_l_terms : Stmt := topS 56
abbrev s_l_taken : Stmt := topS 57
abbrev s_l_factors : Stmt := topS 58
abbrev s_law : Stmt := topS 59
abbrev s_ginit : Stmt := clsM (topS 36) 0
theorem sc_shown : FnScope ["thing", "part"] ["thing"] (defScope s_shown) := ⟨rfl, rfl, rfl, by decide +kernel, rfl, by decide +kernel, by decide +kernel⟩
theorem sc_is_integer : FnScope ["value"] ["value"] (defScope s_is_integer) := ⟨rfl, rfl, rfl, by decide +kernel, rfl, by decide +kernel, by decide +kernel⟩
theorem sc_is_name : FnScope ["value", "sign"] ["value"] (defScope s_is_name) := ⟨rfl, rfl, rfl, by decide +kernel, rfl, by decide +kernel, by decide +kernel⟩
theorem sc_need_t : FnScope ["is_so", "code"] ["is_so", "code"] (defScope s_need_t) := ⟨rfl, rfl, rfl, by decide +kernel, rfl, by decide +kernel, by decide +kernel⟩
theorem sc_sort_of : FnScope ["names", "term", "depth", "sorts", "sort", "kind", "part"] ["names", "term", "depth"] (defScope s_sort_of) := ⟨rfl, rfl, rfl, by decide +kernel, rfl, by decide +kernel, by decide +kernel⟩
theorem sc_sort_of_range : FnScope ["names", "term", "depth"] ["names", "term", "depth"] (defScope s_sort_of_range) := ⟨rfl, rfl, rfl, by decide +kernel, rfl, by decide +kernel, by decide +kernel⟩
theorem sc_sort_of_word : FnScope ["names", "term", "kind"] ["names", "term"] (defScope s_sort_of_word) := ⟨rfl, rfl, rfl, by decide +kernel, rfl, by decide +kernel, by decide +kernel⟩
theorem sc_sort_of_constant : FnScope ["term"] ["term"] (defScope s_sort_of_constant) := ⟨rfl, rfl, rfl, by decide +kernel, rfl, by decide +kernel, by decide +kernel⟩
theorem sc_sort_of_form : FnScope ["head", "sorts", "sort"] ["head", "sorts"] (defScope s_sort_of_form) := ⟨rfl, rfl, rfl, by decide +kernel, rfl, by decide +kernel, by decide +kernel⟩
theorem sc_row_of : FnScope ["gate", "is_true", "name", "factor"] ["gate", "is_true"] (defScope s_row_of) := ⟨rfl, rfl, rfl, by decide +kernel, rfl, by decide +kernel, by decide +kernel⟩
theorem sc_is_farkas : FnScope ["names", "gates", "factors", "total", "sums", "literal", "size", "sign", "name", "factor", "parts", "number"] ["names", "gates", "factors"] (defScope s_is_farkas) := ⟨rfl, rfl, rfl, by decide +kernel, rfl, by decide +kernel, by decide +kernel⟩
theorem sc_need_p : FnScope ["is_so", "code", "step"] ["is_so", "code", "step"] (defScope s_need_p) := ⟨rfl, rfl, rfl, by decide +kernel, rfl, by decide +kernel, by decide +kernel⟩
theorem sc_is_gate : FnScope ["names", "at", "gate", "kind", "head", "rest", "parts", "part"] ["names", "at", "gate"] (defScope s_is_gate) := ⟨rfl, rfl, rfl, by decide +kernel, rfl, by decide +kernel, by decide +kernel⟩
theorem sc_is_sum : FnScope ["names", "rest", "part", "parts", "bound", "one", "other"] ["names", "rest"] (defScope s_is_sum) := ⟨rfl, rfl, rfl, by decide +kernel, rfl, by decide +kernel, by decide +kernel⟩
theorem sc_check_proof : FnScope ["names", "asserted", "table", "steps", "goal", "gates", "clauses", "at", "clause", "why", "gate", "each"] ["names", "asserted", "table", "steps", "goal"] (defScope s_check_proof) := ⟨rfl, rfl, rfl, by decide +kernel, rfl, by decide +kernel, by decide +kernel⟩
theorem sc_holds : FnScope ["names", "asserted", "gates", "clauses", "clause", "why", "number", "told", "size", "literal", "used", "rows", "goals", "selector", "formula", "each", "row", "one", "other", "factor"] ["names", "asserted", "gates", "clauses", "clause", "why"] (defScope s_holds) := ⟨rfl, rfl, rfl, by decide +kernel, rfl, by decide +kernel, by decide +kernel⟩
theorem sc_l_begin : FnScope ["script", "seed", "cell"] ["script"] (defScope s_l_begin) := ⟨rfl, rfl, rfl, by decide +kernel, rfl, by decide +kernel, by decide +kernel⟩
theorem sc_l_take : FnScope ["d", "many", "digit", "small"] ["d", "many"] (defScope s_l_take) := ⟨rfl, rfl, rfl, by decide +kernel, rfl, by decide +kernel, by decide +kernel⟩
theorem sc_l_pick : FnScope ["d", "menu"] ["d", "menu"] (defScope s_l_pick) := ⟨rfl, rfl, rfl, by decide +kernel, rfl, by decide +kernel, by decide +kernel⟩
theorem sc_l_code : FnScope ["names", "term", "e"] ["names", "term"] (defScope s_l_code) := ⟨rfl, rfl, rfl, by decide +kernel, rfl, by decide +kernel, by decide +kernel⟩
theorem sc_l_int : FnScope ["x"] ["x"] (defScope s_l_int) := ⟨rfl, rfl, rfl, by decide +kernel, rfl, by decide +kernel, by decide +kernel⟩
theorem sc_l_part : FnScope ["d"] ["d"] (defScope s_l_part) := ⟨rfl, rfl, rfl, by decide +kernel, rfl, by decide +kernel, by decide +kernel⟩
theorem sc_l_terms : FnScope ["d", "names", "k", "is_wrong", "due", "is_range", "head", "width", "value", "size", "late", "part", "sort", "other", "second", "low", "high", "x"] ["d"] (defScope s_l_terms) := ⟨rfl, rfl, rfl, by decide +kernel, rfl, by decide +kernel, by decide +kernel⟩
theorem sc_l_taken : FnScope ["names", "table", "clause", "factors", "e"] ["names", "table", "clause", "factors"] (defScope s_l_taken) := ⟨rfl, rfl, rfl, by decide +kernel, rfl, by decide +kernel, by decide +kernel⟩
theorem sc_l_factors : FnScope ["d", "names", "table", "size", "bent", "row"] ["d"] (defScope s_l_factors) := ⟨rfl, rfl, rfl, by decide +kernel, rfl, by decide +kernel, by decide +kernel⟩
theorem sc_law : FnScope ["script", "d", "k"] ["script"] (defScope s_law) := ⟨rfl, rfl, rfl, by decide +kernel, rfl, by decide +kernel, by decide +kernel⟩
theorem sc_ginit : FnScope ["self"] ["self"] (defScope s_ginit) := ⟨rfl, rfl, rfl, by decide +kernel, rfl, by decide +kernel, by decide +kernel⟩
def psn : Nat → List Str
  | 0 => ["thing"]
  | 1 => ["value"]
  | 2 => ["value"]
  | 3 => ["is_so", "code"]
  | 4 => ["names", "term", "depth"]
  | 5 => ["names", "term", "depth"]
  | 6 => ["names", "term"]
  | 7 => ["term"]
  | 8 => ["head", "sorts"]
  | 9 => ["gate", "is_true"]
  | 10 => ["names", "gates", "factors"]
  | 11 => ["is_so", "code", "step"]
  | 12 => ["names", "at", "gate"]
  | 13 => ["names", "rest"]
  | 14 => ["names", "asserted", "table", "steps", "goal"]
  | 15 => ["names", "asserted", "gates", "clauses", "clause", "why"]
  | 16 => ["script"]
  | 17 => ["d", "many"]
  | 18 => ["d", "menu"]
  | 19 => ["names", "term"]
  | 20 => ["x"]
  | 21 => ["d"]
  | 22 => ["d"]
  | 23 => ["names", "table", "clause", "factors"]
  | 24 => ["d"]
  | 25 => ["script"]
  | _ => []
def ar : Nat → Nat
  | 0 => 1
  | 1 => 1
  | 2 => 1
  | 3 => 2
  | 4 => 3
  | 5 => 3
  | 6 => 2
  | 7 => 1
  | 8 => 2
  | 9 => 2
  | 10 => 3
  | 11 => 3
  | 12 => 3
  | 13 => 2
  | 14 => 5
  | 15 => 6
  | 16 => 1
  | 17 => 2
  | 18 => 2
  | 19 => 2
  | 20 => 1
  | 21 => 1
  | 22 => 1
  | 23 => 4
  | 24 => 1
  | 25 => 1
  | _ => 0
structure Txt (w : World) (K : PySem.W.Frag) (mg : Str → Option Value) (ca ad : Nat → Addr) (fd : Nat → FuncData) : Prop where
  f_shown : FT1 K "shown" "shown" s_shown (ad 0) (fd 0)
  g_shown : mg "shown" = some (.ref (ad 0))
  b_shown : Binds K (fd 0) (psn 0) []
  f_is_integer : FT1 K "is_integer" "is_integer" s_is_integer (ad 1) (fd 1)
  g_is_integer : mg "is_integer" = some (.ref (ad 1))
  b_is_integer : Binds K (fd 1) (psn 1) []
  f_is_name : FT1 K "is_name" "is_name" s_is_name (ad 2) (fd 2)
  g_is_name : mg "is_name" = some (.ref (ad 2))
  b_is_name : Binds K (fd 2) (psn 2) []
  f_need_t : FT1 K "need" "need" s_need_t (ad 3) (fd 3)
  g_need_t : mg "need_terms" = some (.ref (ad 3))
  b_need_t : Binds K (fd 3) (psn 3) []
  f_sort_of : FT1 K "sort_of" "sort_of" s_sort_of (ad 4) (fd 4)
  g_sort_of : mg "sort_of" = some (.ref (ad 4))
  b_sort_of : Binds K (fd 4) (psn 4) []
  f_sort_of_range : FT1 K "sort_of_range" "sort_of_range" s_sort_of_range (ad 5) (fd 5)
  g_sort_of_range : mg "sort_of_range" = some (.ref (ad 5))
  b_sort_of_range : Binds K (fd 5) (psn 5) []
  f_sort_of_word : FT1 K "sort_of_word" "sort_of_word" s_sort_of_word (ad 6) (fd 6)
  g_sort_of_word : mg "sort_of_word" = some (.ref (ad 6))
  b_sort_of_word : Binds K (fd 6) (psn 6) []
  f_sort_of_constant : FT1 K "sort_of_constant" "sort_of_constant" s_sort_of_constant (ad 7) (fd 7)
  g_sort_of_constant : mg "sort_of_constant" = some (.ref (ad 7))
  b_sort_of_constant : Binds K (fd 7) (psn 7) []
  f_sort_of_form : FT1 K "sort_of_form" "sort_of_form" s_sort_of_form (ad 8) (fd 8)
  g_sort_of_form : mg "sort_of_form" = some (.ref (ad 8))
  b_sort_of_form : Binds K (fd 8) (psn 8) []
  f_row_of : FT1 K "row_of" "row_of" s_row_of (ad 9) (fd 9)
  g_row_of : mg "row_of" = some (.ref (ad 9))
  b_row_of : Binds K (fd 9) (psn 9) []
  f_is_farkas : FT1 K "is_farkas" "is_farkas" s_is_farkas (ad 10) (fd 10)
  g_is_farkas : mg "is_farkas" = some (.ref (ad 10))
  b_is_farkas : Binds K (fd 10) (psn 10) []
  f_need_p : FT1 K "need" "need" s_need_p (ad 11) (fd 11)
  g_need_p : mg "need_proofs" = some (.ref (ad 11))
  b_need_p : Binds K (fd 11) (psn 11) []
  f_is_gate : FT1 K "is_gate" "is_gate" s_is_gate (ad 12) (fd 12)
  g_is_gate : mg "is_gate" = some (.ref (ad 12))
  b_is_gate : Binds K (fd 12) (psn 12) []
  f_is_sum : FT1 K "is_sum" "is_sum" s_is_sum (ad 13) (fd 13)
  g_is_sum : mg "is_sum" = some (.ref (ad 13))
  b_is_sum : Binds K (fd 13) (psn 13) []
  f_check_proof : FT1 K "check_proof" "check_proof" s_check_proof (ad 14) (fd 14)
  g_check_proof : mg "check_proof" = some (.ref (ad 14))
  b_check_proof : Binds K (fd 14) (psn 14) []
  f_holds : FT1 K "holds" "holds" s_holds (ad 15) (fd 15)
  g_holds : mg "holds" = some (.ref (ad 15))
  b_holds : Binds K (fd 15) (psn 15) []
  f_l_begin : FT1 K "_law_begin" "_law_begin" s_l_begin (ad 16) (fd 16)
  g_l_begin : mg "_law_begin" = some (.ref (ad 16))
  b_l_begin : Binds K (fd 16) (psn 16) []
  f_l_take : FT1 K "_law_take" "_law_take" s_l_take (ad 17) (fd 17)
  g_l_take : mg "_law_take" = some (.ref (ad 17))
  b_l_take : Binds K (fd 17) (psn 17) []
  f_l_pick : FT1 K "_law_pick" "_law_pick" s_l_pick (ad 18) (fd 18)
  g_l_pick : mg "_law_pick" = some (.ref (ad 18))
  b_l_pick : Binds K (fd 18) (psn 18) []
  f_l_code : FT1 K "_law_code" "_law_code" s_l_code (ad 19) (fd 19)
  g_l_code : mg "_law_code" = some (.ref (ad 19))
  b_l_code : Binds K (fd 19) (psn 19) []
  f_l_int : FT1 K "_law_int" "_law_int" s_l_int (ad 20) (fd 20)
  g_l_int : mg "_law_int" = some (.ref (ad 20))
  b_l_int : Binds K (fd 20) (psn 20) []
  f_l_part : FT1 K "_law_part" "_law_part" s_l_part (ad 21) (fd 21)
  g_l_part : mg "_law_part" = some (.ref (ad 21))
  b_l_part : Binds K (fd 21) (psn 21) []
  f_l_terms : FT1 K "_law_terms_right" "_law_terms_right" s_l_terms (ad 22) (fd 22)
  g_l_terms : mg "_law_terms_right" = some (.ref (ad 22))
  b_l_terms : Binds K (fd 22) (psn 22) []
  f_l_taken : FT1 K "_law_taken" "_law_taken" s_l_taken (ad 23) (fd 23)
  g_l_taken : mg "_law_taken" = some (.ref (ad 23))
  b_l_taken : Binds K (fd 23) (psn 23) []
  f_l_factors : FT1 K "_law_factors_right" "_law_factors_right" s_l_factors (ad 24) (fd 24)
  g_l_factors : mg "_law_factors_right" = some (.ref (ad 24))
  b_l_factors : Binds K (fd 24) (psn 24) []
  f_law : FT1 K "law" "law" s_law (ad 25) (fd 25)
  g_law : mg "law" = some (.ref (ad 25))
  b_law : Binds K (fd 25) (psn 25) []
  bd_sort_of : ∃ ds, Vals [V.int 0] ds ∧ Binds K (fd 4) (psn 4) ds
  f_ginit : FT1 K "__init__" "Gates.__init__" s_ginit (ad 99) (fd 99)
  bI : Binds K (fd 99) ["self"] []
  c_MOST_WIDTH : ∃ t, mg "MOST_WIDTH" = some (.int 6 t)
  c_MOST_NUMBER : ∃ t, mg "MOST_NUMBER" = some (.int 1000000 t)
  c_MOST_NESTED : ∃ t, mg "MOST_NESTED" = some (.int 200 t)
  c_LETTERS : ∃ t, mg "LETTERS" = some (.str sLETTERS t)
  c_FORMS : mg "FORMS" = some (.ref (ad 98))
  i_FORMS : ∀ s : SM, Is K s dFORMS (.ref (ad 98))
  z_len : mg "len" = none
  z_abs : mg "abs" = none
  z_int : mg "int" = none
  z_str : mg "str" = none
  z_list : mg "list" = none
  z_tuple : mg "tuple" = none
  z_all : mg "all" = none
  z_any : mg "any" = none
  z_isinstance : mg "isinstance" = none
  z_enumerate : mg "enumerate" = none
  z_zip : mg "zip" = none
  z_range : mg "range" = none
  z_bool : mg "bool" = none
  gE0 : mg "TermError" = some (.ref (ca 0))
  gE1 : mg "ProofError" = some (.ref (ca 1))
  gE2 : mg "Gates" = some (.ref (ca 2))
  kE0 : PySem.W.keepIn K (.ref (ca 0)) = true
  exE0 : PySem.W.subIn K (.ref (ca 0)) (.type "BaseException") = some true
  tyE0 : PySem.W.typeIn K (.ref (ca 0)) = some (.type "type")
  mkE0 : Makes PG w K mg (ca 0) ["code"]
  xf0 : XfC K (ca 0)
  noc0 : PySem.W.findIn K (.ref (ca 0)) "code" = some none
  kE1 : PySem.W.keepIn K (.ref (ca 1)) = true
  exE1 : PySem.W.subIn K (.ref (ca 1)) (.type "BaseException") = some true
  tyE1 : PySem.W.typeIn K (.ref (ca 1)) = some (.type "type")
  mkE1 : Makes PG w K mg (ca 1) ["code", "step"]
  xf1 : XfC K (ca 1)
  noc1 : PySem.W.findIn K (.ref (ca 1)) "code" = some none
  e00 : PySem.W.exmOne K (.ref (ca 0)) (.ref (ca 0)) = some true
  e10 : PySem.W.exmOne K (.ref (ca 1)) (.ref (ca 0)) = some false
  e01 : PySem.W.exmOne K (.ref (ca 0)) (.ref (ca 1)) = some false
  e11 : PySem.W.exmOne K (.ref (ca 1)) (.ref (ca 1)) = some true
  cl2 : Cls K (ca 2)
  na_table : NoAttr K (ca 2) "table"
  na_numbers : NoAttr K (ca 2) "numbers"
  mk2 : Mk K (ca 2) (ad 99)
section
variable {w : World} {K : PySem.W.Frag} {mg : Str → Option Value} {base : Heap} {ca ad : Nat → Addr} {fd : Nat → FuncData}
theorem isc0_ok (T : Txt w K mg ca ad fd) : ∀ c b, isc0 c = some b → PySem.W.exmOne K (.ref (ca c)) (.ref (ca 0)) = some b := fun c b h => by
  unfold isc0 at h
  split at h
  · rename_i e; subst e; rw [← h]; exact T.e00
  · split at h
    · rename_i e; subst e; rw [← h]; exact T.e10
    · cases h
theorem isc1_ok (T : Txt w K mg ca ad fd) : ∀ c b, isc1 c = some b → PySem.W.exmOne K (.ref (ca c)) (.ref (ca 1)) = some b := fun c b h => by
  unfold isc1 at h
  split at h
  · rename_i e; subst e; rw [← h]; exact T.e11
  · split at h
    · rename_i e; subst e; rw [← h]; exact T.e01
    · cases h
theorem isc0_at (T : Txt w K mg ca ad fd) : ∀ c, isc0 c = some true → ca c = ca 0 := fun c h => by
  unfold isc0 at h
  split at h
  · rename_i e; rw [e]
  · split at h <;> cases h
theorem isc1_at (T : Txt w K mg ca ad fd) : ∀ c, isc1 c = some true → ca c = ca 1 := fun c h => by
  unfold isc1 at h
  split at h
  · rename_i e; rw [e]
  · split at h <;> cases h
def F_ginit : SMr := (mSeq (mFP (mVar 0) 2 "table" (mLst mNil)) (mFP (mVar 0) 2 "numbers" mDic0))
def I_ginit (ds : List D) (M : Mem) : Res D := (F_ginit (startL 1 ds) M).fn
theorem init_ok (T : Txt w K mg ca ad fd) : FnOk PG w K mg base (L2.CX PG w) 1 (ad 99) (fd 99) ["self"] (spF K ca 1 I_ginit) := by
  obtain ⟨⟨oc, od, dV, kV, doc, pm, an, cdv, ct, osl, e, lk, hcd⟩, _⟩ := T.f_ginit
  rw [e] at lk ⊢
  refine fn_xs (k := 0) lk hcd sc_ginit rfl (fun _ _ => rfl) (fun A outer s H E hr => ?_)
  have hu := hr.units
  unfold F_ginit
  exact (xss_cons (xs_fput T.cl2 T.na_table (xe_var 0) (xe_lst xa_nil)) (xss_one (xs_fput T.cl2 T.na_numbers (xe_var 0) xe_dic0)))
def F_shown (C : Nat → List D → Mem → Res D) : SMr := (mSeq (mIf (mT (mB1 (mVar 0) (isiK "tuple")) truK) (mRet (mB2 (mB2 (mC (.str S0)) (mJoin (mC (.str S1)) (mLc (mISeq (mVar 0)) (gN 1) mYes (mCall (mCons (mVar 1) mNil) 1 (C 0) []) [1])) addK) (mC (.str S2)) addK)) mNop) (mRet (mA1 (mCons (mVar 0) mNil) strK)))
def F_is_integer (C : Nat → List D → Mem → Res D) : SMr := (mRet (mAndV (mB1 (mVar 0) (isiK "int")) (mB1 (mB1 (mVar 0) (isiK "bool")) notK)))
def F_is_name (C : Nat → List D → Mem → Res D) : SMr := (mSeq (mIf (mOrB (mNotB (mT (mB1 (mVar 0) (isiK "str")) truK)) (mOrB (mNotB (mT (mChain (mC (.int 1)) (mA1 (mCons (mVar 0) mNil) lenK) (mC (.int 20)) (bK fun i j => decide (i ≤ j)) (bK fun i j => decide (i ≤ j))) blK)) (mOrB (mT (mB2 (mVar 0) (mC dFORMS) (inK false)) blK) (mT (mB2 (mB2 (mVar 0) (mC (.int 0)) ixK) (mC (.str sLETTERS)) (inSK true)) blK)))) (mRet (mC (.bl false))) mNop) (mRet (mA1 (mCons (mLc (mIStr (mVar 0)) (gN 1) mYes (mOrV (mB2 (mVar 1) (mC (.str sLETTERS)) (inSK false)) (mB2 (mVar 1) (mC (.str S3)) (inSK false))) [1]) mNil) allK)))
def F_need_t (C : Nat → List D → Mem → Res D) : SMr := (mIf (mNotB (mT (mVar 0) truK)) (mRz (mCons (mVar 1) mNil) 0 ["code"]) mNop)
def F_sort_of (C : Nat → List D → Mem → Res D) : SMr := (mSeq (mDo (mCall (mCons (mB2 (mVar 2) (mC (.int 200)) (bK fun i j => decide (i ≤ j))) (mCons (mC (.str S4)) mNil)) 2 (C 3) [])) (mSeq (mIf (mT (mCall (mCons (mVar 1) mNil) 1 (C 1) []) truK) (mSeq (mDo (mCall (mCons (mB2 (mA1 (mCons (mVar 1) mNil) absK) (mC (.int 1000000)) (bK fun i j => decide (i ≤ j))) (mCons (mC (.str S5)) mNil)) 2 (C 3) [])) (mRet (mC (.str S6)))) mNop) (mSeq (mIf (mT (mB1 (mVar 1) (isiK "str")) truK) (mRet (mCall (mCons (mVar 0) (mCons (mVar 1) mNil)) 2 (C 6) [])) mNop) (mSeq (mDo (mCall (mCons (mAndV (mB1 (mVar 1) (isiK "tuple")) (mAndV (mB2 (mA1 (mCons (mVar 1) mNil) lenK) (mC (.int 0)) (bK fun i j => decide (j < i))) (mB1 (mB2 (mVar 1) (mC (.int 0)) ixK) (isiK "str")))) (mCons (mC (.str S4)) mNil)) 2 (C 3) [])) (mSeq (mIf (mT (mB2 (mB2 (mVar 1) (mC (.int 0)) ixK) (mC (.str S7)) (eqK false)) blK) (mRet (mCall (mCons (mVar 1) mNil) 1 (C 7) [])) mNop) (mSeq (mIf (mT (mB2 (mB2 (mVar 1) (mC (.int 0)) ixK) (mC (.str S8)) (eqK false)) blK) (mSeq (mDo (mCall (mCons (mAndV (mB2 (mA1 (mCons (mVar 1) mNil) lenK) (mC (.int 3)) (eqK false)) (mCall (mCons (mB2 (mVar 1) (mC (.int 1)) ixK) mNil) 1 (C 1) [])) (mCons (mC (.str S4)) mNil)) 2 (C 3) [])) (mSeq (mSet 4 (mCall (mCons (mVar 0) (mCons (mB2 (mVar 1) (mC (.int 2)) ixK) (mCons (mB2 (mVar 2) (mC (.int 1)) addK) mNil))) 3 (C 4) [])) (mSeq (mDo (mCall (mCons (mAndV (mB1 (mVar 4) (isiK "tuple")) (mAndV (mB2 (mB2 (mVar 4) (mC (.int 0)) ixK) (mC (.str S7)) (eqK false)) (mChain (mC (.int 0)) (mB2 (mVar 1) (mC (.int 1)) ixK) (mB2 (mVar 4) (mC (.int 1)) ixK) (bK fun i j => decide (i ≤ j)) (bK fun i j => decide (i < j))))) (mCons (mC (.str S9)) mNil)) 2 (C 3) [])) (mRet (mC (.str S10)))))) mNop) (mSeq (mIf (mT (mB2 (mB2 (mVar 1) (mC (.int 0)) ixK) (mC (.str S11)) (eqK false)) blK) (mSeq (mDo (mCall (mCons (mAndV (mB2 (mA1 (mCons (mVar 1) mNil) lenK) (mC (.int 3)) (eqK false)) (mAndV (mCall (mCons (mB2 (mVar 1) (mC (.int 1)) ixK) mNil) 1 (C 1) []) (mB2 (mA1 (mCons (mB2 (mVar 1) (mC (.int 1)) ixK) mNil) absK) (mC (.int 1000)) (bK fun i j => decide (i ≤ j))))) (mCons (mC (.str S4)) mNil)) 2 (C 3) [])) (mSeq (mDo (mCall (mCons (mB2 (mCall (mCons (mVar 0) (mCons (mB2 (mVar 1) (mC (.int 2)) ixK) (mCons (mB2 (mVar 2) (mC (.int 1)) addK) mNil))) 3 (C 4) []) (mC (.str S6)) (eqK false)) (mCons (mC (.str S9)) mNil)) 2 (C 3) [])) (mRet (mC (.str S6))))) mNop) (mSeq (mIf (mT (mB2 (mB2 (mVar 1) (mC (.int 0)) ixK) (mTup (mCons (mC (.str S13)) (mCons (mC (.str S12)) mNil))) (inK false)) blK) (mRet (mCall (mCons (mVar 0) (mCons (mVar 1) (mCons (mVar 2) mNil))) 3 (C 5) [])) mNop) (mSeq (mSet 3 (mLc (mISeq (mSl (mVar 1) (mP (mC (.int 1))) mNoP)) (gN 6) mYes (mCall (mCons (mVar 0) (mCons (mVar 6) (mCons (mB2 (mVar 2) (mC (.int 1)) addK) mNil))) 3 (C 4) []) [6])) (mSeq (mIf (mT (mB2 (mB2 (mVar 1) (mC (.int 0)) ixK) (mVar 0) (inDK false)) blK) (mSeq (mSet 5 (mB2 (mVar 0) (mB2 (mVar 1) (mC (.int 0)) ixK) ixDK)) (mSeq (mDo (mCall (mCons (mAndV (mB2 (mB2 (mVar 5) (mC (.int 0)) ixK) (mC (.str S14)) (eqK false)) (mB2 (mA1 (mCons (mVar 3) mNil) lenK) (mA1 (mCons (mB2 (mVar 5) (mC (.int 1)) ixK) mNil) lenK) (eqK false))) (mCons (mC (.str S4)) mNil)) 2 (C 3) [])) (mSeq (mDo (mCall (mCons (mB2 (mA1 (mCons (mVar 3) mNil) tupleK) (mB2 (mVar 5) (mC (.int 1)) ixK) (eqK false)) (mCons (mC (.str S9)) mNil)) 2 (C 3) [])) (mRet (mB2 (mVar 5) (mC (.int 2)) ixK))))) mNop) (mRet (mCall (mCons (mB2 (mVar 1) (mC (.int 0)) ixK) (mCons (mVar 3) mNil)) 2 (C 8) []))))))))))))
def F_sort_of_range (C : Nat → List D → Mem → Res D) : SMr := (mSeq (mDo (mCall (mCons (mAndV (mB2 (mA1 (mCons (mVar 1) mNil) lenK) (mC (.int 5)) (eqK false)) (mAndV (mCall (mCons (mB2 (mVar 1) (mC (.int 1)) ixK) mNil) 1 (C 2) []) (mB2 (mB2 (mVar 1) (mC (.int 1)) ixK) (mVar 0) (inDK true)))) (mCons (mC (.str S4)) mNil)) 2 (C 3) [])) (mSeq (mDo (mCall (mCons (mAndV (mCall (mCons (mB2 (mVar 1) (mC (.int 2)) ixK) mNil) 1 (C 1) []) (mAndV (mCall (mCons (mB2 (mVar 1) (mC (.int 3)) ixK) mNil) 1 (C 1) []) (mChain (mC (.int 0)) (mB2 (mB2 (mVar 1) (mC (.int 3)) ixK) (mB2 (mVar 1) (mC (.int 2)) ixK) (iK (fun _ _ => true) fun i j => i - j)) (mC (.int 15)) (bK fun i j => decide (i ≤ j)) (bK fun i j => decide (i ≤ j))))) (mCons (mC (.str S4)) mNil)) 2 (C 3) [])) (mSeq (mDo (mCall (mCons (mAndV (mB2 (mA1 (mCons (mB2 (mVar 1) (mC (.int 2)) ixK) mNil) absK) (mC (.int 1000)) (bK fun i j => decide (i ≤ j))) (mB2 (mA1 (mCons (mB2 (mVar 1) (mC (.int 3)) ixK) mNil) absK) (mC (.int 1000)) (bK fun i j => decide (i ≤ j)))) (mCons (mC (.str S5)) mNil)) 2 (C 3) [])) (mSeq (mDo (mCall (mCons (mB2 (mCall (mCons (mDStar (mVar 0) (mB2 (mVar 1) (mC (.int 1)) ixK) (mTup (mCons (mC (.str S6)) (mCons (mB2 (mVar 1) (mC (.int 2)) ixK) (mCons (mB2 (mVar 1) (mC (.int 3)) ixK) mNil))))) (mCons (mB2 (mVar 1) (mC (.int 4)) ixK) (mCons (mB2 (mVar 2) (mC (.int 1)) addK) mNil))) 3 (C 4) []) (mC (.str S10)) (eqK false)) (mCons (mC (.str S9)) mNil)) 2 (C 3) [])) (mRet (mC (.str S10)))))))
def F_sort_of_word (C : Nat → List D → Mem → Res D) : SMr := (mSeq (mIf (mT (mB2 (mVar 1) (mTup (mCons (mC (.str S16)) (mCons (mC (.str S15)) mNil))) (inK false)) blK) (mRet (mC (.str S10))) mNop) (mSeq (mDo (mCall (mCons (mB2 (mVar 1) (mVar 0) (inDK false)) (mCons (mC (.str S17)) mNil)) 2 (C 3) [])) (mSeq (mSet 2 (mB2 (mVar 0) (mVar 1) ixDK)) (mSeq (mDo (mCall (mCons (mB2 (mB2 (mVar 2) (mC (.int 0)) ixK) (mTup (mCons (mC (.str S10)) (mCons (mC (.str S6)) (mCons (mC (.str S7)) (mCons (mC (.str S19)) (mCons (mC (.str S18)) mNil)))))) (inK false)) (mCons (mC (.str S4)) mNil)) 2 (C 3) [])) (mSeq (mIf (mT (mB2 (mB2 (mVar 2) (mC (.int 0)) ixK) (mC (.str S7)) (eqK false)) blK) (mRet (mTup (mCons (mC (.str S7)) (mCons (mB2 (mVar 2) (mC (.int 1)) ixK) mNil)))) mNop) (mSeq (mIf (mT (mB2 (mB2 (mVar 2) (mC (.int 0)) ixK) (mC (.str S18)) (eqK false)) blK) (mRet (mTup (mCons (mC (.str S18)) (mCons (mB2 (mVar 2) (mC (.int 1)) ixK) (mCons (mB2 (mVar 2) (mC (.int 2)) ixK) mNil))))) mNop) (mRet (mIfE (mT (mB2 (mB2 (mVar 2) (mC (.int 0)) ixK) (mC (.str S19)) (eqK false)) blK) (mB2 (mVar 2) (mC (.int 1)) ixK) (mB2 (mVar 2) (mC (.int 0)) ixK)))))))))
def F_sort_of_constant (C : Nat → List D → Mem → Res D) : SMr := (mSeq (mDo (mCall (mCons (mAndV (mB2 (mA1 (mCons (mVar 0) mNil) lenK) (mC (.int 3)) (eqK false)) (mAndV (mCall (mCons (mB2 (mVar 0) (mC (.int 1)) ixK) mNil) 1 (C 1) []) (mCall (mCons (mB2 (mVar 0) (mC (.int 2)) ixK) mNil) 1 (C 1) []))) (mCons (mC (.str S4)) mNil)) 2 (C 3) [])) (mSeq (mDo (mCall (mCons (mAndV (mChain (mC (.int 1)) (mB2 (mVar 0) (mC (.int 1)) ixK) (mC (.int 6)) (bK fun i j => decide (i ≤ j)) (bK fun i j => decide (i ≤ j))) (mChain (mC (.int 0)) (mB2 (mVar 0) (mC (.int 2)) ixK) (mB2 (mC (.int 1)) (mB2 (mVar 0) (mC (.int 1)) ixK) (iK mShlOk fun i j => i * 2 ^ j.toNat)) (bK fun i j => decide (i ≤ j)) (bK fun i j => decide (i < j)))) (mCons (mC (.str S5)) mNil)) 2 (C 3) [])) (mRet (mTup (mCons (mC (.str S7)) (mCons (mB2 (mVar 0) (mC (.int 1)) ixK) mNil))))))
def F_sort_of_form (C : Nat → List D → Mem → Res D) : SMr := (mSeq (mIf (mT (mB2 (mVar 0) (mTup (mCons (mC (.str S24)) (mCons (mC (.str S23)) (mCons (mC (.str S22)) (mCons (mC (.str S21)) (mCons (mC (.str S20)) mNil)))))) (inK false)) blK) (mSeq (mDo (mCall (mCons (mOrV (mB2 (mVar 0) (mTup (mCons (mC (.str S23)) (mCons (mC (.str S22)) mNil))) (inK false)) (mB2 (mA1 (mCons (mVar 1) mNil) lenK) (mB2 (mDisp (mPCons (mC (.str S24)) (mC (.int 1)) (mPCons (mC (.str S21)) (mC (.int 2)) (mPCons (mC (.str S20)) (mC (.int 3)) mPNil)))) (mVar 0) ixDK) (eqK false))) (mCons (mC (.str S4)) mNil)) 2 (C 3) [])) (mSeq (mDo (mCall (mCons (mA1 (mCons (mLc (mISeq (mVar 1)) (gN 2) mYes (mB2 (mVar 2) (mC (.str S10)) (eqK false)) [2]) mNil) allK) (mCons (mC (.str S9)) mNil)) 2 (C 3) [])) (mRet (mC (.str S10))))) mNop) (mSeq (mIf (mT (mB2 (mVar 0) (mTup (mCons (mC (.str S28)) (mCons (mC (.str S27)) (mCons (mC (.str S26)) (mCons (mC (.str S25)) mNil))))) (inK false)) blK) (mSeq (mDo (mCall (mCons (mOrV (mB2 (mA1 (mCons (mVar 1) mNil) lenK) (mC (.int 2)) (eqK false)) (mAndV (mB2 (mVar 0) (mC (.str S26)) (eqK false)) (mB2 (mA1 (mCons (mVar 1) mNil) lenK) (mC (.int 0)) (bK fun i j => decide (j < i))))) (mCons (mC (.str S4)) mNil)) 2 (C 3) [])) (mSeq (mDo (mCall (mCons (mA1 (mCons (mLc (mISeq (mVar 1)) (gN 2) mYes (mB2 (mVar 2) (mC (.str S6)) (eqK false)) [2]) mNil) allK) (mCons (mC (.str S9)) mNil)) 2 (C 3) [])) (mRet (mIfE (mT (mB2 (mVar 0) (mTup (mCons (mC (.str S28)) (mCons (mC (.str S27)) mNil))) (inK false)) blK) (mC (.str S10)) (mC (.str S6)))))) mNop) (mSeq (mIf (mT (mB2 (mVar 0) (mC (.str S29)) (eqK false)) blK) (mSeq (mDo (mCall (mCons (mB2 (mA1 (mCons (mVar 1) mNil) lenK) (mC (.int 2)) (eqK false)) (mCons (mC (.str S4)) mNil)) 2 (C 3) [])) (mSeq (mDo (mCall (mCons (mAndV (mB2 (mB2 (mVar 1) (mC (.int 0)) ixK) (mB2 (mVar 1) (mC (.int 1)) ixK) (eqK false)) (mB1 (mAndV (mB1 (mB2 (mVar 1) (mC (.int 0)) ixK) (isiK "tuple")) (mB2 (mB2 (mB2 (mVar 1) (mC (.int 0)) ixK) (mC (.int 0)) ixK) (mC (.str S18)) (eqK false))) notK)) (mCons (mC (.str S9)) mNil)) 2 (C 3) [])) (mRet (mC (.str S10))))) mNop) (mSeq (mIf (mT (mB2 (mVar 0) (mTup (mCons (mC (.str S31)) (mCons (mC (.str S30)) mNil))) (inK false)) blK) (mSeq (mDo (mCall (mCons (mB2 (mA1 (mCons (mVar 1) mNil) lenK) (mIfE (mT (mB2 (mVar 0) (mC (.str S31)) (eqK false)) blK) (mC (.int 2)) (mC (.int 3))) (eqK false)) (mCons (mC (.str S4)) mNil)) 2 (C 3) [])) (mSeq (mDo (mCall (mCons (mAndV (mB1 (mB2 (mVar 1) (mC (.int 0)) ixK) (isiK "tuple")) (mB2 (mB2 (mB2 (mVar 1) (mC (.int 0)) ixK) (mC (.int 0)) ixK) (mC (.str S18)) (eqK false))) (mCons (mC (.str S9)) mNil)) 2 (C 3) [])) (mSeq (mDo (mCall (mCons (mB2 (mSl (mVar 1) (mP (mC (.int 1))) mNoP) (mA1 (mCons (mSl (mB2 (mVar 1) (mC (.int 0)) ixK) (mP (mC (.int 1))) (mP (mA1 (mCons (mVar 1) mNil) lenK))) mNil) listK) (eqK false)) (mCons (mC (.str S9)) mNil)) 2 (C 3) [])) (mRet (mIfE (mT (mB2 (mVar 0) (mC (.str S31)) (eqK false)) blK) (mB2 (mB2 (mVar 1) (mC (.int 0)) ixK) (mC (.int 2)) ixK) (mB2 (mVar 1) (mC (.int 0)) ixK)))))) mNop) (mSeq (mIf (mT (mB2 (mVar 0) (mTup (mCons (mC (.str S37)) (mCons (mC (.str S36)) (mCons (mC (.str S35)) (mCons (mC (.str S34)) (mCons (mC (.str S33)) (mCons (mC (.str S32)) mNil))))))) (inK false)) blK) (mSeq (mDo (mCall (mCons (mB2 (mA1 (mCons (mVar 1) mNil) lenK) (mIfE (mT (mB2 (mVar 0) (mC (.str S32)) (eqK false)) blK) (mC (.int 1)) (mC (.int 2))) (eqK false)) (mCons (mC (.str S4)) mNil)) 2 (C 3) [])) (mSeq (mDo (mCall (mCons (mA1 (mCons (mLc (mISeq (mVar 1)) (gN 2) mYes (mAndV (mB1 (mVar 2) (isiK "tuple")) (mAndV (mB2 (mB2 (mVar 2) (mC (.int 0)) ixK) (mC (.str S7)) (eqK false)) (mB2 (mVar 2) (mB2 (mVar 1) (mC (.int 0)) ixK) (eqK false)))) [2]) mNil) allK) (mCons (mC (.str S9)) mNil)) 2 (C 3) [])) (mRet (mIfE (mT (mB2 (mVar 0) (mC (.str S33)) (eqK false)) blK) (mC (.str S10)) (mB2 (mVar 1) (mC (.int 0)) ixK))))) mNop) (mRz (mCons (mC (.str S17)) mNil) 0 ["code"]))))))
def F_row_of (C : Nat → List D → Mem → Res D) : SMr := (mSeq (mIf (mT (mVar 1) truK) (mRet (mTup (mCons (mB2 (mVar 0) (mC (.int 1)) ixK) (mCons (mB2 (mVar 0) (mC (.int 2)) ixK) mNil)))) mNop) (mRet (mTup (mCons (mA1 (mCons (mLc (mISeq (mB2 (mVar 0) (mC (.int 1)) ixK)) (gT [(gN 2), (gN 3)]) mYes (mTup (mCons (mVar 2) (mCons (mB1 (mVar 3) negK) mNil))) [2, 3]) mNil) tupleK) (mCons (mB2 (mB1 (mB2 (mVar 0) (mC (.int 2)) ixK) negK) (mC (.int 1)) (iK (fun _ _ => true) fun i j => i - j)) mNil)))))
def F_is_farkas (C : Nat → List D → Mem → Res D) : SMr := (mSeq (mPar 3 4 (mC (.int 0)) mMDic0) (mSeq (mFor (mISeq (mVar 2)) (gT [(gN 5), (gN 6)]) (mSeq (mIf (mOrB (mNotB (mT (mCall (mCons (mVar 6) mNil) 1 (C 1) []) truK)) (mT (mB2 (mVar 6) (mC (.int 0)) (bK fun i j => decide (i ≤ j))) blK)) (mRet (mC (.bl false))) mNop) (mSeq (mIf (mT (mB1 (mVar 5) (isiK "tuple")) truK) (mSeq (mIf (mOrB (mT (mB2 (mB2 (mVar 5) (mC (.int 0)) ixK) (mTup (mCons (mC (.str S39)) (mCons (mC (.str S38)) mNil))) (inK true)) blK) (mT (mB2 (mB2 (mGet2 (mVar 0) (mB2 (mVar 5) (mC (.int 1)) ixK) (mTup (mCons (mC (.str S40)) mNil))) (mC (.int 0)) ixK) (mC (.str S6)) (eqK true)) blK)) (mRet (mC (.bl false))) mNop) (mSeq (mSet 7 (mIfE (mT (mB2 (mB2 (mVar 5) (mC (.int 0)) ixK) (mC (.str S38)) (eqK false)) blK) (mC (.int 1)) (mB1 (mC (.int 1)) negK))) (mPar 10 11 (mTup (mCons (mTup (mCons (mB2 (mVar 5) (mC (.int 1)) ixK) (mCons (mVar 7) mNil))) mNil)) (mIfE (mT (mB2 (mVar 7) (mC (.int 1)) (eqK false)) blK) (mB2 (mB2 (mVar 0) (mB2 (mVar 5) (mC (.int 1)) ixK) ixDK) (mC (.int 2)) ixK) (mB1 (mB2 (mB2 (mVar 0) (mB2 (mVar 5) (mC (.int 1)) ixK) ixDK) (mC (.int 1)) ixK) negK))))) (mIf (mNotB (mT (mCall (mCons (mVar 5) mNil) 1 (C 1) []) truK)) (mRet (mC (.bl false))) (mAsg (gT [(gN 10), (gN 11)]) (mCall (mCons (mB2 (mVar 1) (mB2 (mA1 (mCons (mVar 5) mNil) absK) (mC (.int 1)) (iK (fun _ _ => true) fun i j => i - j)) ixK) (mCons (mB2 (mVar 5) (mC (.int 0)) (bK fun i j => decide (j < i))) mNil)) 2 (C 9) [])))) (mSeq (mAug 3 (mB2 (mVar 6) (mVar 11) (iK mMulOk fun i j => i * j)) (augI fun i j => i + j)) (mFor (mISeq (mVar 10)) (gT [(gN 8), (gN 9)]) (mDPut (mVar 4) (mVar 8) (mB2 (mGet2 (mVar 4) (mVar 8) (mC (.int 0))) (mB2 (mVar 6) (mVar 9) (iK mMulOk fun i j => i * j)) addK))))))) (mRet (mAndV (mB2 (mVar 3) (mC (.int 0)) (bK fun i j => decide (i < j))) (mB1 (mB1 (mVar 4) anyVK) notK)))))
def F_need_p (C : Nat → List D → Mem → Res D) : SMr := (mIf (mNotB (mT (mVar 0) truK)) (mRz (mCons (mVar 1) (mCons (mVar 2) mNil)) 1 ["code", "step"]) mNop)
def F_is_gate (C : Nat → List D → Mem → Res D) : SMr := (mSeq (mIf (mOrB (mNotB (mT (mB1 (mVar 2) (isiK "tuple")) truK)) (mOrB (mNotB (mT (mChain (mC (.int 2)) (mA1 (mCons (mVar 2) mNil) lenK) (mC (.int 3)) (bK fun i j => decide (i ≤ j)) (bK fun i j => decide (i ≤ j))) blK)) (mNotB (mT (mB1 (mB2 (mVar 2) (mC (.int 0)) ixK) (isiK "str")) truK)))) (mRet (mC (.bl false))) mNop) (mSeq (mPar 4 5 (mB2 (mVar 2) (mC (.int 0)) ixK) (mSl (mVar 2) (mP (mC (.int 1))) mNoP)) (mSeq (mIf (mT (mB2 (mVar 4) (mTup (mCons (mC (.str S23)) (mCons (mC (.str S41)) mNil))) (inK false)) blK) (mSeq (mSet 6 (mIfE (mT (mB2 (mVar 4) (mC (.str S23)) (eqK false)) blK) (mB2 (mVar 5) (mC (.int 0)) ixK) (mVar 5))) (mSeq (mIf (mOrB (mT (mB2 (mA1 (mCons (mVar 5) mNil) lenK) (mIfE (mT (mB2 (mVar 4) (mC (.str S23)) (eqK false)) blK) (mC (.int 1)) (mC (.int 2))) (eqK true)) blK) (mNotB (mT (mB1 (mVar 6) (isiK "tuple")) truK))) (mRet (mC (.bl false))) mNop) (mRet (mA1 (mCons (mLc (mISeq (mVar 6)) (gN 7) mYes (mAndV (mCall (mCons (mVar 7) mNil) 1 (C 1) []) (mChain (mC (.int 0)) (mA1 (mCons (mVar 7) mNil) absK) (mVar 1) (bK fun i j => decide (i < j)) (bK fun i j => decide (i ≤ j)))) [7]) mNil) allK)))) mNop) (mSeq (mIf (mT (mB2 (mVar 4) (mTup (mCons (mC (.str S43)) (mCons (mC (.str S42)) mNil))) (inK false)) blK) (mRet (mAndV (mB2 (mA1 (mCons (mVar 5) mNil) lenK) (mC (.int 2)) (eqK false)) (mIfE (mT (mB2 (mVar 4) (mC (.str S43)) (eqK false)) blK) (mCall (mCons (mVar 0) (mCons (mVar 5) mNil)) 2 (C 13) []) mNE))) mNop) (mSeq (mIf (mT (mB2 (mVar 4) (mC (.str S44)) (eqK false)) blK) (mRet (mAndV (mB2 (mA1 (mCons (mVar 5) mNil) lenK) (mC (.int 1)) (eqK false)) (mAndV (mCall (mCons (mB2 (mVar 5) (mC (.int 0)) ixK) mNil) 1 (C 1) []) (mB2 (mB2 (mVar 5) (mC (.int 0)) ixK) (mC (.int 0)) (bK fun i j => decide (j ≤ i)))))) mNop) (mSeq (mSet 3 (mIfE (mT (mB1 (mB2 (mVar 5) (mC (.int 0)) ixK) (isiK "str")) truK) (mGet2 (mVar 0) (mB2 (mVar 5) (mC (.int 0)) ixK) (mTup (mCons (mC (.str S40)) mNil))) (mTup (mCons (mC (.str S40)) mNil)))) (mSeq (mIf (mAndB (mT (mB2 (mVar 4) (mC (.str S8)) (eqK false)) blK) (mAndB (mT (mB2 (mA1 (mCons (mVar 5) mNil) lenK) (mC (.int 2)) (eqK false)) blK) (mT (mB2 (mB2 (mVar 3) (mC (.int 0)) ixK) (mC (.str S7)) (eqK false)) blK))) (mRet (mAndV (mCall (mCons (mB2 (mVar 5) (mC (.int 1)) ixK) mNil) 1 (C 1) []) (mChain (mC (.int 0)) (mB2 (mVar 5) (mC (.int 1)) ixK) (mB2 (mVar 3) (mC (.int 1)) ixK) (bK fun i j => decide (i ≤ j)) (bK fun i j => decide (i < j))))) mNop) (mRet (mAndV (mB2 (mVar 4) (mC (.str S10)) (eqK false)) (mAndV (mB2 (mA1 (mCons (mVar 5) mNil) lenK) (mC (.int 1)) (eqK false)) (mB2 (mB2 (mVar 3) (mC (.int 0)) ixK) (mC (.str S10)) (eqK false))))))))))))
def F_is_sum (C : Nat → List D → Mem → Res D) : SMr := (mSeq (mAsg (gT [(gN 3), (gN 4)]) (mVar 1)) (mSeq (mIf (mOrB (mNotB (mT (mB1 (mVar 3) (isiK "tuple")) truK)) (mOrB (mNotB (mT (mVar 3) truK)) (mNotB (mT (mCall (mCons (mVar 4) mNil) 1 (C 1) []) truK)))) (mRet (mC (.bl false))) mNop) (mSeq (mFor (mISeq (mVar 3)) (gN 2) (mSeq (mIf (mOrB (mNotB (mT (mB1 (mVar 2) (isiK "tuple")) truK)) (mOrB (mT (mB2 (mA1 (mCons (mVar 2) mNil) lenK) (mC (.int 2)) (eqK true)) blK) (mOrB (mNotB (mT (mB1 (mB2 (mVar 2) (mC (.int 0)) ixK) (isiK "str")) truK)) (mNotB (mT (mCall (mCons (mB2 (mVar 2) (mC (.int 1)) ixK) mNil) 1 (C 1) []) truK))))) (mRet (mC (.bl false))) mNop) (mIf (mOrB (mT (mB2 (mB2 (mGet2 (mVar 0) (mB2 (mVar 2) (mC (.int 0)) ixK) (mTup (mCons (mC (.str S40)) mNil))) (mC (.int 0)) ixK) (mC (.str S6)) (eqK true)) blK) (mT (mB2 (mB2 (mVar 2) (mC (.int 1)) ixK) (mC (.int 0)) (eqK false)) blK)) (mRet (mC (.bl false))) mNop))) (mRet (mA1 (mCons (mLc (mIZip (mCons (mVar 3) (mCons (mSl (mVar 3) (mP (mC (.int 1))) mNoP) mNil))) (gT [(gN 5), (gN 6)]) mYes (mB2 (mB2 (mVar 5) (mC (.int 0)) ixK) (mB2 (mVar 6) (mC (.int 0)) ixK) ltsK) [5, 6]) mNil) allK)))))
def F_check_proof (C : Nat → List D → Mem → Res D) : SMr := (mSeq (mDo (mCall (mCons (mA1 (mCons (mLc (mIEnum (mCons (mVar 2) mNil)) (gT [(gN 7), (gN 10)]) mYes (mCall (mCons (mVar 0) (mCons (mVar 7) (mCons (mVar 10) mNil))) 3 (C 12) []) [7, 10]) mNil) allK) (mCons (mC (.str S45)) (mCons (mB1 (mC (.int 1)) negK) mNil))) 3 (C 11) [])) (mSeq (mSet 5 (mMake0 2 I_ginit)) (mSeq (mFP (mVar 5) 2 "table" (mA1 (mCons (mVar 2) mNil) listK)) (mSeq (mFP (mVar 5) 2 "numbers" (mDc (mIEnum (mCons (mVar 2) mNil)) (gT [(gN 7), (gN 10)]) mYes (mCall (mCons (mVar 10) mNil) 1 (C 0) []) (mB2 (mVar 7) (mC (.int 1)) addK) [7, 10])) (mSeq (mDo (mCall (mCons (mB2 (mA1 (mCons (mB1 (mVar 5) (fldK 2 "numbers")) mNil) lenK) (mA1 (mCons (mVar 2) mNil) lenK) (eqK false)) (mCons (mC (.str S45)) (mCons (mB1 (mC (.int 1)) negK) mNil))) 3 (C 11) [])) (mSeq (mSet 6 (mMLst mNil)) (mSeq (mFor (mIEnum (mCons (mVar 3) mNil)) (gT [(gN 7), (gT [(gN 8), (gN 9)])]) (mSeq (mDo (mCall (mCons (mA1 (mCons (mLc (mISeq (mVar 8)) (gN 11) mYes (mAndV (mCall (mCons (mVar 11) mNil) 1 (C 1) []) (mChain (mC (.int 0)) (mA1 (mCons (mVar 11) mNil) absK) (mA1 (mCons (mVar 2) mNil) lenK) (bK fun i j => decide (i < j)) (bK fun i j => decide (i ≤ j)))) [11]) mNil) allK) (mCons (mC (.str S46)) (mCons (mVar 7) mNil))) 3 (C 11) [])) (mSeq (mDo (mCall (mCons (mCall (mCons (mVar 0) (mCons (mVar 1) (mCons (mVar 5) (mCons (mVar 6) (mCons (mVar 8) (mCons (mVar 9) mNil)))))) 6 (C 15) []) (mCons (mB2 (mVar 9) (mC (.int 0)) ixK) (mCons (mVar 7) mNil))) 3 (C 11) [])) (mDo (mApp (mVar 6) (mVar 8)))))) (mSeq (mDo (mCall (mCons (mA1 (mCons (mLc (mISeq (mVar 6)) (gN 8) mYes (mA1 (mCons (mLc (mISeq (mVar 8)) (gN 11) (noX mYes) (noX (mB2 (mVar 11) (mVar 4) (inK false))) [11]) mNil) allK) [8]) mNil) anyK) (mCons (mC (.str S47)) (mCons (mA1 (mCons (mVar 3) mNil) lenK) mNil))) 3 (C 11) [])) (mRet (mC (.bl true)))))))))))
def F_holds (C : Nat → List D → Mem → Res D) : SMr := (mSeq (mIf (mT (mB2 (mB2 (mVar 5) (mC (.int 0)) ixK) (mC (.str S48)) (eqK false)) blK) mNever mNop) (mSeq (mIf (mT (mB2 (mB2 (mVar 5) (mC (.int 0)) ixK) (mC (.str S49)) (eqK false)) blK) mNever mNop) (mSeq (mIf (mT (mB2 (mB2 (mVar 5) (mC (.int 0)) ixK) (mC (.str S50)) (eqK false)) blK) mNever mNop) (mSeq (mIf (mT (mB2 (mB2 (mVar 5) (mC (.int 0)) ixK) (mC (.str S51)) (eqK false)) blK) (mSeq (mSet 10 (mLc (mISeq (mB2 (mVar 5) (mC (.int 1)) ixK)) (gT [(gN 9), (gN 8)]) (mT (mCall (mCons (mVar 9) mNil) 1 (C 1) []) truK) (mVar 9) [9, 8])) (mSeq (mIf (mNotB (mT (mA1 (mCons (mLc (mISeq (mVar 10)) (gN 9) mYes (mB2 (mB1 (mVar 9) negK) (mVar 4) (inK false)) [9]) mNil) allK) truK)) (mRet (mC (.bl false))) mNop) (mSeq (mIf (mNotB (mT (mA1 (mCons (mLc (mISeq (mVar 10)) (gN 9) mYes (mB2 (mB2 (mB2 (mB1 (mVar 2) (fldK 2 "table")) (mB2 (mA1 (mCons (mVar 9) mNil) absK) (mC (.int 1)) (iK (fun _ _ => true) fun i j => i - j)) ixK) (mC (.int 0)) ixK) (mC (.str S43)) (eqK false)) [9]) mNil) allK) truK)) (mRet (mC (.bl false))) mNop) (mRet (mCall (mCons (mVar 0) (mCons (mB1 (mVar 2) (fldK 2 "table")) (mCons (mB2 (mVar 5) (mC (.int 1)) ixK) mNil))) 3 (C 10) []))))) mNop) (mSeq (mIf (mT (mB2 (mB2 (mVar 5) (mC (.int 0)) ixK) (mC (.str S52)) (eqK false)) blK) mNever mNop) (mSeq (mIf (mT (mB2 (mB2 (mVar 5) (mC (.int 0)) ixK) (mC (.str S53)) (eqK false)) blK) mNever mNop) (mSeq (mIf (mT (mB2 (mB2 (mVar 5) (mC (.int 0)) ixK) (mTup (mCons (mC (.str S30)) (mCons (mC (.str S54)) mNil))) (inK false)) blK) mNever mNop) (mRet (mC (.bl false))))))))))
def F_l_begin (C : Nat → List D → Mem → Res D) : SMr := (mSeq (mSet 1 (mC (.int 5))) (mSeq (mFor (mISeq (mVar 0)) (gN 2) (mSet 1 (mB2 (mB2 (mB2 (mB2 (mVar 1) (mC (.int 48271)) (iK mMulOk fun i j => i * j)) (mB2 (mA1 (mCons (mVar 2) mNil) intK) (mC (.int 2147483629)) (iK mModOk fun i j => i % j)) addK) (mC (.int 11)) addK) (mC (.int 2147483647)) (iK mModOk fun i j => i % j)))) (mRet (mMLst (mCons (mA1 (mCons (mVar 0) mNil) listK) (mCons (mC (.int 0)) (mCons (mC (.int 0)) (mCons (mVar 1) mNil))))))))
def F_l_take (C : Nat → List D → Mem → Res D) : SMr := (mSeq (mIf (mAndB (mT (mB2 (mB2 (mVar 0) (mC (.int 2)) ixK) (mC (.int 0)) (eqK false)) blK) (mT (mB2 (mB2 (mVar 0) (mC (.int 1)) ixK) (mA1 (mCons (mB2 (mVar 0) (mC (.int 0)) ixK) mNil) lenK) (bK fun i j => decide (i < j))) blK)) (mSeq (mSub (mVar 0) (mC (.int 2)) (mA1 (mCons (mA1 (mCons (mB2 (mB2 (mVar 0) (mC (.int 0)) ixK) (mB2 (mVar 0) (mC (.int 1)) ixK) ixK) mNil) intK) mNil) absK)) (mSeq (mSub (mVar 0) (mC (.int 1)) (mB2 (mB2 (mVar 0) (mC (.int 1)) ixK) (mC (.int 1)) addK)) (mIf (mT (mB2 (mB2 (mVar 0) (mC (.int 2)) ixK) (mB2 (mC (.int 10)) (mC (.int 18)) (iK mPowOk fun i j => i ^ j.toNat)) (bK fun i j => decide (i < j))) blK) (mSeq (mSet 3 (mA1 (mCons (mB2 (mVar 0) (mC (.int 2)) ixK) mNil) intK)) (mSeq (mSub (mVar 0) (mC (.int 2)) (mC (.int 0))) (mRet (mB2 (mVar 3) (mVar 1) (iK mModOk fun i j => i % j))))) mNop))) mNop) (mSeq (mIf (mT (mB2 (mB2 (mVar 0) (mC (.int 2)) ixK) (mC (.int 0)) (bK fun i j => decide (j < i))) blK) (mSeq (mSet 2 (mB2 (mA1 (mCons (mB2 (mVar 0) (mC (.int 2)) ixK) mNil) intK) (mVar 1) (iK mModOk fun i j => i % j))) (mSeq (mSub (mVar 0) (mC (.int 2)) (mB2 (mA1 (mCons (mB2 (mVar 0) (mC (.int 2)) ixK) mNil) intK) (mVar 1) (iK mDivOk fun i j => i / j))) (mRet (mVar 2)))) mNop) (mSeq (mSub (mVar 0) (mC (.int 3)) (mB2 (mA1 (mCons (mB2 (mB2 (mB2 (mVar 0) (mC (.int 3)) ixK) (mC (.int 69621)) (iK mMulOk fun i j => i * j)) (mC (.int 7)) addK) mNil) intK) (mC (.int 2147483647)) (iK mModOk fun i j => i % j))) (mRet (mB2 (mA1 (mCons (mB2 (mB2 (mVar 0) (mC (.int 3)) ixK) (mC (.int 5)) (iK mDivOk fun i j => i / j)) mNil) intK) (mVar 1) (iK mModOk fun i j => i % j))))))
def F_l_pick (C : Nat → List D → Mem → Res D) : SMr := (mRet (mB2 (mVar 1) (mCall (mCons (mVar 0) (mCons (mA1 (mCons (mVar 1) mNil) lenK) mNil)) 2 (C 17) []) ixK))
def F_l_code (C : Nat → List D → Mem → Res D) : SMr := (mTry 2 (mRet (mCall (mCons (mVar 0) (mCons (mVar 1) mNil)) 3 (C 4) [.int 0])) isc0 (hxA S55 "code"))
def F_l_int (C : Nat → List D → Mem → Res D) : SMr := (mRet (mAndV (mB1 (mVar 0) (isiK "int")) (mB1 (mB1 (mVar 0) (isiK "bool")) notK)))
def F_l_part (C : Nat → List D → Mem → Res D) : SMr := (mRet (mCall (mCons (mVar 0) (mCons (mLst (mCons (mTup (mCons (mC (.str S62)) (mCons (mC (.str S6)) mNil))) (mCons (mTup (mCons (mC (.str S61)) (mCons (mC (.str S10)) mNil))) (mCons (mTup (mCons (mC (.str S60)) (mCons (mTup (mCons (mC (.str S7)) (mCons (mC (.int 3)) mNil))) mNil))) (mCons (mTup (mCons (mC (.int 5)) (mCons (mC (.str S6)) mNil))) (mCons (mTup (mCons (mC (.int 1000001)) (mCons (mC (.str S59)) mNil))) (mCons (mTup (mCons (mTup (mCons (mC (.str S58)) mNil)) (mCons (mC (.str S56)) mNil))) (mCons (mTup (mCons (mC (.str S57)) (mCons (mC (.str S56)) mNil))) mNil)))))))) mNil)) 2 (C 18) []))
def F_l_terms (C : Nat → List D → Mem → Res D) : SMr := (mSeq (mSet 1 (mDisp (mPCons (mC (.str S62)) (mTup (mCons (mC (.str S6)) (mCons (mC (.int 0)) (mCons (mC (.int 9)) mNil)))) (mPCons (mC (.str S61)) (mTup (mCons (mC (.str S10)) mNil)) (mPCons (mC (.str S60)) (mTup (mCons (mC (.str S7)) (mCons (mC (.int 3)) mNil))) mPNil))))) (mSeq (mAsg (gT [(gN 11), (gN 12)]) (mCall (mCons (mVar 0) mNil) 1 (C 21) [])) (mSeq (mAsg (gT [(gN 13), (gN 14)]) (mCall (mCons (mVar 0) mNil) 1 (C 21) [])) (mSeq (mSet 2 (mCall (mCons (mVar 0) (mCons (mLst (mCons (mC (.int 0)) (mCons (mC (.int 3)) (mCons (mC (.int 1000)) (mCons (mC (.int 1001)) (mCons (mB2 (mC (.int 0)) (mC (.int 1000)) (iK (fun _ _ => true) fun i j => i - j)) (mCons (mB2 (mC (.int 0)) (mC (.int 1001)) (iK (fun _ _ => true) fun i j => i - j)) (mCons (mC (.int 5000)) (mCons (mC (.str S62)) (mCons (mC (.str S57)) (mCons (mC (.bl true)) (mCons (mTup (mCons (mC (.str S58)) mNil)) mNil)))))))))))) mNil)) 2 (C 18) [])) (mSeq (mSet 3 (mAndV (mB1 (mVar 12) (isiK "str")) (mB2 (mSlS (mVar 12) mNoP (mP (mC (.int 5)))) (mC (.str S63)) (eqK false)))) (mSeq (mSet 4 (mIfE (mOrB (mNotB (mT (mCall (mCons (mVar 2) mNil) 1 (C 20) []) truK)) (mT (mB2 (mA1 (mCons (mVar 2) mNil) absK) (mC (.int 1000)) (bK fun i j => decide (j < i))) blK)) (mC (.str S64)) (mIfE (mT (mVar 3) truK) (mVar 12) (mIfE (mT (mB2 (mVar 12) (mC (.str S6)) (eqK false)) blK) (mC (.str S6)) (mC (.str S65)))))) (mSeq (mIf (mOrB (mT (mB2 (mCall (mCons (mVar 1) (mCons (mTup (mCons (mC (.str S11)) (mCons (mVar 2) (mCons (mVar 11) mNil)))) mNil)) 2 (C 19) []) (mVar 4) (eqK true)) blK) (mOrB (mT (mB2 (mCall (mCons (mVar 1) (mCons (mTup (mCons (mC (.str S11)) (mCons (mVar 2) (mCons (mVar 11) (mCons (mC (.int 1)) mNil))))) mNil)) 2 (C 19) []) (mC (.str S64)) (eqK true)) blK) (mT (mB2 (mCall (mCons (mVar 1) (mCons (mTup (mCons (mC (.str S11)) (mCons (mVar 11) mNil))) mNil)) 2 (C 19) []) (mC (.str S64)) (eqK true)) blK))) (mRet (mC (.bl false))) mNop) (mSeq (mSet 4 (mIfE (mNotB (mT (mCall (mCons (mVar 2) mNil) 1 (C 20) []) truK)) (mC (.str S64)) (mIfE (mT (mVar 3) truK) (mVar 12) (mIfE (mAndB (mT (mB2 (mVar 12) (mTup (mCons (mC (.str S7)) (mCons (mC (.int 3)) mNil))) (eqK false)) blK) (mT (mChain (mC (.int 0)) (mVar 2) (mC (.int 3)) (bK fun i j => decide (i ≤ j)) (bK fun i j => decide (i < j))) blK)) (mC (.str S10)) (mC (.str S65)))))) (mSeq (mIf (mOrB (mT (mB2 (mCall (mCons (mVar 1) (mCons (mTup (mCons (mC (.str S8)) (mCons (mVar 2) (mCons (mVar 11) mNil)))) mNil)) 2 (C 19) []) (mVar 4) (eqK true)) blK) (mT (mB2 (mCall (mCons (mVar 1) (mCons (mTup (mCons (mC (.str S8)) (mCons (mVar 2) mNil))) mNil)) 2 (C 19) []) (mC (.str S64)) (eqK true)) blK)) (mRet (mC (.bl false))) mNop) (mSeq (mPar3 15 16 17 (mCall (mCons (mVar 0) (mCons (mLst (mCons (mC (.int 0)) (mCons (mC (.int 5)) (mCons (mC (.int 995)) (mCons (mC (.int 1001)) (mCons (mC (.str S62)) (mCons (mC (.bl true)) mNil))))))) mNil)) 2 (C 18) []) (mCall (mCons (mVar 0) (mCons (mLst (mCons (mC (.int 0)) (mCons (mC (.int 7)) (mCons (mC (.int 20)) (mCons (mC (.int 1005)) (mCons (mC (.int 1000)) mNil)))))) mNil)) 2 (C 18) []) (mCall (mCons (mVar 0) (mCons (mLst (mCons (mC (.str S66)) (mCons (mC (.str S66)) (mCons (mC (.str S62)) (mCons (mC (.int 5)) (mCons (mC (.str S6)) mNil)))))) mNil)) 2 (C 18) [])) (mSeq (mSet 5 (mAndV (mB2 (mVar 17) (mC (.str S66)) (eqK false)) (mAndV (mCall (mCons (mVar 15) mNil) 1 (C 20) []) (mChain (mC (.int 0)) (mB2 (mVar 16) (mVar 15) (iK (fun _ _ => true) fun i j => i - j)) (mC (.int 15)) (bK fun i j => decide (i ≤ j)) (bK fun i j => decide (i ≤ j)))))) (mSeq (mSet 4 (mIfE (mNotB (mT (mVar 5) truK)) (mC (.str S64)) (mIfE (mOrB (mT (mB2 (mVar 16) (mC (.int 1000)) (bK fun i j => decide (j < i))) blK) (mT (mB2 (mVar 15) (mC (.int 1000)) (bK fun i j => decide (j < i))) blK)) (mC (.str S59)) (mIfE (mT (mVar 3) truK) (mVar 12) (mIfE (mT (mB2 (mVar 12) (mC (.str S10)) (eqK false)) blK) (mC (.str S10)) (mC (.str S65))))))) (mSeq (mSet 6 (mCall (mCons (mVar 0) (mCons (mLst (mCons (mC (.str S13)) (mCons (mC (.str S12)) mNil))) mNil)) 2 (C 18) [])) (mSeq (mIf (mOrB (mT (mB2 (mCall (mCons (mVar 1) (mCons (mTup (mCons (mVar 6) (mCons (mVar 17) (mCons (mVar 15) (mCons (mVar 16) (mCons (mVar 11) mNil)))))) mNil)) 2 (C 19) []) (mVar 4) (eqK true)) blK) (mT (mB2 (mCall (mCons (mVar 1) (mCons (mTup (mCons (mVar 6) (mCons (mVar 17) (mCons (mVar 15) (mCons (mVar 16) mNil))))) mNil)) 2 (C 19) []) (mC (.str S64)) (eqK true)) blK)) (mRet (mC (.bl false))) mNop) (mSeq (mSet 7 (mCall (mCons (mVar 0) (mCons (mLst (mCons (mC (.int 0)) (mCons (mC (.int 1)) (mCons (mC (.int 3)) (mCons (mC (.int 6)) (mCons (mC (.int 7)) (mCons (mC (.str S62)) (mCons (mC (.bl true)) (mCons (mTup (mCons (mC (.str S58)) mNil)) mNil))))))))) mNil)) 2 (C 18) [])) (mSeq (mSet 8 (mCall (mCons (mVar 0) (mCons (mLst (mCons (mC (.int 0)) (mCons (mC (.int 1)) (mCons (mC (.int 7)) (mCons (mC (.int 63)) (mCons (mC (.int 64)) (mCons (mB2 (mC (.int 0)) (mC (.int 1)) (iK (fun _ _ => true) fun i j => i - j)) (mCons (mC (.str S57)) mNil)))))))) mNil)) 2 (C 18) [])) (mSeq (mSet 9 (mIfE (mT (mCall (mCons (mVar 7) mNil) 1 (C 20) []) truK) (mB2 (mLst (mCons (mC (.int 1)) (mCons (mC (.int 2)) (mCons (mC (.int 4)) (mCons (mC (.int 8)) (mCons (mC (.int 16)) (mCons (mC (.int 32)) (mCons (mC (.int 64)) (mCons (mC (.int 128)) mNil))))))))) (mVar 7) ixK) (mC (.int 0)))) (mSeq (mSet 4 (mIfE (mOrB (mNotB (mT (mCall (mCons (mVar 7) mNil) 1 (C 20) []) truK)) (mNotB (mT (mCall (mCons (mVar 8) mNil) 1 (C 20) []) truK))) (mC (.str S64)) (mIfE (mAndB (mT (mChain (mC (.int 1)) (mVar 7) (mC (.int 6)) (bK fun i j => decide (i ≤ j)) (bK fun i j => decide (i ≤ j))) blK) (mT (mChain (mC (.int 0)) (mVar 8) (mVar 9) (bK fun i j => decide (i ≤ j)) (bK fun i j => decide (i < j))) blK)) (mTup (mCons (mC (.str S7)) (mCons (mVar 7) mNil))) (mC (.str S59))))) (mSeq (mIf (mT (mB2 (mCall (mCons (mVar 1) (mCons (mTup (mCons (mC (.str S7)) (mCons (mVar 7) (mCons (mVar 8) mNil)))) mNil)) 2 (C 19) []) (mVar 4) (eqK true)) blK) (mRet (mC (.bl false))) mNop) (mSeq (mSet 10 (mAndV (mB1 (mVar 14) (isiK "str")) (mB2 (mSlS (mVar 14) mNoP (mP (mC (.int 5)))) (mC (.str S63)) (eqK false)))) (mSeq (mSet 4 (mIfE (mT (mVar 3) truK) (mVar 12) (mIfE (mT (mVar 10) truK) (mVar 14) (mIfE (mAndB (mT (mB2 (mVar 12) (mC (.str S6)) (eqK false)) blK) (mT (mB2 (mVar 14) (mC (.str S6)) (eqK false)) blK)) (mC (.str S6)) (mC (.str S65)))))) (mRet (mB2 (mCall (mCons (mVar 1) (mCons (mTup (mCons (mC (.str S25)) (mCons (mVar 11) (mCons (mVar 13) mNil)))) mNil)) 2 (C 19) []) (mVar 4) (eqK false))))))))))))))))))))))))
def F_l_taken (C : Nat → List D → Mem → Res D) : SMr := (mTry 4 (mRet (mCall (mCons (mVar 0) (mCons (mTup mNil) (mCons (mVar 1) (mCons (mTup (mCons (mTup (mCons (mVar 2) (mCons (mTup (mCons (mC (.str S51)) (mCons (mVar 3) mNil))) mNil))) mNil)) (mCons (mVar 2) mNil))))) 5 (C 14) [])) isc1 (hxF "code"))
def F_l_factors (C : Nat → List D → Mem → Res D) : SMr := (mSeq (mSet 1 (mDisp (mPCons (mC (.str S62)) (mTup (mCons (mC (.str S6)) (mCons (mC (.int 0)) (mCons (mC (.int 9)) mNil)))) mPNil))) (mSeq (mSet 2 (mTup (mCons (mTup (mCons (mC (.str S43)) (mCons (mTup (mCons (mTup (mCons (mC (.str S62)) (mCons (mB2 (mC (.int 0)) (mC (.int 1)) (iK (fun _ _ => true) fun i j => i - j)) mNil))) mNil)) (mCons (mB2 (mB2 (mC (.int 0)) (mC (.int 10)) (iK (fun _ _ => true) fun i j => i - j)) (mCall (mCons (mVar 0) (mCons (mC (.int 5)) mNil)) 2 (C 17) []) (iK (fun _ _ => true) fun i j => i - j)) mNil)))) (mCons (mTup (mCons (mC (.str S43)) (mCons (mTup (mCons (mTup (mCons (mC (.str S62)) (mCons (mC (.int 1)) mNil))) mNil)) (mCons (mB2 (mB2 (mC (.int 0)) (mC (.int 1)) (iK (fun _ _ => true) fun i j => i - j)) (mCall (mCons (mVar 0) (mCons (mC (.int 5)) mNil)) 2 (C 17) []) (iK (fun _ _ => true) fun i j => i - j)) mNil)))) mNil)))) (mSeq (mSet 3 (mB2 (mC (.int 1)) (mCall (mCons (mVar 0) (mCons (mC (.int 3)) mNil)) 2 (C 17) []) addK)) (mSeq (mIf (mT (mB2 (mCall (mCons (mVar 1) (mCons (mVar 2) (mCons (mTup (mCons (mB2 (mC (.int 0)) (mC (.int 1)) (iK (fun _ _ => true) fun i j => i - j)) mNil)) (mCons (mTup (mCons (mTup (mCons (mC (.int 1)) (mCons (mVar 3) mNil))) (mCons (mTup (mCons (mTup (mCons (mC (.str S38)) (mCons (mC (.str S62)) mNil))) (mCons (mVar 3) mNil))) mNil))) mNil)))) 4 (C 23) []) (mC (.bl true)) nisK) blK) (mRet (mC (.bl false))) mNop) (mSeq (mIf (mT (mB2 (mCall (mCons (mVar 1) (mCons (mVar 2) (mCons (mTup (mCons (mB2 (mC (.int 0)) (mC (.int 2)) (iK (fun _ _ => true) fun i j => i - j)) mNil)) (mCons (mTup (mCons (mTup (mCons (mC (.int 2)) (mCons (mVar 3) mNil))) (mCons (mTup (mCons (mTup (mCons (mC (.str S39)) (mCons (mC (.str S62)) mNil))) (mCons (mVar 3) mNil))) mNil))) mNil)))) 4 (C 23) []) (mC (.bl true)) nisK) blK) (mRet (mC (.bl false))) mNop) (mSeq (mSet 4 (mLst (mCons (mTup (mCons (mTup (mCons (mC (.bl true)) (mCons (mVar 3) mNil))) (mCons (mTup (mCons (mTup (mCons (mC (.str S38)) (mCons (mC (.str S62)) mNil))) (mCons (mVar 3) mNil))) mNil))) (mCons (mTup (mCons (mTup (mCons (mC (.int 1)) (mCons (mVar 3) mNil))) (mCons (mTup (mCons (mTup (mCons (mC (.str S38)) (mCons (mC (.str S62)) mNil))) (mCons (mVar 3) mNil))) mNil))) (mCons (mTup (mCons (mTup (mCons (mC (.bl true)) (mCons (mC (.bl true)) mNil))) (mCons (mTup (mCons (mTup (mCons (mC (.str S38)) (mCons (mC (.str S62)) mNil))) (mCons (mC (.bl true)) mNil))) mNil))) mNil))))) (mSeq (mIf (mT (mA1 (mCons (mLc (mISeq (mVar 4)) (gN 5) mYes (mB2 (mCall (mCons (mVar 1) (mCons (mVar 2) (mCons (mTup mNil) (mCons (mVar 5) mNil)))) 4 (C 23) []) (mC (.str S51)) (eqK true)) [5]) mNil) anyK) truK) (mRet (mC (.bl false))) mNop) (mSeq (mFor (mISeq (mLst (mCons (mTup (mCons (mTup (mCons (mC (.int 1)) (mCons (mC (.bl true)) mNil))) (mCons (mTup (mCons (mTup (mCons (mC (.str S38)) (mCons (mC (.str S62)) mNil))) (mCons (mC (.int 1)) mNil))) mNil))) (mCons (mTup (mCons (mTup (mCons (mC (.int 1)) (mCons (mC (.int 1)) mNil))) (mCons (mTup (mCons (mTup (mCons (mC (.str S38)) (mCons (mC (.str S62)) mNil))) (mCons (mC (.bl true)) mNil))) mNil))) (mCons (mTup (mCons (mTup (mCons (mC (.int 1)) (mCons (mC (.int 0)) mNil))) (mCons (mTup (mCons (mTup (mCons (mC (.str S38)) (mCons (mC (.str S62)) mNil))) (mCons (mC (.int 0)) mNil))) mNil))) (mCons (mTup (mCons (mTup (mCons (mC (.int 1)) (mCons (mVar 3) mNil))) mNil)) (mCons (mTup (mCons (mTup (mCons (mC (.int 1)) (mCons (mVar 3) mNil))) (mCons (mTup (mCons (mTup (mCons (mC (.str S39)) (mCons (mC (.str S62)) mNil))) (mCons (mVar 3) mNil))) mNil))) mNil))))))) (gN 5) (mIf (mT (mB2 (mCall (mCons (mVar 1) (mCons (mVar 2) (mCons (mTup (mCons (mB2 (mC (.int 0)) (mC (.int 1)) (iK (fun _ _ => true) fun i j => i - j)) mNil)) (mCons (mVar 5) mNil)))) 4 (C 23) []) (mC (.str S51)) (eqK true)) blK) (mRet (mC (.bl false))) mNop)) (mRet (mB2 (mCall (mCons (mVar 1) (mCons (mVar 2) (mCons (mTup (mCons (mB2 (mC (.int 0)) (mC (.int 1)) (iK (fun _ _ => true) fun i j => i - j)) mNil)) (mCons (mTup (mCons (mTup (mCons (mC (.int 1)) (mCons (mVar 3) mNil))) (mCons (mTup (mCons (mTup (mCons (mC (.str S38)) (mCons (mC (.str S62)) mNil))) (mCons (mB2 (mVar 3) (mC (.int 1)) addK) mNil))) mNil))) mNil)))) 4 (C 23) []) (mC (.str S51)) (eqK false)))))))))))
def F_law (C : Nat → List D → Mem → Res D) : SMr := (mSeq (mSet 1 (mCall (mCons (mVar 0) mNil) 1 (C 16) [])) (mRet (mAndV (mA1 (mCons (mLc (mIRng1 (mCons (mC (.int 4)) mNil)) (gN 2) mYes (mCall (mCons (mVar 1) mNil) 1 (C 22) []) [2]) mNil) allK) (mCall (mCons (mVar 1) mNil) 1 (C 24) []))))
theorem body_shown (T : Txt w K mg ca ad fd) {C : Nat → List D → Mem → Res D} {k : Nat} (hk : 2 ≤ k) (ok : ∀ j, FnOk PG w K mg base (L2.CX PG w) k (ad j) (fd j) (psn j) (spF K ca (ar j) (C j))) :
    FnOk PG w K mg base (L2.CX PG w) (k + 1) (ad 0) (fd 0) (psn 0) (spF K ca (ar 0) fun ds M => (F_shown C (startL 2 ds) M).fn) := by
  obtain ⟨⟨oc, od, dV, kV, doc, pm, an, cdv, ct, osl, e, lk, hcd⟩, _⟩ := T.f_shown
  obtain ⟨t1, h_MOST_WIDTH⟩ := T.c_MOST_WIDTH
  obtain ⟨t2, h_MOST_NUMBER⟩ := T.c_MOST_NUMBER
  obtain ⟨t3, h_MOST_NESTED⟩ := T.c_MOST_NESTED
  obtain ⟨t4, h_LETTERS⟩ := T.c_LETTERS
  have h_FORMS := T.c_FORMS
  obtain ⟨dsd, rvd, hbd⟩ := T.bd_sort_of
  rw [e] at lk ⊢
  refine fn_xs (N := ["thing", "part"]) (ps := ["thing"]) lk hcd sc_shown rfl (fun _ _ => rfl) (fun A outer s H E hr => ?_)
  have hu := hr.units
  have tk : Takes (cxOf (L2.CX PG w) PG w K mg base ["thing", "part"] "shown" (defScope s_shown) (ad 0) cdv A outer s H E) (WD E) := takes_of rfl rfl rfl rfl
  unfold F_shown
  exact (xss_cons (xs_if (xt_val (xe_isi (t := "tuple") rfl T.z_isinstance (xe_var 0) rfl T.z_tuple (by decide +kernel))) (xss_one (xs_ret (xe_add (xe_add (xe_str (y := S0) (by decide +kernel)) (xe_join (xe_str (y := S1) (by decide +kernel)) (xe_lc (own := [("part", 1)]) rfl sc_shown.nd rfl rfl tk (by decide) (xi_seq (xe_var 0)) (by show BlkOk ["thing", "part"] (defScope s_shown) _ _; exact blkOk_by (by decide +kernel)) (fun sq Hq Cq cq fq => (xg_name 1 sc_shown.nd)) (fun σ sq Hq Cq cq fq xe tk1 => xts_nil) (fun σ sq Hq Cq cq fq xe tk1 => (xe_call (n := 1) (F := C 0) (dds := []) tk1 (ok 0) hr T.g_shown T.f_shown.kp T.b_shown .nil (fun _ => IsL.nil) rfl (xa_cons (xe_var 1) xa_nil)))))) (xe_str (y := S2) (by decide +kernel))))) xss_nil) (xss_one (xs_ret (xe_str1 rfl T.z_str (xa_cons (xe_var 0) xa_nil)))))
theorem body_is_integer (T : Txt w K mg ca ad fd) {C : Nat → List D → Mem → Res D} {k : Nat} (hk : 2 ≤ k) (ok : ∀ j, FnOk PG w K mg base (L2.CX PG w) k (ad j) (fd j) (psn j) (spF K ca (ar j) (C j))) :
    FnOk PG w K mg base (L2.CX PG w) (k + 1) (ad 1) (fd 1) (psn 1) (spF K ca (ar 1) fun ds M => (F_is_integer C (startL 1 ds) M).fn) := by
  obtain ⟨⟨oc, od, dV, kV, doc, pm, an, cdv, ct, osl, e, lk, hcd⟩, _⟩ := T.f_is_integer
  obtain ⟨t1, h_MOST_WIDTH⟩ := T.c_MOST_WIDTH
  obtain ⟨t2, h_MOST_NUMBER⟩ := T.c_MOST_NUMBER
  obtain ⟨t3, h_MOST_NESTED⟩ := T.c_MOST_NESTED
  obtain ⟨t4, h_LETTERS⟩ := T.c_LETTERS
  have h_FORMS := T.c_FORMS
  obtain ⟨dsd, rvd, hbd⟩ := T.bd_sort_of
  rw [e] at lk ⊢
  refine fn_xs (N := ["value"]) (ps := ["value"]) lk hcd sc_is_integer rfl (fun _ _ => rfl) (fun A outer s H E hr => ?_)
  have hu := hr.units
  have tk : Takes (cxOf (L2.CX PG w) PG w K mg base ["value"] "is_integer" (defScope s_is_integer) (ad 1) cdv A outer s H E) (WD E) := takes_of rfl rfl rfl rfl
  unfold F_is_integer
  exact (xss_one (xs_ret (xe_and (xe_isi (t := "int") rfl T.z_isinstance (xe_var 0) rfl T.z_int (by decide +kernel)) (xe_one (xe_not (xe_isi (t := "bool") rfl T.z_isinstance (xe_var 0) rfl T.z_bool (by decide +kernel)))))))
theorem body_is_name (T : Txt w K mg ca ad fd) {C : Nat → List D → Mem → Res D} {k : Nat} (hk : 2 ≤ k) (ok : ∀ j, FnOk PG w K mg base (L2.CX PG w) k (ad j) (fd j) (psn j) (spF K ca (ar j) (C j))) :
    FnOk PG w K mg base (L2.CX PG w) (k + 1) (ad 2) (fd 2) (psn 2) (spF K ca (ar 2) fun ds M => (F_is_name C (startL 2 ds) M).fn) := by
  obtain ⟨⟨oc, od, dV, kV, doc, pm, an, cdv, ct, osl, e, lk, hcd⟩, _⟩ := T.f_is_name
  obtain ⟨t1, h_MOST_WIDTH⟩ := T.c_MOST_WIDTH
  obtain ⟨t2, h_MOST_NUMBER⟩ := T.c_MOST_NUMBER
  obtain ⟨t3, h_MOST_NESTED⟩ := T.c_MOST_NESTED
  obtain ⟨t4, h_LETTERS⟩ := T.c_LETTERS
  have h_FORMS := T.c_FORMS
  obtain ⟨dsd, rvd, hbd⟩ := T.bd_sort_of
  rw [e] at lk ⊢
  refine fn_xs (N := ["value", "sign"]) (ps := ["value"]) lk hcd sc_is_name rfl (fun _ _ => rfl) (fun A outer s H E hr => ?_)
  have hu := hr.units
  have tk : Takes (cxOf (L2.CX PG w) PG w K mg base ["value", "sign"] "is_name" (defScope s_is_name) (ad 2) cdv A outer s H E) (WD E) := takes_of rfl rfl rfl rfl
  unfold F_is_name
  exact (xss_cons (xs_if (xt_w (xw_or (xt_not (xt_val (xe_isi (t := "str") rfl T.z_isinstance (xe_var 0) rfl T.z_str (by decide +kernel)))) (xw_or (xt_not (xt_chain op_le op_le ok_bl0 ok_bl0 xe_int (xe_len rfl T.z_len (xa_cons (xe_var 0) xa_nil)) xe_int)) (xw_or (xt_in (xe_var 0) (xe_glob (v := .ref (ad 98)) (d := dFORMS) (by rfl) h_FORMS rfl T.i_FORMS)) (xw_oneOr (xt_ninS (xe_item (xe_var 0) xe_int) (xe_glob (v := .str sLETTERS) (d := .str sLETTERS) rfl h_LETTERS ⟨_, rfl⟩ (fun _ => by simp only [Is])))))))) (xss_one (xs_ret xe_bl)) xss_nil) (xss_one (xs_ret (xe_all rfl rfl T.z_all (xa_cons (xe_lc (own := [("sign", 1)]) rfl sc_is_name.nd rfl rfl tk (by decide) (xi_str (xe_var 0)) (by show BlkOk ["value", "sign"] (defScope s_is_name) _ _; exact blkOk_by (by decide +kernel)) (fun sq Hq Cq cq fq => (xg_name 1 sc_is_name.nd)) (fun σ sq Hq Cq cq fq xe tk1 => xts_nil) (fun σ sq Hq Cq cq fq xe tk1 => (xe_or (xe_inS (xe_var 1) (xe_glob (v := .str sLETTERS) (d := .str sLETTERS) rfl h_LETTERS ⟨_, rfl⟩ (fun _ => by simp only [Is]))) (xe_one (xe_inS (xe_var 1) (xe_str (y := S3) (by decide +kernel))))))) xa_nil)))))
theorem body_need_t (T : Txt w K mg ca ad fd) {C : Nat → List D → Mem → Res D} {k : Nat} (hk : 2 ≤ k) (ok : ∀ j, FnOk PG w K mg base (L2.CX PG w) k (ad j) (fd j) (psn j) (spF K ca (ar j) (C j))) :
    FnOk PG w K mg base (L2.CX PG w) (k + 1) (ad 3) (fd 3) (psn 3) (spF K ca (ar 3) fun ds M => (F_need_t C (startL 2 ds) M).fn) := by
  obtain ⟨⟨oc, od, dV, kV, doc, pm, an, cdv, ct, osl, e, lk, hcd⟩, _⟩ := T.f_need_t
  obtain ⟨t1, h_MOST_WIDTH⟩ := T.c_MOST_WIDTH
  obtain ⟨t2, h_MOST_NUMBER⟩ := T.c_MOST_NUMBER
  obtain ⟨t3, h_MOST_NESTED⟩ := T.c_MOST_NESTED
  obtain ⟨t4, h_LETTERS⟩ := T.c_LETTERS
  have h_FORMS := T.c_FORMS
  obtain ⟨dsd, rvd, hbd⟩ := T.bd_sort_of
  rw [e] at lk ⊢
  refine fn_xs (N := ["is_so", "code"]) (ps := ["is_so", "code"]) lk hcd sc_need_t rfl (fun _ _ => rfl) (fun A outer s H E hr => ?_)
  have hu := hr.units
  have tk : Takes (cxOf (L2.CX PG w) PG w K mg base ["is_so", "code"] "need" (defScope s_need_t) (ad 3) cdv A outer s H E) (WD E) := takes_of rfl rfl rfl rfl
  unfold F_need_t
  exact (xss_one (xs_if (xt_not (xt_val (xe_var 0))) (xss_one (xs_raise (c := 0) (ns := ["code"]) rfl tk ⟨T.gE0, T.kE0, T.exE0, T.tyE0, T.mkE0⟩ hr hk (xa_cons (xe_var 1) xa_nil) rfl)) xss_nil))
theorem body_sort_of (T : Txt w K mg ca ad fd) {C : Nat → List D → Mem → Res D} {k : Nat} (hk : 2 ≤ k) (ok : ∀ j, FnOk PG w K mg base (L2.CX PG w) k (ad j) (fd j) (psn j) (spF K ca (ar j) (C j))) :
    FnOk PG w K mg base (L2.CX PG w) (k + 1) (ad 4) (fd 4) (psn 4) (spF K ca (ar 4) fun ds M => (F_sort_of C (startL 7 ds) M).fn) := by
  obtain ⟨⟨oc, od, dV, kV, doc, pm, an, cdv, ct, osl, e, lk, hcd⟩, _⟩ := T.f_sort_of
  obtain ⟨t1, h_MOST_WIDTH⟩ := T.c_MOST_WIDTH
  obtain ⟨t2, h_MOST_NUMBER⟩ := T.c_MOST_NUMBER
  obtain ⟨t3, h_MOST_NESTED⟩ := T.c_MOST_NESTED
  obtain ⟨t4, h_LETTERS⟩ := T.c_LETTERS
  have h_FORMS := T.c_FORMS
  obtain ⟨dsd, rvd, hbd⟩ := T.bd_sort_of
  rw [e] at lk ⊢
  refine fn_xs (N := ["names", "term", "depth", "sorts", "sort", "kind", "part"]) (ps := ["names", "term", "depth"]) lk hcd sc_sort_of rfl (fun _ _ => rfl) (fun A outer s H E hr => ?_)
  have hu := hr.units
  have tk : Takes (cxOf (L2.CX PG w) PG w K mg base ["names", "term", "depth", "sorts", "sort", "kind", "part"] "sort_of" (defScope s_sort_of) (ad 4) cdv A outer s H E) (WD E) := takes_of rfl rfl rfl rfl
  unfold F_sort_of
  exact (xss_cons (xs_do (xe_call (n := 2) (F := C 3) (dds := []) tk (ok 3) hr T.g_need_t T.f_need_t.kp T.b_need_t .nil (fun _ => IsL.nil) rfl (xa_cons (xe_le (xe_var 2) (xe_glob (v := .int 200) (d := .int 200) rfl h_MOST_NESTED ⟨_, rfl⟩ (fun _ => by simp only [Is]))) (xa_cons (xe_str (y := S4) (by decide +kernel)) xa_nil)))) (xss_cons (xs_if (xt_val (xe_call (n := 1) (F := C 1) (dds := []) tk (ok 1) hr T.g_is_integer T.f_is_integer.kp T.b_is_integer .nil (fun _ => IsL.nil) rfl (xa_cons (xe_var 1) xa_nil))) (xss_cons (xs_do (xe_call (n := 2) (F := C 3) (dds := []) tk (ok 3) hr T.g_need_t T.f_need_t.kp T.b_need_t .nil (fun _ => IsL.nil) rfl (xa_cons (xe_le (xe_abs rfl T.z_abs (xa_cons (xe_var 1) xa_nil)) (xe_glob (v := .int 1000000) (d := .int 1000000) rfl h_MOST_NUMBER ⟨_, rfl⟩ (fun _ => by simp only [Is]))) (xa_cons (xe_str (y := S5) (by decide +kernel)) xa_nil)))) (xss_one (xs_ret (xe_str (y := S6) (by decide +kernel))))) xss_nil) (xss_cons (xs_if (xt_val (xe_isi (t := "str") rfl T.z_isinstance (xe_var 1) rfl T.z_str (by decide +kernel))) (xss_one (xs_ret (xe_call (n := 2) (F := C 6) (dds := []) tk (ok 6) hr T.g_sort_of_word T.f_sort_of_word.kp T.b_sort_of_word .nil (fun _ => IsL.nil) rfl (xa_cons (xe_var 0) (xa_cons (xe_var 1) xa_nil))))) xss_nil) (xss_cons (xs_do (xe_call (n := 2) (F := C 3) (dds := []) tk (ok 3) hr T.g_need_t T.f_need_t.kp T.b_need_t .nil (fun _ => IsL.nil) rfl (xa_cons (xe_and (xe_isi (t := "tuple") rfl T.z_isinstance (xe_var 1) rfl T.z_tuple (by decide +kernel)) (xe_and (xe_gt (xe_len rfl T.z_len (xa_cons (xe_var 1) xa_nil)) xe_int) (xe_one (xe_isi (t := "str") rfl T.z_isinstance (xe_item (xe_var 1) xe_int) rfl T.z_str (by decide +kernel))))) (xa_cons (xe_str (y := S4) (by decide +kernel)) xa_nil)))) (xss_cons (xs_if (xt_eq hu (xe_item (xe_var 1) xe_int) (xe_str (y := S7) (by decide +kernel))) (xss_one (xs_ret (xe_call (n := 1) (F := C 7) (dds := []) tk (ok 7) hr T.g_sort_of_constant T.f_sort_of_constant.kp T.b_sort_of_constant .nil (fun _ => IsL.nil) rfl (xa_cons (xe_var 1) xa_nil)))) xss_nil) (xss_cons (xs_if (xt_eq hu (xe_item (xe_var 1) xe_int) (xe_str (y := S8) (by decide +kernel))) (xss_cons (xs_do (xe_call (n := 2) (F := C 3) (dds := []) tk (ok 3) hr T.g_need_t T.f_need_t.kp T.b_need_t .nil (fun _ => IsL.nil) rfl (xa_cons (xe_and (xe_eq hu (xe_len rfl T.z_len (xa_cons (xe_var 1) xa_nil)) xe_int) (xe_one (xe_call (n := 1) (F := C 1) (dds := []) tk (ok 1) hr T.g_is_integer T.f_is_integer.kp T.b_is_integer .nil (fun _ => IsL.nil) rfl (xa_cons (xe_item (xe_var 1) xe_int) xa_nil)))) (xa_cons (xe_str (y := S4) (by decide +kernel)) xa_nil)))) (xss_cons (xs_set 4 sc_sort_of.nd (xe_call (n := 3) (F := C 4) (dds := []) tk (ok 4) hr T.g_sort_of T.f_sort_of.kp T.b_sort_of .nil (fun _ => IsL.nil) rfl (xa_cons (xe_var 0) (xa_cons (xe_item (xe_var 1) xe_int) (xa_cons (xe_add (xe_var 2) xe_int) xa_nil))))) (xss_cons (xs_do (xe_call (n := 2) (F := C 3) (dds := []) tk (ok 3) hr T.g_need_t T.f_need_t.kp T.b_need_t .nil (fun _ => IsL.nil) rfl (xa_cons (xe_and (xe_isi (t := "tuple") rfl T.z_isinstance (xe_var 4) rfl T.z_tuple (by decide +kernel)) (xe_and (xe_eq hu (xe_item (xe_var 4) xe_int) (xe_str (y := S7) (by decide +kernel))) (xe_one (xe_chain op_le op_lt ok_bl0 ok_bl0 xe_int (xe_item (xe_var 1) xe_int) (xe_item (xe_var 4) xe_int))))) (xa_cons (xe_str (y := S9) (by decide +kernel)) xa_nil)))) (xss_one (xs_ret (xe_str (y := S10) (by decide +kernel))))))) xss_nil) (xss_cons (xs_if (xt_eq hu (xe_item (xe_var 1) xe_int) (xe_str (y := S11) (by decide +kernel))) (xss_cons (xs_do (xe_call (n := 2) (F := C 3) (dds := []) tk (ok 3) hr T.g_need_t T.f_need_t.kp T.b_need_t .nil (fun _ => IsL.nil) rfl (xa_cons (xe_and (xe_eq hu (xe_len rfl T.z_len (xa_cons (xe_var 1) xa_nil)) xe_int) (xe_and (xe_call (n := 1) (F := C 1) (dds := []) tk (ok 1) hr T.g_is_integer T.f_is_integer.kp T.b_is_integer .nil (fun _ => IsL.nil) rfl (xa_cons (xe_item (xe_var 1) xe_int) xa_nil)) (xe_one (xe_le (xe_abs rfl T.z_abs (xa_cons (xe_item (xe_var 1) xe_int) xa_nil)) xe_int)))) (xa_cons (xe_str (y := S4) (by decide +kernel)) xa_nil)))) (xss_cons (xs_do (xe_call (n := 2) (F := C 3) (dds := []) tk (ok 3) hr T.g_need_t T.f_need_t.kp T.b_need_t .nil (fun _ => IsL.nil) rfl (xa_cons (xe_eq hu (xe_call (n := 3) (F := C 4) (dds := []) tk (ok 4) hr T.g_sort_of T.f_sort_of.kp T.b_sort_of .nil (fun _ => IsL.nil) rfl (xa_cons (xe_var 0) (xa_cons (xe_item (xe_var 1) xe_int) (xa_cons (xe_add (xe_var 2) xe_int) xa_nil)))) (xe_str (y := S6) (by decide +kernel))) (xa_cons (xe_str (y := S9) (by decide +kernel)) xa_nil)))) (xss_one (xs_ret (xe_str (y := S6) (by decide +kernel)))))) xss_nil) (xss_cons (xs_if (xt_in (xe_item (xe_var 1) xe_int) (xe_tup (xa_cons (xe_str (y := S13) (by decide +kernel)) (xa_cons (xe_str (y := S12) (by decide +kernel)) xa_nil)))) (xss_one (xs_ret (xe_call (n := 3) (F := C 5) (dds := []) tk (ok 5) hr T.g_sort_of_range T.f_sort_of_range.kp T.b_sort_of_range .nil (fun _ => IsL.nil) rfl (xa_cons (xe_var 0) (xa_cons (xe_var 1) (xa_cons (xe_var 2) xa_nil)))))) xss_nil) (xss_cons (xs_setLc (own := [("part", 6)]) 3 rfl sc_sort_of.nd rfl rfl tk (by decide) (xi_seq (xe_slice (xe_var 1) (xo_some xe_int) xo_none)) (by show BlkOk ["names", "term", "depth", "sorts", "sort", "kind", "part"] (defScope s_sort_of) _ _; exact blkOk_by (by decide +kernel)) (fun sq Hq Cq cq fq => (xg_name 6 sc_sort_of.nd)) (fun σ sq Hq Cq cq fq xe tk1 => xts_nil) (fun σ sq Hq Cq cq fq xe tk1 => (xe_call (n := 3) (F := C 4) (dds := []) tk1 (ok 4) hr T.g_sort_of T.f_sort_of.kp T.b_sort_of .nil (fun _ => IsL.nil) rfl (xa_cons (xe_var 0) (xa_cons (xe_var 6) (xa_cons (xe_add (xe_var 2) xe_int) xa_nil)))))) (xss_cons (xs_if (xt_din hu (xe_item (xe_var 1) xe_int) (xe_var 0)) (xss_cons (xs_set 5 sc_sort_of.nd (xe_ixD hu (xe_var 0) (xe_item (xe_var 1) xe_int))) (xss_cons (xs_do (xe_call (n := 2) (F := C 3) (dds := []) tk (ok 3) hr T.g_need_t T.f_need_t.kp T.b_need_t .nil (fun _ => IsL.nil) rfl (xa_cons (xe_and (xe_eq hu (xe_item (xe_var 5) xe_int) (xe_str (y := S14) (by decide +kernel))) (xe_one (xe_eq hu (xe_len rfl T.z_len (xa_cons (xe_var 3) xa_nil)) (xe_len rfl T.z_len (xa_cons (xe_item (xe_var 5) xe_int) xa_nil))))) (xa_cons (xe_str (y := S4) (by decide +kernel)) xa_nil)))) (xss_cons (xs_do (xe_call (n := 2) (F := C 3) (dds := []) tk (ok 3) hr T.g_need_t T.f_need_t.kp T.b_need_t .nil (fun _ => IsL.nil) rfl (xa_cons (xe_eq hu (xe_tuple1 rfl T.z_tuple (xa_cons (xe_var 3) xa_nil)) (xe_item (xe_var 5) xe_int)) (xa_cons (xe_str (y := S9) (by decide +kernel)) xa_nil)))) (xss_one (xs_ret (xe_item (xe_var 5) xe_int)))))) xss_nil) (xss_one (xs_ret (xe_call (n := 2) (F := C 8) (dds := []) tk (ok 8) hr T.g_sort_of_form T.f_sort_of_form.kp T.b_sort_of_form .nil (fun _ => IsL.nil) rfl (xa_cons (xe_item (xe_var 1) xe_int) (xa_cons (xe_var 3) xa_nil)))))))))))))))
theorem body_sort_of_range (T : Txt w K mg ca ad fd) {C : Nat → List D → Mem → Res D} {k : Nat} (hk : 2 ≤ k) (ok : ∀ j, FnOk PG w K mg base (L2.CX PG w) k (ad j) (fd j) (psn j) (spF K ca (ar j) (C j))) :
    FnOk PG w K mg base (L2.CX PG w) (k + 1) (ad 5) (fd 5) (psn 5) (spF K ca (ar 5) fun ds M => (F_sort_of_range C (startL 3 ds) M).fn) := by
  obtain ⟨⟨oc, od, dV, kV, doc, pm, an, cdv, ct, osl, e, lk, hcd⟩, _⟩ := T.f_sort_of_range
  obtain ⟨t1, h_MOST_WIDTH⟩ := T.c_MOST_WIDTH
  obtain ⟨t2, h_MOST_NUMBER⟩ := T.c_MOST_NUMBER
  obtain ⟨t3, h_MOST_NESTED⟩ := T.c_MOST_NESTED
  obtain ⟨t4, h_LETTERS⟩ := T.c_LETTERS
  have h_FORMS := T.c_FORMS
  obtain ⟨dsd, rvd, hbd⟩ := T.bd_sort_of
  rw [e] at lk ⊢
  refine fn_xs (N := ["names", "term", "depth"]) (ps := ["names", "term", "depth"]) lk hcd sc_sort_of_range rfl (fun _ _ => rfl) (fun A outer s H E hr => ?_)
  have hu := hr.units
  have tk : Takes (cxOf (L2.CX PG w) PG w K mg base ["names", "term", "depth"] "sort_of_range" (defScope s_sort_of_range) (ad 5) cdv A outer s H E) (WD E) := takes_of rfl rfl rfl rfl
  unfold F_sort_of_range
  exact (xss_cons (xs_do (xe_call (n := 2) (F := C 3) (dds := []) tk (ok 3) hr T.g_need_t T.f_need_t.kp T.b_need_t .nil (fun _ => IsL.nil) rfl (xa_cons (xe_and (xe_eq hu (xe_len rfl T.z_len (xa_cons (xe_var 1) xa_nil)) xe_int) (xe_and (xe_call (n := 1) (F := C 2) (dds := []) tk (ok 2) hr T.g_is_name T.f_is_name.kp T.b_is_name .nil (fun _ => IsL.nil) rfl (xa_cons (xe_item (xe_var 1) xe_int) xa_nil)) (xe_one (xc_dnin hu (xe_item (xe_var 1) xe_int) (xe_var 0))))) (xa_cons (xe_str (y := S4) (by decide +kernel)) xa_nil)))) (xss_cons (xs_do (xe_call (n := 2) (F := C 3) (dds := []) tk (ok 3) hr T.g_need_t T.f_need_t.kp T.b_need_t .nil (fun _ => IsL.nil) rfl (xa_cons (xe_and (xe_call (n := 1) (F := C 1) (dds := []) tk (ok 1) hr T.g_is_integer T.f_is_integer.kp T.b_is_integer .nil (fun _ => IsL.nil) rfl (xa_cons (xe_item (xe_var 1) xe_int) xa_nil)) (xe_and (xe_call (n := 1) (F := C 1) (dds := []) tk (ok 1) hr T.g_is_integer T.f_is_integer.kp T.b_is_integer .nil (fun _ => IsL.nil) rfl (xa_cons (xe_item (xe_var 1) xe_int) xa_nil)) (xe_one (xe_chain op_le op_le ok_bl0 ok_bl0 xe_int (xe_sub (xe_item (xe_var 1) xe_int) (xe_item (xe_var 1) xe_int)) xe_int)))) (xa_cons (xe_str (y := S4) (by decide +kernel)) xa_nil)))) (xss_cons (xs_do (xe_call (n := 2) (F := C 3) (dds := []) tk (ok 3) hr T.g_need_t T.f_need_t.kp T.b_need_t .nil (fun _ => IsL.nil) rfl (xa_cons (xe_and (xe_le (xe_abs rfl T.z_abs (xa_cons (xe_item (xe_var 1) xe_int) xa_nil)) xe_int) (xe_one (xe_le (xe_abs rfl T.z_abs (xa_cons (xe_item (xe_var 1) xe_int) xa_nil)) xe_int))) (xa_cons (xe_str (y := S5) (by decide +kernel)) xa_nil)))) (xss_cons (xs_do (xe_call (n := 2) (F := C 3) (dds := []) tk (ok 3) hr T.g_need_t T.f_need_t.kp T.b_need_t .nil (fun _ => IsL.nil) rfl (xa_cons (xe_eq hu (xe_call (n := 3) (F := C 4) (dds := []) tk (ok 4) hr T.g_sort_of T.f_sort_of.kp T.b_sort_of .nil (fun _ => IsL.nil) rfl (xa_cons (xe_dstar (xe_var 0) (xe_item (xe_var 1) xe_int) (xe_tup (xa_cons (xe_str (y := S6) (by decide +kernel)) (xa_cons (xe_item (xe_var 1) xe_int) (xa_cons (xe_item (xe_var 1) xe_int) xa_nil))))) (xa_cons (xe_item (xe_var 1) xe_int) (xa_cons (xe_add (xe_var 2) xe_int) xa_nil)))) (xe_str (y := S10) (by decide +kernel))) (xa_cons (xe_str (y := S9) (by decide +kernel)) xa_nil)))) (xss_one (xs_ret (xe_str (y := S10) (by decide +kernel))))))))
theorem body_sort_of_word (T : Txt w K mg ca ad fd) {C : Nat → List D → Mem → Res D} {k : Nat} (hk : 2 ≤ k) (ok : ∀ j, FnOk PG w K mg base (L2.CX PG w) k (ad j) (fd j) (psn j) (spF K ca (ar j) (C j))) :
    FnOk PG w K mg base (L2.CX PG w) (k + 1) (ad 6) (fd 6) (psn 6) (spF K ca (ar 6) fun ds M => (F_sort_of_word C (startL 3 ds) M).fn) := by
  obtain ⟨⟨oc, od, dV, kV, doc, pm, an, cdv, ct, osl, e, lk, hcd⟩, _⟩ := T.f_sort_of_word
  obtain ⟨t1, h_MOST_WIDTH⟩ := T.c_MOST_WIDTH
  obtain ⟨t2, h_MOST_NUMBER⟩ := T.c_MOST_NUMBER
  obtain ⟨t3, h_MOST_NESTED⟩ := T.c_MOST_NESTED
  obtain ⟨t4, h_LETTERS⟩ := T.c_LETTERS
  have h_FORMS := T.c_FORMS
  obtain ⟨dsd, rvd, hbd⟩ := T.bd_sort_of
  rw [e] at lk ⊢
  refine fn_xs (N := ["names", "term", "kind"]) (ps := ["names", "term"]) lk hcd sc_sort_of_word rfl (fun _ _ => rfl) (fun A outer s H E hr => ?_)
  have hu := hr.units
  have tk : Takes (cxOf (L2.CX PG w) PG w K mg base ["names", "term", "kind"] "sort_of_word" (defScope s_sort_of_word) (ad 6) cdv A outer s H E) (WD E) := takes_of rfl rfl rfl rfl
  unfold F_sort_of_word
  exact (xss_cons (xs_if (xt_in (xe_var 1) (xe_tup (xa_cons (xe_str (y := S16) (by decide +kernel)) (xa_cons (xe_str (y := S15) (by decide +kernel)) xa_nil)))) (xss_one (xs_ret (xe_str (y := S10) (by decide +kernel)))) xss_nil) (xss_cons (xs_do (xe_call (n := 2) (F := C 3) (dds := []) tk (ok 3) hr T.g_need_t T.f_need_t.kp T.b_need_t .nil (fun _ => IsL.nil) rfl (xa_cons (xc_din hu (xe_var 1) (xe_var 0)) (xa_cons (xe_str (y := S17) (by decide +kernel)) xa_nil)))) (xss_cons (xs_set 2 sc_sort_of_word.nd (xe_ixD hu (xe_var 0) (xe_var 1))) (xss_cons (xs_do (xe_call (n := 2) (F := C 3) (dds := []) tk (ok 3) hr T.g_need_t T.f_need_t.kp T.b_need_t .nil (fun _ => IsL.nil) rfl (xa_cons (xe_in (xe_item (xe_var 2) xe_int) (xe_tup (xa_cons (xe_str (y := S10) (by decide +kernel)) (xa_cons (xe_str (y := S6) (by decide +kernel)) (xa_cons (xe_str (y := S7) (by decide +kernel)) (xa_cons (xe_str (y := S19) (by decide +kernel)) (xa_cons (xe_str (y := S18) (by decide +kernel)) xa_nil))))))) (xa_cons (xe_str (y := S4) (by decide +kernel)) xa_nil)))) (xss_cons (xs_if (xt_eq hu (xe_item (xe_var 2) xe_int) (xe_str (y := S7) (by decide +kernel))) (xss_one (xs_ret (xe_tup (xa_cons (xe_str (y := S7) (by decide +kernel)) (xa_cons (xe_item (xe_var 2) xe_int) xa_nil))))) xss_nil) (xss_cons (xs_if (xt_eq hu (xe_item (xe_var 2) xe_int) (xe_str (y := S18) (by decide +kernel))) (xss_one (xs_ret (xe_tup (xa_cons (xe_str (y := S18) (by decide +kernel)) (xa_cons (xe_item (xe_var 2) xe_int) (xa_cons (xe_item (xe_var 2) xe_int) xa_nil)))))) xss_nil) (xss_one (xs_ret (xe_if (xt_eq hu (xe_item (xe_var 2) xe_int) (xe_str (y := S19) (by decide +kernel))) (xe_item (xe_var 2) xe_int) (xe_item (xe_var 2) xe_int))))))))))
theorem body_sort_of_constant (T : Txt w K mg ca ad fd) {C : Nat → List D → Mem → Res D} {k : Nat} (hk : 2 ≤ k) (ok : ∀ j, FnOk PG w K mg base (L2.CX PG w) k (ad j) (fd j) (psn j) (spF K ca (ar j) (C j))) :
    FnOk PG w K mg base (L2.CX PG w) (k + 1) (ad 7) (fd 7) (psn 7) (spF K ca (ar 7) fun ds M => (F_sort_of_constant C (startL 1 ds) M).fn) := by
  obtain ⟨⟨oc, od, dV, kV, doc, pm, an, cdv, ct, osl, e, lk, hcd⟩, _⟩ := T.f_sort_of_constant
  obtain ⟨t1, h_MOST_WIDTH⟩ := T.c_MOST_WIDTH
  obtain ⟨t2, h_MOST_NUMBER⟩ := T.c_MOST_NUMBER
  obtain ⟨t3, h_MOST_NESTED⟩ := T.c_MOST_NESTED
  obtain ⟨t4, h_LETTERS⟩ := T.c_LETTERS
  have h_FORMS := T.c_FORMS
  obtain ⟨dsd, rvd, hbd⟩ := T.bd_sort_of
  rw [e] at lk ⊢
  refine fn_xs (N := ["term"]) (ps := ["term"]) lk hcd sc_sort_of_constant rfl (fun _ _ => rfl) (fun A outer s H E hr => ?_)
  have hu := hr.units
  have tk : Takes (cxOf (L2.CX PG w) PG w K mg base ["term"] "sort_of_constant" (defScope s_sort_of_constant) (ad 7) cdv A outer s H E) (WD E) := takes_of rfl rfl rfl rfl
  unfold F_sort_of_constant
  exact (xss_cons (xs_do (xe_call (n := 2) (F := C 3) (dds := []) tk (ok 3) hr T.g_need_t T.f_need_t.kp T.b_need_t .nil (fun _ => IsL.nil) rfl (xa_cons (xe_and (xe_eq hu (xe_len rfl T.z_len (xa_cons (xe_var 0) xa_nil)) xe_int) (xe_and (xe_call (n := 1) (F := C 1) (dds := []) tk (ok 1) hr T.g_is_integer T.f_is_integer.kp T.b_is_integer .nil (fun _ => IsL.nil) rfl (xa_cons (xe_item (xe_var 0) xe_int) xa_nil)) (xe_one (xe_call (n := 1) (F := C 1) (dds := []) tk (ok 1) hr T.g_is_integer T.f_is_integer.kp T.b_is_integer .nil (fun _ => IsL.nil) rfl (xa_cons (xe_item (xe_var 0) xe_int) xa_nil))))) (xa_cons (xe_str (y := S4) (by decide +kernel)) xa_nil)))) (xss_cons (xs_do (xe_call (n := 2) (F := C 3) (dds := []) tk (ok 3) hr T.g_need_t T.f_need_t.kp T.b_need_t .nil (fun _ => IsL.nil) rfl (xa_cons (xe_and (xe_chain op_le op_le ok_bl0 ok_bl0 xe_int (xe_item (xe_var 0) xe_int) (xe_glob (v := .int 6) (d := .int 6) rfl h_MOST_WIDTH ⟨_, rfl⟩ (fun _ => by simp only [Is]))) (xe_one (xe_chain op_le op_lt ok_bl0 ok_bl0 xe_int (xe_item (xe_var 0) xe_int) (xe_shl xe_int (xe_item (xe_var 0) xe_int))))) (xa_cons (xe_str (y := S5) (by decide +kernel)) xa_nil)))) (xss_one (xs_ret (xe_tup (xa_cons (xe_str (y := S7) (by decide +kernel)) (xa_cons (xe_item (xe_var 0) xe_int) xa_nil)))))))
theorem body_sort_of_form (T : Txt w K mg ca ad fd) {C : Nat → List D → Mem → Res D} {k : Nat} (hk : 2 ≤ k) (ok : ∀ j, FnOk PG w K mg base (L2.CX PG w) k (ad j) (fd j) (psn j) (spF K ca (ar j) (C j))) :
    FnOk PG w K mg base (L2.CX PG w) (k + 1) (ad 8) (fd 8) (psn 8) (spF K ca (ar 8) fun ds M => (F_sort_of_form C (startL 3 ds) M).fn) := by
  obtain ⟨⟨oc, od, dV, kV, doc, pm, an, cdv, ct, osl, e, lk, hcd⟩, _⟩ := T.f_sort_of_form
  obtain ⟨t1, h_MOST_WIDTH⟩ := T.c_MOST_WIDTH
  obtain ⟨t2, h_MOST_NUMBER⟩ := T.c_MOST_NUMBER
  obtain ⟨t3, h_MOST_NESTED⟩ := T.c_MOST_NESTED
  obtain ⟨t4, h_LETTERS⟩ := T.c_LETTERS
  have h_FORMS := T.c_FORMS
  obtain ⟨dsd, rvd, hbd⟩ := T.bd_sort_of
  rw [e] at lk ⊢
  refine fn_xs (N := ["head", "sorts", "sort"]) (ps := ["head", "sorts"]) lk hcd sc_sort_of_form rfl (fun _ _ => rfl) (fun A outer s H E hr => ?_)
  have hu := hr.units
  have tk : Takes (cxOf (L2.CX PG w) PG w K mg base ["head", "sorts", "sort"] "sort_of_form" (defScope s_sort_of_form) (ad 8) cdv A outer s H E) (WD E) := takes_of rfl rfl rfl rfl
  unfold F_sort_of_form
  exact (xss_cons (xs_if (xt_in (xe_var 0) (xe_tup (xa_cons (xe_str (y := S24) (by decide +kernel)) (xa_cons (xe_str (y := S23) (by decide +kernel)) (xa_cons (xe_str (y := S22) (by decide +kernel)) (xa_cons (xe_str (y := S21) (by decide +kernel)) (xa_cons (xe_str (y := S20) (by decide +kernel)) xa_nil))))))) (xss_cons (xs_do (xe_call (n := 2) (F := C 3) (dds := []) tk (ok 3) hr T.g_need_t T.f_need_t.kp T.b_need_t .nil (fun _ => IsL.nil) rfl (xa_cons (xe_or (xe_in (xe_var 0) (xe_tup (xa_cons (xe_str (y := S23) (by decide +kernel)) (xa_cons (xe_str (y := S22) (by decide +kernel)) xa_nil)))) (xe_one (xe_eq hu (xe_len rfl T.z_len (xa_cons (xe_var 1) xa_nil)) (xe_ixD hu (xe_disp (xp_cons (xe_str (y := S24) (by decide +kernel)) xe_int (xp_cons (xe_str (y := S21) (by decide +kernel)) xe_int (xp_cons (xe_str (y := S20) (by decide +kernel)) xe_int xp_nil)))) (xe_var 0))))) (xa_cons (xe_str (y := S4) (by decide +kernel)) xa_nil)))) (xss_cons (xs_do (xe_call (n := 2) (F := C 3) (dds := []) tk (ok 3) hr T.g_need_t T.f_need_t.kp T.b_need_t .nil (fun _ => IsL.nil) rfl (xa_cons (xe_all rfl rfl T.z_all (xa_cons (xe_lc (own := [("sort", 2)]) rfl sc_sort_of_form.nd rfl rfl tk (by decide) (xi_seq (xe_var 1)) (by show BlkOk ["head", "sorts", "sort"] (defScope s_sort_of_form) _ _; exact blkOk_by (by decide +kernel)) (fun sq Hq Cq cq fq => (xg_name 2 sc_sort_of_form.nd)) (fun σ sq Hq Cq cq fq xe tk1 => xts_nil) (fun σ sq Hq Cq cq fq xe tk1 => (xe_eq hu (xe_var 2) (xe_str (y := S10) (by decide +kernel))))) xa_nil)) (xa_cons (xe_str (y := S9) (by decide +kernel)) xa_nil)))) (xss_one (xs_ret (xe_str (y := S10) (by decide +kernel)))))) xss_nil) (xss_cons (xs_if (xt_in (xe_var 0) (xe_tup (xa_cons (xe_str (y := S28) (by decide +kernel)) (xa_cons (xe_str (y := S27) (by decide +kernel)) (xa_cons (xe_str (y := S26) (by decide +kernel)) (xa_cons (xe_str (y := S25) (by decide +kernel)) xa_nil)))))) (xss_cons (xs_do (xe_call (n := 2) (F := C 3) (dds := []) tk (ok 3) hr T.g_need_t T.f_need_t.kp T.b_need_t .nil (fun _ => IsL.nil) rfl (xa_cons (xe_or (xe_eq hu (xe_len rfl T.z_len (xa_cons (xe_var 1) xa_nil)) xe_int) (xe_one (xe_and (xe_eq hu (xe_var 0) (xe_str (y := S26) (by decide +kernel))) (xe_one (xe_gt (xe_len rfl T.z_len (xa_cons (xe_var 1) xa_nil)) xe_int))))) (xa_cons (xe_str (y := S4) (by decide +kernel)) xa_nil)))) (xss_cons (xs_do (xe_call (n := 2) (F := C 3) (dds := []) tk (ok 3) hr T.g_need_t T.f_need_t.kp T.b_need_t .nil (fun _ => IsL.nil) rfl (xa_cons (xe_all rfl rfl T.z_all (xa_cons (xe_lc (own := [("sort", 2)]) rfl sc_sort_of_form.nd rfl rfl tk (by decide) (xi_seq (xe_var 1)) (by show BlkOk ["head", "sorts", "sort"] (defScope s_sort_of_form) _ _; exact blkOk_by (by decide +kernel)) (fun sq Hq Cq cq fq => (xg_name 2 sc_sort_of_form.nd)) (fun σ sq Hq Cq cq fq xe tk1 => xts_nil) (fun σ sq Hq Cq cq fq xe tk1 => (xe_eq hu (xe_var 2) (xe_str (y := S6) (by decide +kernel))))) xa_nil)) (xa_cons (xe_str (y := S9) (by decide +kernel)) xa_nil)))) (xss_one (xs_ret (xe_if (xt_in (xe_var 0) (xe_tup (xa_cons (xe_str (y := S28) (by decide +kernel)) (xa_cons (xe_str (y := S27) (by decide +kernel)) xa_nil)))) (xe_str (y := S10) (by decide +kernel)) (xe_str (y := S6) (by decide +kernel))))))) xss_nil) (xss_cons (xs_if (xt_eq hu (xe_var 0) (xe_str (y := S29) (by decide +kernel))) (xss_cons (xs_do (xe_call (n := 2) (F := C 3) (dds := []) tk (ok 3) hr T.g_need_t T.f_need_t.kp T.b_need_t .nil (fun _ => IsL.nil) rfl (xa_cons (xe_eq hu (xe_len rfl T.z_len (xa_cons (xe_var 1) xa_nil)) xe_int) (xa_cons (xe_str (y := S4) (by decide +kernel)) xa_nil)))) (xss_cons (xs_do (xe_call (n := 2) (F := C 3) (dds := []) tk (ok 3) hr T.g_need_t T.f_need_t.kp T.b_need_t .nil (fun _ => IsL.nil) rfl (xa_cons (xe_and (xe_eq hu (xe_item (xe_var 1) xe_int) (xe_item (xe_var 1) xe_int)) (xe_one (xe_not (xe_and (xe_isi (t := "tuple") rfl T.z_isinstance (xe_item (xe_var 1) xe_int) rfl T.z_tuple (by decide +kernel)) (xe_one (xe_eq hu (xe_item (xe_item (xe_var 1) xe_int) xe_int) (xe_str (y := S18) (by decide +kernel)))))))) (xa_cons (xe_str (y := S9) (by decide +kernel)) xa_nil)))) (xss_one (xs_ret (xe_str (y := S10) (by decide +kernel)))))) xss_nil) (xss_cons (xs_if (xt_in (xe_var 0) (xe_tup (xa_cons (xe_str (y := S31) (by decide +kernel)) (xa_cons (xe_str (y := S30) (by decide +kernel)) xa_nil)))) (xss_cons (xs_do (xe_call (n := 2) (F := C 3) (dds := []) tk (ok 3) hr T.g_need_t T.f_need_t.kp T.b_need_t .nil (fun _ => IsL.nil) rfl (xa_cons (xe_eq hu (xe_len rfl T.z_len (xa_cons (xe_var 1) xa_nil)) (xe_if (xt_eq hu (xe_var 0) (xe_str (y := S31) (by decide +kernel))) xe_int xe_int)) (xa_cons (xe_str (y := S4) (by decide +kernel)) xa_nil)))) (xss_cons (xs_do (xe_call (n := 2) (F := C 3) (dds := []) tk (ok 3) hr T.g_need_t T.f_need_t.kp T.b_need_t .nil (fun _ => IsL.nil) rfl (xa_cons (xe_and (xe_isi (t := "tuple") rfl T.z_isinstance (xe_item (xe_var 1) xe_int) rfl T.z_tuple (by decide +kernel)) (xe_one (xe_eq hu (xe_item (xe_item (xe_var 1) xe_int) xe_int) (xe_str (y := S18) (by decide +kernel))))) (xa_cons (xe_str (y := S9) (by decide +kernel)) xa_nil)))) (xss_cons (xs_do (xe_call (n := 2) (F := C 3) (dds := []) tk (ok 3) hr T.g_need_t T.f_need_t.kp T.b_need_t .nil (fun _ => IsL.nil) rfl (xa_cons (xe_eq hu (xe_slice (xe_var 1) (xo_some xe_int) xo_none) (xe_list1 rfl T.z_list (xa_cons (xe_slice (xe_item (xe_var 1) xe_int) (xo_some xe_int) (xo_some (xe_len rfl T.z_len (xa_cons (xe_var 1) xa_nil)))) xa_nil))) (xa_cons (xe_str (y := S9) (by decide +kernel)) xa_nil)))) (xss_one (xs_ret (xe_if (xt_eq hu (xe_var 0) (xe_str (y := S31) (by decide +kernel))) (xe_item (xe_item (xe_var 1) xe_int) xe_int) (xe_item (xe_var 1) xe_int))))))) xss_nil) (xss_cons (xs_if (xt_in (xe_var 0) (xe_tup (xa_cons (xe_str (y := S37) (by decide +kernel)) (xa_cons (xe_str (y := S36) (by decide +kernel)) (xa_cons (xe_str (y := S35) (by decide +kernel)) (xa_cons (xe_str (y := S34) (by decide +kernel)) (xa_cons (xe_str (y := S33) (by decide +kernel)) (xa_cons (xe_str (y := S32) (by decide +kernel)) xa_nil)))))))) (xss_cons (xs_do (xe_call (n := 2) (F := C 3) (dds := []) tk (ok 3) hr T.g_need_t T.f_need_t.kp T.b_need_t .nil (fun _ => IsL.nil) rfl (xa_cons (xe_eq hu (xe_len rfl T.z_len (xa_cons (xe_var 1) xa_nil)) (xe_if (xt_eq hu (xe_var 0) (xe_str (y := S32) (by decide +kernel))) xe_int xe_int)) (xa_cons (xe_str (y := S4) (by decide +kernel)) xa_nil)))) (xss_cons (xs_do (xe_call (n := 2) (F := C 3) (dds := []) tk (ok 3) hr T.g_need_t T.f_need_t.kp T.b_need_t .nil (fun _ => IsL.nil) rfl (xa_cons (xe_all rfl rfl T.z_all (xa_cons (xe_lc (own := [("sort", 2)]) rfl sc_sort_of_form.nd rfl rfl tk (by decide) (xi_seq (xe_var 1)) (by show BlkOk ["head", "sorts", "sort"] (defScope s_sort_of_form) _ _; exact blkOk_by (by decide +kernel)) (fun sq Hq Cq cq fq => (xg_name 2 sc_sort_of_form.nd)) (fun σ sq Hq Cq cq fq xe tk1 => xts_nil) (fun σ sq Hq Cq cq fq xe tk1 => (xe_and (xe_isi (t := "tuple") rfl T.z_isinstance (xe_var 2) rfl T.z_tuple (by decide +kernel)) (xe_and (xe_eq hu (xe_item (xe_var 2) xe_int) (xe_str (y := S7) (by decide +kernel))) (xe_one (xe_eq hu (xe_var 2) (xe_item (xe_var 1) xe_int))))))) xa_nil)) (xa_cons (xe_str (y := S9) (by decide +kernel)) xa_nil)))) (xss_one (xs_ret (xe_if (xt_eq hu (xe_var 0) (xe_str (y := S33) (by decide +kernel))) (xe_str (y := S10) (by decide +kernel)) (xe_item (xe_var 1) xe_int)))))) xss_nil) (xss_one (xs_raise (c := 0) (ns := ["code"]) rfl tk ⟨T.gE0, T.kE0, T.exE0, T.tyE0, T.mkE0⟩ hr hk (xa_cons (xe_str (y := S17) (by decide +kernel)) xa_nil) rfl)))))))
theorem body_row_of (T : Txt w K mg ca ad fd) {C : Nat → List D → Mem → Res D} {k : Nat} (hk : 2 ≤ k) (ok : ∀ j, FnOk PG w K mg base (L2.CX PG w) k (ad j) (fd j) (psn j) (spF K ca (ar j) (C j))) :
    FnOk PG w K mg base (L2.CX PG w) (k + 1) (ad 9) (fd 9) (psn 9) (spF K ca (ar 9) fun ds M => (F_row_of C (startL 4 ds) M).fn) := by
  obtain ⟨⟨oc, od, dV, kV, doc, pm, an, cdv, ct, osl, e, lk, hcd⟩, _⟩ := T.f_row_of
  obtain ⟨t1, h_MOST_WIDTH⟩ := T.c_MOST_WIDTH
  obtain ⟨t2, h_MOST_NUMBER⟩ := T.c_MOST_NUMBER
  obtain ⟨t3, h_MOST_NESTED⟩ := T.c_MOST_NESTED
  obtain ⟨t4, h_LETTERS⟩ := T.c_LETTERS
  have h_FORMS := T.c_FORMS
  obtain ⟨dsd, rvd, hbd⟩ := T.bd_sort_of
  rw [e] at lk ⊢
  refine fn_xs (N := ["gate", "is_true", "name", "factor"]) (ps := ["gate", "is_true"]) lk hcd sc_row_of rfl (fun _ _ => rfl) (fun A outer s H E hr => ?_)
  have hu := hr.units
  have tk : Takes (cxOf (L2.CX PG w) PG w K mg base ["gate", "is_true", "name", "factor"] "row_of" (defScope s_row_of) (ad 9) cdv A outer s H E) (WD E) := takes_of rfl rfl rfl rfl
  unfold F_row_of
  exact (xss_cons (xs_if (xt_val (xe_var 1)) (xss_one (xs_ret (xe_tup (xa_cons (xe_item (xe_var 0) xe_int) (xa_cons (xe_item (xe_var 0) xe_int) xa_nil))))) xss_nil) (xss_one (xs_ret (xe_tup (xa_cons (xe_tuple1 rfl T.z_tuple (xa_cons (xe_lc (own := [("name", 2), ("factor", 3)]) rfl sc_row_of.nd rfl rfl tk (by decide) (xi_seq (xe_item (xe_var 0) xe_int)) (by show BlkOk ["gate", "is_true", "name", "factor"] (defScope s_row_of) _ _; exact blkOk_by (by decide +kernel)) (fun sq Hq Cq cq fq => (xg_tup rfl (xgs_cons (xg_name 2 sc_row_of.nd) (xgs_cons (xg_name 3 sc_row_of.nd) xgs_nil)))) (fun σ sq Hq Cq cq fq xe tk1 => xts_nil) (fun σ sq Hq Cq cq fq xe tk1 => (xe_tup (xa_cons (xe_var 2) (xa_cons (xe_neg (xe_var 3)) xa_nil))))) xa_nil)) (xa_cons (xe_sub (xe_neg (xe_item (xe_var 0) xe_int)) xe_int) xa_nil))))))
theorem body_is_farkas (T : Txt w K mg ca ad fd) {C : Nat → List D → Mem → Res D} {k : Nat} (hk : 2 ≤ k) (ok : ∀ j, FnOk PG w K mg base (L2.CX PG w) k (ad j) (fd j) (psn j) (spF K ca (ar j) (C j))) :
    FnOk PG w K mg base (L2.CX PG w) (k + 1) (ad 10) (fd 10) (psn 10) (spF K ca (ar 10) fun ds M => (F_is_farkas C (startL 12 ds) M).fn) := by
  obtain ⟨⟨oc, od, dV, kV, doc, pm, an, cdv, ct, osl, e, lk, hcd⟩, _⟩ := T.f_is_farkas
  obtain ⟨t1, h_MOST_WIDTH⟩ := T.c_MOST_WIDTH
  obtain ⟨t2, h_MOST_NUMBER⟩ := T.c_MOST_NUMBER
  obtain ⟨t3, h_MOST_NESTED⟩ := T.c_MOST_NESTED
  obtain ⟨t4, h_LETTERS⟩ := T.c_LETTERS
  have h_FORMS := T.c_FORMS
  obtain ⟨dsd, rvd, hbd⟩ := T.bd_sort_of
  rw [e] at lk ⊢
  refine fn_xs (N := ["names", "gates", "factors", "total", "sums", "literal", "size", "sign", "name", "factor", "parts", "number"]) (ps := ["names", "gates", "factors"]) lk hcd sc_is_farkas rfl (fun _ _ => rfl) (fun A outer s H E hr => ?_)
  have hu := hr.units
  have tk : Takes (cxOf (L2.CX PG w) PG w K mg base ["names", "gates", "factors", "total", "sums", "literal", "size", "sign", "name", "factor", "parts", "number"] "is_farkas" (defScope s_is_farkas) (ad 10) cdv A outer s H E) (WD E) := takes_of rfl rfl rfl rfl
  unfold F_is_farkas
  exact (xss_cons (xs_par 3 4 rfl sc_is_farkas.nd xe_int xe_mdic0) (xss_cons (xs_for PassesOwn.leaving rfl (xi_seq (xe_var 2)) (xg_tup rfl (xgs_cons (xg_name 5 sc_is_farkas.nd) (xgs_cons (xg_name 6 sc_is_farkas.nd) xgs_nil))) (xss_cons (xs_if (xt_w (xw_or (xt_not (xt_val (xe_call (n := 1) (F := C 1) (dds := []) tk (ok 1) hr T.g_is_integer T.f_is_integer.kp T.b_is_integer .nil (fun _ => IsL.nil) rfl (xa_cons (xe_var 6) xa_nil)))) (xw_oneOr (xt_le (xe_var 6) xe_int)))) (xss_one (xs_ret xe_bl)) xss_nil) (xss_cons (xs_if (xt_val (xe_isi (t := "tuple") rfl T.z_isinstance (xe_var 5) rfl T.z_tuple (by decide +kernel))) (xss_cons (xs_if (xt_w (xw_or (xt_nin (xe_item (xe_var 5) xe_int) (xe_tup (xa_cons (xe_str (y := S39) (by decide +kernel)) (xa_cons (xe_str (y := S38) (by decide +kernel)) xa_nil)))) (xw_oneOr (xt_ne hu (xe_item (xe_get2 hu (xe_var 0) (xe_item (xe_var 5) xe_int) (xe_tup (xa_cons (xe_str (y := S40) (by decide +kernel)) xa_nil))) xe_int) (xe_str (y := S6) (by decide +kernel)))))) (xss_one (xs_ret xe_bl)) xss_nil) (xss_cons (xs_set 7 sc_is_farkas.nd (xe_if (xt_eq hu (xe_item (xe_var 5) xe_int) (xe_str (y := S38) (by decide +kernel))) xe_int (xe_neg xe_int))) (xss_one (xs_par 10 11 rfl sc_is_farkas.nd (xe_tup (xa_cons (xe_tup (xa_cons (xe_item (xe_var 5) xe_int) (xa_cons (xe_var 7) xa_nil))) xa_nil)) (xe_if (xt_eq hu (xe_var 7) xe_int) (xe_item (xe_ixD hu (xe_var 0) (xe_item (xe_var 5) xe_int)) xe_int) (xe_neg (xe_item (xe_ixD hu (xe_var 0) (xe_item (xe_var 5) xe_int)) xe_int))))))) (xss_one (xs_if (xt_not (xt_val (xe_call (n := 1) (F := C 1) (dds := []) tk (ok 1) hr T.g_is_integer T.f_is_integer.kp T.b_is_integer .nil (fun _ => IsL.nil) rfl (xa_cons (xe_var 5) xa_nil)))) (xss_one (xs_ret xe_bl)) (xss_one (xs_asg (xe_call (n := 2) (F := C 9) (dds := []) tk (ok 9) hr T.g_row_of T.f_row_of.kp T.b_row_of .nil (fun _ => IsL.nil) rfl (xa_cons (xe_item (xe_var 1) (xe_sub (xe_abs rfl T.z_abs (xa_cons (xe_var 5) xa_nil)) xe_int)) (xa_cons (xe_gt (xe_var 5) xe_int) xa_nil))) (xg_tup rfl (xgs_cons (xg_name 10 sc_is_farkas.nd) (xgs_cons (xg_name 11 sc_is_farkas.nd) xgs_nil)))))))) (xss_cons (xs_augI 3 sc_is_farkas.nd ip_add (xe_mul (xe_var 6) (xe_var 11))) (xss_one (xs_for PassesOwn.leaving rfl (xi_seq (xe_var 10)) (xg_tup rfl (xgs_cons (xg_name 8 sc_is_farkas.nd) (xgs_cons (xg_name 9 sc_is_farkas.nd) xgs_nil))) (xss_one (xs_dput hu (xe_var 4) (xe_var 8) (xe_add (xe_get2 hu (xe_var 4) (xe_var 8) xe_int) (xe_mul (xe_var 6) (xe_var 9))))))))))) (xss_one (xs_ret (xe_and (xe_lt (xe_var 3) xe_int) (xe_one (xe_not (xe_anyV rfl rfl T.z_any (xe_var 4)))))))))
theorem body_need_p (T : Txt w K mg ca ad fd) {C : Nat → List D → Mem → Res D} {k : Nat} (hk : 2 ≤ k) (ok : ∀ j, FnOk PG w K mg base (L2.CX PG w) k (ad j) (fd j) (psn j) (spF K ca (ar j) (C j))) :
    FnOk PG w K mg base (L2.CX PG w) (k + 1) (ad 11) (fd 11) (psn 11) (spF K ca (ar 11) fun ds M => (F_need_p C (startL 3 ds) M).fn) := by
  obtain ⟨⟨oc, od, dV, kV, doc, pm, an, cdv, ct, osl, e, lk, hcd⟩, _⟩ := T.f_need_p
  obtain ⟨t1, h_MOST_WIDTH⟩ := T.c_MOST_WIDTH
  obtain ⟨t2, h_MOST_NUMBER⟩ := T.c_MOST_NUMBER
  obtain ⟨t3, h_MOST_NESTED⟩ := T.c_MOST_NESTED
  obtain ⟨t4, h_LETTERS⟩ := T.c_LETTERS
  have h_FORMS := T.c_FORMS
  obtain ⟨dsd, rvd, hbd⟩ := T.bd_sort_of
  rw [e] at lk ⊢
  refine fn_xs (N := ["is_so", "code", "step"]) (ps := ["is_so", "code", "step"]) lk hcd sc_need_p rfl (fun _ _ => rfl) (fun A outer s H E hr => ?_)
  have hu := hr.units
  have tk : Takes (cxOf (L2.CX PG w) PG w K mg base ["is_so", "code", "step"] "need" (defScope s_need_p) (ad 11) cdv A outer s H E) (WD E) := takes_of rfl rfl rfl rfl
  unfold F_need_p
  exact (xss_one (xs_if (xt_not (xt_val (xe_var 0))) (xss_one (xs_raise (c := 1) (ns := ["code", "step"]) rfl tk ⟨T.gE1, T.kE1, T.exE1, T.tyE1, T.mkE1⟩ hr hk (xa_cons (xe_var 1) (xa_cons (xe_var 2) xa_nil)) rfl)) xss_nil))
theorem body_is_gate (T : Txt w K mg ca ad fd) {C : Nat → List D → Mem → Res D} {k : Nat} (hk : 2 ≤ k) (ok : ∀ j, FnOk PG w K mg base (L2.CX PG w) k (ad j) (fd j) (psn j) (spF K ca (ar j) (C j))) :
    FnOk PG w K mg base (L2.CX PG w) (k + 1) (ad 12) (fd 12) (psn 12) (spF K ca (ar 12) fun ds M => (F_is_gate C (startL 8 ds) M).fn) := by
  obtain ⟨⟨oc, od, dV, kV, doc, pm, an, cdv, ct, osl, e, lk, hcd⟩, _⟩ := T.f_is_gate
  obtain ⟨t1, h_MOST_WIDTH⟩ := T.c_MOST_WIDTH
  obtain ⟨t2, h_MOST_NUMBER⟩ := T.c_MOST_NUMBER
  obtain ⟨t3, h_MOST_NESTED⟩ := T.c_MOST_NESTED
  obtain ⟨t4, h_LETTERS⟩ := T.c_LETTERS
  have h_FORMS := T.c_FORMS
  obtain ⟨dsd, rvd, hbd⟩ := T.bd_sort_of
  rw [e] at lk ⊢
  refine fn_xs (N := ["names", "at", "gate", "kind", "head", "rest", "parts", "part"]) (ps := ["names", "at", "gate"]) lk hcd sc_is_gate rfl (fun _ _ => rfl) (fun A outer s H E hr => ?_)
  have hu := hr.units
  have tk : Takes (cxOf (L2.CX PG w) PG w K mg base ["names", "at", "gate", "kind", "head", "rest", "parts", "part"] "is_gate" (defScope s_is_gate) (ad 12) cdv A outer s H E) (WD E) := takes_of rfl rfl rfl rfl
  unfold F_is_gate
  exact (xss_cons (xs_if (xt_w (xw_or (xt_not (xt_val (xe_isi (t := "tuple") rfl T.z_isinstance (xe_var 2) rfl T.z_tuple (by decide +kernel)))) (xw_or (xt_not (xt_chain op_le op_le ok_bl0 ok_bl0 xe_int (xe_len rfl T.z_len (xa_cons (xe_var 2) xa_nil)) xe_int)) (xw_oneOr (xt_not (xt_val (xe_isi (t := "str") rfl T.z_isinstance (xe_item (xe_var 2) xe_int) rfl T.z_str (by decide +kernel)))))))) (xss_one (xs_ret xe_bl)) xss_nil) (xss_cons (xs_par 4 5 rfl sc_is_gate.nd (xe_item (xe_var 2) xe_int) (xe_slice (xe_var 2) (xo_some xe_int) xo_none)) (xss_cons (xs_if (xt_in (xe_var 4) (xe_tup (xa_cons (xe_str (y := S23) (by decide +kernel)) (xa_cons (xe_str (y := S41) (by decide +kernel)) xa_nil)))) (xss_cons (xs_set 6 sc_is_gate.nd (xe_if (xt_eq hu (xe_var 4) (xe_str (y := S23) (by decide +kernel))) (xe_item (xe_var 5) xe_int) (xe_var 5))) (xss_cons (xs_if (xt_w (xw_or (xt_ne hu (xe_len rfl T.z_len (xa_cons (xe_var 5) xa_nil)) (xe_if (xt_eq hu (xe_var 4) (xe_str (y := S23) (by decide +kernel))) xe_int xe_int)) (xw_oneOr (xt_not (xt_val (xe_isi (t := "tuple") rfl T.z_isinstance (xe_var 6) rfl T.z_tuple (by decide +kernel))))))) (xss_one (xs_ret xe_bl)) xss_nil) (xss_one (xs_ret (xe_all rfl rfl T.z_all (xa_cons (xe_lc (own := [("part", 7)]) rfl sc_is_gate.nd rfl rfl tk (by decide) (xi_seq (xe_var 6)) (by show BlkOk ["names", "at", "gate", "kind", "head", "rest", "parts", "part"] (defScope s_is_gate) _ _; exact blkOk_by (by decide +kernel)) (fun sq Hq Cq cq fq => (xg_name 7 sc_is_gate.nd)) (fun σ sq Hq Cq cq fq xe tk1 => xts_nil) (fun σ sq Hq Cq cq fq xe tk1 => (xe_and (xe_call (n := 1) (F := C 1) (dds := []) tk1 (ok 1) hr T.g_is_integer T.f_is_integer.kp T.b_is_integer .nil (fun _ => IsL.nil) rfl (xa_cons (xe_var 7) xa_nil)) (xe_one (xe_chain op_lt op_le ok_bl0 ok_bl0 xe_int (xe_abs rfl T.z_abs (xa_cons (xe_var 7) xa_nil)) (xe_var 1)))))) xa_nil)))))) xss_nil) (xss_cons (xs_if (xt_in (xe_var 4) (xe_tup (xa_cons (xe_str (y := S43) (by decide +kernel)) (xa_cons (xe_str (y := S42) (by decide +kernel)) xa_nil)))) (xss_one (xs_ret (xe_and (xe_eq hu (xe_len rfl T.z_len (xa_cons (xe_var 5) xa_nil)) xe_int) (xe_one (xe_if (xt_eq hu (xe_var 4) (xe_str (y := S43) (by decide +kernel))) (xe_call (n := 2) (F := C 13) (dds := []) tk (ok 13) hr T.g_is_sum T.f_is_sum.kp T.b_is_sum .nil (fun _ => IsL.nil) rfl (xa_cons (xe_var 0) (xa_cons (xe_var 5) xa_nil))) xe_never))))) xss_nil) (xss_cons (xs_if (xt_eq hu (xe_var 4) (xe_str (y := S44) (by decide +kernel))) (xss_one (xs_ret (xe_and (xe_eq hu (xe_len rfl T.z_len (xa_cons (xe_var 5) xa_nil)) xe_int) (xe_and (xe_call (n := 1) (F := C 1) (dds := []) tk (ok 1) hr T.g_is_integer T.f_is_integer.kp T.b_is_integer .nil (fun _ => IsL.nil) rfl (xa_cons (xe_item (xe_var 5) xe_int) xa_nil)) (xe_one (xe_ge (xe_item (xe_var 5) xe_int) xe_int)))))) xss_nil) (xss_cons (xs_set 3 sc_is_gate.nd (xe_if (xt_val (xe_isi (t := "str") rfl T.z_isinstance (xe_item (xe_var 5) xe_int) rfl T.z_str (by decide +kernel))) (xe_get2 hu (xe_var 0) (xe_item (xe_var 5) xe_int) (xe_tup (xa_cons (xe_str (y := S40) (by decide +kernel)) xa_nil))) (xe_tup (xa_cons (xe_str (y := S40) (by decide +kernel)) xa_nil)))) (xss_cons (xs_if (xt_w (xw_and (xt_eq hu (xe_var 4) (xe_str (y := S8) (by decide +kernel))) (xw_and (xt_eq hu (xe_len rfl T.z_len (xa_cons (xe_var 5) xa_nil)) xe_int) (xw_one (xt_eq hu (xe_item (xe_var 3) xe_int) (xe_str (y := S7) (by decide +kernel))))))) (xss_one (xs_ret (xe_and (xe_call (n := 1) (F := C 1) (dds := []) tk (ok 1) hr T.g_is_integer T.f_is_integer.kp T.b_is_integer .nil (fun _ => IsL.nil) rfl (xa_cons (xe_item (xe_var 5) xe_int) xa_nil)) (xe_one (xe_chain op_le op_lt ok_bl0 ok_bl0 xe_int (xe_item (xe_var 5) xe_int) (xe_item (xe_var 3) xe_int)))))) xss_nil) (xss_one (xs_ret (xe_and (xe_eq hu (xe_var 4) (xe_str (y := S10) (by decide +kernel))) (xe_and (xe_eq hu (xe_len rfl T.z_len (xa_cons (xe_var 5) xa_nil)) xe_int) (xe_one (xe_eq hu (xe_item (xe_var 3) xe_int) (xe_str (y := S10) (by decide +kernel)))))))))))))))
theorem body_is_sum (T : Txt w K mg ca ad fd) {C : Nat → List D → Mem → Res D} {k : Nat} (hk : 2 ≤ k) (ok : ∀ j, FnOk PG w K mg base (L2.CX PG w) k (ad j) (fd j) (psn j) (spF K ca (ar j) (C j))) :
    FnOk PG w K mg base (L2.CX PG w) (k + 1) (ad 13) (fd 13) (psn 13) (spF K ca (ar 13) fun ds M => (F_is_sum C (startL 7 ds) M).fn) := by
  obtain ⟨⟨oc, od, dV, kV, doc, pm, an, cdv, ct, osl, e, lk, hcd⟩, _⟩ := T.f_is_sum
  obtain ⟨t1, h_MOST_WIDTH⟩ := T.c_MOST_WIDTH
  obtain ⟨t2, h_MOST_NUMBER⟩ := T.c_MOST_NUMBER
  obtain ⟨t3, h_MOST_NESTED⟩ := T.c_MOST_NESTED
  obtain ⟨t4, h_LETTERS⟩ := T.c_LETTERS
  have h_FORMS := T.c_FORMS
  obtain ⟨dsd, rvd, hbd⟩ := T.bd_sort_of
  rw [e] at lk ⊢
  refine fn_xs (N := ["names", "rest", "part", "parts", "bound", "one", "other"]) (ps := ["names", "rest"]) lk hcd sc_is_sum rfl (fun _ _ => rfl) (fun A outer s H E hr => ?_)
  have hu := hr.units
  have tk : Takes (cxOf (L2.CX PG w) PG w K mg base ["names", "rest", "part", "parts", "bound", "one", "other"] "is_sum" (defScope s_is_sum) (ad 13) cdv A outer s H E) (WD E) := takes_of rfl rfl rfl rfl
  unfold F_is_sum
  exact (xss_cons (xs_asg (xe_var 1) (xg_tup rfl (xgs_cons (xg_name 3 sc_is_sum.nd) (xgs_cons (xg_name 4 sc_is_sum.nd) xgs_nil)))) (xss_cons (xs_if (xt_w (xw_or (xt_not (xt_val (xe_isi (t := "tuple") rfl T.z_isinstance (xe_var 3) rfl T.z_tuple (by decide +kernel)))) (xw_or (xt_not (xt_val (xe_var 3))) (xw_oneOr (xt_not (xt_val (xe_call (n := 1) (F := C 1) (dds := []) tk (ok 1) hr T.g_is_integer T.f_is_integer.kp T.b_is_integer .nil (fun _ => IsL.nil) rfl (xa_cons (xe_var 4) xa_nil)))))))) (xss_one (xs_ret xe_bl)) xss_nil) (xss_cons (xs_for PassesOwn.leaving rfl (xi_seq (xe_var 3)) (xg_name 2 sc_is_sum.nd) (xss_cons (xs_if (xt_w (xw_or (xt_not (xt_val (xe_isi (t := "tuple") rfl T.z_isinstance (xe_var 2) rfl T.z_tuple (by decide +kernel)))) (xw_or (xt_ne hu (xe_len rfl T.z_len (xa_cons (xe_var 2) xa_nil)) xe_int) (xw_or (xt_not (xt_val (xe_isi (t := "str") rfl T.z_isinstance (xe_item (xe_var 2) xe_int) rfl T.z_str (by decide +kernel)))) (xw_oneOr (xt_not (xt_val (xe_call (n := 1) (F := C 1) (dds := []) tk (ok 1) hr T.g_is_integer T.f_is_integer.kp T.b_is_integer .nil (fun _ => IsL.nil) rfl (xa_cons (xe_item (xe_var 2) xe_int) xa_nil))))))))) (xss_one (xs_ret xe_bl)) xss_nil) (xss_one (xs_if (xt_w (xw_or (xt_ne hu (xe_item (xe_get2 hu (xe_var 0) (xe_item (xe_var 2) xe_int) (xe_tup (xa_cons (xe_str (y := S40) (by decide +kernel)) xa_nil))) xe_int) (xe_str (y := S6) (by decide +kernel))) (xw_oneOr (xt_eq hu (xe_item (xe_var 2) xe_int) xe_int)))) (xss_one (xs_ret xe_bl)) xss_nil)))) (xss_one (xs_ret (xe_all rfl rfl T.z_all (xa_cons (xe_lc (own := [("one", 5), ("other", 6)]) rfl sc_is_sum.nd rfl rfl tk (by decide) (xi_zip rfl T.z_zip (xa_cons (xe_var 3) (xa_cons (xe_slice (xe_var 3) (xo_some xe_int) xo_none) xa_nil))) (by show BlkOk ["names", "rest", "part", "parts", "bound", "one", "other"] (defScope s_is_sum) _ _; exact blkOk_by (by decide +kernel)) (fun sq Hq Cq cq fq => (xg_tup rfl (xgs_cons (xg_name 5 sc_is_sum.nd) (xgs_cons (xg_name 6 sc_is_sum.nd) xgs_nil)))) (fun σ sq Hq Cq cq fq xe tk1 => xts_nil) (fun σ sq Hq Cq cq fq xe tk1 => (xe_lts (xe_item (xe_var 5) xe_int) (xe_item (xe_var 6) xe_int)))) xa_nil)))))))
theorem body_check_proof (T : Txt w K mg ca ad fd) {C : Nat → List D → Mem → Res D} {k : Nat} (hk : 2 ≤ k) (ok : ∀ j, FnOk PG w K mg base (L2.CX PG w) k (ad j) (fd j) (psn j) (spF K ca (ar j) (C j))) :
    FnOk PG w K mg base (L2.CX PG w) (k + 1) (ad 14) (fd 14) (psn 14) (spF K ca (ar 14) fun ds M => (F_check_proof C (startL 12 ds) M).fn) := by
  obtain ⟨⟨oc, od, dV, kV, doc, pm, an, cdv, ct, osl, e, lk, hcd⟩, _⟩ := T.f_check_proof
  obtain ⟨t1, h_MOST_WIDTH⟩ := T.c_MOST_WIDTH
  obtain ⟨t2, h_MOST_NUMBER⟩ := T.c_MOST_NUMBER
  obtain ⟨t3, h_MOST_NESTED⟩ := T.c_MOST_NESTED
  obtain ⟨t4, h_LETTERS⟩ := T.c_LETTERS
  have h_FORMS := T.c_FORMS
  obtain ⟨dsd, rvd, hbd⟩ := T.bd_sort_of
  rw [e] at lk ⊢
  refine fn_xs (N := ["names", "asserted", "table", "steps", "goal", "gates", "clauses", "at", "clause", "why", "gate", "each"]) (ps := ["names", "asserted", "table", "steps", "goal"]) lk hcd sc_check_proof rfl (fun _ _ => rfl) (fun A outer s H E hr => ?_)
  have hu := hr.units
  have tk : Takes (cxOf (L2.CX PG w) PG w K mg base ["names", "asserted", "table", "steps", "goal", "gates", "clauses", "at", "clause", "why", "gate", "each"] "check_proof" (defScope s_check_proof) (ad 14) cdv A outer s H E) (WD E) := takes_of rfl rfl rfl rfl
  unfold F_check_proof
  exact (xss_cons (xs_do (xe_call (n := 3) (F := C 11) (dds := []) tk (ok 11) hr T.g_need_p T.f_need_p.kp T.b_need_p .nil (fun _ => IsL.nil) rfl (xa_cons (xe_all rfl rfl T.z_all (xa_cons (xe_lc (own := [("at", 7), ("gate", 10)]) rfl sc_check_proof.nd rfl rfl tk (by decide) (xi_enum rfl T.z_enumerate (xa_cons (xe_var 2) xa_nil)) (by show BlkOk ["names", "asserted", "table", "steps", "goal", "gates", "clauses", "at", "clause", "why", "gate", "each"] (defScope s_check_proof) _ _; exact blkOk_by (by decide +kernel)) (fun sq Hq Cq cq fq => (xg_tup rfl (xgs_cons (xg_name 7 sc_check_proof.nd) (xgs_cons (xg_name 10 sc_check_proof.nd) xgs_nil)))) (fun σ sq Hq Cq cq fq xe tk1 => xts_nil) (fun σ sq Hq Cq cq fq xe tk1 => (xe_call (n := 3) (F := C 12) (dds := []) tk1 (ok 12) hr T.g_is_gate T.f_is_gate.kp T.b_is_gate .nil (fun _ => IsL.nil) rfl (xa_cons (xe_var 0) (xa_cons (xe_var 7) (xa_cons (xe_var 10) xa_nil)))))) xa_nil)) (xa_cons (xe_str (y := S45) (by decide +kernel)) (xa_cons (xe_neg xe_int) xa_nil))))) (xss_cons (xs_set 5 sc_check_proof.nd (xe_make0 T.mk2 (init_ok T) (hr.mono hk) rfl T.gE2 T.bI)) (xss_cons (xs_fput T.cl2 T.na_table (xe_var 5) (xe_list1 rfl T.z_list (xa_cons (xe_var 2) xa_nil))) (xss_cons (xs_fput T.cl2 T.na_numbers (xe_var 5) (xe_dc (own := [("at", 7), ("gate", 10)]) rfl sc_check_proof.nd (by decide) (xi_enum rfl T.z_enumerate (xa_cons (xe_var 2) xa_nil)) (by show BlkOk ["names", "asserted", "table", "steps", "goal", "gates", "clauses", "at", "clause", "why", "gate", "each"] (defScope s_check_proof) _ _; exact blkOk_by (by decide +kernel)) (fun sq Hq Cq cq fq => (xg_tup rfl (xgs_cons (xg_name 7 sc_check_proof.nd) (xgs_cons (xg_name 10 sc_check_proof.nd) xgs_nil)))) (fun sq Hq Cq cq fq => xts_nil) (fun sq Hq Cq cq fq => (xe_call (n := 1) (F := C 0) (dds := []) takes0 (ok 0) hr T.g_shown T.f_shown.kp T.b_shown .nil (fun _ => IsL.nil) rfl (xa_cons (xe_var 10) xa_nil))) (fun sq Hq Cq cq fq => (xe_add (xe_var 7) xe_int)))) (xss_cons (xs_do (xe_call (n := 3) (F := C 11) (dds := []) tk (ok 11) hr T.g_need_p T.f_need_p.kp T.b_need_p .nil (fun _ => IsL.nil) rfl (xa_cons (xe_eq hu (xe_len rfl T.z_len (xa_cons (xe_fld T.cl2 T.na_numbers (xe_var 5)) xa_nil)) (xe_len rfl T.z_len (xa_cons (xe_var 2) xa_nil))) (xa_cons (xe_str (y := S45) (by decide +kernel)) (xa_cons (xe_neg xe_int) xa_nil))))) (xss_cons (xs_set 6 sc_check_proof.nd (xe_mlst xa_nil)) (xss_cons (xs_for PassesOwn.leaving rfl (xi_enum rfl T.z_enumerate (xa_cons (xe_var 3) xa_nil)) (xg_tup rfl (xgs_cons (xg_name 7 sc_check_proof.nd) (xgs_cons (xg_tup rfl (xgs_cons (xg_name 8 sc_check_proof.nd) (xgs_cons (xg_name 9 sc_check_proof.nd) xgs_nil))) xgs_nil))) (xss_cons (xs_do (xe_call (n := 3) (F := C 11) (dds := []) tk (ok 11) hr T.g_need_p T.f_need_p.kp T.b_need_p .nil (fun _ => IsL.nil) rfl (xa_cons (xe_all rfl rfl T.z_all (xa_cons (xe_lc (own := [("each", 11)]) rfl sc_check_proof.nd rfl rfl tk (by decide) (xi_seq (xe_var 8)) (by show BlkOk ["names", "asserted", "table", "steps", "goal", "gates", "clauses", "at", "clause", "why", "gate", "each"] (defScope s_check_proof) _ _; exact blkOk_by (by decide +kernel)) (fun sq Hq Cq cq fq => (xg_name 11 sc_check_proof.nd)) (fun σ sq Hq Cq cq fq xe tk1 => xts_nil) (fun σ sq Hq Cq cq fq xe tk1 => (xe_and (xe_call (n := 1) (F := C 1) (dds := []) tk1 (ok 1) hr T.g_is_integer T.f_is_integer.kp T.b_is_integer .nil (fun _ => IsL.nil) rfl (xa_cons (xe_var 11) xa_nil)) (xe_one (xe_chain op_lt op_le ok_bl0 ok_bl0 xe_int (xe_abs rfl T.z_abs (xa_cons (xe_var 11) xa_nil)) (xe_len rfl T.z_len (xa_cons (xe_var 2) xa_nil))))))) xa_nil)) (xa_cons (xe_str (y := S46) (by decide +kernel)) (xa_cons (xe_var 7) xa_nil))))) (xss_cons (xs_do (xe_call (n := 3) (F := C 11) (dds := []) tk (ok 11) hr T.g_need_p T.f_need_p.kp T.b_need_p .nil (fun _ => IsL.nil) rfl (xa_cons (xe_call (n := 6) (F := C 15) (dds := []) tk (ok 15) hr T.g_holds T.f_holds.kp T.b_holds .nil (fun _ => IsL.nil) rfl (xa_cons (xe_var 0) (xa_cons (xe_var 1) (xa_cons (xe_var 5) (xa_cons (xe_var 6) (xa_cons (xe_var 8) (xa_cons (xe_var 9) xa_nil))))))) (xa_cons (xe_item (xe_var 9) xe_int) (xa_cons (xe_var 7) xa_nil))))) (xss_one (xs_do (xe_app (xe_var 6) (xe_var 8))))))) (xss_cons (xs_do (xe_call (n := 3) (F := C 11) (dds := []) tk (ok 11) hr T.g_need_p T.f_need_p.kp T.b_need_p .nil (fun _ => IsL.nil) rfl (xa_cons (xe_any rfl rfl T.z_any (xa_cons (xe_lc (own := [("clause", 8)]) rfl sc_check_proof.nd rfl rfl tk (by decide) (xi_seq (xe_var 6)) (by show BlkOk ["names", "asserted", "table", "steps", "goal", "gates", "clauses", "at", "clause", "why", "gate", "each"] (defScope s_check_proof) _ _; exact blkOk_by (by decide +kernel)) (fun sq Hq Cq cq fq => (xg_name 8 sc_check_proof.nd)) (fun σ sq Hq Cq cq fq xe tk1 => xts_nil) (fun σ sq Hq Cq cq fq xe tk1 => (xe_all rfl rfl T.z_all (xa_cons (xe_lc0 (own := [("each", 11)]) rfl sc_check_proof.nd (by decide) (xi_seq (xe_var 8)) (by show BlkOk ["names", "asserted", "table", "steps", "goal", "gates", "clauses", "at", "clause", "why", "gate", "each"] (relS _ (defScope s_check_proof)) _ _; exact blkOk_by (by decide +kernel)) (fun sq Hq Cq cq fq => (xg_name 11 sc_check_proof.nd)) (fun sq Hq Cq cq fq => xts_nil) (fun sq Hq Cq cq fq => (xe_in (xe_var 11) (xe_var 4)))) xa_nil)))) xa_nil)) (xa_cons (xe_str (y := S47) (by decide +kernel)) (xa_cons (xe_len rfl T.z_len (xa_cons (xe_var 3) xa_nil)) xa_nil))))) (xss_one (xs_ret xe_bl))))))))))
theorem body_holds (T : Txt w K mg ca ad fd) {C : Nat → List D → Mem → Res D} {k : Nat} (hk : 2 ≤ k) (ok : ∀ j, FnOk PG w K mg base (L2.CX PG w) k (ad j) (fd j) (psn j) (spF K ca (ar j) (C j))) :
    FnOk PG w K mg base (L2.CX PG w) (k + 1) (ad 15) (fd 15) (psn 15) (spF K ca (ar 15) fun ds M => (F_holds C (startL 20 ds) M).fn) := by
  obtain ⟨⟨oc, od, dV, kV, doc, pm, an, cdv, ct, osl, e, lk, hcd⟩, _⟩ := T.f_holds
  obtain ⟨t1, h_MOST_WIDTH⟩ := T.c_MOST_WIDTH
  obtain ⟨t2, h_MOST_NUMBER⟩ := T.c_MOST_NUMBER
  obtain ⟨t3, h_MOST_NESTED⟩ := T.c_MOST_NESTED
  obtain ⟨t4, h_LETTERS⟩ := T.c_LETTERS
  have h_FORMS := T.c_FORMS
  obtain ⟨dsd, rvd, hbd⟩ := T.bd_sort_of
  rw [e] at lk ⊢
  refine fn_xs (N := ["names", "asserted", "gates", "clauses", "clause", "why", "number", "told", "size", "literal", "used", "rows", "goals", "selector", "formula", "each", "row", "one", "other", "factor"]) (ps := ["names", "asserted", "gates", "clauses", "clause", "why"]) lk hcd sc_holds rfl (fun _ _ => rfl) (fun A outer s H E hr => ?_)
  have hu := hr.units
  have tk : Takes (cxOf (L2.CX PG w) PG w K mg base ["names", "asserted", "gates", "clauses", "clause", "why", "number", "told", "size", "literal", "used", "rows", "goals", "selector", "formula", "each", "row", "one", "other", "factor"] "holds" (defScope s_holds) (ad 15) cdv A outer s H E) (WD E) := takes_of rfl rfl rfl rfl
  unfold F_holds
  exact (xss_cons (xs_if (xt_eq hu (xe_item (xe_var 5) xe_int) (xe_str (y := S48) (by decide +kernel))) xss_never xss_nil) (xss_cons (xs_if (xt_eq hu (xe_item (xe_var 5) xe_int) (xe_str (y := S49) (by decide +kernel))) xss_never xss_nil) (xss_cons (xs_if (xt_eq hu (xe_item (xe_var 5) xe_int) (xe_str (y := S50) (by decide +kernel))) xss_never xss_nil) (xss_cons (xs_if (xt_eq hu (xe_item (xe_var 5) xe_int) (xe_str (y := S51) (by decide +kernel))) (xss_cons (xs_setLc (own := [("literal", 9), ("size", 8)]) 10 rfl sc_holds.nd rfl rfl tk (by decide) (xi_seq (xe_item (xe_var 5) xe_int)) (by show BlkOk ["names", "asserted", "gates", "clauses", "clause", "why", "number", "told", "size", "literal", "used", "rows", "goals", "selector", "formula", "each", "row", "one", "other", "factor"] (defScope s_holds) _ _; exact blkOk_by (by decide +kernel)) (fun sq Hq Cq cq fq => (xg_tup rfl (xgs_cons (xg_name 9 sc_holds.nd) (xgs_cons (xg_name 8 sc_holds.nd) xgs_nil)))) (fun σ sq Hq Cq cq fq xe tk1 => (xts_one (xt_val (xe_call (n := 1) (F := C 1) (dds := []) tk1 (ok 1) hr T.g_is_integer T.f_is_integer.kp T.b_is_integer .nil (fun _ => IsL.nil) rfl (xa_cons (xe_var 9) xa_nil))))) (fun σ sq Hq Cq cq fq xe tk1 => (xe_var 9))) (xss_cons (xs_if (xt_not (xt_val (xe_all rfl rfl T.z_all (xa_cons (xe_lc (own := [("literal", 9)]) rfl sc_holds.nd rfl rfl tk (by decide) (xi_seq (xe_var 10)) (by show BlkOk ["names", "asserted", "gates", "clauses", "clause", "why", "number", "told", "size", "literal", "used", "rows", "goals", "selector", "formula", "each", "row", "one", "other", "factor"] (defScope s_holds) _ _; exact blkOk_by (by decide +kernel)) (fun sq Hq Cq cq fq => (xg_name 9 sc_holds.nd)) (fun σ sq Hq Cq cq fq xe tk1 => xts_nil) (fun σ sq Hq Cq cq fq xe tk1 => (xe_in (xe_neg (xe_var 9)) (xe_var 4)))) xa_nil)))) (xss_one (xs_ret xe_bl)) xss_nil) (xss_cons (xs_if (xt_not (xt_val (xe_all rfl rfl T.z_all (xa_cons (xe_lc (own := [("literal", 9)]) rfl sc_holds.nd rfl rfl tk (by decide) (xi_seq (xe_var 10)) (by show BlkOk ["names", "asserted", "gates", "clauses", "clause", "why", "number", "told", "size", "literal", "used", "rows", "goals", "selector", "formula", "each", "row", "one", "other", "factor"] (defScope s_holds) _ _; exact blkOk_by (by decide +kernel)) (fun sq Hq Cq cq fq => (xg_name 9 sc_holds.nd)) (fun σ sq Hq Cq cq fq xe tk1 => xts_nil) (fun σ sq Hq Cq cq fq xe tk1 => (xe_eq hu (xe_item (xe_item (xe_fld T.cl2 T.na_table (xe_var 2)) (xe_sub (xe_abs rfl T.z_abs (xa_cons (xe_var 9) xa_nil)) xe_int)) xe_int) (xe_str (y := S43) (by decide +kernel))))) xa_nil)))) (xss_one (xs_ret xe_bl)) xss_nil) (xss_one (xs_ret (xe_call (n := 3) (F := C 10) (dds := []) tk (ok 10) hr T.g_is_farkas T.f_is_farkas.kp T.b_is_farkas .nil (fun _ => IsL.nil) rfl (xa_cons (xe_var 0) (xa_cons (xe_fld T.cl2 T.na_table (xe_var 2)) (xa_cons (xe_item (xe_var 5) xe_int) xa_nil))))))))) xss_nil) (xss_cons (xs_if (xt_eq hu (xe_item (xe_var 5) xe_int) (xe_str (y := S52) (by decide +kernel))) xss_never xss_nil) (xss_cons (xs_if (xt_eq hu (xe_item (xe_var 5) xe_int) (xe_str (y := S53) (by decide +kernel))) xss_never xss_nil) (xss_cons (xs_if (xt_in (xe_item (xe_var 5) xe_int) (xe_tup (xa_cons (xe_str (y := S30) (by decide +kernel)) (xa_cons (xe_str (y := S54) (by decide +kernel)) xa_nil)))) xss_never xss_nil) (xss_one (xs_ret xe_bl)))))))))
theorem body_l_begin (T : Txt w K mg ca ad fd) {C : Nat → List D → Mem → Res D} {k : Nat} (hk : 2 ≤ k) (ok : ∀ j, FnOk PG w K mg base (L2.CX PG w) k (ad j) (fd j) (psn j) (spF K ca (ar j) (C j))) :
    FnOk PG w K mg base (L2.CX PG w) (k + 1) (ad 16) (fd 16) (psn 16) (spF K ca (ar 16) fun ds M => (F_l_begin C (startL 3 ds) M).fn) := by
  obtain ⟨⟨oc, od, dV, kV, doc, pm, an, cdv, ct, osl, e, lk, hcd⟩, _⟩ := T.f_l_begin
  obtain ⟨t1, h_MOST_WIDTH⟩ := T.c_MOST_WIDTH
  obtain ⟨t2, h_MOST_NUMBER⟩ := T.c_MOST_NUMBER
  obtain ⟨t3, h_MOST_NESTED⟩ := T.c_MOST_NESTED
  obtain ⟨t4, h_LETTERS⟩ := T.c_LETTERS
  have h_FORMS := T.c_FORMS
  obtain ⟨dsd, rvd, hbd⟩ := T.bd_sort_of
  rw [e] at lk ⊢
  refine fn_xs (N := ["script", "seed", "cell"]) (ps := ["script"]) lk hcd sc_l_begin rfl (fun _ _ => rfl) (fun A outer s H E hr => ?_)
  have hu := hr.units
  have tk : Takes (cxOf (L2.CX PG w) PG w K mg base ["script", "seed", "cell"] "_law_begin" (defScope s_l_begin) (ad 16) cdv A outer s H E) (WD E) := takes_of rfl rfl rfl rfl
  unfold F_l_begin
  exact (xss_cons (xs_set 1 sc_l_begin.nd xe_int) (xss_cons (xs_for PassesOwn.leaving rfl (xi_seq (xe_var 0)) (xg_name 2 sc_l_begin.nd) (xss_one (xs_set 1 sc_l_begin.nd (xe_mod (xe_add (xe_add (xe_mul (xe_var 1) xe_int) (xe_mod (xe_int1 rfl T.z_int (xa_cons (xe_var 2) xa_nil)) xe_int)) xe_int) xe_int)))) (xss_one (xs_ret (xe_mlst (xa_cons (xe_list1 rfl T.z_list (xa_cons (xe_var 0) xa_nil)) (xa_cons xe_int (xa_cons xe_int (xa_cons (xe_var 1) xa_nil)))))))))
theorem body_l_take (T : Txt w K mg ca ad fd) {C : Nat → List D → Mem → Res D} {k : Nat} (hk : 2 ≤ k) (ok : ∀ j, FnOk PG w K mg base (L2.CX PG w) k (ad j) (fd j) (psn j) (spF K ca (ar j) (C j))) :
    FnOk PG w K mg base (L2.CX PG w) (k + 1) (ad 17) (fd 17) (psn 17) (spF K ca (ar 17) fun ds M => (F_l_take C (startL 4 ds) M).fn) := by
  obtain ⟨⟨oc, od, dV, kV, doc, pm, an, cdv, ct, osl, e, lk, hcd⟩, _⟩ := T.f_l_take
  obtain ⟨t1, h_MOST_WIDTH⟩ := T.c_MOST_WIDTH
  obtain ⟨t2, h_MOST_NUMBER⟩ := T.c_MOST_NUMBER
  obtain ⟨t3, h_MOST_NESTED⟩ := T.c_MOST_NESTED
  obtain ⟨t4, h_LETTERS⟩ := T.c_LETTERS
  have h_FORMS := T.c_FORMS
  obtain ⟨dsd, rvd, hbd⟩ := T.bd_sort_of
  rw [e] at lk ⊢
  refine fn_xs (N := ["d", "many", "digit", "small"]) (ps := ["d", "many"]) lk hcd sc_l_take rfl (fun _ _ => rfl) (fun A outer s H E hr => ?_)
  have hu := hr.units
  have tk : Takes (cxOf (L2.CX PG w) PG w K mg base ["d", "many", "digit", "small"] "_law_take" (defScope s_l_take) (ad 17) cdv A outer s H E) (WD E) := takes_of rfl rfl rfl rfl
  unfold F_l_take
  exact (xss_cons (xs_if (xt_w (xw_and (xt_eq hu (xe_item (xe_var 0) xe_int) xe_int) (xw_one (xt_lt (xe_item (xe_var 0) xe_int) (xe_len rfl T.z_len (xa_cons (xe_item (xe_var 0) xe_int) xa_nil)))))) (xss_cons (xs_sub (xe_var 0) xe_int (xe_abs rfl T.z_abs (xa_cons (xe_int1 rfl T.z_int (xa_cons (xe_item (xe_item (xe_var 0) xe_int) (xe_item (xe_var 0) xe_int)) xa_nil)) xa_nil))) (xss_cons (xs_sub (xe_var 0) xe_int (xe_add (xe_item (xe_var 0) xe_int) xe_int)) (xss_one (xs_if (xt_lt (xe_item (xe_var 0) xe_int) (xe_pow xe_int xe_int)) (xss_cons (xs_set 3 sc_l_take.nd (xe_int1 rfl T.z_int (xa_cons (xe_item (xe_var 0) xe_int) xa_nil))) (xss_cons (xs_sub (xe_var 0) xe_int xe_int) (xss_one (xs_ret (xe_mod (xe_var 3) (xe_var 1)))))) xss_nil)))) xss_nil) (xss_cons (xs_if (xt_gt (xe_item (xe_var 0) xe_int) xe_int) (xss_cons (xs_set 2 sc_l_take.nd (xe_mod (xe_int1 rfl T.z_int (xa_cons (xe_item (xe_var 0) xe_int) xa_nil)) (xe_var 1))) (xss_cons (xs_sub (xe_var 0) xe_int (xe_fdiv (xe_int1 rfl T.z_int (xa_cons (xe_item (xe_var 0) xe_int) xa_nil)) (xe_var 1))) (xss_one (xs_ret (xe_var 2))))) xss_nil) (xss_cons (xs_sub (xe_var 0) xe_int (xe_mod (xe_int1 rfl T.z_int (xa_cons (xe_add (xe_mul (xe_item (xe_var 0) xe_int) xe_int) xe_int) xa_nil)) xe_int)) (xss_one (xs_ret (xe_mod (xe_int1 rfl T.z_int (xa_cons (xe_fdiv (xe_item (xe_var 0) xe_int) xe_int) xa_nil)) (xe_var 1)))))))
theorem body_l_pick (T : Txt w K mg ca ad fd) {C : Nat → List D → Mem → Res D} {k : Nat} (hk : 2 ≤ k) (ok : ∀ j, FnOk PG w K mg base (L2.CX PG w) k (ad j) (fd j) (psn j) (spF K ca (ar j) (C j))) :
    FnOk PG w K mg base (L2.CX PG w) (k + 1) (ad 18) (fd 18) (psn 18) (spF K ca (ar 18) fun ds M => (F_l_pick C (startL 2 ds) M).fn) := by
  obtain ⟨⟨oc, od, dV, kV, doc, pm, an, cdv, ct, osl, e, lk, hcd⟩, _⟩ := T.f_l_pick
  obtain ⟨t1, h_MOST_WIDTH⟩ := T.c_MOST_WIDTH
  obtain ⟨t2, h_MOST_NUMBER⟩ := T.c_MOST_NUMBER
  obtain ⟨t3, h_MOST_NESTED⟩ := T.c_MOST_NESTED
  obtain ⟨t4, h_LETTERS⟩ := T.c_LETTERS
  have h_FORMS := T.c_FORMS
  obtain ⟨dsd, rvd, hbd⟩ := T.bd_sort_of
  rw [e] at lk ⊢
  refine fn_xs (N := ["d", "menu"]) (ps := ["d", "menu"]) lk hcd sc_l_pick rfl (fun _ _ => rfl) (fun A outer s H E hr => ?_)
  have hu := hr.units
  have tk : Takes (cxOf (L2.CX PG w) PG w K mg base ["d", "menu"] "_law_pick" (defScope s_l_pick) (ad 18) cdv A outer s H E) (WD E) := takes_of rfl rfl rfl rfl
  unfold F_l_pick
  exact (xss_one (xs_ret (xe_item (xe_var 1) (xe_call (n := 2) (F := C 17) (dds := []) tk (ok 17) hr T.g_l_take T.f_l_take.kp T.b_l_take .nil (fun _ => IsL.nil) rfl (xa_cons (xe_var 0) (xa_cons (xe_len rfl T.z_len (xa_cons (xe_var 1) xa_nil)) xa_nil))))))
theorem body_l_code (T : Txt w K mg ca ad fd) {C : Nat → List D → Mem → Res D} {k : Nat} (hk : 2 ≤ k) (ok : ∀ j, FnOk PG w K mg base (L2.CX PG w) k (ad j) (fd j) (psn j) (spF K ca (ar j) (C j))) :
    FnOk PG w K mg base (L2.CX PG w) (k + 1) (ad 19) (fd 19) (psn 19) (spF K ca (ar 19) fun ds M => (F_l_code C (startL 3 ds) M).fn) := by
  obtain ⟨⟨oc, od, dV, kV, doc, pm, an, cdv, ct, osl, e, lk, hcd⟩, _⟩ := T.f_l_code
  obtain ⟨t1, h_MOST_WIDTH⟩ := T.c_MOST_WIDTH
  obtain ⟨t2, h_MOST_NUMBER⟩ := T.c_MOST_NUMBER
  obtain ⟨t3, h_MOST_NESTED⟩ := T.c_MOST_NESTED
  obtain ⟨t4, h_LETTERS⟩ := T.c_LETTERS
  have h_FORMS := T.c_FORMS
  obtain ⟨dsd, rvd, hbd⟩ := T.bd_sort_of
  rw [e] at lk ⊢
  refine fn_xs (N := ["names", "term", "e"]) (ps := ["names", "term"]) lk hcd sc_l_code rfl (fun _ _ => rfl) (fun A outer s H E hr => ?_)
  have hu := hr.units
  have tk : Takes (cxOf (L2.CX PG w) PG w K mg base ["names", "term", "e"] "_law_code" (defScope s_l_code) (ad 19) cdv A outer s H E) (WD E) := takes_of rfl rfl rfl rfl
  unfold F_l_code
  exact (xss_one (xs_try (isc := isc0) (hx := (hxA S55 "code")) 2 rfl rfl sc_l_code.nd rfl rfl ⟨rfl, by decide, Or.inl T.gE0⟩ tk (isc0_ok T) (fun W pn xe tkt hp => (xss_one (xs_ret (xe_call (n := 3) (F := C 4) (dds := [.int 0]) tkt (ok 4) hr T.g_sort_of T.f_sort_of.kp hbd rvd (fun _ => IsL.cons (by simp only [Is]) IsL.nil) rfl (xa_cons (xe_var 0) (xa_cons (xe_var 1) xa_nil)))))) (fun a oe cls d pn hz hd => pe_sadd 2 T.xf0 T.noc0 hz hd (x := S55) (by decide +kernel)) (suite_add (isc0_at T))))
theorem body_l_int (T : Txt w K mg ca ad fd) {C : Nat → List D → Mem → Res D} {k : Nat} (hk : 2 ≤ k) (ok : ∀ j, FnOk PG w K mg base (L2.CX PG w) k (ad j) (fd j) (psn j) (spF K ca (ar j) (C j))) :
    FnOk PG w K mg base (L2.CX PG w) (k + 1) (ad 20) (fd 20) (psn 20) (spF K ca (ar 20) fun ds M => (F_l_int C (startL 1 ds) M).fn) := by
  obtain ⟨⟨oc, od, dV, kV, doc, pm, an, cdv, ct, osl, e, lk, hcd⟩, _⟩ := T.f_l_int
  obtain ⟨t1, h_MOST_WIDTH⟩ := T.c_MOST_WIDTH
  obtain ⟨t2, h_MOST_NUMBER⟩ := T.c_MOST_NUMBER
  obtain ⟨t3, h_MOST_NESTED⟩ := T.c_MOST_NESTED
  obtain ⟨t4, h_LETTERS⟩ := T.c_LETTERS
  have h_FORMS := T.c_FORMS
  obtain ⟨dsd, rvd, hbd⟩ := T.bd_sort_of
  rw [e] at lk ⊢
  refine fn_xs (N := ["x"]) (ps := ["x"]) lk hcd sc_l_int rfl (fun _ _ => rfl) (fun A outer s H E hr => ?_)
  have hu := hr.units
  have tk : Takes (cxOf (L2.CX PG w) PG w K mg base ["x"] "_law_int" (defScope s_l_int) (ad 20) cdv A outer s H E) (WD E) := takes_of rfl rfl rfl rfl
  unfold F_l_int
  exact (xss_one (xs_ret (xe_and (xe_isi (t := "int") rfl T.z_isinstance (xe_var 0) rfl T.z_int (by decide +kernel)) (xe_one (xe_not (xe_isi (t := "bool") rfl T.z_isinstance (xe_var 0) rfl T.z_bool (by decide +kernel)))))))
theorem body_l_part (T : Txt w K mg ca ad fd) {C : Nat → List D → Mem → Res D} {k : Nat} (hk : 2 ≤ k) (ok : ∀ j, FnOk PG w K mg base (L2.CX PG w) k (ad j) (fd j) (psn j) (spF K ca (ar j) (C j))) :
    FnOk PG w K mg base (L2.CX PG w) (k + 1) (ad 21) (fd 21) (psn 21) (spF K ca (ar 21) fun ds M => (F_l_part C (startL 1 ds) M).fn) := by
  obtain ⟨⟨oc, od, dV, kV, doc, pm, an, cdv, ct, osl, e, lk, hcd⟩, _⟩ := T.f_l_part
  obtain ⟨t1, h_MOST_WIDTH⟩ := T.c_MOST_WIDTH
  obtain ⟨t2, h_MOST_NUMBER⟩ := T.c_MOST_NUMBER
  obtain ⟨t3, h_MOST_NESTED⟩ := T.c_MOST_NESTED
  obtain ⟨t4, h_LETTERS⟩ := T.c_LETTERS
  have h_FORMS := T.c_FORMS
  obtain ⟨dsd, rvd, hbd⟩ := T.bd_sort_of
  rw [e] at lk ⊢
  refine fn_xs (N := ["d"]) (ps := ["d"]) lk hcd sc_l_part rfl (fun _ _ => rfl) (fun A outer s H E hr => ?_)
  have hu := hr.units
  have tk : Takes (cxOf (L2.CX PG w) PG w K mg base ["d"] "_law_part" (defScope s_l_part) (ad 21) cdv A outer s H E) (WD E) := takes_of rfl rfl rfl rfl
  unfold F_l_part
  exact (xss_one (xs_ret (xe_call (n := 2) (F := C 18) (dds := []) tk (ok 18) hr T.g_l_pick T.f_l_pick.kp T.b_l_pick .nil (fun _ => IsL.nil) rfl (xa_cons (xe_var 0) (xa_cons (xe_lst (xa_cons (xe_tup (xa_cons (xe_str (y := S62) (by decide +kernel)) (xa_cons (xe_str (y := S6) (by decide +kernel)) xa_nil))) (xa_cons (xe_tup (xa_cons (xe_str (y := S61) (by decide +kernel)) (xa_cons (xe_str (y := S10) (by decide +kernel)) xa_nil))) (xa_cons (xe_tup (xa_cons (xe_str (y := S60) (by decide +kernel)) (xa_cons (xe_tup (xa_cons (xe_str (y := S7) (by decide +kernel)) (xa_cons xe_int xa_nil))) xa_nil))) (xa_cons (xe_tup (xa_cons xe_int (xa_cons (xe_str (y := S6) (by decide +kernel)) xa_nil))) (xa_cons (xe_tup (xa_cons xe_int (xa_cons (xe_str (y := S59) (by decide +kernel)) xa_nil))) (xa_cons (xe_tup (xa_cons (xe_tup (xa_cons (xe_str (y := S58) (by decide +kernel)) xa_nil)) (xa_cons (xe_str (y := S56) (by decide +kernel)) xa_nil))) (xa_cons (xe_tup (xa_cons (xe_str (y := S57) (by decide +kernel)) (xa_cons (xe_str (y := S56) (by decide +kernel)) xa_nil))) xa_nil)))))))) xa_nil)))))
theorem body_l_terms (T : Txt w K mg ca ad fd) {C : Nat → List D → Mem → Res D} {k : Nat} (hk : 2 ≤ k) (ok : ∀ j, FnOk PG w K mg base (L2.CX PG w) k (ad j) (fd j) (psn j) (spF K ca (ar j) (C j))) :
    FnOk PG w K mg base (L2.CX PG w) (k + 1) (ad 22) (fd 22) (psn 22) (spF K ca (ar 22) fun ds M => (F_l_terms C (startL 18 ds) M).fn) := by
  obtain ⟨⟨oc, od, dV, kV, doc, pm, an, cdv, ct, osl, e, lk, hcd⟩, _⟩ := T.f_l_terms
  obtain ⟨t1, h_MOST_WIDTH⟩ := T.c_MOST_WIDTH
  obtain ⟨t2, h_MOST_NUMBER⟩ := T.c_MOST_NUMBER
  obtain ⟨t3, h_MOST_NESTED⟩ := T.c_MOST_NESTED
  obtain ⟨t4, h_LETTERS⟩ := T.c_LETTERS
  have h_FORMS := T.c_FORMS
  obtain ⟨dsd, rvd, hbd⟩ := T.bd_sort_of
  rw [e] at lk ⊢
  refine fn_xs (N := ["d", "names", "k", "is_wrong", "due", "is_range", "head", "width", "value", "size", "late", "part", "sort", "other", "second", "low", "high", "x"]) (ps := ["d"]) lk hcd sc_l_terms rfl (fun _ _ => rfl) (fun A outer s H E hr => ?_)
  have hu := hr.units
  have tk : Takes (cxOf (L2.CX PG w) PG w K mg base ["d", "names", "k", "is_wrong", "due", "is_range", "head", "width", "value", "size", "late", "part", "sort", "other", "second", "low", "high", "x"] "_law_terms_right" (defScope s_l_terms) (ad 22) cdv A outer s H E) (WD E) := takes_of rfl rfl rfl rfl
  unfold F_l_terms
  exact (xss_cons (xs_set 1 sc_l_terms.nd (xe_disp (xp_cons (xe_str (y := S62) (by decide +kernel)) (xe_tup (xa_cons (xe_str (y := S6) (by decide +kernel)) (xa_cons xe_int (xa_cons xe_int xa_nil)))) (xp_cons (xe_str (y := S61) (by decide +kernel)) (xe_tup (xa_cons (xe_str (y := S10) (by decide +kernel)) xa_nil)) (xp_cons (xe_str (y := S60) (by decide +kernel)) (xe_tup (xa_cons (xe_str (y := S7) (by decide +kernel)) (xa_cons xe_int xa_nil))) xp_nil))))) (xss_cons (xs_asg (xe_call (n := 1) (F := C 21) (dds := []) tk (ok 21) hr T.g_l_part T.f_l_part.kp T.b_l_part .nil (fun _ => IsL.nil) rfl (xa_cons (xe_var 0) xa_nil)) (xg_tup rfl (xgs_cons (xg_name 11 sc_l_terms.nd) (xgs_cons (xg_name 12 sc_l_terms.nd) xgs_nil)))) (xss_cons (xs_asg (xe_call (n := 1) (F := C 21) (dds := []) tk (ok 21) hr T.g_l_part T.f_l_part.kp T.b_l_part .nil (fun _ => IsL.nil) rfl (xa_cons (xe_var 0) xa_nil)) (xg_tup rfl (xgs_cons (xg_name 13 sc_l_terms.nd) (xgs_cons (xg_name 14 sc_l_terms.nd) xgs_nil)))) (xss_cons (xs_set 2 sc_l_terms.nd (xe_call (n := 2) (F := C 18) (dds := []) tk (ok 18) hr T.g_l_pick T.f_l_pick.kp T.b_l_pick .nil (fun _ => IsL.nil) rfl (xa_cons (xe_var 0) (xa_cons (xe_lst (xa_cons xe_int (xa_cons xe_int (xa_cons xe_int (xa_cons xe_int (xa_cons (xe_sub xe_int xe_int) (xa_cons (xe_sub xe_int xe_int) (xa_cons xe_int (xa_cons (xe_str (y := S62) (by decide +kernel)) (xa_cons (xe_str (y := S57) (by decide +kernel)) (xa_cons xe_bl (xa_cons (xe_tup (xa_cons (xe_str (y := S58) (by decide +kernel)) xa_nil)) xa_nil)))))))))))) xa_nil)))) (xss_cons (xs_set 3 sc_l_terms.nd (xe_and (xe_isi (t := "str") rfl T.z_isinstance (xe_var 12) rfl T.z_str (by decide +kernel)) (xe_one (xe_eq hu (xe_sliceS (xe_var 12) xo_none (xo_some xe_int)) (xe_str (y := S63) (by decide +kernel)))))) (xss_cons (xs_set 4 sc_l_terms.nd (xe_if (xt_w (xw_or (xt_not (xt_val (xe_call (n := 1) (F := C 20) (dds := []) tk (ok 20) hr T.g_l_int T.f_l_int.kp T.b_l_int .nil (fun _ => IsL.nil) rfl (xa_cons (xe_var 2) xa_nil)))) (xw_oneOr (xt_gt (xe_abs rfl T.z_abs (xa_cons (xe_var 2) xa_nil)) xe_int)))) (xe_str (y := S64) (by decide +kernel)) (xe_if (xt_val (xe_var 3)) (xe_var 12) (xe_if (xt_eq hu (xe_var 12) (xe_str (y := S6) (by decide +kernel))) (xe_str (y := S6) (by decide +kernel)) (xe_str (y := S65) (by decide +kernel)))))) (xss_cons (xs_if (xt_w (xw_or (xt_ne hu (xe_call (n := 2) (F := C 19) (dds := []) tk (ok 19) hr T.g_l_code T.f_l_code.kp T.b_l_code .nil (fun _ => IsL.nil) rfl (xa_cons (xe_var 1) (xa_cons (xe_tup (xa_cons (xe_str (y := S11) (by decide +kernel)) (xa_cons (xe_var 2) (xa_cons (xe_var 11) xa_nil)))) xa_nil))) (xe_var 4)) (xw_or (xt_ne hu (xe_call (n := 2) (F := C 19) (dds := []) tk (ok 19) hr T.g_l_code T.f_l_code.kp T.b_l_code .nil (fun _ => IsL.nil) rfl (xa_cons (xe_var 1) (xa_cons (xe_tup (xa_cons (xe_str (y := S11) (by decide +kernel)) (xa_cons (xe_var 2) (xa_cons (xe_var 11) (xa_cons xe_int xa_nil))))) xa_nil))) (xe_str (y := S64) (by decide +kernel))) (xw_oneOr (xt_ne hu (xe_call (n := 2) (F := C 19) (dds := []) tk (ok 19) hr T.g_l_code T.f_l_code.kp T.b_l_code .nil (fun _ => IsL.nil) rfl (xa_cons (xe_var 1) (xa_cons (xe_tup (xa_cons (xe_str (y := S11) (by decide +kernel)) (xa_cons (xe_var 11) xa_nil))) xa_nil))) (xe_str (y := S64) (by decide +kernel))))))) (xss_one (xs_ret xe_bl)) xss_nil) (xss_cons (xs_set 4 sc_l_terms.nd (xe_if (xt_not (xt_val (xe_call (n := 1) (F := C 20) (dds := []) tk (ok 20) hr T.g_l_int T.f_l_int.kp T.b_l_int .nil (fun _ => IsL.nil) rfl (xa_cons (xe_var 2) xa_nil)))) (xe_str (y := S64) (by decide +kernel)) (xe_if (xt_val (xe_var 3)) (xe_var 12) (xe_if (xt_w (xw_and (xt_eq hu (xe_var 12) (xe_tup (xa_cons (xe_str (y := S7) (by decide +kernel)) (xa_cons xe_int xa_nil)))) (xw_one (xt_chain op_le op_lt ok_bl0 ok_bl0 xe_int (xe_var 2) xe_int)))) (xe_str (y := S10) (by decide +kernel)) (xe_str (y := S65) (by decide +kernel)))))) (xss_cons (xs_if (xt_w (xw_or (xt_ne hu (xe_call (n := 2) (F := C 19) (dds := []) tk (ok 19) hr T.g_l_code T.f_l_code.kp T.b_l_code .nil (fun _ => IsL.nil) rfl (xa_cons (xe_var 1) (xa_cons (xe_tup (xa_cons (xe_str (y := S8) (by decide +kernel)) (xa_cons (xe_var 2) (xa_cons (xe_var 11) xa_nil)))) xa_nil))) (xe_var 4)) (xw_oneOr (xt_ne hu (xe_call (n := 2) (F := C 19) (dds := []) tk (ok 19) hr T.g_l_code T.f_l_code.kp T.b_l_code .nil (fun _ => IsL.nil) rfl (xa_cons (xe_var 1) (xa_cons (xe_tup (xa_cons (xe_str (y := S8) (by decide +kernel)) (xa_cons (xe_var 2) xa_nil))) xa_nil))) (xe_str (y := S64) (by decide +kernel)))))) (xss_one (xs_ret xe_bl)) xss_nil) (xss_cons (xs_par3 15 16 17 rfl sc_l_terms.nd (xe_call (n := 2) (F := C 18) (dds := []) tk (ok 18) hr T.g_l_pick T.f_l_pick.kp T.b_l_pick .nil (fun _ => IsL.nil) rfl (xa_cons (xe_var 0) (xa_cons (xe_lst (xa_cons xe_int (xa_cons xe_int (xa_cons xe_int (xa_cons xe_int (xa_cons (xe_str (y := S62) (by decide +kernel)) (xa_cons xe_bl xa_nil))))))) xa_nil))) (xe_call (n := 2) (F := C 18) (dds := []) tk (ok 18) hr T.g_l_pick T.f_l_pick.kp T.b_l_pick .nil (fun _ => IsL.nil) rfl (xa_cons (xe_var 0) (xa_cons (xe_lst (xa_cons xe_int (xa_cons xe_int (xa_cons xe_int (xa_cons xe_int (xa_cons xe_int xa_nil)))))) xa_nil))) (xe_call (n := 2) (F := C 18) (dds := []) tk (ok 18) hr T.g_l_pick T.f_l_pick.kp T.b_l_pick .nil (fun _ => IsL.nil) rfl (xa_cons (xe_var 0) (xa_cons (xe_lst (xa_cons (xe_str (y := S66) (by decide +kernel)) (xa_cons (xe_str (y := S66) (by decide +kernel)) (xa_cons (xe_str (y := S62) (by decide +kernel)) (xa_cons xe_int (xa_cons (xe_str (y := S6) (by decide +kernel)) xa_nil)))))) xa_nil)))) (xss_cons (xs_set 5 sc_l_terms.nd (xe_and (xe_eq hu (xe_var 17) (xe_str (y := S66) (by decide +kernel))) (xe_and (xe_call (n := 1) (F := C 20) (dds := []) tk (ok 20) hr T.g_l_int T.f_l_int.kp T.b_l_int .nil (fun _ => IsL.nil) rfl (xa_cons (xe_var 15) xa_nil)) (xe_one (xe_chain op_le op_le ok_bl0 ok_bl0 xe_int (xe_sub (xe_var 16) (xe_var 15)) xe_int))))) (xss_cons (xs_set 4 sc_l_terms.nd (xe_if (xt_not (xt_val (xe_var 5))) (xe_str (y := S64) (by decide +kernel)) (xe_if (xt_w (xw_or (xt_gt (xe_var 16) xe_int) (xw_oneOr (xt_gt (xe_var 15) xe_int)))) (xe_str (y := S59) (by decide +kernel)) (xe_if (xt_val (xe_var 3)) (xe_var 12) (xe_if (xt_eq hu (xe_var 12) (xe_str (y := S10) (by decide +kernel))) (xe_str (y := S10) (by decide +kernel)) (xe_str (y := S65) (by decide +kernel))))))) (xss_cons (xs_set 6 sc_l_terms.nd (xe_call (n := 2) (F := C 18) (dds := []) tk (ok 18) hr T.g_l_pick T.f_l_pick.kp T.b_l_pick .nil (fun _ => IsL.nil) rfl (xa_cons (xe_var 0) (xa_cons (xe_lst (xa_cons (xe_str (y := S13) (by decide +kernel)) (xa_cons (xe_str (y := S12) (by decide +kernel)) xa_nil))) xa_nil)))) (xss_cons (xs_if (xt_w (xw_or (xt_ne hu (xe_call (n := 2) (F := C 19) (dds := []) tk (ok 19) hr T.g_l_code T.f_l_code.kp T.b_l_code .nil (fun _ => IsL.nil) rfl (xa_cons (xe_var 1) (xa_cons (xe_tup (xa_cons (xe_var 6) (xa_cons (xe_var 17) (xa_cons (xe_var 15) (xa_cons (xe_var 16) (xa_cons (xe_var 11) xa_nil)))))) xa_nil))) (xe_var 4)) (xw_oneOr (xt_ne hu (xe_call (n := 2) (F := C 19) (dds := []) tk (ok 19) hr T.g_l_code T.f_l_code.kp T.b_l_code .nil (fun _ => IsL.nil) rfl (xa_cons (xe_var 1) (xa_cons (xe_tup (xa_cons (xe_var 6) (xa_cons (xe_var 17) (xa_cons (xe_var 15) (xa_cons (xe_var 16) xa_nil))))) xa_nil))) (xe_str (y := S64) (by decide +kernel)))))) (xss_one (xs_ret xe_bl)) xss_nil) (xss_cons (xs_set 7 sc_l_terms.nd (xe_call (n := 2) (F := C 18) (dds := []) tk (ok 18) hr T.g_l_pick T.f_l_pick.kp T.b_l_pick .nil (fun _ => IsL.nil) rfl (xa_cons (xe_var 0) (xa_cons (xe_lst (xa_cons xe_int (xa_cons xe_int (xa_cons xe_int (xa_cons xe_int (xa_cons xe_int (xa_cons (xe_str (y := S62) (by decide +kernel)) (xa_cons xe_bl (xa_cons (xe_tup (xa_cons (xe_str (y := S58) (by decide +kernel)) xa_nil)) xa_nil))))))))) xa_nil)))) (xss_cons (xs_set 8 sc_l_terms.nd (xe_call (n := 2) (F := C 18) (dds := []) tk (ok 18) hr T.g_l_pick T.f_l_pick.kp T.b_l_pick .nil (fun _ => IsL.nil) rfl (xa_cons (xe_var 0) (xa_cons (xe_lst (xa_cons xe_int (xa_cons xe_int (xa_cons xe_int (xa_cons xe_int (xa_cons xe_int (xa_cons (xe_sub xe_int xe_int) (xa_cons (xe_str (y := S57) (by decide +kernel)) xa_nil)))))))) xa_nil)))) (xss_cons (xs_set 9 sc_l_terms.nd (xe_if (xt_val (xe_call (n := 1) (F := C 20) (dds := []) tk (ok 20) hr T.g_l_int T.f_l_int.kp T.b_l_int .nil (fun _ => IsL.nil) rfl (xa_cons (xe_var 7) xa_nil))) (xe_item (xe_lst (xa_cons xe_int (xa_cons xe_int (xa_cons xe_int (xa_cons xe_int (xa_cons xe_int (xa_cons xe_int (xa_cons xe_int (xa_cons xe_int xa_nil))))))))) (xe_var 7)) xe_int)) (xss_cons (xs_set 4 sc_l_terms.nd (xe_if (xt_w (xw_or (xt_not (xt_val (xe_call (n := 1) (F := C 20) (dds := []) tk (ok 20) hr T.g_l_int T.f_l_int.kp T.b_l_int .nil (fun _ => IsL.nil) rfl (xa_cons (xe_var 7) xa_nil)))) (xw_oneOr (xt_not (xt_val (xe_call (n := 1) (F := C 20) (dds := []) tk (ok 20) hr T.g_l_int T.f_l_int.kp T.b_l_int .nil (fun _ => IsL.nil) rfl (xa_cons (xe_var 8) xa_nil))))))) (xe_str (y := S64) (by decide +kernel)) (xe_if (xt_w (xw_and (xt_chain op_le op_le ok_bl0 ok_bl0 xe_int (xe_var 7) xe_int) (xw_one (xt_chain op_le op_lt ok_bl0 ok_bl0 xe_int (xe_var 8) (xe_var 9))))) (xe_tup (xa_cons (xe_str (y := S7) (by decide +kernel)) (xa_cons (xe_var 7) xa_nil))) (xe_str (y := S59) (by decide +kernel))))) (xss_cons (xs_if (xt_ne hu (xe_call (n := 2) (F := C 19) (dds := []) tk (ok 19) hr T.g_l_code T.f_l_code.kp T.b_l_code .nil (fun _ => IsL.nil) rfl (xa_cons (xe_var 1) (xa_cons (xe_tup (xa_cons (xe_str (y := S7) (by decide +kernel)) (xa_cons (xe_var 7) (xa_cons (xe_var 8) xa_nil)))) xa_nil))) (xe_var 4)) (xss_one (xs_ret xe_bl)) xss_nil) (xss_cons (xs_set 10 sc_l_terms.nd (xe_and (xe_isi (t := "str") rfl T.z_isinstance (xe_var 14) rfl T.z_str (by decide +kernel)) (xe_one (xe_eq hu (xe_sliceS (xe_var 14) xo_none (xo_some xe_int)) (xe_str (y := S63) (by decide +kernel)))))) (xss_cons (xs_set 4 sc_l_terms.nd (xe_if (xt_val (xe_var 3)) (xe_var 12) (xe_if (xt_val (xe_var 10)) (xe_var 14) (xe_if (xt_w (xw_and (xt_eq hu (xe_var 12) (xe_str (y := S6) (by decide +kernel))) (xw_one (xt_eq hu (xe_var 14) (xe_str (y := S6) (by decide +kernel)))))) (xe_str (y := S6) (by decide +kernel)) (xe_str (y := S65) (by decide +kernel)))))) (xss_one (xs_ret (xe_eq hu (xe_call (n := 2) (F := C 19) (dds := []) tk (ok 19) hr T.g_l_code T.f_l_code.kp T.b_l_code .nil (fun _ => IsL.nil) rfl (xa_cons (xe_var 1) (xa_cons (xe_tup (xa_cons (xe_str (y := S25) (by decide +kernel)) (xa_cons (xe_var 11) (xa_cons (xe_var 13) xa_nil)))) xa_nil))) (xe_var 4)))))))))))))))))))))))))
theorem body_l_taken (T : Txt w K mg ca ad fd) {C : Nat → List D → Mem → Res D} {k : Nat} (hk : 2 ≤ k) (ok : ∀ j, FnOk PG w K mg base (L2.CX PG w) k (ad j) (fd j) (psn j) (spF K ca (ar j) (C j))) :
    FnOk PG w K mg base (L2.CX PG w) (k + 1) (ad 23) (fd 23) (psn 23) (spF K ca (ar 23) fun ds M => (F_l_taken C (startL 5 ds) M).fn) := by
  obtain ⟨⟨oc, od, dV, kV, doc, pm, an, cdv, ct, osl, e, lk, hcd⟩, _⟩ := T.f_l_taken
  obtain ⟨t1, h_MOST_WIDTH⟩ := T.c_MOST_WIDTH
  obtain ⟨t2, h_MOST_NUMBER⟩ := T.c_MOST_NUMBER
  obtain ⟨t3, h_MOST_NESTED⟩ := T.c_MOST_NESTED
  obtain ⟨t4, h_LETTERS⟩ := T.c_LETTERS
  have h_FORMS := T.c_FORMS
  obtain ⟨dsd, rvd, hbd⟩ := T.bd_sort_of
  rw [e] at lk ⊢
  refine fn_xs (N := ["names", "table", "clause", "factors", "e"]) (ps := ["names", "table", "clause", "factors"]) lk hcd sc_l_taken rfl (fun _ _ => rfl) (fun A outer s H E hr => ?_)
  have hu := hr.units
  have tk : Takes (cxOf (L2.CX PG w) PG w K mg base ["names", "table", "clause", "factors", "e"] "_law_taken" (defScope s_l_taken) (ad 23) cdv A outer s H E) (WD E) := takes_of rfl rfl rfl rfl
  unfold F_l_taken
  exact (xss_one (xs_try (isc := isc1) (hx := (hxF "code")) 4 rfl rfl sc_l_taken.nd rfl rfl ⟨rfl, by decide, Or.inl T.gE1⟩ tk (isc1_ok T) (fun W pn xe tkt hp => (xss_one (xs_ret (xe_call (n := 5) (F := C 14) (dds := []) tkt (ok 14) hr T.g_check_proof T.f_check_proof.kp T.b_check_proof .nil (fun _ => IsL.nil) rfl (xa_cons (xe_var 0) (xa_cons (xe_tup xa_nil) (xa_cons (xe_var 1) (xa_cons (xe_tup (xa_cons (xe_tup (xa_cons (xe_var 2) (xa_cons (xe_tup (xa_cons (xe_str (y := S51) (by decide +kernel)) (xa_cons (xe_var 3) xa_nil))) xa_nil))) xa_nil)) (xa_cons (xe_var 2) xa_nil))))))))) (fun a oe cls d pn hz hd => pe_sfld 4 T.xf1 T.noc1 hz hd) (suite_fld (isc1_at T))))
theorem body_l_factors (T : Txt w K mg ca ad fd) {C : Nat → List D → Mem → Res D} {k : Nat} (hk : 2 ≤ k) (ok : ∀ j, FnOk PG w K mg base (L2.CX PG w) k (ad j) (fd j) (psn j) (spF K ca (ar j) (C j))) :
    FnOk PG w K mg base (L2.CX PG w) (k + 1) (ad 24) (fd 24) (psn 24) (spF K ca (ar 24) fun ds M => (F_l_factors C (startL 6 ds) M).fn) := by
  obtain ⟨⟨oc, od, dV, kV, doc, pm, an, cdv, ct, osl, e, lk, hcd⟩, _⟩ := T.f_l_factors
  obtain ⟨t1, h_MOST_WIDTH⟩ := T.c_MOST_WIDTH
  obtain ⟨t2, h_MOST_NUMBER⟩ := T.c_MOST_NUMBER
  obtain ⟨t3, h_MOST_NESTED⟩ := T.c_MOST_NESTED
  obtain ⟨t4, h_LETTERS⟩ := T.c_LETTERS
  have h_FORMS := T.c_FORMS
  obtain ⟨dsd, rvd, hbd⟩ := T.bd_sort_of
  rw [e] at lk ⊢
  refine fn_xs (N := ["d", "names", "table", "size", "bent", "row"]) (ps := ["d"]) lk hcd sc_l_factors rfl (fun _ _ => rfl) (fun A outer s H E hr => ?_)
  have hu := hr.units
  have tk : Takes (cxOf (L2.CX PG w) PG w K mg base ["d", "names", "table", "size", "bent", "row"] "_law_factors_right" (defScope s_l_factors) (ad 24) cdv A outer s H E) (WD E) := takes_of rfl rfl rfl rfl
  unfold F_l_factors
  exact (xss_cons (xs_set 1 sc_l_factors.nd (xe_disp (xp_cons (xe_str (y := S62) (by decide +kernel)) (xe_tup (xa_cons (xe_str (y := S6) (by decide +kernel)) (xa_cons xe_int (xa_cons xe_int xa_nil)))) xp_nil))) (xss_cons (xs_set 2 sc_l_factors.nd (xe_tup (xa_cons (xe_tup (xa_cons (xe_str (y := S43) (by decide +kernel)) (xa_cons (xe_tup (xa_cons (xe_tup (xa_cons (xe_str (y := S62) (by decide +kernel)) (xa_cons (xe_sub xe_int xe_int) xa_nil))) xa_nil)) (xa_cons (xe_sub (xe_sub xe_int xe_int) (xe_call (n := 2) (F := C 17) (dds := []) tk (ok 17) hr T.g_l_take T.f_l_take.kp T.b_l_take .nil (fun _ => IsL.nil) rfl (xa_cons (xe_var 0) (xa_cons xe_int xa_nil)))) xa_nil)))) (xa_cons (xe_tup (xa_cons (xe_str (y := S43) (by decide +kernel)) (xa_cons (xe_tup (xa_cons (xe_tup (xa_cons (xe_str (y := S62) (by decide +kernel)) (xa_cons xe_int xa_nil))) xa_nil)) (xa_cons (xe_sub (xe_sub xe_int xe_int) (xe_call (n := 2) (F := C 17) (dds := []) tk (ok 17) hr T.g_l_take T.f_l_take.kp T.b_l_take .nil (fun _ => IsL.nil) rfl (xa_cons (xe_var 0) (xa_cons xe_int xa_nil)))) xa_nil)))) xa_nil)))) (xss_cons (xs_set 3 sc_l_factors.nd (xe_add xe_int (xe_call (n := 2) (F := C 17) (dds := []) tk (ok 17) hr T.g_l_take T.f_l_take.kp T.b_l_take .nil (fun _ => IsL.nil) rfl (xa_cons (xe_var 0) (xa_cons xe_int xa_nil))))) (xss_cons (xs_if (xt_nis (xe_call (n := 4) (F := C 23) (dds := []) tk (ok 23) hr T.g_l_taken T.f_l_taken.kp T.b_l_taken .nil (fun _ => IsL.nil) rfl (xa_cons (xe_var 1) (xa_cons (xe_var 2) (xa_cons (xe_tup (xa_cons (xe_sub xe_int xe_int) xa_nil)) (xa_cons (xe_tup (xa_cons (xe_tup (xa_cons xe_int (xa_cons (xe_var 3) xa_nil))) (xa_cons (xe_tup (xa_cons (xe_tup (xa_cons (xe_str (y := S38) (by decide +kernel)) (xa_cons (xe_str (y := S62) (by decide +kernel)) xa_nil))) (xa_cons (xe_var 3) xa_nil))) xa_nil))) xa_nil))))) xe_bl) (xss_one (xs_ret xe_bl)) xss_nil) (xss_cons (xs_if (xt_nis (xe_call (n := 4) (F := C 23) (dds := []) tk (ok 23) hr T.g_l_taken T.f_l_taken.kp T.b_l_taken .nil (fun _ => IsL.nil) rfl (xa_cons (xe_var 1) (xa_cons (xe_var 2) (xa_cons (xe_tup (xa_cons (xe_sub xe_int xe_int) xa_nil)) (xa_cons (xe_tup (xa_cons (xe_tup (xa_cons xe_int (xa_cons (xe_var 3) xa_nil))) (xa_cons (xe_tup (xa_cons (xe_tup (xa_cons (xe_str (y := S39) (by decide +kernel)) (xa_cons (xe_str (y := S62) (by decide +kernel)) xa_nil))) (xa_cons (xe_var 3) xa_nil))) xa_nil))) xa_nil))))) xe_bl) (xss_one (xs_ret xe_bl)) xss_nil) (xss_cons (xs_set 4 sc_l_factors.nd (xe_lst (xa_cons (xe_tup (xa_cons (xe_tup (xa_cons xe_bl (xa_cons (xe_var 3) xa_nil))) (xa_cons (xe_tup (xa_cons (xe_tup (xa_cons (xe_str (y := S38) (by decide +kernel)) (xa_cons (xe_str (y := S62) (by decide +kernel)) xa_nil))) (xa_cons (xe_var 3) xa_nil))) xa_nil))) (xa_cons (xe_tup (xa_cons (xe_tup (xa_cons xe_int (xa_cons (xe_var 3) xa_nil))) (xa_cons (xe_tup (xa_cons (xe_tup (xa_cons (xe_str (y := S38) (by decide +kernel)) (xa_cons (xe_str (y := S62) (by decide +kernel)) xa_nil))) (xa_cons (xe_var 3) xa_nil))) xa_nil))) (xa_cons (xe_tup (xa_cons (xe_tup (xa_cons xe_bl (xa_cons xe_bl xa_nil))) (xa_cons (xe_tup (xa_cons (xe_tup (xa_cons (xe_str (y := S38) (by decide +kernel)) (xa_cons (xe_str (y := S62) (by decide +kernel)) xa_nil))) (xa_cons xe_bl xa_nil))) xa_nil))) xa_nil))))) (xss_cons (xs_if (xt_val (xe_any rfl rfl T.z_any (xa_cons (xe_lc (own := [("row", 5)]) rfl sc_l_factors.nd rfl rfl tk (by decide) (xi_seq (xe_var 4)) (by show BlkOk ["d", "names", "table", "size", "bent", "row"] (defScope s_l_factors) _ _; exact blkOk_by (by decide +kernel)) (fun sq Hq Cq cq fq => (xg_name 5 sc_l_factors.nd)) (fun σ sq Hq Cq cq fq xe tk1 => xts_nil) (fun σ sq Hq Cq cq fq xe tk1 => (xe_ne hu (xe_call (n := 4) (F := C 23) (dds := []) tk1 (ok 23) hr T.g_l_taken T.f_l_taken.kp T.b_l_taken .nil (fun _ => IsL.nil) rfl (xa_cons (xe_var 1) (xa_cons (xe_var 2) (xa_cons (xe_tup xa_nil) (xa_cons (xe_var 5) xa_nil))))) (xe_str (y := S51) (by decide +kernel))))) xa_nil))) (xss_one (xs_ret xe_bl)) xss_nil) (xss_cons (xs_for PassesOwn.leaving rfl (xi_seq (xe_lst (xa_cons (xe_tup (xa_cons (xe_tup (xa_cons xe_int (xa_cons xe_bl xa_nil))) (xa_cons (xe_tup (xa_cons (xe_tup (xa_cons (xe_str (y := S38) (by decide +kernel)) (xa_cons (xe_str (y := S62) (by decide +kernel)) xa_nil))) (xa_cons xe_int xa_nil))) xa_nil))) (xa_cons (xe_tup (xa_cons (xe_tup (xa_cons xe_int (xa_cons xe_int xa_nil))) (xa_cons (xe_tup (xa_cons (xe_tup (xa_cons (xe_str (y := S38) (by decide +kernel)) (xa_cons (xe_str (y := S62) (by decide +kernel)) xa_nil))) (xa_cons xe_bl xa_nil))) xa_nil))) (xa_cons (xe_tup (xa_cons (xe_tup (xa_cons xe_int (xa_cons xe_int xa_nil))) (xa_cons (xe_tup (xa_cons (xe_tup (xa_cons (xe_str (y := S38) (by decide +kernel)) (xa_cons (xe_str (y := S62) (by decide +kernel)) xa_nil))) (xa_cons xe_int xa_nil))) xa_nil))) (xa_cons (xe_tup (xa_cons (xe_tup (xa_cons xe_int (xa_cons (xe_var 3) xa_nil))) xa_nil)) (xa_cons (xe_tup (xa_cons (xe_tup (xa_cons xe_int (xa_cons (xe_var 3) xa_nil))) (xa_cons (xe_tup (xa_cons (xe_tup (xa_cons (xe_str (y := S39) (by decide +kernel)) (xa_cons (xe_str (y := S62) (by decide +kernel)) xa_nil))) (xa_cons (xe_var 3) xa_nil))) xa_nil))) xa_nil))))))) (xg_name 5 sc_l_factors.nd) (xss_one (xs_if (xt_ne hu (xe_call (n := 4) (F := C 23) (dds := []) tk (ok 23) hr T.g_l_taken T.f_l_taken.kp T.b_l_taken .nil (fun _ => IsL.nil) rfl (xa_cons (xe_var 1) (xa_cons (xe_var 2) (xa_cons (xe_tup (xa_cons (xe_sub xe_int xe_int) xa_nil)) (xa_cons (xe_var 5) xa_nil))))) (xe_str (y := S51) (by decide +kernel))) (xss_one (xs_ret xe_bl)) xss_nil))) (xss_one (xs_ret (xe_eq hu (xe_call (n := 4) (F := C 23) (dds := []) tk (ok 23) hr T.g_l_taken T.f_l_taken.kp T.b_l_taken .nil (fun _ => IsL.nil) rfl (xa_cons (xe_var 1) (xa_cons (xe_var 2) (xa_cons (xe_tup (xa_cons (xe_sub xe_int xe_int) xa_nil)) (xa_cons (xe_tup (xa_cons (xe_tup (xa_cons xe_int (xa_cons (xe_var 3) xa_nil))) (xa_cons (xe_tup (xa_cons (xe_tup (xa_cons (xe_str (y := S38) (by decide +kernel)) (xa_cons (xe_str (y := S62) (by decide +kernel)) xa_nil))) (xa_cons (xe_add (xe_var 3) xe_int) xa_nil))) xa_nil))) xa_nil))))) (xe_str (y := S51) (by decide +kernel)))))))))))))
theorem body_law (T : Txt w K mg ca ad fd) {C : Nat → List D → Mem → Res D} {k : Nat} (hk : 2 ≤ k) (ok : ∀ j, FnOk PG w K mg base (L2.CX PG w) k (ad j) (fd j) (psn j) (spF K ca (ar j) (C j))) :
    FnOk PG w K mg base (L2.CX PG w) (k + 1) (ad 25) (fd 25) (psn 25) (spF K ca (ar 25) fun ds M => (F_law C (startL 3 ds) M).fn) := by
  obtain ⟨⟨oc, od, dV, kV, doc, pm, an, cdv, ct, osl, e, lk, hcd⟩, _⟩ := T.f_law
  obtain ⟨t1, h_MOST_WIDTH⟩ := T.c_MOST_WIDTH
  obtain ⟨t2, h_MOST_NUMBER⟩ := T.c_MOST_NUMBER
  obtain ⟨t3, h_MOST_NESTED⟩ := T.c_MOST_NESTED
  obtain ⟨t4, h_LETTERS⟩ := T.c_LETTERS
  have h_FORMS := T.c_FORMS
  obtain ⟨dsd, rvd, hbd⟩ := T.bd_sort_of
  rw [e] at lk ⊢
  refine fn_xs (N := ["script", "d", "k"]) (ps := ["script"]) lk hcd sc_law rfl (fun _ _ => rfl) (fun A outer s H E hr => ?_)
  have hu := hr.units
  have tk : Takes (cxOf (L2.CX PG w) PG w K mg base ["script", "d", "k"] "law" (defScope s_law) (ad 25) cdv A outer s H E) (WD E) := takes_of rfl rfl rfl rfl
  unfold F_law
  exact (xss_cons (xs_set 1 sc_law.nd (xe_call (n := 1) (F := C 16) (dds := []) tk (ok 16) hr T.g_l_begin T.f_l_begin.kp T.b_l_begin .nil (fun _ => IsL.nil) rfl (xa_cons (xe_var 0) xa_nil))) (xss_one (xs_ret (xe_and (xe_all rfl rfl T.z_all (xa_cons (xe_lc (own := [("k", 2)]) rfl sc_law.nd rfl rfl tk (by decide) (xi_rng1 rfl T.z_range (xa_cons xe_int xa_nil)) (by show BlkOk ["script", "d", "k"] (defScope s_law) _ _; exact blkOk_by (by decide +kernel)) (fun sq Hq Cq cq fq => (xg_name 2 sc_law.nd)) (fun σ sq Hq Cq cq fq xe tk1 => xts_nil) (fun σ sq Hq Cq cq fq xe tk1 => (xe_call (n := 1) (F := C 22) (dds := []) tk1 (ok 22) hr T.g_l_terms T.f_l_terms.kp T.b_l_terms .nil (fun _ => IsL.nil) rfl (xa_cons (xe_var 1) xa_nil)))) xa_nil)) (xe_one (xe_call (n := 1) (F := C 24) (dds := []) tk (ok 24) hr T.g_l_factors T.f_l_factors.kp T.b_l_factors .nil (fun _ => IsL.nil) rfl (xa_cons (xe_var 1) xa_nil)))))))
def stepF (C : Nat → List D → Mem → Res D) : Nat → List D → Mem → Res D
  | 0 => fun ds M => (F_shown C (startL 2 ds) M).fn
  | 1 => fun ds M => (F_is_integer C (startL 1 ds) M).fn
  | 2 => fun ds M => (F_is_name C (startL 2 ds) M).fn
  | 3 => fun ds M => (F_need_t C (startL 2 ds) M).fn
  | 4 => fun ds M => (F_sort_of C (startL 7 ds) M).fn
  | 5 => fun ds M => (F_sort_of_range C (startL 3 ds) M).fn
  | 6 => fun ds M => (F_sort_of_word C (startL 3 ds) M).fn
  | 7 => fun ds M => (F_sort_of_constant C (startL 1 ds) M).fn
  | 8 => fun ds M => (F_sort_of_form C (startL 3 ds) M).fn
  | 9 => fun ds M => (F_row_of C (startL 4 ds) M).fn
  | 10 => fun ds M => (F_is_farkas C (startL 12 ds) M).fn
  | 11 => fun ds M => (F_need_p C (startL 3 ds) M).fn
  | 12 => fun ds M => (F_is_gate C (startL 8 ds) M).fn
  | 13 => fun ds M => (F_is_sum C (startL 7 ds) M).fn
  | 14 => fun ds M => (F_check_proof C (startL 12 ds) M).fn
  | 15 => fun ds M => (F_holds C (startL 20 ds) M).fn
  | 16 => fun ds M => (F_l_begin C (startL 3 ds) M).fn
  | 17 => fun ds M => (F_l_take C (startL 4 ds) M).fn
  | 18 => fun ds M => (F_l_pick C (startL 2 ds) M).fn
  | 19 => fun ds M => (F_l_code C (startL 3 ds) M).fn
  | 20 => fun ds M => (F_l_int C (startL 1 ds) M).fn
  | 21 => fun ds M => (F_l_part C (startL 1 ds) M).fn
  | 22 => fun ds M => (F_l_terms C (startL 18 ds) M).fn
  | 23 => fun ds M => (F_l_taken C (startL 5 ds) M).fn
  | 24 => fun ds M => (F_l_factors C (startL 6 ds) M).fn
  | 25 => fun ds M => (F_law C (startL 3 ds) M).fn
  | _ => fun _ _ => .stk
def FT : Nat → Nat → List D → Mem → Res D
  | 0 => fun _ _ _ => .stk
  | n + 1 => stepF (FT n)
theorem stk_ok {k n : Nat} {f : Addr} {fd : FuncData} {ps : List Str} : FnOk PG w K mg base (L2.CX PG w) k f fd ps (spF K ca n fun _ _ => .stk) :=
  ⟨fun vs H Q E h => by obtain ⟨_, _, _, _, _, _, q⟩ := h; exact q.elim, fun A outer s H args us vs Q E hr he hb hv h => by obtain ⟨_, _, _, _, _, _, q⟩ := h; exact q.elim⟩
theorem all_ok (T : Txt w K mg ca ad fd) : ∀ n j, FnOk PG w K mg base (L2.CX PG w) (n + 3) (ad j) (fd j) (psn j) (spF K ca (ar j) (FT n j))
  | 0, _ => stk_ok
  | n + 1, 0 => body_shown T (by omega) (all_ok T n)
  | n + 1, 1 => body_is_integer T (by omega) (all_ok T n)
  | n + 1, 2 => body_is_name T (by omega) (all_ok T n)
  | n + 1, 3 => body_need_t T (by omega) (all_ok T n)
  | n + 1, 4 => body_sort_of T (by omega) (all_ok T n)
  | n + 1, 5 => body_sort_of_range T (by omega) (all_ok T n)
  | n + 1, 6 => body_sort_of_word T (by omega) (all_ok T n)
  | n + 1, 7 => body_sort_of_constant T (by omega) (all_ok T n)
  | n + 1, 8 => body_sort_of_form T (by omega) (all_ok T n)
  | n + 1, 9 => body_row_of T (by omega) (all_ok T n)
  | n + 1, 10 => body_is_farkas T (by omega) (all_ok T n)
  | n + 1, 11 => body_need_p T (by omega) (all_ok T n)
  | n + 1, 12 => body_is_gate T (by omega) (all_ok T n)
  | n + 1, 13 => body_is_sum T (by omega) (all_ok T n)
  | n + 1, 14 => body_check_proof T (by omega) (all_ok T n)
  | n + 1, 15 => body_holds T (by omega) (all_ok T n)
  | n + 1, 16 => body_l_begin T (by omega) (all_ok T n)
  | n + 1, 17 => body_l_take T (by omega) (all_ok T n)
  | n + 1, 18 => body_l_pick T (by omega) (all_ok T n)
  | n + 1, 19 => body_l_code T (by omega) (all_ok T n)
  | n + 1, 20 => body_l_int T (by omega) (all_ok T n)
  | n + 1, 21 => body_l_part T (by omega) (all_ok T n)
  | n + 1, 22 => body_l_terms T (by omega) (all_ok T n)
  | n + 1, 23 => body_l_taken T (by omega) (all_ok T n)
  | n + 1, 24 => body_l_factors T (by omega) (all_ok T n)
  | n + 1, 25 => body_law T (by omega) (all_ok T n)
  | n + 1, j + 26 => stk_ok
end
end K70
/-! ## K70b -/
set_option maxHeartbeats 200000
set_option Elab.async false
set_option linter.all false
set_option autoImplicit false
set_option maxRecDepth 100000
set_option maxHeartbeats 4000000
namespace K70
open PySem PySem.Spec
open PyProof.Rows hiding St
open L2 hiding Rd Rd.of Rd.ok
open XM
/-- the law's draws -/
def So (xs : List D) (p h sd : Int) : MO := .lst [.lst xs, .int p, .int h, .int sd]
def InvT (o : MO) : Prop := ∃ (ns : List Int) (p : Nat) (h sd : Int), o = So (ns.map .int) p h sd ∧ p ≤ ns.length ∧ 0 ≤ h
theorem eq_int (i j : Int) (M : Mem) : eqK false (.int i) (.int j) M = .ok (.bl (decide (i = j))) M := by
  unfold eqK
  simp only [D.toP, SeqAt.shaped, PyData.eqv]
  have e : (i == j) = decide (i = j) := by by_cases h : i = j <;> simp [h]
  rw [e]
  rfl
section
variable (xs : List D) (p h sd v : Int) (L : Lc)
theorem ix0 : ixK (.ref 0) (.int 0) [So xs p h sd] = .ok (.lst xs) [So xs p h sd] := rfl
theorem ix1 : ixK (.ref 0) (.int 1) [So xs p h sd] = .ok (.int p) [So xs p h sd] := rfl
theorem ix2 : ixK (.ref 0) (.int 2) [So xs p h sd] = .ok (.int h) [So xs p h sd] := rfl
theorem ix3 : ixK (.ref 0) (.int 3) [So xs p h sd] = .ok (.int sd) [So xs p h sd] := rfl
theorem sb1 : subS L (.int v) (.ref 0) (.int 1) [So xs p h sd] = .nx L [So xs v h sd] := rfl
theorem sb2 : subS L (.int v) (.ref 0) (.int 2) [So xs p h sd] = .nx L [So xs p v sd] := rfl
theorem sb3 : subS L (.int v) (.ref 0) (.int 3) [So xs p h sd] = .nx L [So xs p h v] := rfl
end
theorem ixl {ns : List Int} {p : Nat} (hp : p < ns.length) (M : Mem) : ixK (.lst (ns.map .int)) (.int p) M = .ok (.int ns[p]) M := by
  unfold ixK
  simp only [D.seq, List.length_map]
  have e : ixN ns.length (p : Int) = some p := by
    unfold ixN
    rw [if_pos (by omega), if_pos (by omega)]
    simp
  rw [e]
  simp [hp]
theorem pow_ok : mPowOk 10 18 = true := by decide
def RestT : SMr := (mSeq (mIf (mT (mB2 (mB2 (mVar 0) (mC (.int 2)) ixK) (mC (.int 0)) (bK fun i j => decide (j < i))) blK) (mSeq (mSet 2 (mB2 (mA1 (mCons (mB2 (mVar 0) (mC (.int 2)) ixK) mNil) intK) (mVar 1) (iK mModOk fun i j => i % j))) (mSeq (mSub (mVar 0) (mC (.int 2)) (mB2 (mA1 (mCons (mB2 (mVar 0) (mC (.int 2)) ixK) mNil) intK) (mVar 1) (iK mDivOk fun i j => i / j))) (mRet (mVar 2)))) mNop) (mSeq (mSub (mVar 0) (mC (.int 3)) (mB2 (mA1 (mCons (mB2 (mB2 (mB2 (mVar 0) (mC (.int 3)) ixK) (mC (.int 69621)) (iK mMulOk fun i j => i * j)) (mC (.int 7)) addK) mNil) intK) (mC (.int 2147483647)) (iK mModOk fun i j => i % j))) (mRet (mB2 (mA1 (mCons (mB2 (mB2 (mVar 0) (mC (.int 3)) ixK) (mC (.int 5)) (iK mDivOk fun i j => i / j)) mNil) intK) (mVar 1) (iK mModOk fun i j => i % j)))))
section
variable {m : Int} (hm : 0 < m) (hm2 : m < 1000000)
include hm hm2
theorem rest_ok {ns : List Int} {p : Nat} {h sd : Int} (hp : p ≤ ns.length) (hh : 0 ≤ h) (x y : Option D) : ∃ r X', InvT X' ∧ 0 ≤ r ∧ r < m ∧ (RestT [some (.ref 0), some (.int m), x, y] [So (ns.map .int) p h sd]).fn = .ok (.int r) [X'] := by
  have hmd' : ∀ i, mModOk i m = true := fun i => by unfold mModOk; exact decide_eq_true hm
  have hdv : ∀ i, mDivOk i m = true := fun i => by unfold mDivOk; simp; omega
  have hm1 : ∀ i, mMulOk i 69621 = true := fun i => by unfold mMulOk; simp
  have hm3 : ∀ i, mModOk i 2147483647 = true := fun i => by unfold mModOk; simp
  have hd5 : ∀ i, mDivOk i 5 = true := fun i => by unfold mDivOk; simp
  by_cases h0 : 0 < h
  · refine ⟨h % m, So (ns.map .int) p (h / m) sd, ⟨ns, p, h / m, sd, rfl, hp, Int.ediv_nonneg hh (by omega)⟩, Int.emod_nonneg _ (by omega), Int.emod_lt_of_pos _ hm, ?_⟩
    unfold RestT
    simp only [mSeq, mIf, mT, mSub, mSet, mB2, mA1, mCons, mNil, mVar, mC, List.getElem?_cons_zero, List.getElem?_cons_succ, List.set_cons_zero, List.set_cons_succ, Res.bind, bindS, ix2, bK, decide_eq_true h0, blK, iK, hmd', hdv, if_true, intK, sb2, mRet, SRes.fn]
  · refine ⟨((sd * 69621 + 7) % 2147483647 / 5) % m, So (ns.map .int) p h ((sd * 69621 + 7) % 2147483647), ⟨ns, p, h, _, rfl, hp, hh⟩, Int.emod_nonneg _ (by omega), Int.emod_lt_of_pos _ hm, ?_⟩
    unfold RestT
    simp only [mSeq, mIf, mT, mSub, mSet, mB2, mA1, mCons, mNil, mVar, mC, List.getElem?_cons_zero, List.getElem?_cons_succ, Res.bind, bindS, ix2, ix3, bK, decide_eq_false h0, blK, iK, hmd', hm1, hm3, hd5, if_true, Bool.false_eq_true, if_false, intK, addK, sb3, mRet, mNop, SRes.fn]
theorem take_ok (C : Nat → List D → Mem → Res D) (X : MO) (hX : InvT X) : ∃ r X', InvT X' ∧ 0 ≤ r ∧ r < m ∧ (F_l_take C (startL 4 [.ref 0, .int m]) [X]).fn = .ok (.int r) [X'] := by
  obtain ⟨ns, p, h, sd, rfl, hp, hh⟩ := hX
  have hL : startL 4 [.ref 0, .int m] = [some (.ref 0), some (.int m), none, none] := rfl
  rw [hL]
  have hmd' : ∀ i, mModOk i m = true := fun i => by unfold mModOk; exact decide_eq_true hm
  show ∃ r X', InvT X' ∧ 0 ≤ r ∧ r < m ∧ (mSeq _ RestT _ _).fn = _
  by_cases c : h = 0 ∧ p < ns.length
  · obtain ⟨rfl, hlt⟩ := c
    have hln : ((p : Int) < (ns.map D.int).length) := by rw [List.length_map]; omega
    generalize hv : (if ns[p] < 0 then -ns[p] else ns[p]) = v
    have hv0 : 0 ≤ v := by rw [← hv]; split <;> omega
    by_cases hb : v < 10 ^ 18
    · refine ⟨v % m, So (ns.map .int) (p + 1 : Nat) 0 sd, ⟨ns, p + 1, 0, sd, rfl, hlt, Int.le_refl _⟩, Int.emod_nonneg _ (by omega), Int.emod_lt_of_pos _ hm, ?_⟩
      simp only [mSeq, mIf, mAndB, mT, mSub, mSet, mB2, mA1, mCons, mNil, mVar, mC, List.getElem?_cons_zero, List.getElem?_cons_succ, List.set_cons_zero, List.set_cons_succ, Res.bind, bindS, ix0, ix1, ix2, ixl hlt, eq_int, decide_true, bK, lenK, D.seq, decide_eq_true hln, blK, iK, hmd', if_true, intK, absK, hv, addK, sb1, sb2, mRet, SRes.fn, pow_ok]
      rw [if_pos (decide_eq_true (show v < 10 ^ Int.toNat 18 from hb))]
      rfl
    · obtain ⟨r, X', h1, h2, h3, h4⟩ := rest_ok hm hm2 (ns := ns) (p := p + 1) (h := v) (sd := sd) hlt hv0 none none
      refine ⟨r, X', h1, h2, h3, ?_⟩
      simp only [mSeq, mIf, mAndB, mT, mSub, mSet, mB2, mA1, mCons, mNil, mVar, mC, List.getElem?_cons_zero, List.getElem?_cons_succ, List.set_cons_zero, List.set_cons_succ, Res.bind, bindS, ix0, ix1, ix2, ixl hlt, eq_int, decide_true, bK, lenK, D.seq, decide_eq_true hln, blK, iK, hmd', if_true, intK, absK, hv, addK, sb1, sb2, mRet, pow_ok]
      rw [if_neg (by rw [decide_eq_true_eq]; exact hb)]
      exact h4
  · obtain ⟨r, X', h1, h2, h3, h4⟩ := rest_ok hm hm2 (ns := ns) (p := p) (h := h) (sd := sd) hp hh none none
    refine ⟨r, X', h1, h2, h3, ?_⟩
    by_cases c1 : h = 0
    · have c2 : ¬ ((p : Int) < (ns.map D.int).length) := by rw [List.length_map]; intro z; exact c ⟨c1, by omega⟩
      simp only [mSeq, mIf, mAndB, mT, mB2, mA1, mCons, mNil, mVar, mC, List.getElem?_cons_zero, List.getElem?_cons_succ, Res.bind, bindS, ix0, ix1, ix2, eq_int, decide_eq_true c1, bK, lenK, D.seq, decide_eq_false c2, blK, if_true, Bool.false_eq_true, if_false, mNop]
      exact h4
    · simp only [mSeq, mIf, mAndB, mT, mB2, mA1, mCons, mNil, mVar, mC, List.getElem?_cons_zero, List.getElem?_cons_succ, Res.bind, bindS, ix0, ix1, ix2, eq_int, decide_eq_false c1, bK, lenK, D.seq, blK, if_true, Bool.false_eq_true, if_false, mNop]
      exact h4
/-- a draw by any level's table -/
theorem takeT (n : Nat) (X : MO) (hX : InvT X) : ∃ r X', InvT X' ∧ 0 ≤ r ∧ r < m ∧ FT (n + 1) 17 [.ref 0, .int m] [X] = .ok (.int r) [X'] := take_ok hm hm2 (FT n) X hX
end
/-- one of a menu -/
theorem pickT (n : Nat) (menu : List D) (h0 : menu ≠ []) (hl : menu.length < 1000) (X : MO) (hX : InvT X) : ∃ d X', InvT X' ∧ d ∈ menu ∧ FT (n + 2) 18 [.ref 0, .lst menu] [X] = .ok d [X'] := by
  have hp : 0 < menu.length := List.length_pos_iff.mpr h0
  obtain ⟨r, X', h1, h2, h3, h4⟩ := takeT (m := menu.length) (by omega) (by omega) n X hX
  have hr : r.toNat < menu.length := by omega
  refine ⟨menu[r.toNat], X', h1, List.getElem_mem hr, ?_⟩
  show (F_l_pick (FT (n + 1)) (startL 2 [.ref 0, .lst menu]) [X]).fn = _
  have hL : startL 2 [.ref 0, .lst menu] = [some (.ref 0), some (.lst menu)] := rfl
  rw [hL]
  unfold F_l_pick
  simp only [mRet, mB2, mCall, mA1, mCons, mNil, mVar, List.getElem?_cons_zero, List.getElem?_cons_succ, Res.bind, bindS, lenK, D.seq, List.length_cons, List.length_nil, List.append_nil]
  rw [if_pos (by decide), h4]
  have e : ixK (.lst menu) (.int r) [X'] = .ok menu[r.toNat] [X'] := by
    unfold ixK
    simp only [D.seq]
    have e : ixN menu.length r = some r.toNat := by
      unfold ixN
      rw [if_pos h2, if_pos h3]
    rw [e]
    simp [hr]
  simp only [Res.bind, e, bindS, SRes.fn]
/-- the start -/
theorem begin_ok (C : Nat → List D → Mem → Res D) (ns : List Int) (hl : ns.length ≤ 63) : ∃ X, InvT X ∧ (F_l_begin C (startL 3 [.fz (ns.map .int)]) []).fn = .ok (.ref 0) [X] := by
  have hL : startL 3 [.fz (ns.map .int)] = [some (.fz (ns.map .int)), none, none] := rfl
  rw [hL]
  have hm1 : ∀ i, mMulOk i 48271 = true := fun i => by unfold mMulOk; simp
  have hm3 : ∀ i, mModOk i 2147483647 = true := fun i => by unfold mModOk; simp
  have hm4 : ∀ i, mModOk i 2147483629 = true := fun i => by unfold mModOk; simp
  have loop : ∀ (k i : Nat) (seed : Int) (x : Option D), i ≤ ns.length → k > ns.length - i → ∃ seed' x', forG (gN 2) (mSet 1 (mB2 (mB2 (mB2 (mB2 (mVar 1) (mC (.int 48271)) (iK mMulOk fun i j => i * j)) (mB2 (mA1 (mCons (mVar 2) mNil) intK) (mC (.int 2147483629)) (iK mModOk fun i j => i % j)) addK) (mC (.int 11)) addK) (mC (.int 2147483647)) (iK mModOk fun i j => i % j))) (.seq (.fz (ns.map .int))) k i [some (.fz (ns.map .int)), some (.int seed), x] [] = .nx [some (.fz (ns.map .int)), some (.int seed'), x'] [] := by
    intro k
    induction k with
    | zero => intro i seed x h1 h2; omega
    | succ k ih =>
      intro i seed x h1 h2
      unfold forG
      by_cases hi : i < ns.length
      · have e : It'.at [] i (.seq (.fz (ns.map .int))) = some (some (.int ns[i])) := by simp [It'.at, D.seq, hi]
        rw [e]
        simp only [gN, mSet, mB2, mA1, mCons, mNil, mVar, mC, List.set_cons_zero, List.set_cons_succ, List.getElem?_cons_zero, List.getElem?_cons_succ, Res.bind, bindS, iK, hm1, hm3, hm4, if_true, intK, addK]
        exact ih (i + 1) _ _ hi (by omega)
      · have e : It'.at [] i (.seq (.fz (ns.map .int))) = some none := by simp [It'.at, D.seq]; omega
        rw [e]
        exact ⟨seed, x, rfl⟩
  obtain ⟨sd, x', e⟩ := loop cap 0 5 none (Nat.zero_le _) (by unfold cap; omega)
  refine ⟨So (ns.map .int) 0 0 sd, ⟨ns, 0, 0, sd, rfl, Nat.zero_le _, Int.le_refl _⟩, ?_⟩
  unfold F_l_begin
  have e1 : mFor (mISeq (mVar 0)) (gN 2) (mSet 1 (mB2 (mB2 (mB2 (mB2 (mVar 1) (mC (.int 48271)) (iK mMulOk fun i j => i * j)) (mB2 (mA1 (mCons (mVar 2) mNil) intK) (mC (.int 2147483629)) (iK mModOk fun i j => i % j)) addK) (mC (.int 11)) addK) (mC (.int 2147483647)) (iK mModOk fun i j => i % j))) [some (.fz (ns.map .int)), some (.int 5), none] [] = .nx [some (.fz (ns.map .int)), some (.int sd), x'] [] := e
  have e0 : mSet 1 (mC (.int 5)) [some (.fz (ns.map .int)), none, none] [] = .nx [some (.fz (ns.map .int)), some (.int 5), none] [] := rfl
  simp only [mSeq, e0, e1]
  simp only [mRet, mMLst, mA1, mCons, mNil, mVar, mC, List.getElem?_cons_zero, List.getElem?_cons_succ, Res.bind, bindS, listK]
  simp only [D.seq, mMLstK]
  rw [if_pos (by unfold cap; simp)]
  rfl
theorem seq_nx {f g : SMr} {L L' : Lc} {M M' : Mem} (h : f L M = .nx L' M') : mSeq f g L M = g L' M' := by
  show (match f L M with
    | .nx L' M' => g L' M'
    | r => r) = _
  rw [h]
def nxL (r : SRes) : Lc := match r with
  | .nx L _ => L
  | _ => []
def slot (r : SRes) (i : Nat) : D := match (nxL r)[i]? with
  | some (some d) => d
  | _ => .non
end K70
/-! ## K70c -/
set_option maxHeartbeats 200000
set_option Elab.async false
set_option linter.all false
set_option autoImplicit false
set_option maxRecDepth 100000
set_option maxHeartbeats 4000000
namespace K70
open PySem PySem.Spec
open PyProof.Rows hiding St
open L2 hiding Rd Rd.of Rd.ok
open XM
def T0 (C : Nat → List D → Mem → Res D) : SMr := (mSet 1 (mDisp (mPCons (mC (.str S62)) (mTup (mCons (mC (.str S6)) (mCons (mC (.int 0)) (mCons (mC (.int 9)) mNil)))) (mPCons (mC (.str S61)) (mTup (mCons (mC (.str S10)) mNil)) (mPCons (mC (.str S60)) (mTup (mCons (mC (.str S7)) (mCons (mC (.int 3)) mNil))) mPNil)))))
def T1 (C : Nat → List D → Mem → Res D) : SMr := (mAsg (gT [(gN 11), (gN 12)]) (mCall (mCons (mVar 0) mNil) 1 (C 21) []))
def T2 (C : Nat → List D → Mem → Res D) : SMr := (mAsg (gT [(gN 13), (gN 14)]) (mCall (mCons (mVar 0) mNil) 1 (C 21) []))
def T3 (C : Nat → List D → Mem → Res D) : SMr := (mSet 2 (mCall (mCons (mVar 0) (mCons (mLst (mCons (mC (.int 0)) (mCons (mC (.int 3)) (mCons (mC (.int 1000)) (mCons (mC (.int 1001)) (mCons (mB2 (mC (.int 0)) (mC (.int 1000)) (iK (fun _ _ => true) fun i j => i - j)) (mCons (mB2 (mC (.int 0)) (mC (.int 1001)) (iK (fun _ _ => true) fun i j => i - j)) (mCons (mC (.int 5000)) (mCons (mC (.str S62)) (mCons (mC (.str S57)) (mCons (mC (.bl true)) (mCons (mTup (mCons (mC (.str S58)) mNil)) mNil)))))))))))) mNil)) 2 (C 18) []))
def T4 (C : Nat → List D → Mem → Res D) : SMr := (mSet 3 (mAndV (mB1 (mVar 12) (isiK "str")) (mB2 (mSlS (mVar 12) mNoP (mP (mC (.int 5)))) (mC (.str S63)) (eqK false))))
def T5 (C : Nat → List D → Mem → Res D) : SMr := (mSet 4 (mIfE (mOrB (mNotB (mT (mCall (mCons (mVar 2) mNil) 1 (C 20) []) truK)) (mT (mB2 (mA1 (mCons (mVar 2) mNil) absK) (mC (.int 1000)) (bK fun i j => decide (j < i))) blK)) (mC (.str S64)) (mIfE (mT (mVar 3) truK) (mVar 12) (mIfE (mT (mB2 (mVar 12) (mC (.str S6)) (eqK false)) blK) (mC (.str S6)) (mC (.str S65))))))
def T6 (C : Nat → List D → Mem → Res D) : SMr := (mIf (mOrB (mT (mB2 (mCall (mCons (mVar 1) (mCons (mTup (mCons (mC (.str S11)) (mCons (mVar 2) (mCons (mVar 11) mNil)))) mNil)) 2 (C 19) []) (mVar 4) (eqK true)) blK) (mOrB (mT (mB2 (mCall (mCons (mVar 1) (mCons (mTup (mCons (mC (.str S11)) (mCons (mVar 2) (mCons (mVar 11) (mCons (mC (.int 1)) mNil))))) mNil)) 2 (C 19) []) (mC (.str S64)) (eqK true)) blK) (mT (mB2 (mCall (mCons (mVar 1) (mCons (mTup (mCons (mC (.str S11)) (mCons (mVar 11) mNil))) mNil)) 2 (C 19) []) (mC (.str S64)) (eqK true)) blK))) (mRet (mC (.bl false))) mNop)
def T7 (C : Nat → List D → Mem → Res D) : SMr := (mSet 4 (mIfE (mNotB (mT (mCall (mCons (mVar 2) mNil) 1 (C 20) []) truK)) (mC (.str S64)) (mIfE (mT (mVar 3) truK) (mVar 12) (mIfE (mAndB (mT (mB2 (mVar 12) (mTup (mCons (mC (.str S7)) (mCons (mC (.int 3)) mNil))) (eqK false)) blK) (mT (mChain (mC (.int 0)) (mVar 2) (mC (.int 3)) (bK fun i j => decide (i ≤ j)) (bK fun i j => decide (i < j))) blK)) (mC (.str S10)) (mC (.str S65))))))
def T8 (C : Nat → List D → Mem → Res D) : SMr := (mIf (mOrB (mT (mB2 (mCall (mCons (mVar 1) (mCons (mTup (mCons (mC (.str S8)) (mCons (mVar 2) (mCons (mVar 11) mNil)))) mNil)) 2 (C 19) []) (mVar 4) (eqK true)) blK) (mT (mB2 (mCall (mCons (mVar 1) (mCons (mTup (mCons (mC (.str S8)) (mCons (mVar 2) mNil))) mNil)) 2 (C 19) []) (mC (.str S64)) (eqK true)) blK)) (mRet (mC (.bl false))) mNop)
def T9 (C : Nat → List D → Mem → Res D) : SMr := (mPar3 15 16 17 (mCall (mCons (mVar 0) (mCons (mLst (mCons (mC (.int 0)) (mCons (mC (.int 5)) (mCons (mC (.int 995)) (mCons (mC (.int 1001)) (mCons (mC (.str S62)) (mCons (mC (.bl true)) mNil))))))) mNil)) 2 (C 18) []) (mCall (mCons (mVar 0) (mCons (mLst (mCons (mC (.int 0)) (mCons (mC (.int 7)) (mCons (mC (.int 20)) (mCons (mC (.int 1005)) (mCons (mC (.int 1000)) mNil)))))) mNil)) 2 (C 18) []) (mCall (mCons (mVar 0) (mCons (mLst (mCons (mC (.str S66)) (mCons (mC (.str S66)) (mCons (mC (.str S62)) (mCons (mC (.int 5)) (mCons (mC (.str S6)) mNil)))))) mNil)) 2 (C 18) []))
def T10 (C : Nat → List D → Mem → Res D) : SMr := (mSet 5 (mAndV (mB2 (mVar 17) (mC (.str S66)) (eqK false)) (mAndV (mCall (mCons (mVar 15) mNil) 1 (C 20) []) (mChain (mC (.int 0)) (mB2 (mVar 16) (mVar 15) (iK (fun _ _ => true) fun i j => i - j)) (mC (.int 15)) (bK fun i j => decide (i ≤ j)) (bK fun i j => decide (i ≤ j))))))
def T11 (C : Nat → List D → Mem → Res D) : SMr := (mSet 4 (mIfE (mNotB (mT (mVar 5) truK)) (mC (.str S64)) (mIfE (mOrB (mT (mB2 (mVar 16) (mC (.int 1000)) (bK fun i j => decide (j < i))) blK) (mT (mB2 (mVar 15) (mC (.int 1000)) (bK fun i j => decide (j < i))) blK)) (mC (.str S59)) (mIfE (mT (mVar 3) truK) (mVar 12) (mIfE (mT (mB2 (mVar 12) (mC (.str S10)) (eqK false)) blK) (mC (.str S10)) (mC (.str S65)))))))
def T12 (C : Nat → List D → Mem → Res D) : SMr := (mSet 6 (mCall (mCons (mVar 0) (mCons (mLst (mCons (mC (.str S13)) (mCons (mC (.str S12)) mNil))) mNil)) 2 (C 18) []))
def T13 (C : Nat → List D → Mem → Res D) : SMr := (mIf (mOrB (mT (mB2 (mCall (mCons (mVar 1) (mCons (mTup (mCons (mVar 6) (mCons (mVar 17) (mCons (mVar 15) (mCons (mVar 16) (mCons (mVar 11) mNil)))))) mNil)) 2 (C 19) []) (mVar 4) (eqK true)) blK) (mT (mB2 (mCall (mCons (mVar 1) (mCons (mTup (mCons (mVar 6) (mCons (mVar 17) (mCons (mVar 15) (mCons (mVar 16) mNil))))) mNil)) 2 (C 19) []) (mC (.str S64)) (eqK true)) blK)) (mRet (mC (.bl false))) mNop)
def T14 (C : Nat → List D → Mem → Res D) : SMr := (mSet 7 (mCall (mCons (mVar 0) (mCons (mLst (mCons (mC (.int 0)) (mCons (mC (.int 1)) (mCons (mC (.int 3)) (mCons (mC (.int 6)) (mCons (mC (.int 7)) (mCons (mC (.str S62)) (mCons (mC (.bl true)) (mCons (mTup (mCons (mC (.str S58)) mNil)) mNil))))))))) mNil)) 2 (C 18) []))
def T15 (C : Nat → List D → Mem → Res D) : SMr := (mSet 8 (mCall (mCons (mVar 0) (mCons (mLst (mCons (mC (.int 0)) (mCons (mC (.int 1)) (mCons (mC (.int 7)) (mCons (mC (.int 63)) (mCons (mC (.int 64)) (mCons (mB2 (mC (.int 0)) (mC (.int 1)) (iK (fun _ _ => true) fun i j => i - j)) (mCons (mC (.str S57)) mNil)))))))) mNil)) 2 (C 18) []))
def T16 (C : Nat → List D → Mem → Res D) : SMr := (mSet 9 (mIfE (mT (mCall (mCons (mVar 7) mNil) 1 (C 20) []) truK) (mB2 (mLst (mCons (mC (.int 1)) (mCons (mC (.int 2)) (mCons (mC (.int 4)) (mCons (mC (.int 8)) (mCons (mC (.int 16)) (mCons (mC (.int 32)) (mCons (mC (.int 64)) (mCons (mC (.int 128)) mNil))))))))) (mVar 7) ixK) (mC (.int 0))))
def T17 (C : Nat → List D → Mem → Res D) : SMr := (mSet 4 (mIfE (mOrB (mNotB (mT (mCall (mCons (mVar 7) mNil) 1 (C 20) []) truK)) (mNotB (mT (mCall (mCons (mVar 8) mNil) 1 (C 20) []) truK))) (mC (.str S64)) (mIfE (mAndB (mT (mChain (mC (.int 1)) (mVar 7) (mC (.int 6)) (bK fun i j => decide (i ≤ j)) (bK fun i j => decide (i ≤ j))) blK) (mT (mChain (mC (.int 0)) (mVar 8) (mVar 9) (bK fun i j => decide (i ≤ j)) (bK fun i j => decide (i < j))) blK)) (mTup (mCons (mC (.str S7)) (mCons (mVar 7) mNil))) (mC (.str S59)))))
def T18 (C : Nat → List D → Mem → Res D) : SMr := (mIf (mT (mB2 (mCall (mCons (mVar 1) (mCons (mTup (mCons (mC (.str S7)) (mCons (mVar 7) (mCons (mVar 8) mNil)))) mNil)) 2 (C 19) []) (mVar 4) (eqK true)) blK) (mRet (mC (.bl false))) mNop)
def T19 (C : Nat → List D → Mem → Res D) : SMr := (mSet 10 (mAndV (mB1 (mVar 14) (isiK "str")) (mB2 (mSlS (mVar 14) mNoP (mP (mC (.int 5)))) (mC (.str S63)) (eqK false))))
def T20 (C : Nat → List D → Mem → Res D) : SMr := (mSet 4 (mIfE (mT (mVar 3) truK) (mVar 12) (mIfE (mT (mVar 10) truK) (mVar 14) (mIfE (mAndB (mT (mB2 (mVar 12) (mC (.str S6)) (eqK false)) blK) (mT (mB2 (mVar 14) (mC (.str S6)) (eqK false)) blK)) (mC (.str S6)) (mC (.str S65))))))
def T21 (C : Nat → List D → Mem → Res D) : SMr := (mRet (mB2 (mCall (mCons (mVar 1) (mCons (mTup (mCons (mC (.str S25)) (mCons (mVar 11) (mCons (mVar 13) mNil)))) mNil)) 2 (C 19) []) (mVar 4) (eqK false)))
theorem terms_eq (C : Nat → List D → Mem → Res D) : F_l_terms C = mSeq (T0 C) (mSeq (T1 C) (mSeq (T2 C) (mSeq (T3 C) (mSeq (T4 C) (mSeq (T5 C) (mSeq (T6 C) (mSeq (T7 C) (mSeq (T8 C) (mSeq (T9 C) (mSeq (T10 C) (mSeq (T11 C) (mSeq (T12 C) (mSeq (T13 C) (mSeq (T14 C) (mSeq (T15 C) (mSeq (T16 C) (mSeq (T17 C) (mSeq (T18 C) (mSeq (T19 C) (mSeq (T20 C) (T21 C))))))))))))))))))))) := rfl
def pairsP : List (D × D) := [((.str S62), (.str S6)), ((.str S61), (.str S10)), ((.str S60), (.tup [(.str S7), (.int 3)])), ((.int 5), (.str S6)), ((.int 1000001), (.str S59)), ((.tup [(.str S58)]), (.str S56)), ((.str S57), (.str S56))]
def partM : List D := pairsP.map fun q => .tup [q.1, q.2]
def kM : List D := [(.int 0), (.int 3), (.int 1000), (.int 1001), (.int (-1000)), (.int (-1001)), (.int 5000), (.str S62), (.str S57), (.bl true), (.tup [(.str S58)])]
def lowM : List D := [(.int 0), (.int 5), (.int 995), (.int 1001), (.str S62), (.bl true)]
def highM : List D := [(.int 0), (.int 7), (.int 20), (.int 1005), (.int 1000)]
def xM : List D := [(.str S66), (.str S66), (.str S62), (.int 5), (.str S6)]
def headM : List D := [(.str S13), (.str S12)]
def widthM : List D := [(.int 0), (.int 1), (.int 3), (.int 6), (.int 7), (.str S62), (.bl true), (.tup [(.str S58)])]
def valueM : List D := [(.int 0), (.int 1), (.int 7), (.int 63), (.int 64), (.int (-1)), (.str S57)]
def dNames : D := .dic [.inr S62, .inr S61, .inr S60] [(.tup [(.str S6), (.int 0), (.int 9)]), (.tup [(.str S10)]), (.tup [(.str S7), (.int 3)])]
abbrev C14 : Nat → List D → Mem → Res D := FT 14
theorem part_ok (n : Nat) (X : MO) (hX : InvT X) : ∃ q X', InvT X' ∧ q ∈ pairsP ∧ FT (n + 3) 21 [.ref 0] [X] = .ok (.tup [q.1, q.2]) [X'] := by
  obtain ⟨d, X', h1, h2, h3⟩ := pickT n partM (by unfold partM pairsP; simp) (by unfold partM pairsP; simp) X hX
  obtain ⟨q, hq, rfl⟩ := List.mem_map.mp h2
  refine ⟨q, X', h1, hq, ?_⟩
  have e : FT (n + 3) 21 [.ref 0] [X] = (bindS (FT (n + 2) 18 [.ref 0, .lst partM] [X]) [some (.ref 0)] fun d M => .rt d M).fn := by kernel_rfl
  rw [e, h3]
  rfl
theorem st0 (X : MO) : T0 C14 [some (.ref 0), none, none, none, none, none, none, none, none, none, none, none, none, none, none, none, none, none] [X] = .nx [some (.ref 0), some dNames, none, none, none, none, none, none, none, none, none, none, none, none, none, none, none, none] [X] := by kernel_rfl
theorem st1 (X : MO) : T1 C14 [some (.ref 0), some dNames, none, none, none, none, none, none, none, none, none, none, none, none, none, none, none, none] [X] = bindS (C14 21 [.ref 0] [X]) [some (.ref 0), some dNames, none, none, none, none, none, none, none, none, none, none, none, none, none, none, none, none] fun d M => match gT [gN 11, gN 12] d [some (.ref 0), some dNames, none, none, none, none, none, none, none, none, none, none, none, none, none, none, none, none] with | some L => .nx L M | none => .stk := by kernel_rfl
theorem st2 (q : D × D) (X : MO) : T2 C14 [some (.ref 0), some dNames, none, none, none, none, none, none, none, none, none, some q.1, some q.2, none, none, none, none, none] [X] = bindS (C14 21 [.ref 0] [X]) [some (.ref 0), some dNames, none, none, none, none, none, none, none, none, none, some q.1, some q.2, none, none, none, none, none] fun d M => match gT [gN 13, gN 14] d [some (.ref 0), some dNames, none, none, none, none, none, none, none, none, none, some q.1, some q.2, none, none, none, none, none] with | some L => .nx L M | none => .stk := by kernel_rfl
theorem st3 (q q2 : D × D) (X : MO) : T3 C14 [some (.ref 0), some dNames, none, none, none, none, none, none, none, none, none, some q.1, some q.2, some q2.1, some q2.2, none, none, none] [X] = bindS (C14 18 [.ref 0, .lst kM] [X]) [some (.ref 0), some dNames, none, none, none, none, none, none, none, none, none, some q.1, some q.2, some q2.1, some q2.2, none, none, none] fun d M => .nx [some (.ref 0), some dNames, some d, none, none, none, none, none, none, none, none, some q.1, some q.2, some q2.1, some q2.2, none, none, none] M := by kernel_rfl
def segA (C : Nat → List D → Mem → Res D) : SMr := mSeq (T4 C) (mSeq (T5 C) (mSeq (T6 C) (mSeq (T7 C) (T8 C))))
def wA (q : D × D) : D := slot (T4 C14 [some (.ref 0), some dNames, none, none, none, none, none, none, none, none, none, none, some q.2, none, none, none, none, none] [.gone]) 3
def vA (q : D × D) (k : D) : D := slot (segA C14 [some (.ref 0), some dNames, some k, none, none, none, none, none, none, none, none, some q.1, some q.2, some .non, some .non, none, none, none] [.gone]) 4
theorem stA (q q2 : D × D) (k : D) (hq : q ∈ pairsP) (hk : k ∈ kM) (X : MO) : segA C14 [some (.ref 0), some dNames, some k, none, none, none, none, none, none, none, none, some q.1, some q.2, some q2.1, some q2.2, none, none, none] [X] = .nx [some (.ref 0), some dNames, some k, some (wA q), some (vA q k), none, none, none, none, none, none, some q.1, some q.2, some q2.1, some q2.2, none, none, none] [X] := by
  simp only [pairsP, List.mem_cons, List.not_mem_nil, or_false] at hq
  simp only [kM, List.mem_cons, List.not_mem_nil, or_false] at hk
  rcases hq with rfl | rfl | rfl | rfl | rfl | rfl | rfl <;> rcases hk with rfl | rfl | rfl | rfl | rfl | rfl | rfl | rfl | rfl | rfl | rfl <;> kernel_rfl
theorem st9 (q q2 : D × D) (k v : D) (X : MO) : T9 C14 [some (.ref 0), some dNames, some k, some (wA q), some v, none, none, none, none, none, none, some q.1, some q.2, some q2.1, some q2.2, none, none, none] [X] = bindS (C14 18 [.ref 0, .lst lowM] [X]) [some (.ref 0), some dNames, some k, some (wA q), some v, none, none, none, none, none, none, some q.1, some q.2, some q2.1, some q2.2, none, none, none] fun low M => bindS (C14 18 [.ref 0, .lst highM] M) [some (.ref 0), some dNames, some k, some (wA q), some v, none, none, none, none, none, none, some q.1, some q.2, some q2.1, some q2.2, none, none, none] fun high M2 => bindS (C14 18 [.ref 0, .lst xM] M2) [some (.ref 0), some dNames, some k, some (wA q), some v, none, none, none, none, none, none, some q.1, some q.2, some q2.1, some q2.2, none, none, none] fun x M3 => .nx [some (.ref 0), some dNames, some k, some (wA q), some v, none, none, none, none, none, none, some q.1, some q.2, some q2.1, some q2.2, some low, some high, some x] M3 := by kernel_rfl
def rgM : List (D × D × D) := [((.int 0), (.int 0), (.str S66)), ((.int 0), (.int 7), (.str S66)), ((.int 5), (.int 7), (.str S66)), ((.int 5), (.int 20), (.str S66)), ((.int 995), (.int 1005), (.str S66)), ((.int 995), (.int 1000), (.str S66)), ((.int 1001), (.int 1005), (.str S66))]
def nrM : List (D × D × D) := [((.int 0), (.int 0), (.str S62)), ((.int 0), (.int 0), (.int 5)), ((.int 0), (.int 0), (.str S6)), ((.int 0), (.int 7), (.str S62)), ((.int 0), (.int 7), (.int 5)), ((.int 0), (.int 7), (.str S6)), ((.int 0), (.int 20), (.str S66)), ((.int 0), (.int 20), (.str S62)), ((.int 0), (.int 20), (.int 5)), ((.int 0), (.int 20), (.str S6)), ((.int 0), (.int 1005), (.str S66)), ((.int 0), (.int 1005), (.str S62)), ((.int 0), (.int 1005), (.int 5)), ((.int 0), (.int 1005), (.str S6)), ((.int 0), (.int 1000), (.str S66)), ((.int 0), (.int 1000), (.str S62)), ((.int 0), (.int 1000), (.int 5)), ((.int 0), (.int 1000), (.str S6)), ((.int 5), (.int 0), (.str S66)), ((.int 5), (.int 0), (.str S62)), ((.int 5), (.int 0), (.int 5)), ((.int 5), (.int 0), (.str S6)), ((.int 5), (.int 7), (.str S62)), ((.int 5), (.int 7), (.int 5)), ((.int 5), (.int 7), (.str S6)), ((.int 5), (.int 20), (.str S62)), ((.int 5), (.int 20), (.int 5)), ((.int 5), (.int 20), (.str S6)), ((.int 5), (.int 1005), (.str S66)), ((.int 5), (.int 1005), (.str S62)), ((.int 5), (.int 1005), (.int 5)), ((.int 5), (.int 1005), (.str S6)), ((.int 5), (.int 1000), (.str S66)), ((.int 5), (.int 1000), (.str S62)), ((.int 5), (.int 1000), (.int 5)), ((.int 5), (.int 1000), (.str S6)), ((.int 995), (.int 0), (.str S66)), ((.int 995), (.int 0), (.str S62)), ((.int 995), (.int 0), (.int 5)), ((.int 995), (.int 0), (.str S6)), ((.int 995), (.int 7), (.str S66)), ((.int 995), (.int 7), (.str S62)), ((.int 995), (.int 7), (.int 5)), ((.int 995), (.int 7), (.str S6)), ((.int 995), (.int 20), (.str S66)), ((.int 995), (.int 20), (.str S62)), ((.int 995), (.int 20), (.int 5)), ((.int 995), (.int 20), (.str S6)), ((.int 995), (.int 1005), (.str S62)), ((.int 995), (.int 1005), (.int 5)), ((.int 995), (.int 1005), (.str S6)), ((.int 995), (.int 1000), (.str S62)), ((.int 995), (.int 1000), (.int 5)), ((.int 995), (.int 1000), (.str S6)), ((.int 1001), (.int 0), (.str S66)), ((.int 1001), (.int 0), (.str S62)), ((.int 1001), (.int 0), (.int 5)), ((.int 1001), (.int 0), (.str S6)), ((.int 1001), (.int 7), (.str S66)), ((.int 1001), (.int 7), (.str S62)), ((.int 1001), (.int 7), (.int 5)), ((.int 1001), (.int 7), (.str S6)), ((.int 1001), (.int 20), (.str S66)), ((.int 1001), (.int 20), (.str S62)), ((.int 1001), (.int 20), (.int 5)), ((.int 1001), (.int 20), (.str S6)), ((.int 1001), (.int 1005), (.str S62)), ((.int 1001), (.int 1005), (.int 5)), ((.int 1001), (.int 1005), (.str S6)), ((.int 1001), (.int 1000), (.str S66)), ((.int 1001), (.int 1000), (.str S62)), ((.int 1001), (.int 1000), (.int 5)), ((.int 1001), (.int 1000), (.str S6)), ((.str S62), (.int 0), (.str S66)), ((.str S62), (.int 0), (.str S62)), ((.str S62), (.int 0), (.int 5)), ((.str S62), (.int 0), (.str S6)), ((.str S62), (.int 7), (.str S66)), ((.str S62), (.int 7), (.str S62)), ((.str S62), (.int 7), (.int 5)), ((.str S62), (.int 7), (.str S6)), ((.str S62), (.int 20), (.str S66)), ((.str S62), (.int 20), (.str S62)), ((.str S62), (.int 20), (.int 5)), ((.str S62), (.int 20), (.str S6)), ((.str S62), (.int 1005), (.str S66)), ((.str S62), (.int 1005), (.str S62)), ((.str S62), (.int 1005), (.int 5)), ((.str S62), (.int 1005), (.str S6)), ((.str S62), (.int 1000), (.str S66)), ((.str S62), (.int 1000), (.str S62)), ((.str S62), (.int 1000), (.int 5)), ((.str S62), (.int 1000), (.str S6)), ((.bl true), (.int 0), (.str S66)), ((.bl true), (.int 0), (.str S62)), ((.bl true), (.int 0), (.int 5)), ((.bl true), (.int 0), (.str S6)), ((.bl true), (.int 7), (.str S66)), ((.bl true), (.int 7), (.str S62)), ((.bl true), (.int 7), (.int 5)), ((.bl true), (.int 7), (.str S6)), ((.bl true), (.int 20), (.str S66)), ((.bl true), (.int 20), (.str S62)), ((.bl true), (.int 20), (.int 5)), ((.bl true), (.int 20), (.str S6)), ((.bl true), (.int 1005), (.str S66)), ((.bl true), (.int 1005), (.str S62)), ((.bl true), (.int 1005), (.int 5)), ((.bl true), (.int 1005), (.str S6)), ((.bl true), (.int 1000), (.str S66)), ((.bl true), (.int 1000), (.str S62)), ((.bl true), (.int 1000), (.int 5)), ((.bl true), (.int 1000), (.str S6))]
theorem lhx {low high x : D} (h1 : low ∈ lowM) (h2 : high ∈ highM) (h3 : x ∈ xM) : (low, high, x) ∈ rgM ∨ (low, high, x) ∈ nrM := by
  simp only [lowM, List.mem_cons, List.not_mem_nil, or_false] at h1
  simp only [highM, List.mem_cons, List.not_mem_nil, or_false] at h2
  simp only [xM, List.mem_cons, List.not_mem_nil, or_false] at h3
  rcases h1 with rfl | rfl | rfl | rfl | rfl | rfl <;> rcases h2 with rfl | rfl | rfl | rfl | rfl <;> rcases h3 with rfl | rfl | rfl | rfl | rfl
  · exact .inl (List.mem_of_getElem? (i := 0) rfl)
  · exact .inl (List.mem_of_getElem? (i := 0) rfl)
  · exact .inr (List.mem_of_getElem? (i := 0) rfl)
  · exact .inr (List.mem_of_getElem? (i := 1) rfl)
  · exact .inr (List.mem_of_getElem? (i := 2) rfl)
  · exact .inl (List.mem_of_getElem? (i := 1) rfl)
  · exact .inl (List.mem_of_getElem? (i := 1) rfl)
  · exact .inr (List.mem_of_getElem? (i := 3) rfl)
  · exact .inr (List.mem_of_getElem? (i := 4) rfl)
  · exact .inr (List.mem_of_getElem? (i := 5) rfl)
  · exact .inr (List.mem_of_getElem? (i := 6) rfl)
  · exact .inr (List.mem_of_getElem? (i := 6) rfl)
  · exact .inr (List.mem_of_getElem? (i := 7) rfl)
  · exact .inr (List.mem_of_getElem? (i := 8) rfl)
  · exact .inr (List.mem_of_getElem? (i := 9) rfl)
  · exact .inr (List.mem_of_getElem? (i := 10) rfl)
  · exact .inr (List.mem_of_getElem? (i := 10) rfl)
  · exact .inr (List.mem_of_getElem? (i := 11) rfl)
  · exact .inr (List.mem_of_getElem? (i := 12) rfl)
  · exact .inr (List.mem_of_getElem? (i := 13) rfl)
  · exact .inr (List.mem_of_getElem? (i := 14) rfl)
  · exact .inr (List.mem_of_getElem? (i := 14) rfl)
  · exact .inr (List.mem_of_getElem? (i := 15) rfl)
  · exact .inr (List.mem_of_getElem? (i := 16) rfl)
  · exact .inr (List.mem_of_getElem? (i := 17) rfl)
  · exact .inr (List.mem_of_getElem? (i := 18) rfl)
  · exact .inr (List.mem_of_getElem? (i := 18) rfl)
  · exact .inr (List.mem_of_getElem? (i := 19) rfl)
  · exact .inr (List.mem_of_getElem? (i := 20) rfl)
  · exact .inr (List.mem_of_getElem? (i := 21) rfl)
  · exact .inl (List.mem_of_getElem? (i := 2) rfl)
  · exact .inl (List.mem_of_getElem? (i := 2) rfl)
  · exact .inr (List.mem_of_getElem? (i := 22) rfl)
  · exact .inr (List.mem_of_getElem? (i := 23) rfl)
  · exact .inr (List.mem_of_getElem? (i := 24) rfl)
  · exact .inl (List.mem_of_getElem? (i := 3) rfl)
  · exact .inl (List.mem_of_getElem? (i := 3) rfl)
  · exact .inr (List.mem_of_getElem? (i := 25) rfl)
  · exact .inr (List.mem_of_getElem? (i := 26) rfl)
  · exact .inr (List.mem_of_getElem? (i := 27) rfl)
  · exact .inr (List.mem_of_getElem? (i := 28) rfl)
  · exact .inr (List.mem_of_getElem? (i := 28) rfl)
  · exact .inr (List.mem_of_getElem? (i := 29) rfl)
  · exact .inr (List.mem_of_getElem? (i := 30) rfl)
  · exact .inr (List.mem_of_getElem? (i := 31) rfl)
  · exact .inr (List.mem_of_getElem? (i := 32) rfl)
  · exact .inr (List.mem_of_getElem? (i := 32) rfl)
  · exact .inr (List.mem_of_getElem? (i := 33) rfl)
  · exact .inr (List.mem_of_getElem? (i := 34) rfl)
  · exact .inr (List.mem_of_getElem? (i := 35) rfl)
  · exact .inr (List.mem_of_getElem? (i := 36) rfl)
  · exact .inr (List.mem_of_getElem? (i := 36) rfl)
  · exact .inr (List.mem_of_getElem? (i := 37) rfl)
  · exact .inr (List.mem_of_getElem? (i := 38) rfl)
  · exact .inr (List.mem_of_getElem? (i := 39) rfl)
  · exact .inr (List.mem_of_getElem? (i := 40) rfl)
  · exact .inr (List.mem_of_getElem? (i := 40) rfl)
  · exact .inr (List.mem_of_getElem? (i := 41) rfl)
  · exact .inr (List.mem_of_getElem? (i := 42) rfl)
  · exact .inr (List.mem_of_getElem? (i := 43) rfl)
  · exact .inr (List.mem_of_getElem? (i := 44) rfl)
  · exact .inr (List.mem_of_getElem? (i := 44) rfl)
  · exact .inr (List.mem_of_getElem? (i := 45) rfl)
  · exact .inr (List.mem_of_getElem? (i := 46) rfl)
  · exact .inr (List.mem_of_getElem? (i := 47) rfl)
  · exact .inl (List.mem_of_getElem? (i := 4) rfl)
  · exact .inl (List.mem_of_getElem? (i := 4) rfl)
  · exact .inr (List.mem_of_getElem? (i := 48) rfl)
  · exact .inr (List.mem_of_getElem? (i := 49) rfl)
  · exact .inr (List.mem_of_getElem? (i := 50) rfl)
  · exact .inl (List.mem_of_getElem? (i := 5) rfl)
  · exact .inl (List.mem_of_getElem? (i := 5) rfl)
  · exact .inr (List.mem_of_getElem? (i := 51) rfl)
  · exact .inr (List.mem_of_getElem? (i := 52) rfl)
  · exact .inr (List.mem_of_getElem? (i := 53) rfl)
  · exact .inr (List.mem_of_getElem? (i := 54) rfl)
  · exact .inr (List.mem_of_getElem? (i := 54) rfl)
  · exact .inr (List.mem_of_getElem? (i := 55) rfl)
  · exact .inr (List.mem_of_getElem? (i := 56) rfl)
  · exact .inr (List.mem_of_getElem? (i := 57) rfl)
  · exact .inr (List.mem_of_getElem? (i := 58) rfl)
  · exact .inr (List.mem_of_getElem? (i := 58) rfl)
  · exact .inr (List.mem_of_getElem? (i := 59) rfl)
  · exact .inr (List.mem_of_getElem? (i := 60) rfl)
  · exact .inr (List.mem_of_getElem? (i := 61) rfl)
  · exact .inr (List.mem_of_getElem? (i := 62) rfl)
  · exact .inr (List.mem_of_getElem? (i := 62) rfl)
  · exact .inr (List.mem_of_getElem? (i := 63) rfl)
  · exact .inr (List.mem_of_getElem? (i := 64) rfl)
  · exact .inr (List.mem_of_getElem? (i := 65) rfl)
  · exact .inl (List.mem_of_getElem? (i := 6) rfl)
  · exact .inl (List.mem_of_getElem? (i := 6) rfl)
  · exact .inr (List.mem_of_getElem? (i := 66) rfl)
  · exact .inr (List.mem_of_getElem? (i := 67) rfl)
  · exact .inr (List.mem_of_getElem? (i := 68) rfl)
  · exact .inr (List.mem_of_getElem? (i := 69) rfl)
  · exact .inr (List.mem_of_getElem? (i := 69) rfl)
  · exact .inr (List.mem_of_getElem? (i := 70) rfl)
  · exact .inr (List.mem_of_getElem? (i := 71) rfl)
  · exact .inr (List.mem_of_getElem? (i := 72) rfl)
  · exact .inr (List.mem_of_getElem? (i := 73) rfl)
  · exact .inr (List.mem_of_getElem? (i := 73) rfl)
  · exact .inr (List.mem_of_getElem? (i := 74) rfl)
  · exact .inr (List.mem_of_getElem? (i := 75) rfl)
  · exact .inr (List.mem_of_getElem? (i := 76) rfl)
  · exact .inr (List.mem_of_getElem? (i := 77) rfl)
  · exact .inr (List.mem_of_getElem? (i := 77) rfl)
  · exact .inr (List.mem_of_getElem? (i := 78) rfl)
  · exact .inr (List.mem_of_getElem? (i := 79) rfl)
  · exact .inr (List.mem_of_getElem? (i := 80) rfl)
  · exact .inr (List.mem_of_getElem? (i := 81) rfl)
  · exact .inr (List.mem_of_getElem? (i := 81) rfl)
  · exact .inr (List.mem_of_getElem? (i := 82) rfl)
  · exact .inr (List.mem_of_getElem? (i := 83) rfl)
  · exact .inr (List.mem_of_getElem? (i := 84) rfl)
  · exact .inr (List.mem_of_getElem? (i := 85) rfl)
  · exact .inr (List.mem_of_getElem? (i := 85) rfl)
  · exact .inr (List.mem_of_getElem? (i := 86) rfl)
  · exact .inr (List.mem_of_getElem? (i := 87) rfl)
  · exact .inr (List.mem_of_getElem? (i := 88) rfl)
  · exact .inr (List.mem_of_getElem? (i := 89) rfl)
  · exact .inr (List.mem_of_getElem? (i := 89) rfl)
  · exact .inr (List.mem_of_getElem? (i := 90) rfl)
  · exact .inr (List.mem_of_getElem? (i := 91) rfl)
  · exact .inr (List.mem_of_getElem? (i := 92) rfl)
  · exact .inr (List.mem_of_getElem? (i := 93) rfl)
  · exact .inr (List.mem_of_getElem? (i := 93) rfl)
  · exact .inr (List.mem_of_getElem? (i := 94) rfl)
  · exact .inr (List.mem_of_getElem? (i := 95) rfl)
  · exact .inr (List.mem_of_getElem? (i := 96) rfl)
  · exact .inr (List.mem_of_getElem? (i := 97) rfl)
  · exact .inr (List.mem_of_getElem? (i := 97) rfl)
  · exact .inr (List.mem_of_getElem? (i := 98) rfl)
  · exact .inr (List.mem_of_getElem? (i := 99) rfl)
  · exact .inr (List.mem_of_getElem? (i := 100) rfl)
  · exact .inr (List.mem_of_getElem? (i := 101) rfl)
  · exact .inr (List.mem_of_getElem? (i := 101) rfl)
  · exact .inr (List.mem_of_getElem? (i := 102) rfl)
  · exact .inr (List.mem_of_getElem? (i := 103) rfl)
  · exact .inr (List.mem_of_getElem? (i := 104) rfl)
  · exact .inr (List.mem_of_getElem? (i := 105) rfl)
  · exact .inr (List.mem_of_getElem? (i := 105) rfl)
  · exact .inr (List.mem_of_getElem? (i := 106) rfl)
  · exact .inr (List.mem_of_getElem? (i := 107) rfl)
  · exact .inr (List.mem_of_getElem? (i := 108) rfl)
  · exact .inr (List.mem_of_getElem? (i := 109) rfl)
  · exact .inr (List.mem_of_getElem? (i := 109) rfl)
  · exact .inr (List.mem_of_getElem? (i := 110) rfl)
  · exact .inr (List.mem_of_getElem? (i := 111) rfl)
  · exact .inr (List.mem_of_getElem? (i := 112) rfl)
def segB (C : Nat → List D → Mem → Res D) : SMr := mSeq (T10 C) (T11 C)
def rB (q : D × D) (c : D × D × D) : D := slot (segB C14 [some (.ref 0), some dNames, some .non, some (wA q), some .non, none, none, none, none, none, none, some q.1, some q.2, some .non, some .non, some c.1, some c.2.1, some c.2.2] [.gone]) 5
def vB (q : D × D) (c : D × D × D) : D := slot (segB C14 [some (.ref 0), some dNames, some .non, some (wA q), some .non, none, none, none, none, none, none, some q.1, some q.2, some .non, some .non, some c.1, some c.2.1, some c.2.2] [.gone]) 4
theorem stB1 (q q2 : D × D) (k v : D) (c : D × D × D) (hq : q ∈ pairsP) (hc : c ∈ rgM ∨ c ∈ nrM) (X : MO) : segB C14 [some (.ref 0), some dNames, some k, some (wA q), some v, none, none, none, none, none, none, some q.1, some q.2, some q2.1, some q2.2, some c.1, some c.2.1, some c.2.2] [X] = .nx [some (.ref 0), some dNames, some k, some (wA q), some (vB q c), some (rB q c), none, none, none, none, none, some q.1, some q.2, some q2.1, some q2.2, some c.1, some c.2.1, some c.2.2] [X] := by
  rcases hc with hc | hc
  · simp only [rgM, List.mem_cons, List.not_mem_nil, or_false] at hc
    simp only [pairsP, List.mem_cons, List.not_mem_nil, or_false] at hq
    rcases hc with rfl | rfl | rfl | rfl | rfl | rfl | rfl <;> rcases hq with rfl | rfl | rfl | rfl | rfl | rfl | rfl <;> kernel_rfl
  · simp only [nrM, List.mem_cons, List.not_mem_nil, or_false] at hc
    rcases hc with rfl | rfl | rfl | rfl | rfl | rfl | rfl | rfl | rfl | rfl | rfl | rfl | rfl | rfl | rfl | rfl | rfl | rfl | rfl | rfl | rfl | rfl | rfl | rfl | rfl | rfl | rfl | rfl | rfl | rfl | rfl | rfl | rfl | rfl | rfl | rfl | rfl | rfl | rfl | rfl | rfl | rfl | rfl | rfl | rfl | rfl | rfl | rfl | rfl | rfl | rfl | rfl | rfl | rfl | rfl | rfl | rfl | rfl | rfl | rfl | rfl | rfl | rfl | rfl | rfl | rfl | rfl | rfl | rfl | rfl | rfl | rfl | rfl | rfl | rfl | rfl | rfl | rfl | rfl | rfl | rfl | rfl | rfl | rfl | rfl | rfl | rfl | rfl | rfl | rfl | rfl | rfl | rfl | rfl | rfl | rfl | rfl | rfl | rfl | rfl | rfl | rfl | rfl | rfl | rfl | rfl | rfl | rfl | rfl | rfl | rfl | rfl | rfl <;> kernel_rfl
theorem st12 (q q2 : D × D) (k v : D) (c : D × D × D) (X : MO) : T12 C14 [some (.ref 0), some dNames, some k, some (wA q), some (vB q c), some (rB q c), none, none, none, none, none, some q.1, some q.2, some q2.1, some q2.2, some c.1, some c.2.1, some c.2.2] [X] = bindS (C14 18 [.ref 0, .lst headM] [X]) [some (.ref 0), some dNames, some k, some (wA q), some (vB q c), some (rB q c), none, none, none, none, none, some q.1, some q.2, some q2.1, some q2.2, some c.1, some c.2.1, some c.2.2] fun hd M => .nx [some (.ref 0), some dNames, some k, some (wA q), some (vB q c), some (rB q c), some hd, none, none, none, none, some q.1, some q.2, some q2.1, some q2.2, some c.1, some c.2.1, some c.2.2] M := by kernel_rfl
theorem stB2r (q q2 : D × D) (k v : D) (c : D × D × D) (hd : D) (hq : q ∈ pairsP) (hh : hd ∈ headM) (hc : c ∈ rgM) (X : MO) : T13 C14 [some (.ref 0), some dNames, some k, some (wA q), some (vB q c), some (rB q c), some hd, none, none, none, none, some q.1, some q.2, some q2.1, some q2.2, some c.1, some c.2.1, some c.2.2] [X] = .nx [some (.ref 0), some dNames, some k, some (wA q), some (vB q c), some (rB q c), some hd, none, none, none, none, some q.1, some q.2, some q2.1, some q2.2, some c.1, some c.2.1, some c.2.2] [X] := by
  simp only [rgM, List.mem_cons, List.not_mem_nil, or_false] at hc
  simp only [pairsP, List.mem_cons, List.not_mem_nil, or_false] at hq
  simp only [headM, List.mem_cons, List.not_mem_nil, or_false] at hh
  rcases hc with rfl | rfl | rfl | rfl | rfl | rfl | rfl <;> rcases hq with rfl | rfl | rfl | rfl | rfl | rfl | rfl <;> rcases hh with rfl | rfl <;> kernel_rfl
theorem stB2n (q q2 : D × D) (k v : D) (c : D × D × D) (hd : D) (hh : hd ∈ headM) (hc : c ∈ nrM) (X : MO) : T13 C14 [some (.ref 0), some dNames, some k, some (wA q), some (vB q c), some (rB q c), some hd, none, none, none, none, some q.1, some q.2, some q2.1, some q2.2, some c.1, some c.2.1, some c.2.2] [X] = .nx [some (.ref 0), some dNames, some k, some (wA q), some (vB q c), some (rB q c), some hd, none, none, none, none, some q.1, some q.2, some q2.1, some q2.2, some c.1, some c.2.1, some c.2.2] [X] := by
  simp only [nrM, List.mem_cons, List.not_mem_nil, or_false] at hc
  simp only [headM, List.mem_cons, List.not_mem_nil, or_false] at hh
  rcases hc with rfl | rfl | rfl | rfl | rfl | rfl | rfl | rfl | rfl | rfl | rfl | rfl | rfl | rfl | rfl | rfl | rfl | rfl | rfl | rfl | rfl | rfl | rfl | rfl | rfl | rfl | rfl | rfl | rfl | rfl | rfl | rfl | rfl | rfl | rfl | rfl | rfl | rfl | rfl | rfl | rfl | rfl | rfl | rfl | rfl | rfl | rfl | rfl | rfl | rfl | rfl | rfl | rfl | rfl | rfl | rfl | rfl | rfl | rfl | rfl | rfl | rfl | rfl | rfl | rfl | rfl | rfl | rfl | rfl | rfl | rfl | rfl | rfl | rfl | rfl | rfl | rfl | rfl | rfl | rfl | rfl | rfl | rfl | rfl | rfl | rfl | rfl | rfl | rfl | rfl | rfl | rfl | rfl | rfl | rfl | rfl | rfl | rfl | rfl | rfl | rfl | rfl | rfl | rfl | rfl | rfl | rfl | rfl | rfl | rfl | rfl | rfl | rfl <;> rcases hh with rfl | rfl <;> kernel_rfl
theorem st14 (q q2 : D × D) (k low high x u v hd : D) (X : MO) : T14 C14 [some (.ref 0), some dNames, some k, some (wA q), some v, some u, some hd, none, none, none, none, some q.1, some q.2, some q2.1, some q2.2, some low, some high, some x] [X] = bindS (C14 18 [.ref 0, .lst widthM] [X]) [some (.ref 0), some dNames, some k, some (wA q), some v, some u, some hd, none, none, none, none, some q.1, some q.2, some q2.1, some q2.2, some low, some high, some x] fun wd M => .nx [some (.ref 0), some dNames, some k, some (wA q), some v, some u, some hd, some wd, none, none, none, some q.1, some q.2, some q2.1, some q2.2, some low, some high, some x] M := by kernel_rfl
theorem st15 (q q2 : D × D) (k low high x u v hd : D) (wd : D) (X : MO) : T15 C14 [some (.ref 0), some dNames, some k, some (wA q), some v, some u, some hd, some wd, none, none, none, some q.1, some q.2, some q2.1, some q2.2, some low, some high, some x] [X] = bindS (C14 18 [.ref 0, .lst valueM] [X]) [some (.ref 0), some dNames, some k, some (wA q), some v, some u, some hd, some wd, none, none, none, some q.1, some q.2, some q2.1, some q2.2, some low, some high, some x] fun vl M => .nx [some (.ref 0), some dNames, some k, some (wA q), some v, some u, some hd, some wd, some vl, none, none, some q.1, some q.2, some q2.1, some q2.2, some low, some high, some x] M := by kernel_rfl
def segC (C : Nat → List D → Mem → Res D) : SMr := mSeq (T16 C) (mSeq (T17 C) (T18 C))
def zC (wd vl : D) : D := slot (segC C14 [some (.ref 0), some dNames, some .non, some .non, some .non, some .non, some .non, some wd, some vl, none, none, some .non, some .non, some .non, some .non, some .non, some .non, some .non] [.gone]) 9
def vC (wd vl : D) : D := slot (segC C14 [some (.ref 0), some dNames, some .non, some .non, some .non, some .non, some .non, some wd, some vl, none, none, some .non, some .non, some .non, some .non, some .non, some .non, some .non] [.gone]) 4
theorem stC (q q2 : D × D) (k low high x u v hd : D) (wd vl : D) (hw : wd ∈ widthM) (hv : vl ∈ valueM) (X : MO) : segC C14 [some (.ref 0), some dNames, some k, some (wA q), some v, some u, some hd, some wd, some vl, none, none, some q.1, some q.2, some q2.1, some q2.2, some low, some high, some x] [X] = .nx [some (.ref 0), some dNames, some k, some (wA q), some (vC wd vl), some u, some hd, some wd, some vl, some (zC wd vl), none, some q.1, some q.2, some q2.1, some q2.2, some low, some high, some x] [X] := by
  simp only [widthM, List.mem_cons, List.not_mem_nil, or_false] at hw
  simp only [valueM, List.mem_cons, List.not_mem_nil, or_false] at hv
  rcases hw with rfl | rfl | rfl | rfl | rfl | rfl | rfl | rfl <;> rcases hv with rfl | rfl | rfl | rfl | rfl | rfl | rfl <;> kernel_rfl
def segE (C : Nat → List D → Mem → Res D) : SMr := mSeq (T19 C) (mSeq (T20 C) (T21 C))
theorem stE (q q2 : D × D) (k low high x u v hd : D) (wd vl z : D) (hq : q ∈ pairsP) (hq2 : q2 ∈ pairsP) (X : MO) : segE C14 [some (.ref 0), some dNames, some k, some (wA q), some v, some u, some hd, some wd, some vl, some z, none, some q.1, some q.2, some q2.1, some q2.2, some low, some high, some x] [X] = .rt (.bl true) [X] := by
  simp only [pairsP, List.mem_cons, List.not_mem_nil, or_false] at hq hq2
  rcases hq with rfl | rfl | rfl | rfl | rfl | rfl | rfl <;> rcases hq2 with rfl | rfl | rfl | rfl | rfl | rfl | rfl <;> kernel_rfl
theorem assoc (f g h : SMr) : mSeq (mSeq f g) h = mSeq f (mSeq g h) := by
  funext L M
  show (match (match f L M with | .nx L' M' => g L' M' | r => r) with | .nx L' M' => h L' M' | r => r) = (match f L M with | .nx L' M' => (match g L' M' with | .nx L' M' => h L' M' | r => r) | r => r)
  cases f L M <;> rfl
theorem seg5 (a b c d e r : SMr) : mSeq a (mSeq b (mSeq c (mSeq d (mSeq e r)))) = mSeq (mSeq a (mSeq b (mSeq c (mSeq d e)))) r := by simp only [assoc]
theorem seg2 (a b r : SMr) : mSeq a (mSeq b r) = mSeq (mSeq a b) r := by simp only [assoc]
theorem seg3 (a b c r : SMr) : mSeq a (mSeq b (mSeq c r)) = mSeq (mSeq a (mSeq b c)) r := by simp only [assoc]
theorem sgA (r : SMr) : mSeq (T4 C14) (mSeq (T5 C14) (mSeq (T6 C14) (mSeq (T7 C14) (mSeq (T8 C14) r)))) = mSeq (segA C14) r := seg5 _ _ _ _ _ _
theorem sgB (r : SMr) : mSeq (T10 C14) (mSeq (T11 C14) r) = mSeq (segB C14) r := seg2 _ _ _
theorem sgC (r : SMr) : mSeq (T16 C14) (mSeq (T17 C14) (mSeq (T18 C14) r)) = mSeq (segC C14) r := seg3 _ _ _ _
theorem terms_ok (X : MO) (hX : InvT X) : ∃ X', InvT X' ∧ FT 15 22 [.ref 0] [X] = .ok (.bl true) [X'] := by
  have e0 : FT 15 22 [.ref 0] [X] = (F_l_terms C14 [some (.ref 0), none, none, none, none, none, none, none, none, none, none, none, none, none, none, none, none, none] [X]).fn := by kernel_rfl
  rw [e0, terms_eq, seq_nx (st0 X)]
  obtain ⟨q, X1, i1, hq, p1⟩ := part_ok 11 X hX
  have p1 : C14 21 [.ref 0] [X] = .ok (.tup [q.1, q.2]) [X1] := p1
  have e1 : T1 C14 [some (.ref 0), some dNames, none, none, none, none, none, none, none, none, none, none, none, none, none, none, none, none] [X] = .nx [some (.ref 0), some dNames, none, none, none, none, none, none, none, none, none, some q.1, some q.2, none, none, none, none, none] [X1] := by rw [st1, p1]; rfl
  rw [seq_nx e1]
  obtain ⟨q2, X2, i2, hq2, p2⟩ := part_ok 11 X1 i1
  have p2 : C14 21 [.ref 0] [X1] = .ok (.tup [q2.1, q2.2]) [X2] := p2
  have e2 : T2 C14 [some (.ref 0), some dNames, none, none, none, none, none, none, none, none, none, some q.1, some q.2, none, none, none, none, none] [X1] = .nx [some (.ref 0), some dNames, none, none, none, none, none, none, none, none, none, some q.1, some q.2, some q2.1, some q2.2, none, none, none] [X2] := by rw [st2, p2]; rfl
  rw [seq_nx e2]
  obtain ⟨k, X3, i3, hk, p3⟩ := pickT 12 kM (by unfold kM; simp) (by unfold kM; simp) X2 i2
  have p3 : C14 18 [.ref 0, .lst kM] [X2] = .ok k [X3] := p3
  have e3 : T3 C14 [some (.ref 0), some dNames, none, none, none, none, none, none, none, none, none, some q.1, some q.2, some q2.1, some q2.2, none, none, none] [X2] = .nx [some (.ref 0), some dNames, some k, none, none, none, none, none, none, none, none, some q.1, some q.2, some q2.1, some q2.2, none, none, none] [X3] := by rw [st3, p3]; rfl
  rw [seq_nx e3, sgA, seq_nx (stA q q2 k hq hk X3)]
  generalize vA q k = v
  obtain ⟨low, X4, i4, hlow, p4⟩ := pickT 12 lowM (by unfold lowM; simp) (by unfold lowM; simp) X3 i3
  have p4 : C14 18 [.ref 0, .lst lowM] [X3] = .ok low [X4] := p4
  obtain ⟨high, X5, i5, hhigh, p5⟩ := pickT 12 highM (by unfold highM; simp) (by unfold highM; simp) X4 i4
  have p5 : C14 18 [.ref 0, .lst highM] [X4] = .ok high [X5] := p5
  obtain ⟨x, X6, i6, hx, p6⟩ := pickT 12 xM (by unfold xM; simp) (by unfold xM; simp) X5 i5
  have p6 : C14 18 [.ref 0, .lst xM] [X5] = .ok x [X6] := p6
  have e9 : T9 C14 [some (.ref 0), some dNames, some k, some (wA q), some v, none, none, none, none, none, none, some q.1, some q.2, some q2.1, some q2.2, none, none, none] [X3] = .nx [some (.ref 0), some dNames, some k, some (wA q), some v, none, none, none, none, none, none, some q.1, some q.2, some q2.1, some q2.2, some low, some high, some x] [X6] := by
    rw [st9, p4]
    show bindS (C14 18 [.ref 0, .lst highM] [X4]) _ _ = _
    rw [p5]
    show bindS (C14 18 [.ref 0, .lst xM] [X5]) _ _ = _
    rw [p6]; rfl
  rw [seq_nx e9, sgB]
  have hc := lhx hlow hhigh hx
  generalize hcc : (low, high, x) = c at hc
  have b1' := stB1 q q2 k v c hq hc X6
  have ec1 : c.1 = low := by rw [← hcc]
  have ec2 : c.2.1 = high := by rw [← hcc]
  have ec3 : c.2.2 = x := by rw [← hcc]
  rw [← ec1, ← ec2, ← ec3, seq_nx b1']
  obtain ⟨hd, X7, i7, hhd, p7⟩ := pickT 12 headM (by unfold headM; simp) (by unfold headM; simp) X6 i6
  have p7 : C14 18 [.ref 0, .lst headM] [X6] = .ok hd [X7] := p7
  have e12 : T12 C14 [some (.ref 0), some dNames, some k, some (wA q), some (vB q c), some (rB q c), none, none, none, none, none, some q.1, some q.2, some q2.1, some q2.2, some c.1, some c.2.1, some c.2.2] [X6] = .nx [some (.ref 0), some dNames, some k, some (wA q), some (vB q c), some (rB q c), some hd, none, none, none, none, some q.1, some q.2, some q2.1, some q2.2, some c.1, some c.2.1, some c.2.2] [X7] := by rw [st12 q q2 k v c X6, p7]; rfl
  rw [seq_nx e12]
  have e13 : T13 C14 [some (.ref 0), some dNames, some k, some (wA q), some (vB q c), some (rB q c), some hd, none, none, none, none, some q.1, some q.2, some q2.1, some q2.2, some c.1, some c.2.1, some c.2.2] [X7] = .nx [some (.ref 0), some dNames, some k, some (wA q), some (vB q c), some (rB q c), some hd, none, none, none, none, some q.1, some q.2, some q2.1, some q2.2, some c.1, some c.2.1, some c.2.2] [X7] := by
    rcases hc with hc | hc
    · exact stB2r q q2 k v c hd hq hhd hc X7
    · exact stB2n q q2 k v c hd hhd hc X7
  rw [seq_nx e13]
  generalize rB q c = u
  generalize vB q c = v
  generalize c.1 = low
  generalize c.2.1 = high
  generalize c.2.2 = x
  obtain ⟨wd, X8, i8, hwd, p8⟩ := pickT 12 widthM (by unfold widthM; simp) (by unfold widthM; simp) X7 i7
  have p8 : C14 18 [.ref 0, .lst widthM] [X7] = .ok wd [X8] := p8
  have e14 : T14 C14 [some (.ref 0), some dNames, some k, some (wA q), some v, some u, some hd, none, none, none, none, some q.1, some q.2, some q2.1, some q2.2, some low, some high, some x] [X7] = .nx [some (.ref 0), some dNames, some k, some (wA q), some v, some u, some hd, some wd, none, none, none, some q.1, some q.2, some q2.1, some q2.2, some low, some high, some x] [X8] := by rw [st14 q q2 k low high x u v hd X7, p8]; rfl
  rw [seq_nx e14]
  obtain ⟨vl, X9, i9, hvl, p9⟩ := pickT 12 valueM (by unfold valueM; simp) (by unfold valueM; simp) X8 i8
  have p9 : C14 18 [.ref 0, .lst valueM] [X8] = .ok vl [X9] := p9
  have e15 : T15 C14 [some (.ref 0), some dNames, some k, some (wA q), some v, some u, some hd, some wd, none, none, none, some q.1, some q.2, some q2.1, some q2.2, some low, some high, some x] [X8] = .nx [some (.ref 0), some dNames, some k, some (wA q), some v, some u, some hd, some wd, some vl, none, none, some q.1, some q.2, some q2.1, some q2.2, some low, some high, some x] [X9] := by rw [st15 q q2 k low high x u v hd wd X8, p9]; rfl
  rw [seq_nx e15, sgC, seq_nx (stC q q2 k low high x u v hd wd vl hwd hvl X9)]
  have e19 := stE q q2 k low high x u (vC wd vl) hd wd vl (zC wd vl) hq hq2 X9
  refine ⟨X9, i9, ?_⟩
  show (segE C14 _ [X9]).fn = _
  rw [e19]
  rfl
def U0 (C : Nat → List D → Mem → Res D) : SMr := (mSet 1 (mDisp (mPCons (mC (.str S62)) (mTup (mCons (mC (.str S6)) (mCons (mC (.int 0)) (mCons (mC (.int 9)) mNil)))) mPNil)))
def U1 (C : Nat → List D → Mem → Res D) : SMr := (mSet 2 (mTup (mCons (mTup (mCons (mC (.str S43)) (mCons (mTup (mCons (mTup (mCons (mC (.str S62)) (mCons (mB2 (mC (.int 0)) (mC (.int 1)) (iK (fun _ _ => true) fun i j => i - j)) mNil))) mNil)) (mCons (mB2 (mB2 (mC (.int 0)) (mC (.int 10)) (iK (fun _ _ => true) fun i j => i - j)) (mCall (mCons (mVar 0) (mCons (mC (.int 5)) mNil)) 2 (C 17) []) (iK (fun _ _ => true) fun i j => i - j)) mNil)))) (mCons (mTup (mCons (mC (.str S43)) (mCons (mTup (mCons (mTup (mCons (mC (.str S62)) (mCons (mC (.int 1)) mNil))) mNil)) (mCons (mB2 (mB2 (mC (.int 0)) (mC (.int 1)) (iK (fun _ _ => true) fun i j => i - j)) (mCall (mCons (mVar 0) (mCons (mC (.int 5)) mNil)) 2 (C 17) []) (iK (fun _ _ => true) fun i j => i - j)) mNil)))) mNil))))
def U2 (C : Nat → List D → Mem → Res D) : SMr := (mSet 3 (mB2 (mC (.int 1)) (mCall (mCons (mVar 0) (mCons (mC (.int 3)) mNil)) 2 (C 17) []) addK))
def U3 (C : Nat → List D → Mem → Res D) : SMr := (mIf (mT (mB2 (mCall (mCons (mVar 1) (mCons (mVar 2) (mCons (mTup (mCons (mB2 (mC (.int 0)) (mC (.int 1)) (iK (fun _ _ => true) fun i j => i - j)) mNil)) (mCons (mTup (mCons (mTup (mCons (mC (.int 1)) (mCons (mVar 3) mNil))) (mCons (mTup (mCons (mTup (mCons (mC (.str S38)) (mCons (mC (.str S62)) mNil))) (mCons (mVar 3) mNil))) mNil))) mNil)))) 4 (C 23) []) (mC (.bl true)) nisK) blK) (mRet (mC (.bl false))) mNop)
def U4 (C : Nat → List D → Mem → Res D) : SMr := (mIf (mT (mB2 (mCall (mCons (mVar 1) (mCons (mVar 2) (mCons (mTup (mCons (mB2 (mC (.int 0)) (mC (.int 2)) (iK (fun _ _ => true) fun i j => i - j)) mNil)) (mCons (mTup (mCons (mTup (mCons (mC (.int 2)) (mCons (mVar 3) mNil))) (mCons (mTup (mCons (mTup (mCons (mC (.str S39)) (mCons (mC (.str S62)) mNil))) (mCons (mVar 3) mNil))) mNil))) mNil)))) 4 (C 23) []) (mC (.bl true)) nisK) blK) (mRet (mC (.bl false))) mNop)
def U5 (C : Nat → List D → Mem → Res D) : SMr := (mSet 4 (mLst (mCons (mTup (mCons (mTup (mCons (mC (.bl true)) (mCons (mVar 3) mNil))) (mCons (mTup (mCons (mTup (mCons (mC (.str S38)) (mCons (mC (.str S62)) mNil))) (mCons (mVar 3) mNil))) mNil))) (mCons (mTup (mCons (mTup (mCons (mC (.int 1)) (mCons (mVar 3) mNil))) (mCons (mTup (mCons (mTup (mCons (mC (.str S38)) (mCons (mC (.str S62)) mNil))) (mCons (mVar 3) mNil))) mNil))) (mCons (mTup (mCons (mTup (mCons (mC (.bl true)) (mCons (mC (.bl true)) mNil))) (mCons (mTup (mCons (mTup (mCons (mC (.str S38)) (mCons (mC (.str S62)) mNil))) (mCons (mC (.bl true)) mNil))) mNil))) mNil)))))
def U6 (C : Nat → List D → Mem → Res D) : SMr := (mIf (mT (mA1 (mCons (mLc (mISeq (mVar 4)) (gN 5) mYes (mB2 (mCall (mCons (mVar 1) (mCons (mVar 2) (mCons (mTup mNil) (mCons (mVar 5) mNil)))) 4 (C 23) []) (mC (.str S51)) (eqK true)) [5]) mNil) anyK) truK) (mRet (mC (.bl false))) mNop)
def U7 (C : Nat → List D → Mem → Res D) : SMr := (mFor (mISeq (mLst (mCons (mTup (mCons (mTup (mCons (mC (.int 1)) (mCons (mC (.bl true)) mNil))) (mCons (mTup (mCons (mTup (mCons (mC (.str S38)) (mCons (mC (.str S62)) mNil))) (mCons (mC (.int 1)) mNil))) mNil))) (mCons (mTup (mCons (mTup (mCons (mC (.int 1)) (mCons (mC (.int 1)) mNil))) (mCons (mTup (mCons (mTup (mCons (mC (.str S38)) (mCons (mC (.str S62)) mNil))) (mCons (mC (.bl true)) mNil))) mNil))) (mCons (mTup (mCons (mTup (mCons (mC (.int 1)) (mCons (mC (.int 0)) mNil))) (mCons (mTup (mCons (mTup (mCons (mC (.str S38)) (mCons (mC (.str S62)) mNil))) (mCons (mC (.int 0)) mNil))) mNil))) (mCons (mTup (mCons (mTup (mCons (mC (.int 1)) (mCons (mVar 3) mNil))) mNil)) (mCons (mTup (mCons (mTup (mCons (mC (.int 1)) (mCons (mVar 3) mNil))) (mCons (mTup (mCons (mTup (mCons (mC (.str S39)) (mCons (mC (.str S62)) mNil))) (mCons (mVar 3) mNil))) mNil))) mNil))))))) (gN 5) (mIf (mT (mB2 (mCall (mCons (mVar 1) (mCons (mVar 2) (mCons (mTup (mCons (mB2 (mC (.int 0)) (mC (.int 1)) (iK (fun _ _ => true) fun i j => i - j)) mNil)) (mCons (mVar 5) mNil)))) 4 (C 23) []) (mC (.str S51)) (eqK true)) blK) (mRet (mC (.bl false))) mNop))
def U8 (C : Nat → List D → Mem → Res D) : SMr := (mRet (mB2 (mCall (mCons (mVar 1) (mCons (mVar 2) (mCons (mTup (mCons (mB2 (mC (.int 0)) (mC (.int 1)) (iK (fun _ _ => true) fun i j => i - j)) mNil)) (mCons (mTup (mCons (mTup (mCons (mC (.int 1)) (mCons (mVar 3) mNil))) (mCons (mTup (mCons (mTup (mCons (mC (.str S38)) (mCons (mC (.str S62)) mNil))) (mCons (mB2 (mVar 3) (mC (.int 1)) addK) mNil))) mNil))) mNil)))) 4 (C 23) []) (mC (.str S51)) (eqK false)))
def segF (C : Nat → List D → Mem → Res D) : SMr := mSeq (U3 C) (mSeq (U4 C) (mSeq (U5 C) (mSeq (U6 C) (mSeq (U7 C) (U8 C)))))
theorem factors_eq (C : Nat → List D → Mem → Res D) : F_l_factors C = mSeq (U0 C) (mSeq (U1 C) (mSeq (U2 C) (segF C))) := rfl
def memR (r : SRes) : Mem := match r with
  | .rt _ M => M
  | _ => []
theorem fs0 (X : MO) : U0 C14 [some (.ref 0), none, none, none, none, none] [X] = .nx [some (.ref 0), some (.dic [.inr S62] [.tup [.str S6, .int 0, .int 9]]), none, none, none, none] [X] := by kernel_rfl
theorem fs1 {X X1 X2 : MO} {a b : Int} (h1 : C14 17 [.ref 0, .int 5] [X] = .ok (.int a) [X1]) (h2 : C14 17 [.ref 0, .int 5] [X1] = .ok (.int b) [X2]) : U1 C14 [some (.ref 0), some (.dic [.inr S62] [.tup [.str S6, .int 0, .int 9]]), none, none, none, none] [X] = .nx [some (.ref 0), some (.dic [.inr S62] [.tup [.str S6, .int 0, .int 9]]), some (.tup [.tup [.str S43, .tup [.tup [.str S62, .int (0 - 1)]], .int (0 - 10 - a)], .tup [.str S43, .tup [.tup [.str S62, .int 1]], .int (0 - 1 - b)]]), none, none, none] [X2] := by
  unfold U1
  simp only [mSet, mTup, mA1, mCons, mNil, mB2, mC, mVar, mCall, Res.bind, List.getElem?_cons_zero, List.length_cons, List.length_nil, List.append_nil, iK, if_true, h1, h2, mTupK, cap, Nat.zero_add, Nat.reduceAdd, Nat.reduceLeDiff, bindS]
  rfl
theorem fs2 {X X1 : MO} {a b z : Int} (h1 : C14 17 [.ref 0, .int 3] [X] = .ok (.int z) [X1]) : U2 C14 [some (.ref 0), some (.dic [.inr S62] [.tup [.str S6, .int 0, .int 9]]), some (.tup [.tup [.str S43, .tup [.tup [.str S62, .int (0 - 1)]], .int (0 - 10 - a)], .tup [.str S43, .tup [.tup [.str S62, .int 1]], .int (0 - 1 - b)]]), none, none, none] [X] = .nx [some (.ref 0), some (.dic [.inr S62] [.tup [.str S6, .int 0, .int 9]]), some (.tup [.tup [.str S43, .tup [.tup [.str S62, .int (0 - 1)]], .int (0 - 10 - a)], .tup [.str S43, .tup [.tup [.str S62, .int 1]], .int (0 - 1 - b)]]), some (.int (1 + z)), none, none] [X1] := by
  have e : U2 C14 [some (.ref 0), some (.dic [.inr S62] [.tup [.str S6, .int 0, .int 9]]), some (.tup [.tup [.str S43, .tup [.tup [.str S62, .int (0 - 1)]], .int (0 - 10 - a)], .tup [.str S43, .tup [.tup [.str S62, .int 1]], .int (0 - 1 - b)]]), none, none, none] [X] = bindS ((C14 17 [.ref 0, .int 3] [X]).bind fun r M => addK (.int 1) r M) [some (.ref 0), some (.dic [.inr S62] [.tup [.str S6, .int 0, .int 9]]), some (.tup [.tup [.str S43, .tup [.tup [.str S62, .int (0 - 1)]], .int (0 - 10 - a)], .tup [.str S43, .tup [.tup [.str S62, .int 1]], .int (0 - 1 - b)]]), none, none, none] fun r M => .nx [some (.ref 0), some (.dic [.inr S62] [.tup [.str S6, .int 0, .int 9]]), some (.tup [.tup [.str S43, .tup [.tup [.str S62, .int (0 - 1)]], .int (0 - 10 - a)], .tup [.str S43, .tup [.tup [.str S62, .int 1]], .int (0 - 1 - b)]]), some r, none, none] M := by kernel_rfl
  rw [e, h1]
  rfl
def isT (r : SRes) : Bool := match r with
  | .rt (.bl true) _ => true
  | _ => false
theorem isT_of {r : SRes} (h : isT r = true) : ∃ M, r = .rt (.bl true) M := by
  cases r with
  | rt d M =>
    cases d with
    | bl b => cases b with
      | true => exact ⟨M, rfl⟩
      | false => cases h
    | _ => cases h
  | _ => cases h
theorem fsF_0_0_0 (X : MO) : isT (segF C14 [some (.ref 0), some (.dic [.inr S62] [.tup [.str S6, .int 0, .int 9]]), some (.tup [.tup [.str S43, .tup [.tup [.str S62, .int (0 - 1)]], .int (0 - 10 - 0)], .tup [.str S43, .tup [.tup [.str S62, .int 1]], .int (0 - 1 - 0)]]), some (.int (1 + 0)), none, none] [X]) = true := by kernel_rfl
theorem fsF_0_0_1 (X : MO) : isT (segF C14 [some (.ref 0), some (.dic [.inr S62] [.tup [.str S6, .int 0, .int 9]]), some (.tup [.tup [.str S43, .tup [.tup [.str S62, .int (0 - 1)]], .int (0 - 10 - 0)], .tup [.str S43, .tup [.tup [.str S62, .int 1]], .int (0 - 1 - 0)]]), some (.int (1 + 1)), none, none] [X]) = true := by kernel_rfl
theorem fsF_0_0_2 (X : MO) : isT (segF C14 [some (.ref 0), some (.dic [.inr S62] [.tup [.str S6, .int 0, .int 9]]), some (.tup [.tup [.str S43, .tup [.tup [.str S62, .int (0 - 1)]], .int (0 - 10 - 0)], .tup [.str S43, .tup [.tup [.str S62, .int 1]], .int (0 - 1 - 0)]]), some (.int (1 + 2)), none, none] [X]) = true := by kernel_rfl
theorem fsF_0_1_0 (X : MO) : isT (segF C14 [some (.ref 0), some (.dic [.inr S62] [.tup [.str S6, .int 0, .int 9]]), some (.tup [.tup [.str S43, .tup [.tup [.str S62, .int (0 - 1)]], .int (0 - 10 - 0)], .tup [.str S43, .tup [.tup [.str S62, .int 1]], .int (0 - 1 - 1)]]), some (.int (1 + 0)), none, none] [X]) = true := by kernel_rfl
theorem fsF_0_1_1 (X : MO) : isT (segF C14 [some (.ref 0), some (.dic [.inr S62] [.tup [.str S6, .int 0, .int 9]]), some (.tup [.tup [.str S43, .tup [.tup [.str S62, .int (0 - 1)]], .int (0 - 10 - 0)], .tup [.str S43, .tup [.tup [.str S62, .int 1]], .int (0 - 1 - 1)]]), some (.int (1 + 1)), none, none] [X]) = true := by kernel_rfl
theorem fsF_0_1_2 (X : MO) : isT (segF C14 [some (.ref 0), some (.dic [.inr S62] [.tup [.str S6, .int 0, .int 9]]), some (.tup [.tup [.str S43, .tup [.tup [.str S62, .int (0 - 1)]], .int (0 - 10 - 0)], .tup [.str S43, .tup [.tup [.str S62, .int 1]], .int (0 - 1 - 1)]]), some (.int (1 + 2)), none, none] [X]) = true := by kernel_rfl
theorem fsF_0_2_0 (X : MO) : isT (segF C14 [some (.ref 0), some (.dic [.inr S62] [.tup [.str S6, .int 0, .int 9]]), some (.tup [.tup [.str S43, .tup [.tup [.str S62, .int (0 - 1)]], .int (0 - 10 - 0)], .tup [.str S43, .tup [.tup [.str S62, .int 1]], .int (0 - 1 - 2)]]), some (.int (1 + 0)), none, none] [X]) = true := by kernel_rfl
theorem fsF_0_2_1 (X : MO) : isT (segF C14 [some (.ref 0), some (.dic [.inr S62] [.tup [.str S6, .int 0, .int 9]]), some (.tup [.tup [.str S43, .tup [.tup [.str S62, .int (0 - 1)]], .int (0 - 10 - 0)], .tup [.str S43, .tup [.tup [.str S62, .int 1]], .int (0 - 1 - 2)]]), some (.int (1 + 1)), none, none] [X]) = true := by kernel_rfl
theorem fsF_0_2_2 (X : MO) : isT (segF C14 [some (.ref 0), some (.dic [.inr S62] [.tup [.str S6, .int 0, .int 9]]), some (.tup [.tup [.str S43, .tup [.tup [.str S62, .int (0 - 1)]], .int (0 - 10 - 0)], .tup [.str S43, .tup [.tup [.str S62, .int 1]], .int (0 - 1 - 2)]]), some (.int (1 + 2)), none, none] [X]) = true := by kernel_rfl
theorem fsF_0_3_0 (X : MO) : isT (segF C14 [some (.ref 0), some (.dic [.inr S62] [.tup [.str S6, .int 0, .int 9]]), some (.tup [.tup [.str S43, .tup [.tup [.str S62, .int (0 - 1)]], .int (0 - 10 - 0)], .tup [.str S43, .tup [.tup [.str S62, .int 1]], .int (0 - 1 - 3)]]), some (.int (1 + 0)), none, none] [X]) = true := by kernel_rfl
theorem fsF_0_3_1 (X : MO) : isT (segF C14 [some (.ref 0), some (.dic [.inr S62] [.tup [.str S6, .int 0, .int 9]]), some (.tup [.tup [.str S43, .tup [.tup [.str S62, .int (0 - 1)]], .int (0 - 10 - 0)], .tup [.str S43, .tup [.tup [.str S62, .int 1]], .int (0 - 1 - 3)]]), some (.int (1 + 1)), none, none] [X]) = true := by kernel_rfl
theorem fsF_0_3_2 (X : MO) : isT (segF C14 [some (.ref 0), some (.dic [.inr S62] [.tup [.str S6, .int 0, .int 9]]), some (.tup [.tup [.str S43, .tup [.tup [.str S62, .int (0 - 1)]], .int (0 - 10 - 0)], .tup [.str S43, .tup [.tup [.str S62, .int 1]], .int (0 - 1 - 3)]]), some (.int (1 + 2)), none, none] [X]) = true := by kernel_rfl
theorem fsF_0_4_0 (X : MO) : isT (segF C14 [some (.ref 0), some (.dic [.inr S62] [.tup [.str S6, .int 0, .int 9]]), some (.tup [.tup [.str S43, .tup [.tup [.str S62, .int (0 - 1)]], .int (0 - 10 - 0)], .tup [.str S43, .tup [.tup [.str S62, .int 1]], .int (0 - 1 - 4)]]), some (.int (1 + 0)), none, none] [X]) = true := by kernel_rfl
theorem fsF_0_4_1 (X : MO) : isT (segF C14 [some (.ref 0), some (.dic [.inr S62] [.tup [.str S6, .int 0, .int 9]]), some (.tup [.tup [.str S43, .tup [.tup [.str S62, .int (0 - 1)]], .int (0 - 10 - 0)], .tup [.str S43, .tup [.tup [.str S62, .int 1]], .int (0 - 1 - 4)]]), some (.int (1 + 1)), none, none] [X]) = true := by kernel_rfl
theorem fsF_0_4_2 (X : MO) : isT (segF C14 [some (.ref 0), some (.dic [.inr S62] [.tup [.str S6, .int 0, .int 9]]), some (.tup [.tup [.str S43, .tup [.tup [.str S62, .int (0 - 1)]], .int (0 - 10 - 0)], .tup [.str S43, .tup [.tup [.str S62, .int 1]], .int (0 - 1 - 4)]]), some (.int (1 + 2)), none, none] [X]) = true := by kernel_rfl
theorem fsF_1_0_0 (X : MO) : isT (segF C14 [some (.ref 0), some (.dic [.inr S62] [.tup [.str S6, .int 0, .int 9]]), some (.tup [.tup [.str S43, .tup [.tup [.str S62, .int (0 - 1)]], .int (0 - 10 - 1)], .tup [.str S43, .tup [.tup [.str S62, .int 1]], .int (0 - 1 - 0)]]), some (.int (1 + 0)), none, none] [X]) = true := by kernel_rfl
theorem fsF_1_0_1 (X : MO) : isT (segF C14 [some (.ref 0), some (.dic [.inr S62] [.tup [.str S6, .int 0, .int 9]]), some (.tup [.tup [.str S43, .tup [.tup [.str S62, .int (0 - 1)]], .int (0 - 10 - 1)], .tup [.str S43, .tup [.tup [.str S62, .int 1]], .int (0 - 1 - 0)]]), some (.int (1 + 1)), none, none] [X]) = true := by kernel_rfl
theorem fsF_1_0_2 (X : MO) : isT (segF C14 [some (.ref 0), some (.dic [.inr S62] [.tup [.str S6, .int 0, .int 9]]), some (.tup [.tup [.str S43, .tup [.tup [.str S62, .int (0 - 1)]], .int (0 - 10 - 1)], .tup [.str S43, .tup [.tup [.str S62, .int 1]], .int (0 - 1 - 0)]]), some (.int (1 + 2)), none, none] [X]) = true := by kernel_rfl
theorem fsF_1_1_0 (X : MO) : isT (segF C14 [some (.ref 0), some (.dic [.inr S62] [.tup [.str S6, .int 0, .int 9]]), some (.tup [.tup [.str S43, .tup [.tup [.str S62, .int (0 - 1)]], .int (0 - 10 - 1)], .tup [.str S43, .tup [.tup [.str S62, .int 1]], .int (0 - 1 - 1)]]), some (.int (1 + 0)), none, none] [X]) = true := by kernel_rfl
theorem fsF_1_1_1 (X : MO) : isT (segF C14 [some (.ref 0), some (.dic [.inr S62] [.tup [.str S6, .int 0, .int 9]]), some (.tup [.tup [.str S43, .tup [.tup [.str S62, .int (0 - 1)]], .int (0 - 10 - 1)], .tup [.str S43, .tup [.tup [.str S62, .int 1]], .int (0 - 1 - 1)]]), some (.int (1 + 1)), none, none] [X]) = true := by kernel_rfl
theorem fsF_1_1_2 (X : MO) : isT (segF C14 [some (.ref 0), some (.dic [.inr S62] [.tup [.str S6, .int 0, .int 9]]), some (.tup [.tup [.str S43, .tup [.tup [.str S62, .int (0 - 1)]], .int (0 - 10 - 1)], .tup [.str S43, .tup [.tup [.str S62, .int 1]], .int (0 - 1 - 1)]]), some (.int (1 + 2)), none, none] [X]) = true := by kernel_rfl
theorem fsF_1_2_0 (X : MO) : isT (segF C14 [some (.ref 0), some (.dic [.inr S62] [.tup [.str S6, .int 0, .int 9]]), some (.tup [.tup [.str S43, .tup [.tup [.str S62, .int (0 - 1)]], .int (0 - 10 - 1)], .tup [.str S43, .tup [.tup [.str S62, .int 1]], .int (0 - 1 - 2)]]), some (.int (1 + 0)), none, none] [X]) = true := by kernel_rfl
theorem fsF_1_2_1 (X : MO) : isT (segF C14 [some (.ref 0), some (.dic [.inr S62] [.tup [.str S6, .int 0, .int 9]]), some (.tup [.tup [.str S43, .tup [.tup [.str S62, .int (0 - 1)]], .int (0 - 10 - 1)], .tup [.str S43, .tup [.tup [.str S62, .int 1]], .int (0 - 1 - 2)]]), some (.int (1 + 1)), none, none] [X]) = true := by kernel_rfl
theorem fsF_1_2_2 (X : MO) : isT (segF C14 [some (.ref 0), some (.dic [.inr S62] [.tup [.str S6, .int 0, .int 9]]), some (.tup [.tup [.str S43, .tup [.tup [.str S62, .int (0 - 1)]], .int (0 - 10 - 1)], .tup [.str S43, .tup [.tup [.str S62, .int 1]], .int (0 - 1 - 2)]]), some (.int (1 + 2)), none, none] [X]) = true := by kernel_rfl
theorem fsF_1_3_0 (X : MO) : isT (segF C14 [some (.ref 0), some (.dic [.inr S62] [.tup [.str S6, .int 0, .int 9]]), some (.tup [.tup [.str S43, .tup [.tup [.str S62, .int (0 - 1)]], .int (0 - 10 - 1)], .tup [.str S43, .tup [.tup [.str S62, .int 1]], .int (0 - 1 - 3)]]), some (.int (1 + 0)), none, none] [X]) = true := by kernel_rfl
theorem fsF_1_3_1 (X : MO) : isT (segF C14 [some (.ref 0), some (.dic [.inr S62] [.tup [.str S6, .int 0, .int 9]]), some (.tup [.tup [.str S43, .tup [.tup [.str S62, .int (0 - 1)]], .int (0 - 10 - 1)], .tup [.str S43, .tup [.tup [.str S62, .int 1]], .int (0 - 1 - 3)]]), some (.int (1 + 1)), none, none] [X]) = true := by kernel_rfl
theorem fsF_1_3_2 (X : MO) : isT (segF C14 [some (.ref 0), some (.dic [.inr S62] [.tup [.str S6, .int 0, .int 9]]), some (.tup [.tup [.str S43, .tup [.tup [.str S62, .int (0 - 1)]], .int (0 - 10 - 1)], .tup [.str S43, .tup [.tup [.str S62, .int 1]], .int (0 - 1 - 3)]]), some (.int (1 + 2)), none, none] [X]) = true := by kernel_rfl
theorem fsF_1_4_0 (X : MO) : isT (segF C14 [some (.ref 0), some (.dic [.inr S62] [.tup [.str S6, .int 0, .int 9]]), some (.tup [.tup [.str S43, .tup [.tup [.str S62, .int (0 - 1)]], .int (0 - 10 - 1)], .tup [.str S43, .tup [.tup [.str S62, .int 1]], .int (0 - 1 - 4)]]), some (.int (1 + 0)), none, none] [X]) = true := by kernel_rfl
theorem fsF_1_4_1 (X : MO) : isT (segF C14 [some (.ref 0), some (.dic [.inr S62] [.tup [.str S6, .int 0, .int 9]]), some (.tup [.tup [.str S43, .tup [.tup [.str S62, .int (0 - 1)]], .int (0 - 10 - 1)], .tup [.str S43, .tup [.tup [.str S62, .int 1]], .int (0 - 1 - 4)]]), some (.int (1 + 1)), none, none] [X]) = true := by kernel_rfl
theorem fsF_1_4_2 (X : MO) : isT (segF C14 [some (.ref 0), some (.dic [.inr S62] [.tup [.str S6, .int 0, .int 9]]), some (.tup [.tup [.str S43, .tup [.tup [.str S62, .int (0 - 1)]], .int (0 - 10 - 1)], .tup [.str S43, .tup [.tup [.str S62, .int 1]], .int (0 - 1 - 4)]]), some (.int (1 + 2)), none, none] [X]) = true := by kernel_rfl
theorem fsF_2_0_0 (X : MO) : isT (segF C14 [some (.ref 0), some (.dic [.inr S62] [.tup [.str S6, .int 0, .int 9]]), some (.tup [.tup [.str S43, .tup [.tup [.str S62, .int (0 - 1)]], .int (0 - 10 - 2)], .tup [.str S43, .tup [.tup [.str S62, .int 1]], .int (0 - 1 - 0)]]), some (.int (1 + 0)), none, none] [X]) = true := by kernel_rfl
theorem fsF_2_0_1 (X : MO) : isT (segF C14 [some (.ref 0), some (.dic [.inr S62] [.tup [.str S6, .int 0, .int 9]]), some (.tup [.tup [.str S43, .tup [.tup [.str S62, .int (0 - 1)]], .int (0 - 10 - 2)], .tup [.str S43, .tup [.tup [.str S62, .int 1]], .int (0 - 1 - 0)]]), some (.int (1 + 1)), none, none] [X]) = true := by kernel_rfl
theorem fsF_2_0_2 (X : MO) : isT (segF C14 [some (.ref 0), some (.dic [.inr S62] [.tup [.str S6, .int 0, .int 9]]), some (.tup [.tup [.str S43, .tup [.tup [.str S62, .int (0 - 1)]], .int (0 - 10 - 2)], .tup [.str S43, .tup [.tup [.str S62, .int 1]], .int (0 - 1 - 0)]]), some (.int (1 + 2)), none, none] [X]) = true := by kernel_rfl
theorem fsF_2_1_0 (X : MO) : isT (segF C14 [some (.ref 0), some (.dic [.inr S62] [.tup [.str S6, .int 0, .int 9]]), some (.tup [.tup [.str S43, .tup [.tup [.str S62, .int (0 - 1)]], .int (0 - 10 - 2)], .tup [.str S43, .tup [.tup [.str S62, .int 1]], .int (0 - 1 - 1)]]), some (.int (1 + 0)), none, none] [X]) = true := by kernel_rfl
theorem fsF_2_1_1 (X : MO) : isT (segF C14 [some (.ref 0), some (.dic [.inr S62] [.tup [.str S6, .int 0, .int 9]]), some (.tup [.tup [.str S43, .tup [.tup [.str S62, .int (0 - 1)]], .int (0 - 10 - 2)], .tup [.str S43, .tup [.tup [.str S62, .int 1]], .int (0 - 1 - 1)]]), some (.int (1 + 1)), none, none] [X]) = true := by kernel_rfl
theorem fsF_2_1_2 (X : MO) : isT (segF C14 [some (.ref 0), some (.dic [.inr S62] [.tup [.str S6, .int 0, .int 9]]), some (.tup [.tup [.str S43, .tup [.tup [.str S62, .int (0 - 1)]], .int (0 - 10 - 2)], .tup [.str S43, .tup [.tup [.str S62, .int 1]], .int (0 - 1 - 1)]]), some (.int (1 + 2)), none, none] [X]) = true := by kernel_rfl
theorem fsF_2_2_0 (X : MO) : isT (segF C14 [some (.ref 0), some (.dic [.inr S62] [.tup [.str S6, .int 0, .int 9]]), some (.tup [.tup [.str S43, .tup [.tup [.str S62, .int (0 - 1)]], .int (0 - 10 - 2)], .tup [.str S43, .tup [.tup [.str S62, .int 1]], .int (0 - 1 - 2)]]), some (.int (1 + 0)), none, none] [X]) = true := by kernel_rfl
theorem fsF_2_2_1 (X : MO) : isT (segF C14 [some (.ref 0), some (.dic [.inr S62] [.tup [.str S6, .int 0, .int 9]]), some (.tup [.tup [.str S43, .tup [.tup [.str S62, .int (0 - 1)]], .int (0 - 10 - 2)], .tup [.str S43, .tup [.tup [.str S62, .int 1]], .int (0 - 1 - 2)]]), some (.int (1 + 1)), none, none] [X]) = true := by kernel_rfl
theorem fsF_2_2_2 (X : MO) : isT (segF C14 [some (.ref 0), some (.dic [.inr S62] [.tup [.str S6, .int 0, .int 9]]), some (.tup [.tup [.str S43, .tup [.tup [.str S62, .int (0 - 1)]], .int (0 - 10 - 2)], .tup [.str S43, .tup [.tup [.str S62, .int 1]], .int (0 - 1 - 2)]]), some (.int (1 + 2)), none, none] [X]) = true := by kernel_rfl
theorem fsF_2_3_0 (X : MO) : isT (segF C14 [some (.ref 0), some (.dic [.inr S62] [.tup [.str S6, .int 0, .int 9]]), some (.tup [.tup [.str S43, .tup [.tup [.str S62, .int (0 - 1)]], .int (0 - 10 - 2)], .tup [.str S43, .tup [.tup [.str S62, .int 1]], .int (0 - 1 - 3)]]), some (.int (1 + 0)), none, none] [X]) = true := by kernel_rfl
theorem fsF_2_3_1 (X : MO) : isT (segF C14 [some (.ref 0), some (.dic [.inr S62] [.tup [.str S6, .int 0, .int 9]]), some (.tup [.tup [.str S43, .tup [.tup [.str S62, .int (0 - 1)]], .int (0 - 10 - 2)], .tup [.str S43, .tup [.tup [.str S62, .int 1]], .int (0 - 1 - 3)]]), some (.int (1 + 1)), none, none] [X]) = true := by kernel_rfl
theorem fsF_2_3_2 (X : MO) : isT (segF C14 [some (.ref 0), some (.dic [.inr S62] [.tup [.str S6, .int 0, .int 9]]), some (.tup [.tup [.str S43, .tup [.tup [.str S62, .int (0 - 1)]], .int (0 - 10 - 2)], .tup [.str S43, .tup [.tup [.str S62, .int 1]], .int (0 - 1 - 3)]]), some (.int (1 + 2)), none, none] [X]) = true := by kernel_rfl
theorem fsF_2_4_0 (X : MO) : isT (segF C14 [some (.ref 0), some (.dic [.inr S62] [.tup [.str S6, .int 0, .int 9]]), some (.tup [.tup [.str S43, .tup [.tup [.str S62, .int (0 - 1)]], .int (0 - 10 - 2)], .tup [.str S43, .tup [.tup [.str S62, .int 1]], .int (0 - 1 - 4)]]), some (.int (1 + 0)), none, none] [X]) = true := by kernel_rfl
theorem fsF_2_4_1 (X : MO) : isT (segF C14 [some (.ref 0), some (.dic [.inr S62] [.tup [.str S6, .int 0, .int 9]]), some (.tup [.tup [.str S43, .tup [.tup [.str S62, .int (0 - 1)]], .int (0 - 10 - 2)], .tup [.str S43, .tup [.tup [.str S62, .int 1]], .int (0 - 1 - 4)]]), some (.int (1 + 1)), none, none] [X]) = true := by kernel_rfl
theorem fsF_2_4_2 (X : MO) : isT (segF C14 [some (.ref 0), some (.dic [.inr S62] [.tup [.str S6, .int 0, .int 9]]), some (.tup [.tup [.str S43, .tup [.tup [.str S62, .int (0 - 1)]], .int (0 - 10 - 2)], .tup [.str S43, .tup [.tup [.str S62, .int 1]], .int (0 - 1 - 4)]]), some (.int (1 + 2)), none, none] [X]) = true := by kernel_rfl
theorem fsF_3_0_0 (X : MO) : isT (segF C14 [some (.ref 0), some (.dic [.inr S62] [.tup [.str S6, .int 0, .int 9]]), some (.tup [.tup [.str S43, .tup [.tup [.str S62, .int (0 - 1)]], .int (0 - 10 - 3)], .tup [.str S43, .tup [.tup [.str S62, .int 1]], .int (0 - 1 - 0)]]), some (.int (1 + 0)), none, none] [X]) = true := by kernel_rfl
theorem fsF_3_0_1 (X : MO) : isT (segF C14 [some (.ref 0), some (.dic [.inr S62] [.tup [.str S6, .int 0, .int 9]]), some (.tup [.tup [.str S43, .tup [.tup [.str S62, .int (0 - 1)]], .int (0 - 10 - 3)], .tup [.str S43, .tup [.tup [.str S62, .int 1]], .int (0 - 1 - 0)]]), some (.int (1 + 1)), none, none] [X]) = true := by kernel_rfl
theorem fsF_3_0_2 (X : MO) : isT (segF C14 [some (.ref 0), some (.dic [.inr S62] [.tup [.str S6, .int 0, .int 9]]), some (.tup [.tup [.str S43, .tup [.tup [.str S62, .int (0 - 1)]], .int (0 - 10 - 3)], .tup [.str S43, .tup [.tup [.str S62, .int 1]], .int (0 - 1 - 0)]]), some (.int (1 + 2)), none, none] [X]) = true := by kernel_rfl
theorem fsF_3_1_0 (X : MO) : isT (segF C14 [some (.ref 0), some (.dic [.inr S62] [.tup [.str S6, .int 0, .int 9]]), some (.tup [.tup [.str S43, .tup [.tup [.str S62, .int (0 - 1)]], .int (0 - 10 - 3)], .tup [.str S43, .tup [.tup [.str S62, .int 1]], .int (0 - 1 - 1)]]), some (.int (1 + 0)), none, none] [X]) = true := by kernel_rfl
theorem fsF_3_1_1 (X : MO) : isT (segF C14 [some (.ref 0), some (.dic [.inr S62] [.tup [.str S6, .int 0, .int 9]]), some (.tup [.tup [.str S43, .tup [.tup [.str S62, .int (0 - 1)]], .int (0 - 10 - 3)], .tup [.str S43, .tup [.tup [.str S62, .int 1]], .int (0 - 1 - 1)]]), some (.int (1 + 1)), none, none] [X]) = true := by kernel_rfl
theorem fsF_3_1_2 (X : MO) : isT (segF C14 [some (.ref 0), some (.dic [.inr S62] [.tup [.str S6, .int 0, .int 9]]), some (.tup [.tup [.str S43, .tup [.tup [.str S62, .int (0 - 1)]], .int (0 - 10 - 3)], .tup [.str S43, .tup [.tup [.str S62, .int 1]], .int (0 - 1 - 1)]]), some (.int (1 + 2)), none, none] [X]) = true := by kernel_rfl
theorem fsF_3_2_0 (X : MO) : isT (segF C14 [some (.ref 0), some (.dic [.inr S62] [.tup [.str S6, .int 0, .int 9]]), some (.tup [.tup [.str S43, .tup [.tup [.str S62, .int (0 - 1)]], .int (0 - 10 - 3)], .tup [.str S43, .tup [.tup [.str S62, .int 1]], .int (0 - 1 - 2)]]), some (.int (1 + 0)), none, none] [X]) = true := by kernel_rfl
theorem fsF_3_2_1 (X : MO) : isT (segF C14 [some (.ref 0), some (.dic [.inr S62] [.tup [.str S6, .int 0, .int 9]]), some (.tup [.tup [.str S43, .tup [.tup [.str S62, .int (0 - 1)]], .int (0 - 10 - 3)], .tup [.str S43, .tup [.tup [.str S62, .int 1]], .int (0 - 1 - 2)]]), some (.int (1 + 1)), none, none] [X]) = true := by kernel_rfl
theorem fsF_3_2_2 (X : MO) : isT (segF C14 [some (.ref 0), some (.dic [.inr S62] [.tup [.str S6, .int 0, .int 9]]), some (.tup [.tup [.str S43, .tup [.tup [.str S62, .int (0 - 1)]], .int (0 - 10 - 3)], .tup [.str S43, .tup [.tup [.str S62, .int 1]], .int (0 - 1 - 2)]]), some (.int (1 + 2)), none, none] [X]) = true := by kernel_rfl
theorem fsF_3_3_0 (X : MO) : isT (segF C14 [some (.ref 0), some (.dic [.inr S62] [.tup [.str S6, .int 0, .int 9]]), some (.tup [.tup [.str S43, .tup [.tup [.str S62, .int (0 - 1)]], .int (0 - 10 - 3)], .tup [.str S43, .tup [.tup [.str S62, .int 1]], .int (0 - 1 - 3)]]), some (.int (1 + 0)), none, none] [X]) = true := by kernel_rfl
theorem fsF_3_3_1 (X : MO) : isT (segF C14 [some (.ref 0), some (.dic [.inr S62] [.tup [.str S6, .int 0, .int 9]]), some (.tup [.tup [.str S43, .tup [.tup [.str S62, .int (0 - 1)]], .int (0 - 10 - 3)], .tup [.str S43, .tup [.tup [.str S62, .int 1]], .int (0 - 1 - 3)]]), some (.int (1 + 1)), none, none] [X]) = true := by kernel_rfl
theorem fsF_3_3_2 (X : MO) : isT (segF C14 [some (.ref 0), some (.dic [.inr S62] [.tup [.str S6, .int 0, .int 9]]), some (.tup [.tup [.str S43, .tup [.tup [.str S62, .int (0 - 1)]], .int (0 - 10 - 3)], .tup [.str S43, .tup [.tup [.str S62, .int 1]], .int (0 - 1 - 3)]]), some (.int (1 + 2)), none, none] [X]) = true := by kernel_rfl
theorem fsF_3_4_0 (X : MO) : isT (segF C14 [some (.ref 0), some (.dic [.inr S62] [.tup [.str S6, .int 0, .int 9]]), some (.tup [.tup [.str S43, .tup [.tup [.str S62, .int (0 - 1)]], .int (0 - 10 - 3)], .tup [.str S43, .tup [.tup [.str S62, .int 1]], .int (0 - 1 - 4)]]), some (.int (1 + 0)), none, none] [X]) = true := by kernel_rfl
theorem fsF_3_4_1 (X : MO) : isT (segF C14 [some (.ref 0), some (.dic [.inr S62] [.tup [.str S6, .int 0, .int 9]]), some (.tup [.tup [.str S43, .tup [.tup [.str S62, .int (0 - 1)]], .int (0 - 10 - 3)], .tup [.str S43, .tup [.tup [.str S62, .int 1]], .int (0 - 1 - 4)]]), some (.int (1 + 1)), none, none] [X]) = true := by kernel_rfl
theorem fsF_3_4_2 (X : MO) : isT (segF C14 [some (.ref 0), some (.dic [.inr S62] [.tup [.str S6, .int 0, .int 9]]), some (.tup [.tup [.str S43, .tup [.tup [.str S62, .int (0 - 1)]], .int (0 - 10 - 3)], .tup [.str S43, .tup [.tup [.str S62, .int 1]], .int (0 - 1 - 4)]]), some (.int (1 + 2)), none, none] [X]) = true := by kernel_rfl
theorem fsF_4_0_0 (X : MO) : isT (segF C14 [some (.ref 0), some (.dic [.inr S62] [.tup [.str S6, .int 0, .int 9]]), some (.tup [.tup [.str S43, .tup [.tup [.str S62, .int (0 - 1)]], .int (0 - 10 - 4)], .tup [.str S43, .tup [.tup [.str S62, .int 1]], .int (0 - 1 - 0)]]), some (.int (1 + 0)), none, none] [X]) = true := by kernel_rfl
theorem fsF_4_0_1 (X : MO) : isT (segF C14 [some (.ref 0), some (.dic [.inr S62] [.tup [.str S6, .int 0, .int 9]]), some (.tup [.tup [.str S43, .tup [.tup [.str S62, .int (0 - 1)]], .int (0 - 10 - 4)], .tup [.str S43, .tup [.tup [.str S62, .int 1]], .int (0 - 1 - 0)]]), some (.int (1 + 1)), none, none] [X]) = true := by kernel_rfl
theorem fsF_4_0_2 (X : MO) : isT (segF C14 [some (.ref 0), some (.dic [.inr S62] [.tup [.str S6, .int 0, .int 9]]), some (.tup [.tup [.str S43, .tup [.tup [.str S62, .int (0 - 1)]], .int (0 - 10 - 4)], .tup [.str S43, .tup [.tup [.str S62, .int 1]], .int (0 - 1 - 0)]]), some (.int (1 + 2)), none, none] [X]) = true := by kernel_rfl
theorem fsF_4_1_0 (X : MO) : isT (segF C14 [some (.ref 0), some (.dic [.inr S62] [.tup [.str S6, .int 0, .int 9]]), some (.tup [.tup [.str S43, .tup [.tup [.str S62, .int (0 - 1)]], .int (0 - 10 - 4)], .tup [.str S43, .tup [.tup [.str S62, .int 1]], .int (0 - 1 - 1)]]), some (.int (1 + 0)), none, none] [X]) = true := by kernel_rfl
theorem fsF_4_1_1 (X : MO) : isT (segF C14 [some (.ref 0), some (.dic [.inr S62] [.tup [.str S6, .int 0, .int 9]]), some (.tup [.tup [.str S43, .tup [.tup [.str S62, .int (0 - 1)]], .int (0 - 10 - 4)], .tup [.str S43, .tup [.tup [.str S62, .int 1]], .int (0 - 1 - 1)]]), some (.int (1 + 1)), none, none] [X]) = true := by kernel_rfl
theorem fsF_4_1_2 (X : MO) : isT (segF C14 [some (.ref 0), some (.dic [.inr S62] [.tup [.str S6, .int 0, .int 9]]), some (.tup [.tup [.str S43, .tup [.tup [.str S62, .int (0 - 1)]], .int (0 - 10 - 4)], .tup [.str S43, .tup [.tup [.str S62, .int 1]], .int (0 - 1 - 1)]]), some (.int (1 + 2)), none, none] [X]) = true := by kernel_rfl
theorem fsF_4_2_0 (X : MO) : isT (segF C14 [some (.ref 0), some (.dic [.inr S62] [.tup [.str S6, .int 0, .int 9]]), some (.tup [.tup [.str S43, .tup [.tup [.str S62, .int (0 - 1)]], .int (0 - 10 - 4)], .tup [.str S43, .tup [.tup [.str S62, .int 1]], .int (0 - 1 - 2)]]), some (.int (1 + 0)), none, none] [X]) = true := by kernel_rfl
theorem fsF_4_2_1 (X : MO) : isT (segF C14 [some (.ref 0), some (.dic [.inr S62] [.tup [.str S6, .int 0, .int 9]]), some (.tup [.tup [.str S43, .tup [.tup [.str S62, .int (0 - 1)]], .int (0 - 10 - 4)], .tup [.str S43, .tup [.tup [.str S62, .int 1]], .int (0 - 1 - 2)]]), some (.int (1 + 1)), none, none] [X]) = true := by kernel_rfl
theorem fsF_4_2_2 (X : MO) : isT (segF C14 [some (.ref 0), some (.dic [.inr S62] [.tup [.str S6, .int 0, .int 9]]), some (.tup [.tup [.str S43, .tup [.tup [.str S62, .int (0 - 1)]], .int (0 - 10 - 4)], .tup [.str S43, .tup [.tup [.str S62, .int 1]], .int (0 - 1 - 2)]]), some (.int (1 + 2)), none, none] [X]) = true := by kernel_rfl
theorem fsF_4_3_0 (X : MO) : isT (segF C14 [some (.ref 0), some (.dic [.inr S62] [.tup [.str S6, .int 0, .int 9]]), some (.tup [.tup [.str S43, .tup [.tup [.str S62, .int (0 - 1)]], .int (0 - 10 - 4)], .tup [.str S43, .tup [.tup [.str S62, .int 1]], .int (0 - 1 - 3)]]), some (.int (1 + 0)), none, none] [X]) = true := by kernel_rfl
theorem fsF_4_3_1 (X : MO) : isT (segF C14 [some (.ref 0), some (.dic [.inr S62] [.tup [.str S6, .int 0, .int 9]]), some (.tup [.tup [.str S43, .tup [.tup [.str S62, .int (0 - 1)]], .int (0 - 10 - 4)], .tup [.str S43, .tup [.tup [.str S62, .int 1]], .int (0 - 1 - 3)]]), some (.int (1 + 1)), none, none] [X]) = true := by kernel_rfl
theorem fsF_4_3_2 (X : MO) : isT (segF C14 [some (.ref 0), some (.dic [.inr S62] [.tup [.str S6, .int 0, .int 9]]), some (.tup [.tup [.str S43, .tup [.tup [.str S62, .int (0 - 1)]], .int (0 - 10 - 4)], .tup [.str S43, .tup [.tup [.str S62, .int 1]], .int (0 - 1 - 3)]]), some (.int (1 + 2)), none, none] [X]) = true := by kernel_rfl
theorem fsF_4_4_0 (X : MO) : isT (segF C14 [some (.ref 0), some (.dic [.inr S62] [.tup [.str S6, .int 0, .int 9]]), some (.tup [.tup [.str S43, .tup [.tup [.str S62, .int (0 - 1)]], .int (0 - 10 - 4)], .tup [.str S43, .tup [.tup [.str S62, .int 1]], .int (0 - 1 - 4)]]), some (.int (1 + 0)), none, none] [X]) = true := by kernel_rfl
theorem fsF_4_4_1 (X : MO) : isT (segF C14 [some (.ref 0), some (.dic [.inr S62] [.tup [.str S6, .int 0, .int 9]]), some (.tup [.tup [.str S43, .tup [.tup [.str S62, .int (0 - 1)]], .int (0 - 10 - 4)], .tup [.str S43, .tup [.tup [.str S62, .int 1]], .int (0 - 1 - 4)]]), some (.int (1 + 1)), none, none] [X]) = true := by kernel_rfl
theorem fsF_4_4_2 (X : MO) : isT (segF C14 [some (.ref 0), some (.dic [.inr S62] [.tup [.str S6, .int 0, .int 9]]), some (.tup [.tup [.str S43, .tup [.tup [.str S62, .int (0 - 1)]], .int (0 - 10 - 4)], .tup [.str S43, .tup [.tup [.str S62, .int 1]], .int (0 - 1 - 4)]]), some (.int (1 + 2)), none, none] [X]) = true := by kernel_rfl
theorem fsF (a b z : Int) (ha : 0 ≤ a) (ha2 : a < 5) (hb : 0 ≤ b) (hb2 : b < 5) (hz : 0 ≤ z) (hz2 : z < 3) (X : MO) : isT (segF C14 [some (.ref 0), some (.dic [.inr S62] [.tup [.str S6, .int 0, .int 9]]), some (.tup [.tup [.str S43, .tup [.tup [.str S62, .int (0 - 1)]], .int (0 - 10 - a)], .tup [.str S43, .tup [.tup [.str S62, .int 1]], .int (0 - 1 - b)]]), some (.int (1 + z)), none, none] [X]) = true := by
  have h1 : a = 0 ∨ a = 1 ∨ a = 2 ∨ a = 3 ∨ a = 4 := by omega
  have h2 : b = 0 ∨ b = 1 ∨ b = 2 ∨ b = 3 ∨ b = 4 := by omega
  have h3 : z = 0 ∨ z = 1 ∨ z = 2 := by omega
  rcases h1 with rfl | rfl | rfl | rfl | rfl <;> rcases h2 with rfl | rfl | rfl | rfl | rfl <;> rcases h3 with rfl | rfl | rfl
  · exact fsF_0_0_0 X
  · exact fsF_0_0_1 X
  · exact fsF_0_0_2 X
  · exact fsF_0_1_0 X
  · exact fsF_0_1_1 X
  · exact fsF_0_1_2 X
  · exact fsF_0_2_0 X
  · exact fsF_0_2_1 X
  · exact fsF_0_2_2 X
  · exact fsF_0_3_0 X
  · exact fsF_0_3_1 X
  · exact fsF_0_3_2 X
  · exact fsF_0_4_0 X
  · exact fsF_0_4_1 X
  · exact fsF_0_4_2 X
  · exact fsF_1_0_0 X
  · exact fsF_1_0_1 X
  · exact fsF_1_0_2 X
  · exact fsF_1_1_0 X
  · exact fsF_1_1_1 X
  · exact fsF_1_1_2 X
  · exact fsF_1_2_0 X
  · exact fsF_1_2_1 X
  · exact fsF_1_2_2 X
  · exact fsF_1_3_0 X
  · exact fsF_1_3_1 X
  · exact fsF_1_3_2 X
  · exact fsF_1_4_0 X
  · exact fsF_1_4_1 X
  · exact fsF_1_4_2 X
  · exact fsF_2_0_0 X
  · exact fsF_2_0_1 X
  · exact fsF_2_0_2 X
  · exact fsF_2_1_0 X
  · exact fsF_2_1_1 X
  · exact fsF_2_1_2 X
  · exact fsF_2_2_0 X
  · exact fsF_2_2_1 X
  · exact fsF_2_2_2 X
  · exact fsF_2_3_0 X
  · exact fsF_2_3_1 X
  · exact fsF_2_3_2 X
  · exact fsF_2_4_0 X
  · exact fsF_2_4_1 X
  · exact fsF_2_4_2 X
  · exact fsF_3_0_0 X
  · exact fsF_3_0_1 X
  · exact fsF_3_0_2 X
  · exact fsF_3_1_0 X
  · exact fsF_3_1_1 X
  · exact fsF_3_1_2 X
  · exact fsF_3_2_0 X
  · exact fsF_3_2_1 X
  · exact fsF_3_2_2 X
  · exact fsF_3_3_0 X
  · exact fsF_3_3_1 X
  · exact fsF_3_3_2 X
  · exact fsF_3_4_0 X
  · exact fsF_3_4_1 X
  · exact fsF_3_4_2 X
  · exact fsF_4_0_0 X
  · exact fsF_4_0_1 X
  · exact fsF_4_0_2 X
  · exact fsF_4_1_0 X
  · exact fsF_4_1_1 X
  · exact fsF_4_1_2 X
  · exact fsF_4_2_0 X
  · exact fsF_4_2_1 X
  · exact fsF_4_2_2 X
  · exact fsF_4_3_0 X
  · exact fsF_4_3_1 X
  · exact fsF_4_3_2 X
  · exact fsF_4_4_0 X
  · exact fsF_4_4_1 X
  · exact fsF_4_4_2 X
theorem factors_ok (X : MO) (hX : InvT X) : ∃ M', FT 15 24 [.ref 0] [X] = .ok (.bl true) M' := by
  have e0 : FT 15 24 [.ref 0] [X] = (F_l_factors C14 [some (.ref 0), none, none, none, none, none] [X]).fn := by kernel_rfl
  rw [e0, factors_eq, seq_nx (fs0 X)]
  obtain ⟨a, X1, i1, ha, ha2, p1⟩ := takeT (m := 5) (by decide) (by decide) 13 X hX
  obtain ⟨b, X2, i2, hb, hb2, p2⟩ := takeT (m := 5) (by decide) (by decide) 13 X1 i1
  obtain ⟨z, X3, i3, hz, hz2, p3⟩ := takeT (m := 3) (by decide) (by decide) 13 X2 i2
  rw [seq_nx (fs1 p1 p2), seq_nx (fs2 (a := a) (b := b) p3)]
  obtain ⟨M, e⟩ := isT_of (fsF a b z ha ha2 hb hb2 hz hz2 X3)
  rw [e]
  exact ⟨M, rfl⟩
theorem lc_step {g : TgM} {t : BM} {f : EM} {J : It'} {L0 L1 : Lc} {n i : Nat} {acc : List D} {M M2 : Mem} {d x : D} (h1 : J.at M i = some (some d)) (h2 : g d L0 = some L1) (h3 : t L1 M = .ok true M) (h4 : f L1 M = .ok x M2) : lcG g t f J L0 (n + 1) i acc M = lcG g t f J L0 n (i + 1) (acc ++ [x]) M2 := by
  conv => lhs; unfold lcG
  rw [h1]
  dsimp only
  rw [h2]
  dsimp only
  rw [h3]
  simp only [Res.bind, if_true, h4]
theorem lc_end {g : TgM} {t : BM} {f : EM} {J : It'} {L0 : Lc} {n i : Nat} {acc : List D} {M : Mem} (h1 : J.at M i = some none) : lcG g t f J L0 (n + 1) i acc M = .ok (.lst acc) M := by
  conv => lhs; unfold lcG
  rw [h1]
theorem law_ok (ns : List Int) (hl : ns.length ≤ 63) : ∃ M', FT 16 25 [.fz (ns.map .int)] [] = .ok (.bl true) M' := by
  obtain ⟨X, iX, e1⟩ := begin_ok (FT 14) ns hl
  obtain ⟨X1, i1, t1⟩ := terms_ok X iX
  obtain ⟨X2, i2, t2⟩ := terms_ok X1 i1
  obtain ⟨X3, i3, t3⟩ := terms_ok X2 i2
  obtain ⟨X4, i4, t4⟩ := terms_ok X3 i3
  obtain ⟨M', f1⟩ := factors_ok X4 i4
  refine ⟨M', ?_⟩
  have b1 : FT 15 16 [.fz (ns.map .int)] [] = .ok (.ref 0) [X] := e1
  have e0 : FT 16 25 [.fz (ns.map .int)] [] = (F_law (FT 15) [some (.fz (ns.map .int)), none, none] []).fn := rfl
  rw [e0]
  unfold F_law
  have s1 : mSet 1 (mCall (mCons (mVar 0) mNil) 1 (FT 15 16) []) [some (.fz (ns.map .int)), none, none] [] = .nx [some (.fz (ns.map .int)), some (.ref 0), none] [X] := by
    have e : mSet 1 (mCall (mCons (mVar 0) mNil) 1 (FT 15 16) []) [some (.fz (ns.map .int)), none, none] [] = bindS (FT 15 16 [.fz (ns.map .int)] []) [some (.fz (ns.map .int)), none, none] fun d M => .nx [some (.fz (ns.map .int)), some d, none] M := by kernel_rfl
    rw [e, b1]; rfl
  rw [seq_nx s1]
  have tm : ∀ (k : D) (Y Z : MO), FT 15 22 [.ref 0] [Y] = .ok (.bl true) [Z] → mCall (mCons (mVar 1) mNil) 1 (FT 15 22) [] [some (.fz (ns.map .int)), some (.ref 0), some k] [Y] = .ok (.bl true) [Z] := fun k Y Z h => by
    have e : mCall (mCons (mVar 1) mNil) 1 (FT 15 22) [] [some (.fz (ns.map .int)), some (.ref 0), some k] [Y] = FT 15 22 [.ref 0] [Y] := by kernel_rfl
    rw [e, h]
  have lc : mLc (mIRng1 (mCons (mC (.int 4)) mNil)) (gN 2) mYes (mCall (mCons (mVar 1) mNil) 1 (FT 15 22) []) [2] [some (.fz (ns.map .int)), some (.ref 0), none] [X] = .ok (.lst [.bl true, .bl true, .bl true, .bl true]) [X4] := by
    have e : mLc (mIRng1 (mCons (mC (.int 4)) mNil)) (gN 2) mYes (mCall (mCons (mVar 1) mNil) 1 (FT 15 22) []) [2] [some (.fz (ns.map .int)), some (.ref 0), none] [X] = lcG (gN 2) mYes (mCall (mCons (mVar 1) mNil) 1 (FT 15 22) []) (.rng 0 4) [some (.fz (ns.map .int)), some (.ref 0), none] (99995 + 1 + 1 + 1 + 1 + 1) 0 [] [X] := rfl
    rw [e, lc_step (d := .int 0) (L1 := [some (.fz (ns.map .int)), some (.ref 0), some (.int 0)]) rfl rfl rfl (tm _ _ _ t1), lc_step (d := .int 1) (L1 := [some (.fz (ns.map .int)), some (.ref 0), some (.int 1)]) rfl rfl rfl (tm _ _ _ t2), lc_step (d := .int 2) (L1 := [some (.fz (ns.map .int)), some (.ref 0), some (.int 2)]) rfl rfl rfl (tm _ _ _ t3), lc_step (d := .int 3) (L1 := [some (.fz (ns.map .int)), some (.ref 0), some (.int 3)]) rfl rfl rfl (tm _ _ _ t4), lc_end rfl]
    rfl
  have fc : mCall (mCons (mVar 1) mNil) 1 (FT 15 24) [] [some (.fz (ns.map .int)), some (.ref 0), none] [X4] = .ok (.bl true) M' := by
    have e : mCall (mCons (mVar 1) mNil) 1 (FT 15 24) [] [some (.fz (ns.map .int)), some (.ref 0), none] [X4] = FT 15 24 [.ref 0] [X4] := by kernel_rfl
    rw [e, f1]
  simp only [mRet, mAndV, mA1, mCons, mNil, lc, Res.bind, allK, bls, List.all_cons, List.all_nil, id, Bool.and_self, D.tru, fc, bindS, SRes.fn]
end K70
/-! ## K70d -/
set_option maxHeartbeats 200000
set_option Elab.async false
set_option linter.all false
set_option autoImplicit false
set_option maxRecDepth 100000
set_option maxHeartbeats 4000000
namespace K70
open PySem PySem.Spec
open PyProof.Rows hiding St
open L2 hiding Rd Rd.of Rd.ok
open XM
theorem exm_of {K : PySem.W.Frag} {A S : Addr} {b : Bool} (h1 : PySem.W.subIn K (.ref S) (.type "BaseException") = some true) (h2 : PySem.W.isClsIn K S = true) (h3 : PySem.W.typeIn K (.ref S) = some (.type "type")) (h4 : PySem.W.subIn K (.ref A) (.ref S) = some b) :
    PySem.W.exmOne K (.ref A) (.ref S) = some b := by
  have e1 : (PySem.W.subIn K (.ref S) (.type "BaseException") == some true) = true := by rw [h1] <;> rfl
  have e2 : ((PySem.W.clsIn K S).isSome && PySem.W.typeIn K (.ref S) == some (.type "type")) = true := by
    have h2' : (PySem.W.clsIn K S).isSome = true := h2
    rw [h2', h3] <;> rfl
  show (if (PySem.W.subIn K (.ref S) (.type "BaseException") == some true) = true then (if ((PySem.W.clsIn K S).isSome && PySem.W.typeIn K (.ref S) == some (.type "type")) = true then PySem.W.subIn K (.ref A) (.ref S) else none) else none) = some b
  rw [if_pos e1, if_pos e2]
  exact h4
theorem isL_strs {K : PySem.W.Frag} {s : SM} : ∀ l : List Str, IsL K s (l.map .str) (l.map V.str)
  | [] => IsL.nil
  | x :: l => IsL.cons (by simp only [Is]) (isL_strs l)
def fstrs : List Str := [⟨#[116, 114, 117, 101]⟩, ⟨#[102, 97, 108, 115, 101]⟩, ⟨#[110, 111, 116]⟩, ⟨#[97, 110, 100]⟩, ⟨#[111, 114]⟩, ⟨#[61, 62]⟩, ⟨#[61]⟩, ⟨#[105, 116, 101]⟩, ⟨#[60, 61]⟩, ⟨#[60]⟩, ⟨#[43]⟩, ⟨#[45]⟩, ⟨#[42]⟩, ⟨#[119, 111, 114, 100]⟩, ⟨#[119, 97, 110, 100]⟩, ⟨#[119, 111, 114]⟩, ⟨#[119, 120, 111, 114]⟩, ⟨#[119, 110, 111, 116]⟩, ⟨#[119, 97, 100, 100]⟩, ⟨#[119, 108, 116]⟩, ⟨#[98, 105, 116]⟩, ⟨#[114, 101, 97, 100]⟩, ⟨#[119, 114, 105, 116, 101]⟩, ⟨#[97, 108, 108]⟩, ⟨#[115, 111, 109, 101]⟩, ⟨#[110, 101, 120, 116]⟩, ⟨#[98, 111, 111, 108]⟩, ⟨#[105, 110, 116]⟩, ⟨#[101, 108, 101, 109]⟩, ⟨#[102, 117, 110]⟩, ⟨#[115, 111, 114, 116]⟩, ⟨#[97, 114, 114, 97, 121]⟩]
section
variable {w : World} {K : PySem.W.Frag} {h : Heap} {mg : Str → Option Value} {fa : Addr}
def caF (C0 C1 C2 : Addr) : Nat → Addr
  | 0 => C0
  | 1 => C1
  | _ => C2
theorem all_mk (X : K.In h) (G : h.Ns mainGlobals mg) (hfa : mg "law" = some (.ref fa)) {f0 : Addr} {oc0 kV0 dc0 pm0 cd0 ct0 : Value} {od0 an0 : Option Addr} {sl0 : Array (Option Value)} {f1 : Addr} {oc1 kV1 dc1 pm1 cd1 ct1 : Value} {od1 an1 : Option Addr} {sl1 : Array (Option Value)} {f2 : Addr} {oc2 kV2 dc2 pm2 cd2 ct2 : Value} {od2 an2 : Option Addr} {sl2 : Array (Option Value)} {f3 : Addr} {oc3 kV3 dc3 pm3 cd3 ct3 : Value} {od3 an3 : Option Addr} {sl3 : Array (Option Value)} {f4 : Addr} {oc4 kV4 dc4 pm4 cd4 ct4 : Value} {od4 an4 : Option Addr} {sl4 : Array (Option Value)} {f5 : Addr} {oc5 kV5 dc5 pm5 cd5 ct5 : Value} {od5 an5 : Option Addr} {sl5 : Array (Option Value)} {f6 : Addr} {oc6 kV6 dc6 pm6 cd6 ct6 : Value} {od6 an6 : Option Addr} {sl6 : Array (Option Value)} {f7 : Addr} {oc7 kV7 dc7 pm7 cd7 ct7 : Value} {od7 an7 : Option Addr} {sl7 : Array (Option Value)} {f8 : Addr} {oc8 kV8 dc8 pm8 cd8 ct8 : Value} {od8 an8 : Option Addr} {sl8 : Array (Option Value)} {f9 : Addr} {oc9 kV9 dc9 pm9 cd9 ct9 : Value} {od9 an9 : Option Addr} {sl9 : Array (Option Value)} {f10 : Addr} {oc10 kV10 dc10 pm10 cd10 ct10 : Value} {od10 an10 : Option Addr} {sl10 : Array (Option Value)} {f11 : Addr} {oc11 kV11 dc11 pm11 cd11 ct11 : Value} {od11 an11 : Option Addr} {sl11 : Array (Option Value)} {f12 : Addr} {oc12 kV12 dc12 pm12 cd12 ct12 : Value} {od12 an12 : Option Addr} {sl12 : Array (Option Value)} {f13 : Addr} {oc13 kV13 dc13 pm13 cd13 ct13 : Value} {od13 an13 : Option Addr} {sl13 : Array (Option Value)} {f14 : Addr} {oc14 kV14 dc14 pm14 cd14 ct14 : Value} {od14 an14 : Option Addr} {sl14 : Array (Option Value)} {f15 : Addr} {oc15 kV15 dc15 pm15 cd15 ct15 : Value} {od15 an15 : Option Addr} {sl15 : Array (Option Value)} {f16 : Addr} {oc16 kV16 dc16 pm16 cd16 ct16 : Value} {od16 an16 : Option Addr} {sl16 : Array (Option Value)} {f17 : Addr} {oc17 kV17 dc17 pm17 cd17 ct17 : Value} {od17 an17 : Option Addr} {sl17 : Array (Option Value)} {f18 : Addr} {oc18 kV18 dc18 pm18 cd18 ct18 : Value} {od18 an18 : Option Addr} {sl18 : Array (Option Value)} {f19 : Addr} {oc19 kV19 dc19 pm19 cd19 ct19 : Value} {od19 an19 : Option Addr} {sl19 : Array (Option Value)} {f20 : Addr} {oc20 kV20 dc20 pm20 cd20 ct20 : Value} {od20 an20 : Option Addr} {sl20 : Array (Option Value)} {f21 : Addr} {oc21 kV21 dc21 pm21 cd21 ct21 : Value} {od21 an21 : Option Addr} {sl21 : Array (Option Value)} {f22 : Addr} {oc22 kV22 dc22 pm22 cd22 ct22 : Value} {od22 an22 : Option Addr} {sl22 : Array (Option Value)} {f23 : Addr} {oc23 kV23 dc23 pm23 cd23 ct23 : Value} {od23 an23 : Option Addr} {sl23 : Array (Option Value)} {f24 : Addr} {oc24 kV24 dc24 pm24 cd24 ct24 : Value} {od24 an24 : Option Addr} {sl24 : Array (Option Value)} {f25 : Addr} {oc25 kV25 dc25 pm25 cd25 ct25 : Value} {od25 an25 : Option Addr} {sl25 : Array (Option Value)} {tT : Addr} {tc : Value} {td : Option Addr} {its : Array Value} {tn : Nat} {tsl : Array (Option Value)} {v1 v2 v3 v4 : Value} {aF : Addr} {fc : Value} {fdd : Option Addr} {fts : Array Value} {ftn : Nat} {fsl : Array (Option Value)} {D C0 C1 C2 fS ccS cdaS fP ccP cdaP fG : Addr} {ocS dcS pmS ctS cclS clS : Value} {odS anS cddS cldS : Option Addr} {oslS ccsS cslS : Array (Option Value)} {vsS : Array Value} {fileS : Str} {tfS : Tok} {cDS : ClassData} {ocP dcP pmP ctP cclP clP : Value} {odP anP cddP cldP : Option Addr} {oslP ccsP cslP : Array (Option Value)} {vsP : Array Value} {fileP : Str} {tfP : Tok} {cDP : ClassData} {cd_0 : ClassData} {cd_1 : ClassData} {ocG kVG dcG pmG cdG ctG : Value} {odG anG : Option Addr} {slG : Array (Option Value)}
    (a0 : PySem.W.nsIn K mainGlobals "shown" = some (some (.ref f0)))
    (l0 : K.lookup f0 = some ⟨oc0, od0, .func (PySem.W.fnOf "shown" "shown" (defArgs s_shown) (defBody s_shown) (defScope s_shown) .none kV0 dc0 pm0 an0 cd0 ct0), sl0⟩)
    (c0 : PySem.W.codeIn K cd0 "shown" = true)
    (k0 : PySem.W.keepIn K (.ref f0) = true)
    (a1 : PySem.W.nsIn K mainGlobals "is_integer" = some (some (.ref f1)))
    (l1 : K.lookup f1 = some ⟨oc1, od1, .func (PySem.W.fnOf "is_integer" "is_integer" (defArgs s_is_integer) (defBody s_is_integer) (defScope s_is_integer) .none kV1 dc1 pm1 an1 cd1 ct1), sl1⟩)
    (c1 : PySem.W.codeIn K cd1 "is_integer" = true)
    (k1 : PySem.W.keepIn K (.ref f1) = true)
    (a2 : PySem.W.nsIn K mainGlobals "is_name" = some (some (.ref f2)))
    (l2 : K.lookup f2 = some ⟨oc2, od2, .func (PySem.W.fnOf "is_name" "is_name" (defArgs s_is_name) (defBody s_is_name) (defScope s_is_name) .none kV2 dc2 pm2 an2 cd2 ct2), sl2⟩)
    (c2 : PySem.W.codeIn K cd2 "is_name" = true)
    (k2 : PySem.W.keepIn K (.ref f2) = true)
    (a3 : PySem.W.nsIn K mainGlobals "need_terms" = some (some (.ref f3)))
    (l3 : K.lookup f3 = some ⟨oc3, od3, .func (PySem.W.fnOf "need" "need" (defArgs s_need_t) (defBody s_need_t) (defScope s_need_t) .none kV3 dc3 pm3 an3 cd3 ct3), sl3⟩)
    (c3 : PySem.W.codeIn K cd3 "need" = true)
    (k3 : PySem.W.keepIn K (.ref f3) = true)
    (a4 : PySem.W.nsIn K mainGlobals "sort_of" = some (some (.ref f4)))
    (l4 : K.lookup f4 = some ⟨oc4, od4, .func (PySem.W.fnOf "sort_of" "sort_of" (defArgs s_sort_of) (defBody s_sort_of) (defScope s_sort_of) (.ref tT) kV4 dc4 pm4 an4 cd4 ct4), sl4⟩)
    (c4 : PySem.W.codeIn K cd4 "sort_of" = true)
    (k4 : PySem.W.keepIn K (.ref f4) = true)
    (a5 : PySem.W.nsIn K mainGlobals "sort_of_range" = some (some (.ref f5)))
    (l5 : K.lookup f5 = some ⟨oc5, od5, .func (PySem.W.fnOf "sort_of_range" "sort_of_range" (defArgs s_sort_of_range) (defBody s_sort_of_range) (defScope s_sort_of_range) .none kV5 dc5 pm5 an5 cd5 ct5), sl5⟩)
    (c5 : PySem.W.codeIn K cd5 "sort_of_range" = true)
    (k5 : PySem.W.keepIn K (.ref f5) = true)
    (a6 : PySem.W.nsIn K mainGlobals "sort_of_word" = some (some (.ref f6)))
    (l6 : K.lookup f6 = some ⟨oc6, od6, .func (PySem.W.fnOf "sort_of_word" "sort_of_word" (defArgs s_sort_of_word) (defBody s_sort_of_word) (defScope s_sort_of_word) .none kV6 dc6 pm6 an6 cd6 ct6), sl6⟩)
    (c6 : PySem.W.codeIn K cd6 "sort_of_word" = true)
    (k6 : PySem.W.keepIn K (.ref f6) = true)
    (a7 : PySem.W.nsIn K mainGlobals "sort_of_constant" = some (some (.ref f7)))
    (l7 : K.lookup f7 = some ⟨oc7, od7, .func (PySem.W.fnOf "sort_of_constant" "sort_of_constant" (defArgs s_sort_of_constant) (defBody s_sort_of_constant) (defScope s_sort_of_constant) .none kV7 dc7 pm7 an7 cd7 ct7), sl7⟩)
    (c7 : PySem.W.codeIn K cd7 "sort_of_constant" = true)
    (k7 : PySem.W.keepIn K (.ref f7) = true)
    (a8 : PySem.W.nsIn K mainGlobals "sort_of_form" = some (some (.ref f8)))
    (l8 : K.lookup f8 = some ⟨oc8, od8, .func (PySem.W.fnOf "sort_of_form" "sort_of_form" (defArgs s_sort_of_form) (defBody s_sort_of_form) (defScope s_sort_of_form) .none kV8 dc8 pm8 an8 cd8 ct8), sl8⟩)
    (c8 : PySem.W.codeIn K cd8 "sort_of_form" = true)
    (k8 : PySem.W.keepIn K (.ref f8) = true)
    (a9 : PySem.W.nsIn K mainGlobals "row_of" = some (some (.ref f9)))
    (l9 : K.lookup f9 = some ⟨oc9, od9, .func (PySem.W.fnOf "row_of" "row_of" (defArgs s_row_of) (defBody s_row_of) (defScope s_row_of) .none kV9 dc9 pm9 an9 cd9 ct9), sl9⟩)
    (c9 : PySem.W.codeIn K cd9 "row_of" = true)
    (k9 : PySem.W.keepIn K (.ref f9) = true)
    (a10 : PySem.W.nsIn K mainGlobals "is_farkas" = some (some (.ref f10)))
    (l10 : K.lookup f10 = some ⟨oc10, od10, .func (PySem.W.fnOf "is_farkas" "is_farkas" (defArgs s_is_farkas) (defBody s_is_farkas) (defScope s_is_farkas) .none kV10 dc10 pm10 an10 cd10 ct10), sl10⟩)
    (c10 : PySem.W.codeIn K cd10 "is_farkas" = true)
    (k10 : PySem.W.keepIn K (.ref f10) = true)
    (a11 : PySem.W.nsIn K mainGlobals "need_proofs" = some (some (.ref f11)))
    (l11 : K.lookup f11 = some ⟨oc11, od11, .func (PySem.W.fnOf "need" "need" (defArgs s_need_p) (defBody s_need_p) (defScope s_need_p) .none kV11 dc11 pm11 an11 cd11 ct11), sl11⟩)
    (c11 : PySem.W.codeIn K cd11 "need" = true)
    (k11 : PySem.W.keepIn K (.ref f11) = true)
    (a12 : PySem.W.nsIn K mainGlobals "is_gate" = some (some (.ref f12)))
    (l12 : K.lookup f12 = some ⟨oc12, od12, .func (PySem.W.fnOf "is_gate" "is_gate" (defArgs s_is_gate) (defBody s_is_gate) (defScope s_is_gate) .none kV12 dc12 pm12 an12 cd12 ct12), sl12⟩)
    (c12 : PySem.W.codeIn K cd12 "is_gate" = true)
    (k12 : PySem.W.keepIn K (.ref f12) = true)
    (a13 : PySem.W.nsIn K mainGlobals "is_sum" = some (some (.ref f13)))
    (l13 : K.lookup f13 = some ⟨oc13, od13, .func (PySem.W.fnOf "is_sum" "is_sum" (defArgs s_is_sum) (defBody s_is_sum) (defScope s_is_sum) .none kV13 dc13 pm13 an13 cd13 ct13), sl13⟩)
    (c13 : PySem.W.codeIn K cd13 "is_sum" = true)
    (k13 : PySem.W.keepIn K (.ref f13) = true)
    (a14 : PySem.W.nsIn K mainGlobals "check_proof" = some (some (.ref f14)))
    (l14 : K.lookup f14 = some ⟨oc14, od14, .func (PySem.W.fnOf "check_proof" "check_proof" (defArgs s_check_proof) (defBody s_check_proof) (defScope s_check_proof) .none kV14 dc14 pm14 an14 cd14 ct14), sl14⟩)
    (c14 : PySem.W.codeIn K cd14 "check_proof" = true)
    (k14 : PySem.W.keepIn K (.ref f14) = true)
    (a15 : PySem.W.nsIn K mainGlobals "holds" = some (some (.ref f15)))
    (l15 : K.lookup f15 = some ⟨oc15, od15, .func (PySem.W.fnOf "holds" "holds" (defArgs s_holds) (defBody s_holds) (defScope s_holds) .none kV15 dc15 pm15 an15 cd15 ct15), sl15⟩)
    (c15 : PySem.W.codeIn K cd15 "holds" = true)
    (k15 : PySem.W.keepIn K (.ref f15) = true)
    (a16 : PySem.W.nsIn K mainGlobals "_law_begin" = some (some (.ref f16)))
    (l16 : K.lookup f16 = some ⟨oc16, od16, .func (PySem.W.fnOf "_law_begin" "_law_begin" (defArgs s_l_begin) (defBody s_l_begin) (defScope s_l_begin) .none kV16 dc16 pm16 an16 cd16 ct16), sl16⟩)
    (c16 : PySem.W.codeIn K cd16 "_law_begin" = true)
    (k16 : PySem.W.keepIn K (.ref f16) = true)
    (a17 : PySem.W.nsIn K mainGlobals "_law_take" = some (some (.ref f17)))
    (l17 : K.lookup f17 = some ⟨oc17, od17, .func (PySem.W.fnOf "_law_take" "_law_take" (defArgs s_l_take) (defBody s_l_take) (defScope s_l_take) .none kV17 dc17 pm17 an17 cd17 ct17), sl17⟩)
    (c17 : PySem.W.codeIn K cd17 "_law_take" = true)
    (k17 : PySem.W.keepIn K (.ref f17) = true)
    (a18 : PySem.W.nsIn K mainGlobals "_law_pick" = some (some (.ref f18)))
    (l18 : K.lookup f18 = some ⟨oc18, od18, .func (PySem.W.fnOf "_law_pick" "_law_pick" (defArgs s_l_pick) (defBody s_l_pick) (defScope s_l_pick) .none kV18 dc18 pm18 an18 cd18 ct18), sl18⟩)
    (c18 : PySem.W.codeIn K cd18 "_law_pick" = true)
    (k18 : PySem.W.keepIn K (.ref f18) = true)
    (a19 : PySem.W.nsIn K mainGlobals "_law_code" = some (some (.ref f19)))
    (l19 : K.lookup f19 = some ⟨oc19, od19, .func (PySem.W.fnOf "_law_code" "_law_code" (defArgs s_l_code) (defBody s_l_code) (defScope s_l_code) .none kV19 dc19 pm19 an19 cd19 ct19), sl19⟩)
    (c19 : PySem.W.codeIn K cd19 "_law_code" = true)
    (k19 : PySem.W.keepIn K (.ref f19) = true)
    (a20 : PySem.W.nsIn K mainGlobals "_law_int" = some (some (.ref f20)))
    (l20 : K.lookup f20 = some ⟨oc20, od20, .func (PySem.W.fnOf "_law_int" "_law_int" (defArgs s_l_int) (defBody s_l_int) (defScope s_l_int) .none kV20 dc20 pm20 an20 cd20 ct20), sl20⟩)
    (c20 : PySem.W.codeIn K cd20 "_law_int" = true)
    (k20 : PySem.W.keepIn K (.ref f20) = true)
    (a21 : PySem.W.nsIn K mainGlobals "_law_part" = some (some (.ref f21)))
    (l21 : K.lookup f21 = some ⟨oc21, od21, .func (PySem.W.fnOf "_law_part" "_law_part" (defArgs s_l_part) (defBody s_l_part) (defScope s_l_part) .none kV21 dc21 pm21 an21 cd21 ct21), sl21⟩)
    (c21 : PySem.W.codeIn K cd21 "_law_part" = true)
    (k21 : PySem.W.keepIn K (.ref f21) = true)
    (a22 : PySem.W.nsIn K mainGlobals "_law_terms_right" = some (some (.ref f22)))
    (l22 : K.lookup f22 = some ⟨oc22, od22, .func (PySem.W.fnOf "_law_terms_right" "_law_terms_right" (defArgs s_l_terms) (defBody s_l_terms) (defScope s_l_terms) .none kV22 dc22 pm22 an22 cd22 ct22), sl22⟩)
    (c22 : PySem.W.codeIn K cd22 "_law_terms_right" = true)
    (k22 : PySem.W.keepIn K (.ref f22) = true)
    (a23 : PySem.W.nsIn K mainGlobals "_law_taken" = some (some (.ref f23)))
    (l23 : K.lookup f23 = some ⟨oc23, od23, .func (PySem.W.fnOf "_law_taken" "_law_taken" (defArgs s_l_taken) (defBody s_l_taken) (defScope s_l_taken) .none kV23 dc23 pm23 an23 cd23 ct23), sl23⟩)
    (c23 : PySem.W.codeIn K cd23 "_law_taken" = true)
    (k23 : PySem.W.keepIn K (.ref f23) = true)
    (a24 : PySem.W.nsIn K mainGlobals "_law_factors_right" = some (some (.ref f24)))
    (l24 : K.lookup f24 = some ⟨oc24, od24, .func (PySem.W.fnOf "_law_factors_right" "_law_factors_right" (defArgs s_l_factors) (defBody s_l_factors) (defScope s_l_factors) .none kV24 dc24 pm24 an24 cd24 ct24), sl24⟩)
    (c24 : PySem.W.codeIn K cd24 "_law_factors_right" = true)
    (k24 : PySem.W.keepIn K (.ref f24) = true)
    (a25 : PySem.W.nsIn K mainGlobals "law" = some (some (.ref f25)))
    (l25 : K.lookup f25 = some ⟨oc25, od25, .func (PySem.W.fnOf "law" "law" (defArgs s_law) (defBody s_law) (defScope s_law) .none kV25 dc25 pm25 an25 cd25 ct25), sl25⟩)
    (c25 : PySem.W.codeIn K cd25 "law" = true)
    (k25 : PySem.W.keepIn K (.ref f25) = true)
    (lT : K.lookup tT = some ⟨tc, td, .seq its tn, tsl⟩)
    (hT : Vals [V.int 0] its.toList)
    (n0 : PySem.W.nsIn K mainGlobals "MOST_WIDTH" = some (some v1))
    (h0 : RelV (.int 6) v1)
    (n1 : PySem.W.nsIn K mainGlobals "MOST_NUMBER" = some (some v2))
    (h1 : RelV (.int 1000000) v2)
    (n2 : PySem.W.nsIn K mainGlobals "MOST_NESTED" = some (some v3))
    (h2 : RelV (.int 200) v3)
    (n3 : PySem.W.nsIn K mainGlobals "LETTERS" = some (some v4))
    (h3 : RelV (.str sLETTERS) v4)
    (n4 : PySem.W.nsIn K mainGlobals "FORMS" = some (some (.ref aF)))
    (lF : K.lookup aF = some ⟨fc, fdd, .seq fts ftn, fsl⟩)
    (hF1 : fc = .type "tuple")
    (hF2 : fts.size ≤ 1000)
    (hF3 : Vals (fstrs.map V.str) fts.toList)
    (z_len : PySem.W.nsIn K mainGlobals "len" = some none)
    (z_abs : PySem.W.nsIn K mainGlobals "abs" = some none)
    (z_int : PySem.W.nsIn K mainGlobals "int" = some none)
    (z_str : PySem.W.nsIn K mainGlobals "str" = some none)
    (z_list : PySem.W.nsIn K mainGlobals "list" = some none)
    (z_tuple : PySem.W.nsIn K mainGlobals "tuple" = some none)
    (z_all : PySem.W.nsIn K mainGlobals "all" = some none)
    (z_any : PySem.W.nsIn K mainGlobals "any" = some none)
    (z_isinstance : PySem.W.nsIn K mainGlobals "isinstance" = some none)
    (z_enumerate : PySem.W.nsIn K mainGlobals "enumerate" = some none)
    (z_zip : PySem.W.nsIn K mainGlobals "zip" = some none)
    (z_range : PySem.W.nsIn K mainGlobals "range" = some none)
    (z_bool : PySem.W.nsIn K mainGlobals "bool" = some none)
    (z_super : PySem.W.nsIn K mainGlobals "super" = some none)
    (opq : PySem.W.nsIn K cStatics "thirdparty.any" = some none)
    (aD : PySem.W.nsIn K mainGlobals "SolverError" = some (some (.ref D)))
    (aC0 : PySem.W.nsIn K mainGlobals "TermError" = some (some (.ref C0)))
    (aC1 : PySem.W.nsIn K mainGlobals "ProofError" = some (some (.ref C1)))
    (aC2 : PySem.W.nsIn K mainGlobals "Gates" = some (some (.ref C2)))
    (i0 : PySem.W.findIn K (.ref C0) "__init__" = some (some (.ref fS)))
    (i1 : PySem.W.findIn K (.ref C1) "__init__" = some (some (.ref fP)))
    (i2 : PySem.W.findIn K (.ref C2) "__init__" = some (some (.ref fG)))
    (lS : K.lookup fS = some ⟨ocS, odS, .func (PySem.W.ksFn "__init__" "SolverError.__init__" solA solB solS .none .none dcS pmS anS (.ref cdaS) ctS ccS), oslS⟩)
    (qS : PySem.W.codeIn K (.ref cdaS) "SolverError.__init__" = true)
    (mS : K.lookup cdaS = some ⟨cclS, cddS, .fields vsS, ccsS⟩)
    (uS : vsS[2]? = some (.str fileS tfS))
    (wS : ((PG.main.file : Str) == fileS) = true)
    (eS : K.lookup ccS = some ⟨clS, cldS, .cell (some (.ref D)), cslS⟩)
    (dS : PySem.W.clsIn K D = some cDS)
    (tS : PySem.W.typeIn K (.ref fS) = some (.type "function"))
    (lP : K.lookup fP = some ⟨ocP, odP, .func (PySem.W.ksFn "__init__" "ProofError.__init__" proA proB proS .none .none dcP pmP anP (.ref cdaP) ctP ccP), oslP⟩)
    (qP : PySem.W.codeIn K (.ref cdaP) "ProofError.__init__" = true)
    (mP : K.lookup cdaP = some ⟨cclP, cddP, .fields vsP, ccsP⟩)
    (uP : vsP[2]? = some (.str fileP tfP))
    (wP : ((PG.main.file : Str) == fileP) = true)
    (eP : K.lookup ccP = some ⟨clP, cldP, .cell (some (.ref C1)), cslP⟩)
    (dP : PySem.W.clsIn K C1 = some cDP)
    (tP : PySem.W.typeIn K (.ref fP) = some (.type "function"))
    (fnS : PySem.W.fnIn K fS = true)
    (ini0 : PySem.W.excInitIn K C0 vmB "ValueError.__new__" = true)
    (sve0 : PySem.W.subIn K (.ref C0) (.type "ValueError") = some true)
    (sa0 : PySem.W.findIn K (.ref C0) "__setattr__" = some (some (.builtin "object.__setattr__")))
    (cl0 : PySem.W.clsIn K C0 = some cd_0)
    (rv0 : PySem.HandSPX.refsVE cd_0.mro = true)
    (hd0 : cd_0.hasDict = true)
    (nc0 : PySem.W.findIn K (.ref C0) "code" = some none)
    (ms0 : PySem.W.mroIn K C0 (.ref D) = some true)
    (ks0 : PySem.W.ks_superIn K C0 D "__init__" = some (some (.builtin "ValueError.__init__")))
    (kE0 : PySem.W.keepIn K (.ref C0) = true)
    (xE0 : PySem.W.subIn K (.ref C0) (.type "BaseException") = some true)
    (tE0 : PySem.W.typeIn K (.ref C0) = some (.type "type"))
    (ga0 : PySem.W.findIn K (.ref C0) "__getattribute__" = some (some (.builtin "BaseException.__getattribute__")))
    (gg0 : PySem.W.findIn K (.ref C0) "__getattr__" = some none)
    (hx0 : PySem.W.hasDictIn K C0 = true)
    (ic0 : PySem.W.isClsIn K C0 = true)
    (ini1 : PySem.W.excInitIn K C1 vmB "ValueError.__new__" = true)
    (sve1 : PySem.W.subIn K (.ref C1) (.type "ValueError") = some true)
    (sa1 : PySem.W.findIn K (.ref C1) "__setattr__" = some (some (.builtin "object.__setattr__")))
    (cl1 : PySem.W.clsIn K C1 = some cd_1)
    (rv1 : PySem.HandSPX.refsVE cd_1.mro = true)
    (hd1 : cd_1.hasDict = true)
    (nc1 : PySem.W.findIn K (.ref C1) "code" = some none)
    (ms1 : PySem.W.mroIn K C1 (.ref D) = some true)
    (ks1 : PySem.W.ks_superIn K C1 D "__init__" = some (some (.builtin "ValueError.__init__")))
    (kE1 : PySem.W.keepIn K (.ref C1) = true)
    (xE1 : PySem.W.subIn K (.ref C1) (.type "BaseException") = some true)
    (tE1 : PySem.W.typeIn K (.ref C1) = some (.type "type"))
    (ga1 : PySem.W.findIn K (.ref C1) "__getattribute__" = some (some (.builtin "BaseException.__getattribute__")))
    (gg1 : PySem.W.findIn K (.ref C1) "__getattr__" = some none)
    (hx1 : PySem.W.hasDictIn K C1 = true)
    (ic1 : PySem.W.isClsIn K C1 = true)
    (mp : PySem.W.mroIn K C1 (.ref C1) = some true)
    (kp : PySem.W.ks_superIn K C1 C1 "__init__" = some (some (.ref fS)))
    (nst : PySem.W.findIn K (.ref C1) "step" = some none)
    (s00 : PySem.W.subIn K (.ref C0) (.ref C0) = some true)
    (s01 : PySem.W.subIn K (.ref C0) (.ref C1) = some false)
    (s10 : PySem.W.subIn K (.ref C1) (.ref C0) = some false)
    (s11 : PySem.W.subIn K (.ref C1) (.ref C1) = some true)
    (lG : K.lookup fG = some ⟨ocG, odG, .func (PySem.W.fnOf "__init__" "Gates.__init__" (defArgs s_ginit) (defBody s_ginit) (defScope s_ginit) .none kVG dcG pmG anG cdG ctG), slG⟩)
    (cG : PySem.W.codeIn K cdG "Gates.__init__" = true)
    (kG : PySem.W.keepIn K (.ref fG) = true)
    (pg : PySem.W.plainGet K C2 Str.empty = true)
    (hdG : PySem.W.hasDictIn K C2 = true)
    (po : PySem.W.plainOver K C2 = true)
    (saG : PySem.W.findIn K (.ref C2) "__setattr__" = some (some (.builtin "object.__setattr__")))
    (nt : PySem.W.findIn K (.ref C2) "table" = some none)
    (nn : PySem.W.findIn K (.ref C2) "numbers" = some none)
    (mk : PySem.W.makesIn K C2 = true)
    (fnG : PySem.W.isFn K (.ref fG) = true)
    (kC2 : PySem.W.keepIn K (.ref C2) = true) :
    ∃ fdl : FuncData, (∀ (s : Shared) (u : Value), BindsTo s fdl ⟨[u], []⟩ [("script", u)]) ∧ ∀ base : Heap, K.In base → base.Ns mainGlobals mg → FnOk PG w K mg base (L2.CX PG w) 19 fa fdl ["script"] (spF K (caF C0 C1 C2) 1 (FT 16 25)) := by
  have e := hfa.symm.trans (PySem.W.mg_of X G a25)
  cases e
  let ad : Nat → Addr := fun j => match j with
    | 0 => f0
    | 1 => f1
    | 2 => f2
    | 3 => f3
    | 4 => f4
    | 5 => f5
    | 6 => f6
    | 7 => f7
    | 8 => f8
    | 9 => f9
    | 10 => f10
    | 11 => f11
    | 12 => f12
    | 13 => f13
    | 14 => f14
    | 15 => f15
    | 16 => f16
    | 17 => f17
    | 18 => f18
    | 19 => f19
    | 20 => f20
    | 21 => f21
    | 22 => f22
    | 23 => f23
    | 24 => f24
    | 25 => fa
    | 98 => aF
    | _ => fG
  let fd : Nat → FuncData := fun j => match j with
    | 0 => PySem.W.fnOf "shown" "shown" (defArgs s_shown) (defBody s_shown) (defScope s_shown) .none kV0 dc0 pm0 an0 cd0 ct0
    | 1 => PySem.W.fnOf "is_integer" "is_integer" (defArgs s_is_integer) (defBody s_is_integer) (defScope s_is_integer) .none kV1 dc1 pm1 an1 cd1 ct1
    | 2 => PySem.W.fnOf "is_name" "is_name" (defArgs s_is_name) (defBody s_is_name) (defScope s_is_name) .none kV2 dc2 pm2 an2 cd2 ct2
    | 3 => PySem.W.fnOf "need" "need" (defArgs s_need_t) (defBody s_need_t) (defScope s_need_t) .none kV3 dc3 pm3 an3 cd3 ct3
    | 4 => PySem.W.fnOf "sort_of" "sort_of" (defArgs s_sort_of) (defBody s_sort_of) (defScope s_sort_of) (.ref tT) kV4 dc4 pm4 an4 cd4 ct4
    | 5 => PySem.W.fnOf "sort_of_range" "sort_of_range" (defArgs s_sort_of_range) (defBody s_sort_of_range) (defScope s_sort_of_range) .none kV5 dc5 pm5 an5 cd5 ct5
    | 6 => PySem.W.fnOf "sort_of_word" "sort_of_word" (defArgs s_sort_of_word) (defBody s_sort_of_word) (defScope s_sort_of_word) .none kV6 dc6 pm6 an6 cd6 ct6
    | 7 => PySem.W.fnOf "sort_of_constant" "sort_of_constant" (defArgs s_sort_of_constant) (defBody s_sort_of_constant) (defScope s_sort_of_constant) .none kV7 dc7 pm7 an7 cd7 ct7
    | 8 => PySem.W.fnOf "sort_of_form" "sort_of_form" (defArgs s_sort_of_form) (defBody s_sort_of_form) (defScope s_sort_of_form) .none kV8 dc8 pm8 an8 cd8 ct8
    | 9 => PySem.W.fnOf "row_of" "row_of" (defArgs s_row_of) (defBody s_row_of) (defScope s_row_of) .none kV9 dc9 pm9 an9 cd9 ct9
    | 10 => PySem.W.fnOf "is_farkas" "is_farkas" (defArgs s_is_farkas) (defBody s_is_farkas) (defScope s_is_farkas) .none kV10 dc10 pm10 an10 cd10 ct10
    | 11 => PySem.W.fnOf "need" "need" (defArgs s_need_p) (defBody s_need_p) (defScope s_need_p) .none kV11 dc11 pm11 an11 cd11 ct11
    | 12 => PySem.W.fnOf "is_gate" "is_gate" (defArgs s_is_gate) (defBody s_is_gate) (defScope s_is_gate) .none kV12 dc12 pm12 an12 cd12 ct12
    | 13 => PySem.W.fnOf "is_sum" "is_sum" (defArgs s_is_sum) (defBody s_is_sum) (defScope s_is_sum) .none kV13 dc13 pm13 an13 cd13 ct13
    | 14 => PySem.W.fnOf "check_proof" "check_proof" (defArgs s_check_proof) (defBody s_check_proof) (defScope s_check_proof) .none kV14 dc14 pm14 an14 cd14 ct14
    | 15 => PySem.W.fnOf "holds" "holds" (defArgs s_holds) (defBody s_holds) (defScope s_holds) .none kV15 dc15 pm15 an15 cd15 ct15
    | 16 => PySem.W.fnOf "_law_begin" "_law_begin" (defArgs s_l_begin) (defBody s_l_begin) (defScope s_l_begin) .none kV16 dc16 pm16 an16 cd16 ct16
    | 17 => PySem.W.fnOf "_law_take" "_law_take" (defArgs s_l_take) (defBody s_l_take) (defScope s_l_take) .none kV17 dc17 pm17 an17 cd17 ct17
    | 18 => PySem.W.fnOf "_law_pick" "_law_pick" (defArgs s_l_pick) (defBody s_l_pick) (defScope s_l_pick) .none kV18 dc18 pm18 an18 cd18 ct18
    | 19 => PySem.W.fnOf "_law_code" "_law_code" (defArgs s_l_code) (defBody s_l_code) (defScope s_l_code) .none kV19 dc19 pm19 an19 cd19 ct19
    | 20 => PySem.W.fnOf "_law_int" "_law_int" (defArgs s_l_int) (defBody s_l_int) (defScope s_l_int) .none kV20 dc20 pm20 an20 cd20 ct20
    | 21 => PySem.W.fnOf "_law_part" "_law_part" (defArgs s_l_part) (defBody s_l_part) (defScope s_l_part) .none kV21 dc21 pm21 an21 cd21 ct21
    | 22 => PySem.W.fnOf "_law_terms_right" "_law_terms_right" (defArgs s_l_terms) (defBody s_l_terms) (defScope s_l_terms) .none kV22 dc22 pm22 an22 cd22 ct22
    | 23 => PySem.W.fnOf "_law_taken" "_law_taken" (defArgs s_l_taken) (defBody s_l_taken) (defScope s_l_taken) .none kV23 dc23 pm23 an23 cd23 ct23
    | 24 => PySem.W.fnOf "_law_factors_right" "_law_factors_right" (defArgs s_l_factors) (defBody s_l_factors) (defScope s_l_factors) .none kV24 dc24 pm24 an24 cd24 ct24
    | 25 => PySem.W.fnOf "law" "law" (defArgs s_law) (defBody s_law) (defScope s_law) .none kV25 dc25 pm25 an25 cd25 ct25
    | _ => PySem.W.fnOf "__init__" "Gates.__init__" (defArgs s_ginit) (defBody s_ginit) (defScope s_ginit) .none kVG dcG pmG anG cdG ctG
  have FD : FunD K "sort_of" "sort_of" (defArgs s_sort_of) (defBody s_sort_of) (defScope s_sort_of) [V.int 0] [] f4 (PySem.W.fnOf "sort_of" "sort_of" (defArgs s_sort_of) (defBody s_sort_of) (defScope s_sort_of) (.ref tT) kV4 dc4 pm4 an4 cd4 ct4) :=
    ⟨⟨_, _, _, _, _, _, _, _, _, _, rfl, l4, c4, .inr ⟨by simp, tT, _, its.toList, tn, rfl, lT, by simp, hT⟩, .inl rfl⟩, k4⟩
  have TS : SupTxt PG K mg "SolverError.__init__" solA solB solS D fS ccS cdaS := ⟨⟨_, _, _, _, _, _, _, lS⟩, qS, ⟨_, _, _, _, _, _, mS, uS, wS⟩, ⟨_, _, _, eS⟩, ⟨_, dS⟩, PySem.W.mg_none_of X G z_super, by decide +kernel, opq⟩
  have TP : SupTxt PG K mg "ProofError.__init__" proA proB proS C1 fP ccP cdaP := ⟨⟨_, _, _, _, _, _, _, lP⟩, qP, ⟨_, _, _, _, _, _, mP, uP, wP⟩, ⟨_, _, _, eP⟩, ⟨_, dP⟩, PySem.W.mg_none_of X G z_super, by decide +kernel, opq⟩
  have S0 : SupCls K C0 := ⟨ini0, sve0, sa0, ⟨_, cl0, rv0, hd0⟩, nc0⟩
  have S1 : SupCls K C1 := ⟨ini1, sve1, sa1, ⟨_, cl1, rv1, hd1⟩, nc1⟩
  have T : Txt w K mg (caF C0 C1 C2) ad fd := {
    f_shown := ⟨⟨_, _, _, _, _, _, _, _, _, _, rfl, l0, c0⟩, k0⟩
    g_shown := PySem.W.mg_of X G a0
    b_shown := (fun_mk (st := s_shown) l0 c0 k0).binds (ps := ["thing"]) fun _ _ _ _ _ _ us hl => match us, hl with | [_], _ => rfl
    f_is_integer := ⟨⟨_, _, _, _, _, _, _, _, _, _, rfl, l1, c1⟩, k1⟩
    g_is_integer := PySem.W.mg_of X G a1
    b_is_integer := (fun_mk (st := s_is_integer) l1 c1 k1).binds (ps := ["value"]) fun _ _ _ _ _ _ us hl => match us, hl with | [_], _ => rfl
    f_is_name := ⟨⟨_, _, _, _, _, _, _, _, _, _, rfl, l2, c2⟩, k2⟩
    g_is_name := PySem.W.mg_of X G a2
    b_is_name := (fun_mk (st := s_is_name) l2 c2 k2).binds (ps := ["value"]) fun _ _ _ _ _ _ us hl => match us, hl with | [_], _ => rfl
    f_need_t := ⟨⟨_, _, _, _, _, _, _, _, _, _, rfl, l3, c3⟩, k3⟩
    g_need_t := PySem.W.mg_of X G a3
    b_need_t := (fun_mk (st := s_need_t) l3 c3 k3).binds (ps := ["is_so", "code"]) fun _ _ _ _ _ _ us hl => match us, hl with | [_, _], _ => rfl
    f_sort_of := ⟨⟨_, _, _, _, _, _, _, _, _, _, rfl, l4, c4⟩, k4⟩
    g_sort_of := PySem.W.mg_of X G a4
    f_sort_of_range := ⟨⟨_, _, _, _, _, _, _, _, _, _, rfl, l5, c5⟩, k5⟩
    g_sort_of_range := PySem.W.mg_of X G a5
    b_sort_of_range := (fun_mk (st := s_sort_of_range) l5 c5 k5).binds (ps := ["names", "term", "depth"]) fun _ _ _ _ _ _ us hl => match us, hl with | [_, _, _], _ => rfl
    f_sort_of_word := ⟨⟨_, _, _, _, _, _, _, _, _, _, rfl, l6, c6⟩, k6⟩
    g_sort_of_word := PySem.W.mg_of X G a6
    b_sort_of_word := (fun_mk (st := s_sort_of_word) l6 c6 k6).binds (ps := ["names", "term"]) fun _ _ _ _ _ _ us hl => match us, hl with | [_, _], _ => rfl
    f_sort_of_constant := ⟨⟨_, _, _, _, _, _, _, _, _, _, rfl, l7, c7⟩, k7⟩
    g_sort_of_constant := PySem.W.mg_of X G a7
    b_sort_of_constant := (fun_mk (st := s_sort_of_constant) l7 c7 k7).binds (ps := ["term"]) fun _ _ _ _ _ _ us hl => match us, hl with | [_], _ => rfl
    f_sort_of_form := ⟨⟨_, _, _, _, _, _, _, _, _, _, rfl, l8, c8⟩, k8⟩
    g_sort_of_form := PySem.W.mg_of X G a8
    b_sort_of_form := (fun_mk (st := s_sort_of_form) l8 c8 k8).binds (ps := ["head", "sorts"]) fun _ _ _ _ _ _ us hl => match us, hl with | [_, _], _ => rfl
    f_row_of := ⟨⟨_, _, _, _, _, _, _, _, _, _, rfl, l9, c9⟩, k9⟩
    g_row_of := PySem.W.mg_of X G a9
    b_row_of := (fun_mk (st := s_row_of) l9 c9 k9).binds (ps := ["gate", "is_true"]) fun _ _ _ _ _ _ us hl => match us, hl with | [_, _], _ => rfl
    f_is_farkas := ⟨⟨_, _, _, _, _, _, _, _, _, _, rfl, l10, c10⟩, k10⟩
    g_is_farkas := PySem.W.mg_of X G a10
    b_is_farkas := (fun_mk (st := s_is_farkas) l10 c10 k10).binds (ps := ["names", "gates", "factors"]) fun _ _ _ _ _ _ us hl => match us, hl with | [_, _, _], _ => rfl
    f_need_p := ⟨⟨_, _, _, _, _, _, _, _, _, _, rfl, l11, c11⟩, k11⟩
    g_need_p := PySem.W.mg_of X G a11
    b_need_p := (fun_mk (st := s_need_p) l11 c11 k11).binds (ps := ["is_so", "code", "step"]) fun _ _ _ _ _ _ us hl => match us, hl with | [_, _, _], _ => rfl
    f_is_gate := ⟨⟨_, _, _, _, _, _, _, _, _, _, rfl, l12, c12⟩, k12⟩
    g_is_gate := PySem.W.mg_of X G a12
    b_is_gate := (fun_mk (st := s_is_gate) l12 c12 k12).binds (ps := ["names", "at", "gate"]) fun _ _ _ _ _ _ us hl => match us, hl with | [_, _, _], _ => rfl
    f_is_sum := ⟨⟨_, _, _, _, _, _, _, _, _, _, rfl, l13, c13⟩, k13⟩
    g_is_sum := PySem.W.mg_of X G a13
    b_is_sum := (fun_mk (st := s_is_sum) l13 c13 k13).binds (ps := ["names", "rest"]) fun _ _ _ _ _ _ us hl => match us, hl with | [_, _], _ => rfl
    f_check_proof := ⟨⟨_, _, _, _, _, _, _, _, _, _, rfl, l14, c14⟩, k14⟩
    g_check_proof := PySem.W.mg_of X G a14
    b_check_proof := (fun_mk (st := s_check_proof) l14 c14 k14).binds (ps := ["names", "asserted", "table", "steps", "goal"]) fun _ _ _ _ _ _ us hl => match us, hl with | [_, _, _, _, _], _ => rfl
    f_holds := ⟨⟨_, _, _, _, _, _, _, _, _, _, rfl, l15, c15⟩, k15⟩
    g_holds := PySem.W.mg_of X G a15
    b_holds := (fun_mk (st := s_holds) l15 c15 k15).binds (ps := ["names", "asserted", "gates", "clauses", "clause", "why"]) fun _ _ _ _ _ _ us hl => match us, hl with | [_, _, _, _, _, _], _ => rfl
    f_l_begin := ⟨⟨_, _, _, _, _, _, _, _, _, _, rfl, l16, c16⟩, k16⟩
    g_l_begin := PySem.W.mg_of X G a16
    b_l_begin := (fun_mk (st := s_l_begin) l16 c16 k16).binds (ps := ["script"]) fun _ _ _ _ _ _ us hl => match us, hl with | [_], _ => rfl
    f_l_take := ⟨⟨_, _, _, _, _, _, _, _, _, _, rfl, l17, c17⟩, k17⟩
    g_l_take := PySem.W.mg_of X G a17
    b_l_take := (fun_mk (st := s_l_take) l17 c17 k17).binds (ps := ["d", "many"]) fun _ _ _ _ _ _ us hl => match us, hl with | [_, _], _ => rfl
    f_l_pick := ⟨⟨_, _, _, _, _, _, _, _, _, _, rfl, l18, c18⟩, k18⟩
    g_l_pick := PySem.W.mg_of X G a18
    b_l_pick := (fun_mk (st := s_l_pick) l18 c18 k18).binds (ps := ["d", "menu"]) fun _ _ _ _ _ _ us hl => match us, hl with | [_, _], _ => rfl
    f_l_code := ⟨⟨_, _, _, _, _, _, _, _, _, _, rfl, l19, c19⟩, k19⟩
    g_l_code := PySem.W.mg_of X G a19
    b_l_code := (fun_mk (st := s_l_code) l19 c19 k19).binds (ps := ["names", "term"]) fun _ _ _ _ _ _ us hl => match us, hl with | [_, _], _ => rfl
    f_l_int := ⟨⟨_, _, _, _, _, _, _, _, _, _, rfl, l20, c20⟩, k20⟩
    g_l_int := PySem.W.mg_of X G a20
    b_l_int := (fun_mk (st := s_l_int) l20 c20 k20).binds (ps := ["x"]) fun _ _ _ _ _ _ us hl => match us, hl with | [_], _ => rfl
    f_l_part := ⟨⟨_, _, _, _, _, _, _, _, _, _, rfl, l21, c21⟩, k21⟩
    g_l_part := PySem.W.mg_of X G a21
    b_l_part := (fun_mk (st := s_l_part) l21 c21 k21).binds (ps := ["d"]) fun _ _ _ _ _ _ us hl => match us, hl with | [_], _ => rfl
    f_l_terms := ⟨⟨_, _, _, _, _, _, _, _, _, _, rfl, l22, c22⟩, k22⟩
    g_l_terms := PySem.W.mg_of X G a22
    b_l_terms := (fun_mk (st := s_l_terms) l22 c22 k22).binds (ps := ["d"]) fun _ _ _ _ _ _ us hl => match us, hl with | [_], _ => rfl
    f_l_taken := ⟨⟨_, _, _, _, _, _, _, _, _, _, rfl, l23, c23⟩, k23⟩
    g_l_taken := PySem.W.mg_of X G a23
    b_l_taken := (fun_mk (st := s_l_taken) l23 c23 k23).binds (ps := ["names", "table", "clause", "factors"]) fun _ _ _ _ _ _ us hl => match us, hl with | [_, _, _, _], _ => rfl
    f_l_factors := ⟨⟨_, _, _, _, _, _, _, _, _, _, rfl, l24, c24⟩, k24⟩
    g_l_factors := PySem.W.mg_of X G a24
    b_l_factors := (fun_mk (st := s_l_factors) l24 c24 k24).binds (ps := ["d"]) fun _ _ _ _ _ _ us hl => match us, hl with | [_], _ => rfl
    f_law := ⟨⟨_, _, _, _, _, _, _, _, _, _, rfl, l25, c25⟩, k25⟩
    g_law := PySem.W.mg_of X G a25
    b_law := (fun_mk (st := s_law) l25 c25 k25).binds (ps := ["script"]) fun _ _ _ _ _ _ us hl => match us, hl with | [_], _ => rfl
    b_sort_of := by
      obtain ⟨ds, r, b⟩ := FD.binds1 (ps := ["names", "term", "depth"]) 3 1 (by simp) rfl fun T kV doc pm an cdv ct us its hu hi => match us, hu, its, hi with | [_, _, _], _, [_], _ => ⟨_, rfl, rfl⟩
      cases r
      exact b
    bd_sort_of := FD.binds1 (ps := ["names", "term", "depth"]) 2 0 (by simp) rfl fun T kV doc pm an cdv ct us its hu hi => match us, hu, its, hi with | [_, _], _, [_], _ => ⟨_, rfl, rfl⟩
    f_ginit := ⟨⟨_, _, _, _, _, _, _, _, _, _, rfl, lG, cG⟩, kG⟩
    bI := (fun_mk (st := s_ginit) lG cG kG).binds (ps := ["self"]) fun _ _ _ _ _ _ us hl => match us, hl with | [_], _ => rfl
    c_MOST_WIDTH := by obtain ⟨t, e⟩ := h0; exact ⟨t, by rw [← e]; exact PySem.W.mg_of X G n0⟩
    c_MOST_NUMBER := by obtain ⟨t, e⟩ := h1; exact ⟨t, by rw [← e]; exact PySem.W.mg_of X G n1⟩
    c_MOST_NESTED := by obtain ⟨t, e⟩ := h2; exact ⟨t, by rw [← e]; exact PySem.W.mg_of X G n2⟩
    c_LETTERS := by obtain ⟨t, e⟩ := h3; exact ⟨t, by rw [← e]; exact PySem.W.mg_of X G n3⟩
    c_FORMS := PySem.W.mg_of X G n4
    i_FORMS := fun s => by
      show Is K s (.tup (fstrs.map .str)) (.ref aF)
      simp only [Is]
      exact ⟨aF, fstrs.map V.str, rfl, .inr ⟨_, fts, ftn, lF, hF1, rfl, Nat.le_trans hF2 (by rw [sizeLine_eq]; decide), hF3⟩, isL_strs fstrs⟩
    z_len := PySem.W.mg_none_of X G z_len
    z_abs := PySem.W.mg_none_of X G z_abs
    z_int := PySem.W.mg_none_of X G z_int
    z_str := PySem.W.mg_none_of X G z_str
    z_list := PySem.W.mg_none_of X G z_list
    z_tuple := PySem.W.mg_none_of X G z_tuple
    z_all := PySem.W.mg_none_of X G z_all
    z_any := PySem.W.mg_none_of X G z_any
    z_isinstance := PySem.W.mg_none_of X G z_isinstance
    z_enumerate := PySem.W.mg_none_of X G z_enumerate
    z_zip := PySem.W.mg_none_of X G z_zip
    z_range := PySem.W.mg_none_of X G z_range
    z_bool := PySem.W.mg_none_of X G z_bool
    gE0 := PySem.W.mg_of X G aC0
    gE1 := PySem.W.mg_of X G aC1
    gE2 := PySem.W.mg_of X G aC2
    kE0 := kE0
    exE0 := xE0
    tyE0 := tE0
    xf0 := ⟨ga0, gg0, xE0, hx0⟩
    noc0 := nc0
    kE1 := kE1
    exE1 := xE1
    tyE1 := tE1
    xf1 := ⟨ga1, gg1, xE1, hx1⟩
    noc1 := nc1
    mkE0 := makes_sol TS S0 ms0 ks0 i0 tS
    mkE1 := makes_pro TS TP S1 ms1 ks1 mp kp nst tS fnS i1 tP
    e00 := exm_of xE0 ic0 tE0 s00
    e10 := exm_of xE0 ic0 tE0 s10
    e01 := exm_of xE1 ic1 tE1 s01
    e11 := exm_of xE1 ic1 tE1 s11
    cl2 := ⟨pg, hdG, po, saG⟩
    na_table := nt
    na_numbers := nn
    mk2 := ⟨mk, i2, fnG, kC2⟩ }
  refine ⟨fd 25, fun s u => .of_eq rfl, fun base _ _ => all_ok T 16 25⟩
/-- the law's promise -/
def spTop (K : PySem.W.Frag) : Sp := fun vs H Q _ => ∃ (a : Addr) (ns : List Int), vs = [.ref a] ∧ ns.length ≤ 63 ∧ FzL K H a (ns.map V.int) ∧ ∀ H', Q (.bl true) H'
theorem isL_ints {s : SM} : ∀ l : List Int, IsL K s (l.map .int) (l.map V.int)
  | [] => IsL.nil
  | x :: l => IsL.cons (by simp only [Is]) (isL_ints l)
theorem top_imp {ca : Nat → Addr} (vs : List V) (H : Hp) (Q : VK) (E : XK) (h : spTop K vs H Q E) : spF K ca 1 (FT 16 25) vs H Q E := by
  obtain ⟨a, ns, rfl, hl, hz, q⟩ := h
  obtain ⟨M', e⟩ := law_ok ns hl
  have I : Is K ⟨fun _ => 0, [], H, fun _ => False⟩ (.fz (ns.map .int)) (.ref a) := by
    simp only [Is]
    exact ⟨a, ns.map V.int, rfl, hz, isL_ints ns⟩
  refine ⟨[.fz (ns.map .int)], ⟨fun _ => 0, [], H, fun _ => False⟩, rfl, ⟨fun i o e => by simp at e, fun i j h => by obtain ⟨o, e, _⟩ := h; simp at e, fun i h => by obtain ⟨o, e, _⟩ := h; simp at e, fun a h => h.elim⟩, IsL.cons I IsL.nil, rfl, ?_⟩
  show SatG K ca _ E _ (FT 16 25 [.fz (ns.map .int)] [])
  rw [e]
  intro s' e' x A v hv
  simp only [Is] at hv
  rw [hv]; exact q _
end
end K70
open PySem PySem.W PyProof.Rows
set_option maxHeartbeats 0 in
theorem PySem.Challenge.cw_answerandproof_k70_whole_what_is_looked_holds : PySem.Challenge.rw_answerandproof_k70_whole_what_is_looked.Holds := by
  w_on; o_law; k_head; (case hw => w_witness2)
  k_fill
  refine L2.walk_of (l := PySem.Challenge.rw_answerandproof_k70_whole_what_is_looked) (n := 63) (k := 19) (x := "script") (CX := fun w => L2.CX K70.PG w) (sp := fun w => K70.spTop _) rfl (by decide) rfl ⟨rfl, by decide, by decide⟩ (fun w h Y => PySem.W.kIn_of Y) ?F (fun w H a ns hl hO hS => ⟨a, ns, rfl, hl, by
    rcases hS with (h | ⟨o, h⟩) | h
    · rcases hO a with z | ⟨o, xs, z⟩ <;> rw [h] at z <;> cases z
    · exact .inl ⟨o, h⟩
    · exact .inr h, fun _ => rfl⟩) (fun _ _ _ _ _ h => by obtain ⟨_, _, _, _, _, _, _, _, _, _, _, _, z⟩ := h; exact z.elim)
  case F =>
    intro w mg fa h KX G hmg
    refine' (Exists.elim (K70.all_mk (w := w) KX G hmg ?a0 ?l0 ?c0 ?k0 ?a1 ?l1 ?c1 ?k1 ?a2 ?l2 ?c2 ?k2 ?a3 ?l3 ?c3 ?k3 ?a4 ?l4 ?c4 ?k4 ?a5 ?l5 ?c5 ?k5 ?a6 ?l6 ?c6 ?k6 ?a7 ?l7 ?c7 ?k7 ?a8 ?l8 ?c8 ?k8 ?a9 ?l9 ?c9 ?k9 ?a10 ?l10 ?c10 ?k10 ?a11 ?l11 ?c11 ?k11 ?a12 ?l12 ?c12 ?k12 ?a13 ?l13 ?c13 ?k13 ?a14 ?l14 ?c14 ?k14 ?a15 ?l15 ?c15 ?k15 ?a16 ?l16 ?c16 ?k16 ?a17 ?l17 ?c17 ?k17 ?a18 ?l18 ?c18 ?k18 ?a19 ?l19 ?c19 ?k19 ?a20 ?l20 ?c20 ?k20 ?a21 ?l21 ?c21 ?k21 ?a22 ?l22 ?c22 ?k22 ?a23 ?l23 ?c23 ?k23 ?a24 ?l24 ?c24 ?k24 ?a25 ?l25 ?c25 ?k25 ?lT ?hT ?n0 ?h0 ?n1 ?h1 ?n2 ?h2 ?n3 ?h3 ?n4 ?lF ?hF1 ?hF2 ?hF3 ?z_len ?z_abs ?z_int ?z_str ?z_list ?z_tuple ?z_all ?z_any ?z_isinstance ?z_enumerate ?z_zip ?z_range ?z_bool ?z_super ?opq ?aD ?aC0 ?aC1 ?aC2 ?i0 ?i1 ?i2 ?lS ?qS ?mS ?uS ?wS ?eS ?dS ?tS ?lP ?qP ?mP ?uP ?wP ?eP ?dP ?tP ?fnS ?ini0 ?sve0 ?sa0 ?cl0 ?rv0 ?hd0 ?nc0 ?ms0 ?ks0 ?kE0 ?xE0 ?tE0 ?ga0 ?gg0 ?hx0 ?ic0 ?ini1 ?sve1 ?sa1 ?cl1 ?rv1 ?hd1 ?nc1 ?ms1 ?ks1 ?kE1 ?xE1 ?tE1 ?ga1 ?gg1 ?hx1 ?ic1 ?mp ?kp ?nst ?s00 ?s01 ?s10 ?s11 ?lG ?cG ?kG ?pg ?hdG ?po ?saG ?nt ?nn ?mk ?fnG ?kC2) (fun fdl hh => ⟨fdl, hh.1, fun base h1 h2 => (hh.2 base h1 h2).imp (fun vs H Q E q => K70.top_imp vs H Q E q)⟩))
    (case a0 => k_is)
    (case l0 => k_is)
    (case c0 => k_is)
    (case k0 => k_is)
    (case a1 => k_is)
    (case l1 => k_is)
    (case c1 => k_is)
    (case k1 => k_is)
    (case a2 => k_is)
    (case l2 => k_is)
    (case c2 => k_is)
    (case k2 => k_is)
    (case a3 => k_is)
    (case l3 => k_is)
    (case c3 => k_is)
    (case k3 => k_is)
    (case a4 => k_is)
    (case l4 => k_is)
    (case c4 => k_is)
    (case k4 => k_is)
    (case a5 => k_is)
    (case l5 => k_is)
    (case c5 => k_is)
    (case k5 => k_is)
    (case a6 => k_is)
    (case l6 => k_is)
    (case c6 => k_is)
    (case k6 => k_is)
    (case a7 => k_is)
    (case l7 => k_is)
    (case c7 => k_is)
    (case k7 => k_is)
    (case a8 => k_is)
    (case l8 => k_is)
    (case c8 => k_is)
    (case k8 => k_is)
    (case a9 => k_is)
    (case l9 => k_is)
    (case c9 => k_is)
    (case k9 => k_is)
    (case a10 => k_is)
    (case l10 => k_is)
    (case c10 => k_is)
    (case k10 => k_is)
    (case a11 => k_is)
    (case l11 => k_is)
    (case c11 => k_is)
    (case k11 => k_is)
    (case a12 => k_is)
    (case l12 => k_is)
    (case c12 => k_is)
    (case k12 => k_is)
    (case a13 => k_is)
    (case l13 => k_is)
    (case c13 => k_is)
    (case k13 => k_is)
    (case a14 => k_is)
    (case l14 => k_is)
    (case c14 => k_is)
    (case k14 => k_is)
    (case a15 => k_is)
    (case l15 => k_is)
    (case c15 => k_is)
    (case k15 => k_is)
    (case a16 => k_is)
    (case l16 => k_is)
    (case c16 => k_is)
    (case k16 => k_is)
    (case a17 => k_is)
    (case l17 => k_is)
    (case c17 => k_is)
    (case k17 => k_is)
    (case a18 => k_is)
    (case l18 => k_is)
    (case c18 => k_is)
    (case k18 => k_is)
    (case a19 => k_is)
    (case l19 => k_is)
    (case c19 => k_is)
    (case k19 => k_is)
    (case a20 => k_is)
    (case l20 => k_is)
    (case c20 => k_is)
    (case k20 => k_is)
    (case a21 => k_is)
    (case l21 => k_is)
    (case c21 => k_is)
    (case k21 => k_is)
    (case a22 => k_is)
    (case l22 => k_is)
    (case c22 => k_is)
    (case k22 => k_is)
    (case a23 => k_is)
    (case l23 => k_is)
    (case c23 => k_is)
    (case k23 => k_is)
    (case a24 => k_is)
    (case l24 => k_is)
    (case c24 => k_is)
    (case k24 => k_is)
    (case a25 => k_is)
    (case l25 => k_is)
    (case c25 => k_is)
    (case k25 => k_is)
    (case lT => k_is)
    (case hT => exact .cons ⟨_, rfl⟩ .nil)
    (case n0 => k_is)
    (case h0 => exact ⟨_, rfl⟩)
    (case n1 => k_is)
    (case h1 => exact ⟨_, rfl⟩)
    (case n2 => k_is)
    (case h2 => exact ⟨_, rfl⟩)
    (case n3 => k_is)
    (case h3 => exact ⟨_, rfl⟩)
    (case n4 => k_is)
    (case lF => k_is)
    (case hF1 => rfl)
    (case hF2 => exact Nat.le_of_ble_eq_true rfl)
    (case hF3 => (show L2.Vals _ _; repeat (first | exact .nil | refine .cons ⟨_, rfl⟩ ?_)))
    (case z_len => k_is)
    (case z_abs => k_is)
    (case z_int => k_is)
    (case z_str => k_is)
    (case z_list => k_is)
    (case z_tuple => k_is)
    (case z_all => k_is)
    (case z_any => k_is)
    (case z_isinstance => k_is)
    (case z_enumerate => k_is)
    (case z_zip => k_is)
    (case z_range => k_is)
    (case z_bool => k_is)
    (case z_super => k_is)
    (case opq => k_is)
    (case aD => k_is)
    (case aC0 => k_is)
    (case aC1 => k_is)
    (case aC2 => k_is)
    (case i0 => k_is)
    (case i1 => k_is)
    (case i2 => k_is)
    (case lS => k_is)
    (case qS => k_is)
    (case mS => k_is)
    (case uS => rfl)
    (case wS => first | rfl | decide +kernel)
    (case eS => k_is)
    (case dS => k_is)
    (case tS => k_is)
    (case lP => k_is)
    (case qP => k_is)
    (case mP => k_is)
    (case uP => rfl)
    (case wP => first | rfl | decide +kernel)
    (case eP => k_is)
    (case dP => k_is)
    (case tP => k_is)
    (case fnS => k_is)
    (case ini0 => kx_is)
    (case sve0 => k_is)
    (case sa0 => k_is)
    (case cl0 => k_is)
    (case rv0 => first | rfl | decide +kernel)
    (case hd0 => rfl)
    (case nc0 => k_is)
    (case ms0 => k_is)
    (case ks0 => ks_is)
    (case kE0 => k_is)
    (case xE0 => k_is)
    (case tE0 => k_is)
    (case ga0 => k_is)
    (case gg0 => k_is)
    (case hx0 => k_is)
    (case ic0 => k_is)
    (case ini1 => kx_is)
    (case sve1 => k_is)
    (case sa1 => k_is)
    (case cl1 => k_is)
    (case rv1 => first | rfl | decide +kernel)
    (case hd1 => rfl)
    (case nc1 => k_is)
    (case ms1 => k_is)
    (case ks1 => ks_is)
    (case kE1 => k_is)
    (case xE1 => k_is)
    (case tE1 => k_is)
    (case ga1 => k_is)
    (case gg1 => k_is)
    (case hx1 => k_is)
    (case ic1 => k_is)
    (case mp => k_is)
    (case kp => ks_is)
    (case nst => k_is)
    (case s00 => k_is)
    (case s01 => k_is)
    (case s10 => k_is)
    (case s11 => k_is)
    (case lG => k_is)
    (case cG => k_is)
    (case kG => k_is)
    (case pg => k_is)
    (case hdG => k_is)
    (case po => k_is)
    (case saG => k_is)
    (case nt => k_is)
    (case nn => k_is)
    (case mk => k_is)
    (case fnG => k_is)
    (case kC2 => k_is)
