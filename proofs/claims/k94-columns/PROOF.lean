import PyProof.Rows.All
import HandS.ForMost
import HandS.ForExc
import HandS.IsInst
import HandS.AnyAll
import HandS.Lambda
import HandS.EndTab
import HandS.SortInts
import HandS.TupAny
import HandS.Wide
import HandS.TupLe
import HandS.Deep
import HandS.Flow
import HandS.TupMul
import HandS.Text
import HandS.ExcCtx
import HandS.HotCalls
import HandS.Rev
import HandS.Star
import HandS.Zip
import HandS.Style
import PyProof.EnumMake
import PyProof.Draws
import HandS.GenList
import HandS.HeadHook4
import HandS.HeadWalk
import HandS.NestedK
import HandS.Head0
import HandS.Head1
import HandS.Head2
import HandS.HeadEnd
import HandS.ExcIs
import PyProof.ExcBaseAll.ValueError
import HandS.Hot
import HandS.SetFor
import HandS.Dict
import HandS.SortRule
import HandS.RevTup
import HandS.Strs
import HandS.Conv
import HandS.More
import KE.BitLaws
import PySem.Challenge.RW_pageskept_k94_whole_columns_and_repeats
set_option Elab.async false
set_option linter.all false
set_option maxRecDepth 100000
set_option maxHeartbeats 0
namespace DL
open PySem PySem.Spec PyProof.Rows L2
/-- data trees -/
inductive D where
  | non | bl (b : Bool) | int (i : Int) | str (s : Str)
  | tup (xs : List D) | lst (xs : List D) | scr (xs : List D)
  | dK (kvs : List (Key × D)) | dT (kvs : List (List Key × D))
  | glb (x : Str) | ty (n : String)
/-- what an expression hands out -/
inductive RV where
  | pv (d : D) | ow (ds : List D) | vr (i : Nat) | lc (n : Nat)
/-- what a slot holds -/
inductive Slot where
  | no | pv (d : D) | ow (ds : List D) | lc (n : Nat) | ex | od (kvs : List (Key × D))
/-- the state: the slots, the shared lists -/
structure S where
  η : List Slot
  W : List (List D)
inductive Rs (α : Type) where
  | ok (a : α) (s : S) | err (c : Str) (s : S) | bad
def Rs.bind {α β : Type} (x : Rs α) (f : α → S → Rs β) : Rs β :=
  match x with
  | .ok a s => f a s
  | .err c s => .err c s
  | .bad => .bad
inductive Fl where
  | nx | rt (r : RV) | bk | ct
abbrev EV := S → Rs RV
abbrev EVs := S → Rs (List D)
abbrev SV := S → Rs Fl
/-- the ground of a running def -/
structure Gm where
  H0 : Hp
  L0 : List Addr
  tb : List Addr
  /-- the exception that is handled -/
  xa : Addr := 0
def Plain (o : HO) : Prop := ∀ ps, o ≠ .tbl ps
def Bd (P : Addr → Prop) (A : List (Option Addr)) (L : List Addr) (a : Addr) : Prop := some a ∈ A ∨ a ∈ L ∨ P a
def TupOk (K : PySem.W.Frag) (B : Addr → Prop) (H : Hp) (a : Addr) (vs : List V) : Prop :=
  (Rd H a (.tup vs) ∧ ¬ B a) ∨
    ∃ (o : Obj) (its : Array Value) (n : Nat), K.lookup a = some o ∧ o.cls = .type "tuple" ∧ o.data = .seq its n ∧ its.size ≤ sizeLine ∧ Vals vs its.toList
theorem TupOk.sq {K : PySem.W.Frag} {B : Addr → Prop} {H : Hp} {a : Addr} {vs : List V} (h : TupOk K B H a vs) : SqT K H a vs := by
  rcases h with h | h
  · exact .inl h.1
  · exact .inr h
/-- a list that is read alone (the script, a list of the module's own) -/
def ScrOk (K : PySem.W.Frag) (B : Addr → Prop) (H : Hp) (a : Addr) (vs : List V) : Prop :=
  (Rd H a (.lst vs) ∧ ¬ B a) ∨
    ∃ (o : Obj) (its : Array Value) (n : Nat), K.lookup a = some o ∧ o.cls = .type "list" ∧ o.dict = none ∧ o.data = .seq its n ∧ its.size ≤ sizeLine ∧ Vals vs its.toList
theorem ScrOk.sq {K : PySem.W.Frag} {B : Addr → Prop} {H : Hp} {a : Addr} {vs : List V} (h : ScrOk K B H a vs) : SqL K H a vs := by
  rcases h with h | h
  · exact .inl h.1
  · exact .inr h
mutual
def Rep (K : PySem.W.Frag) (mg : Str → Option Value) (B : Addr → Prop) (H : Hp) : D → V → Prop
  | .non, v => v = .non
  | .bl b, v => v = .bl b
  | .int i, v => v = .int i
  | .str x, v => v = .str x
  | .tup ds, v => ∃ a vs, v = .ref a ∧ TupOk K B H a vs ∧ Reps K mg B H ds vs
  | .lst ds, v => ∃ a vs, v = .ref a ∧ H a = some (.lst vs) ∧ ¬ B a ∧ Reps K mg B H ds vs
  | .scr ds, v => ∃ a vs, v = .ref a ∧ ScrOk K B H a vs ∧ Reps K mg B H ds vs
  | .dK kvs, v => ∃ a ws, v = .ref a ∧ H a = some (.dK ws) ∧ ¬ B a ∧ RepK K mg B H kvs ws
  | .dT kvs, v => ∃ a ws, v = .ref a ∧ H a = some (.dT ws) ∧ ¬ B a ∧ RepT K mg B H kvs ws
  | .glb x, v => ∃ a, mg x = some (.ref a) ∧ v = .ref a
  | .ty n, v => v = .ty n
def Reps (K : PySem.W.Frag) (mg : Str → Option Value) (B : Addr → Prop) (H : Hp) : List D → List V → Prop
  | [], vs => vs = []
  | d :: ds, vs => ∃ v r, vs = v :: r ∧ Rep K mg B H d v ∧ Reps K mg B H ds r
def RepK (K : PySem.W.Frag) (mg : Str → Option Value) (B : Addr → Prop) (H : Hp) : List (Key × D) → List (Key × V) → Prop
  | [], vs => vs = []
  | (k, d) :: ds, vs => ∃ v r, vs = (k, v) :: r ∧ Rep K mg B H d v ∧ RepK K mg B H ds r
def RepT (K : PySem.W.Frag) (mg : Str → Option Value) (B : Addr → Prop) (H : Hp) : List (List Key × D) → List (List Key × V) → Prop
  | [], vs => vs = []
  | (k, d) :: ds, vs => ∃ v r, vs = (k, v) :: r ∧ Rep K mg B H d v ∧ RepT K mg B H ds r
end
/-! ### moving data to another heap -/
mutual
theorem Rep.move {K : PySem.W.Frag} {mg : Str → Option Value} {B B' : Addr → Prop} {H H' : Hp} (k : ∀ a o, H a = some o → ¬ B a → Plain o → H' a = some o ∧ ¬ B' a) :
    ∀ {d : D} {v : V}, Rep K mg B H d v → Rep K mg B' H' d v
  | .non, _, h | .bl _, _, h | .int _, _, h | .str _, _, h | .ty _, _, h | .glb _, _, h => by simpa [Rep] using h
  | .tup ds, v, h => by
    unfold Rep at h ⊢
    obtain ⟨a, vs, e, t, r⟩ := h
    refine ⟨a, vs, e, ?_, Reps.move k r⟩
    rcases t with ⟨t | ⟨o, t⟩, nb⟩ | t
    · have z := k a _ t nb (fun _ => nofun)
      exact .inl ⟨.inl z.1, z.2⟩
    · have z := k a _ t nb (fun _ => nofun)
      exact .inl ⟨.inr ⟨o, z.1⟩, z.2⟩
    · exact .inr t
  | .lst ds, v, h => by
    unfold Rep at h ⊢
    obtain ⟨a, vs, e, t, nb, r⟩ := h
    have z := k a _ t nb (fun _ => nofun)
    exact ⟨a, vs, e, z.1, z.2, Reps.move k r⟩
  | .scr ds, v, h => by
    unfold Rep at h ⊢
    obtain ⟨a, vs, e, t, r⟩ := h
    refine ⟨a, vs, e, ?_, Reps.move k r⟩
    rcases t with ⟨t | ⟨o, t⟩, nb⟩ | t
    · have z := k a _ t nb (fun _ => nofun)
      exact .inl ⟨.inl z.1, z.2⟩
    · have z := k a _ t nb (fun _ => nofun)
      exact .inl ⟨.inr ⟨o, z.1⟩, z.2⟩
    · exact .inr t
  | .dK ds, v, h => by
    unfold Rep at h ⊢
    obtain ⟨a, vs, e, t, nb, r⟩ := h
    have z := k a _ t nb (fun _ => nofun)
    exact ⟨a, vs, e, z.1, z.2, RepK.move k r⟩
  | .dT ds, v, h => by
    unfold Rep at h ⊢
    obtain ⟨a, vs, e, t, nb, r⟩ := h
    have z := k a _ t nb (fun _ => nofun)
    exact ⟨a, vs, e, z.1, z.2, RepT.move k r⟩
theorem Reps.move {K : PySem.W.Frag} {mg : Str → Option Value} {B B' : Addr → Prop} {H H' : Hp} (k : ∀ a o, H a = some o → ¬ B a → Plain o → H' a = some o ∧ ¬ B' a) :
    ∀ {ds : List D} {vs : List V}, Reps K mg B H ds vs → Reps K mg B' H' ds vs
  | [], _, h => by simpa [Reps] using h
  | d :: ds, vs, h => by
    unfold Reps at h ⊢
    obtain ⟨v, r, e, h1, h2⟩ := h
    exact ⟨v, r, e, Rep.move k h1, Reps.move k h2⟩
theorem RepK.move {K : PySem.W.Frag} {mg : Str → Option Value} {B B' : Addr → Prop} {H H' : Hp} (k : ∀ a o, H a = some o → ¬ B a → Plain o → H' a = some o ∧ ¬ B' a) :
    ∀ {ds : List (Key × D)} {vs : List (Key × V)}, RepK K mg B H ds vs → RepK K mg B' H' ds vs
  | [], _, h => by simpa [RepK] using h
  | (x, d) :: ds, vs, h => by
    unfold RepK at h ⊢
    obtain ⟨v, r, e, h1, h2⟩ := h
    exact ⟨v, r, e, Rep.move k h1, RepK.move k h2⟩
theorem RepT.move {K : PySem.W.Frag} {mg : Str → Option Value} {B B' : Addr → Prop} {H H' : Hp} (k : ∀ a o, H a = some o → ¬ B a → Plain o → H' a = some o ∧ ¬ B' a) :
    ∀ {ds : List (List Key × D)} {vs : List (List Key × V)}, RepT K mg B H ds vs → RepT K mg B' H' ds vs
  | [], _, h => by simpa [RepT] using h
  | (x, d) :: ds, vs, h => by
    unfold RepT at h ⊢
    obtain ⟨v, r, e, h1, h2⟩ := h
    exact ⟨v, r, e, Rep.move k h1, RepT.move k h2⟩
end
/-- one heap behind another: what is neither owned nor shared is kept -/
structure Step (A : List (Option Addr)) (L : List Addr) (H : Hp) (A' : List (Option Addr)) (L' : List Addr) (H' : Hp) : Prop where
  frm : ∀ a o, H a = some o → some a ∉ A → a ∉ L → Plain o → H' a = some o
  new : ∀ a, some a ∈ A' ∨ a ∈ L' → some a ∈ A ∨ a ∈ L ∨ H a = none
  pre : ∃ r, L' = L ++ r
  there : ∀ a o, H a = some o → ∃ o', H' a = some o'
  tab : ∀ a, GxR.TabG H a → GxR.TabG H' a
theorem Step.refl (A : List (Option Addr)) (L : List Addr) (H : Hp) : Step A L H A L H :=
  ⟨fun _ _ h _ _ _ => h, fun a h => h.elim .inl fun h => .inr (.inl h), ⟨[], by simp⟩, fun _ o h => ⟨o, h⟩, fun _ h => h⟩
section
variable {A A' A'' : List (Option Addr)} {L L' L'' : List Addr} {H H' H'' : Hp}
theorem Step.out (x : Step A L H A' L' H') {a : Addr} {o : HO} (h : H a = some o) (hA : some a ∉ A) (hL : a ∉ L) : some a ∉ A' ∧ a ∉ L' := by
  refine ⟨fun z => ?_, fun z => ?_⟩
  · rcases x.new a (.inl z) with q | q | q
    · exact hA q
    · exact hL q
    · rw [h] at q; cases q
  · rcases x.new a (.inr z) with q | q | q
    · exact hA q
    · exact hL q
    · rw [h] at q; cases q
theorem Step.trans (x : Step A L H A' L' H') (y : Step A' L' H' A'' L'' H'') : Step A L H A'' L'' H'' where
  frm := fun a o h hA hL p => by
    have z := x.out h hA hL
    exact y.frm a o (x.frm a o h hA hL p) z.1 z.2 p
  new := fun a h => by
    rcases y.new a h with q | q | q
    · exact x.new a (.inl q)
    · exact x.new a (.inr q)
    · refine .inr (.inr ?_)
      cases e : H a with
      | none => rfl
      | some o =>
        obtain ⟨o', e'⟩ := x.there a o e
        rw [e'] at q; cases q
  pre := by
    obtain ⟨r, e⟩ := x.pre
    obtain ⟨r', e'⟩ := y.pre
    exact ⟨r ++ r', by rw [e', e, List.append_assoc]⟩
  there := fun a o h => let ⟨o', h'⟩ := x.there a o h; y.there a o' h'
  tab := fun a h => y.tab a (x.tab a h)
theorem Step.mv (x : Step A L H A' L' H') {P : Addr → Prop} : ∀ a o, H a = some o → ¬ Bd P A L a → Plain o → H' a = some o ∧ ¬ Bd P A' L' a := fun a o h nb p => by
  have hA : some a ∉ A := fun z => nb (.inl z)
  have hL : a ∉ L := fun z => nb (.inr (.inl z))
  have z := x.out h hA hL
  exact ⟨x.frm a o h hA hL p, fun q => q.elim z.1 fun q => q.elim z.2 fun q => nb (.inr (.inr q))⟩
end
/-- what an owner may change: a list, a dict -/
def Mut (o : HO) : Prop := (∃ xs, o = .lst xs) ∨ ∃ kvs, o = .dK kvs
theorem Mut.plain {o : HO} (m : Mut o) : Plain o := fun ps e => by rcases m with ⟨_, m⟩ | ⟨_, m⟩ <;> (rw [m] at e; cases e)
section
variable (K : PySem.W.Frag) (mg : Str → Option Value) (G : Gm)
def SlotOk (B : Addr → Prop) (H : Hp) (L : List Addr) (ov : Option V) (oa : Option Addr) : Slot → Prop
  | .no => oa = none
  | .ex => oa = none
  | .pv d => oa = none ∧ ∃ v, ov = some v ∧ Rep K mg B H d v
  | .ow ds => ∃ a vs, oa = some a ∧ ov = some (.ref a) ∧ H a = some (.lst vs) ∧ Reps K mg B H ds vs
  | .lc n => oa = none ∧ ∃ a, L[n]? = some a ∧ ov = some (.ref a)
  | .od kvs => ∃ a xs, oa = some a ∧ ov = some (.ref a) ∧ H a = some (.dK xs) ∧ RepK K mg B H kvs xs
/-- the state stands in the slots and the heap; P: what is in other hands -/
structure SR (P : Addr → Prop) (A : List (Option Addr)) (L : List Addr) (s : S) (σ : L2.St) (H : Hp) : Prop where
  lenσ : σ.length = s.η.length
  lenA : A.length = s.η.length
  slot : ∀ (i : Nat) (x : Slot), s.η[i]? = some x → ∃ ov oa, σ[i]? = some ov ∧ A[i]? = some oa ∧ SlotOk K mg (Bd P A L) H L ov oa x
  uniq : ∀ (i j : Nat) (a : Addr), A[i]? = some (some a) → A[j]? = some (some a) → i = j
  apart : ∀ a, some a ∈ A → a ∉ L
  nd : L.Nodup
  lenL : L.length = s.W.length
  loc : ∀ (n : Nat) (ds : List D), s.W[n]? = some ds → ∃ a vs, L[n]? = some a ∧ H a = some (.lst vs) ∧ Reps K mg (Bd P A L) H ds vs
  own : ∀ a, some a ∈ A → ∃ o, H a = some o ∧ Mut o
  tab : ∀ a ∈ G.tb, GxR.TabG H a
  ent : Step [] G.L0 G.H0 [] L H
  ownNew : ∀ a, some a ∈ A → G.H0 a = none
  pOk : ∀ a, P a → (∃ o, H a = some o) ∧ some a ∉ A ∧ a ∉ L
  exn : ∀ i : Nat, s.η[i]? = some .ex → σ[i]? = some (some (.ref G.xa))
def RVOk (P : Addr → Prop) (A : List (Option Addr)) (L : List Addr) (σ : L2.St) (H : Hp) : RV → V → Prop
  | .pv d, v => Rep K mg (Bd P A L) H d v
  | .ow ds, v => ∃ a vs, v = .ref a ∧ H a = some (.lst vs) ∧ Reps K mg (fun b => b = a ∨ Bd P A L b) H ds vs ∧ some a ∉ A ∧ a ∉ L ∧ G.H0 a = none
  | .vr i, v => σ[i]? = some (some v)
  | .lc n, v => ∃ a, L[n]? = some a ∧ v = .ref a
end
/-- a new list that nobody else has -/
def Own (r : RV) (v : V) (a : Addr) : Prop := (∃ ds, r = .ow ds) ∧ v = .ref a
def Wi (P : Addr → Prop) (r : RV) (v : V) : Addr → Prop := fun a => P a ∨ Own r v a
def OwNew (A : List (Option Addr)) (H : Hp) (r : RV) (v : V) : Prop := ∀ a, Own r v a → some a ∈ A ∨ H a = none
/-- what follows a run -/
def Run {α : Type} (K : PySem.W.Frag) (mg : Str → Option Value) (G : Gm) (Wx : WX) (P : Addr → Prop) (A : List (Option Addr)) (L : List Addr) (H : Hp) (σ : L2.St) (x : Rs α)
    (Q : α → S → Prop) : Prop :=
  match x with
  | .ok a s' => Q a s'
  | .err c s' => ∀ A' L' H' C, SR K mg G P A' L' s' σ H' → Step A L H A' L' H' → mg c = some (.ref C) → Wx (.ref C) none σ H'
  | .bad => False
section
variable {α β : Type} {K : PySem.W.Frag} {mg : Str → Option Value} {G : Gm} {Wx : WX} {P P' : Addr → Prop} {A A' : List (Option Addr)} {L L' : List Addr} {H H' : Hp} {σ : L2.St} {s : S}
theorem Bd.mono (h : ∀ a, P a → P' a) {a : Addr} (x : Bd P A L a) : Bd P' A L a := x.elim .inl fun x => x.elim (fun x => .inr (.inl x)) fun x => .inr (.inr (h a x))
theorem Rep.less {B B' : Addr → Prop} (h : ∀ a, B' a → B a) {d : D} {v : V} (x : Rep K mg B H d v) : Rep K mg B' H d v := x.move fun a o e n _ => ⟨e, fun z => n (h a z)⟩
theorem Reps.less {B B' : Addr → Prop} (h : ∀ a, B' a → B a) {d : List D} {v : List V} (x : Reps K mg B H d v) : Reps K mg B' H d v := x.move fun a o e n _ => ⟨e, fun z => n (h a z)⟩
theorem SlotOk.move {B B' : Addr → Prop} {ov : Option V} {oa : Option Addr} {x : Slot} (k : ∀ a o, H a = some o → ¬ B a → Plain o → H' a = some o ∧ ¬ B' a)
    (ko : ∀ a o, oa = some a → Mut o → H a = some o → H' a = some o) (kl : ∀ (n : Nat) (a : Addr), L[n]? = some a → L'[n]? = some a) (h : SlotOk K mg B H L ov oa x) : SlotOk K mg B' H' L' ov oa x := by
  cases x with
  | no => exact h
  | ex => exact h
  | pv d => exact ⟨h.1, let ⟨v, e, r⟩ := h.2; ⟨v, e, r.move k⟩⟩
  | ow ds => obtain ⟨a, vs, e1, e2, e3, r⟩ := h; exact ⟨a, vs, e1, e2, ko a _ e1 (.inl ⟨vs, rfl⟩) e3, r.move k⟩
  | od kvs => obtain ⟨a, xs, e1, e2, e3, r⟩ := h; exact ⟨a, xs, e1, e2, ko a _ e1 (.inr ⟨xs, rfl⟩) e3, r.move k⟩
  | lc n => exact ⟨h.1, let ⟨a, e1, e2⟩ := h.2; ⟨a, kl _ _ e1, e2⟩⟩
theorem SR.lessP (x : SR K mg G P' A L s σ H) (h : ∀ a, P a → P' a) : SR K mg G P A L s σ H :=
  { x with
    slot := fun i y e => let ⟨ov, oa, e1, e2, q⟩ := x.slot i y e; ⟨ov, oa, e1, e2, q.move (fun a o e n _ => ⟨e, fun z => n (z.mono h)⟩) (fun _ _ _ _ e => e) fun _ _ e => e⟩
    loc := fun n ds e => let ⟨a, vs, e1, e2, r⟩ := x.loc n ds e; ⟨a, vs, e1, e2, r.less fun _ z => z.mono h⟩
    pOk := fun a z => x.pOk a (h a z) }
theorem Run.bind {x : Rs α} {k : α → S → Rs β} {Q : β → S → Prop} (h : Run K mg G Wx P A L H σ (x.bind k) Q) :
    Run K mg G Wx P A L H σ x fun a s1 => Run K mg G Wx P A L H σ (k a s1) Q := by
  cases x <;> exact h
theorem Run.imp {x : Rs α} {Q Q' : α → S → Prop} (h : Run K mg G Wx P A L H σ x Q) (q : ∀ a s', x = .ok a s' → Q a s' → Q' a s') : Run K mg G Wx P A L H σ x Q' := by
  cases x with
  | bad => exact h
  | err c s1 => exact h
  | ok a s1 => exact q a s1 rfl h
theorem Run.on {x : Rs α} {Q : α → S → Prop} (h : Run K mg G Wx P A L H σ x Q) (st : Step A L H A' L' H') (hp : ∀ a, P a → P' a) : Run K mg G Wx P' A' L' H' σ x Q := by
  cases x with
  | bad => exact h
  | ok a s1 => exact h
  | err c s1 => exact fun A2 L2 H2 C hs2 st2 hc => h A2 L2 H2 C (hs2.lessP hp) (st.trans st2) hc
theorem Rep.step {d : D} {v : V} (h : Rep K mg (Bd P A L) H d v) (x : Step A L H A' L' H') : Rep K mg (Bd P A' L') H' d v := h.move x.mv
theorem Reps.step {d : List D} {v : List V} (h : Reps K mg (Bd P A L) H d v) (x : Step A L H A' L' H') : Reps K mg (Bd P A' L') H' d v := h.move x.mv
theorem Step.loc (x : Step A L H A' L' H') {n : Nat} {a : Addr} (h : L[n]? = some a) : L'[n]? = some a := by
  obtain ⟨r, e⟩ := x.pre
  rw [e, List.getElem?_append_left (List.getElem?_eq_some_iff.mp h).1]; exact h
theorem RVOk.step {r : RV} {v : V} (h : RVOk K mg G P A L σ H r v) (x : Step A L H A' L' H') : RVOk K mg G P A' L' σ H' r v := by
  cases r with
  | pv d => exact Rep.step h x
  | vr i => exact h
  | lc n => obtain ⟨a, h1, h2⟩ := h; exact ⟨a, x.loc h1, h2⟩
  | ow ds =>
    obtain ⟨a, vs, e, h1, h2, h3, h4, h5⟩ := h
    have z := x.out h1 h3 h4
    refine ⟨a, vs, e, x.frm a _ h1 h3 h4 (fun _ => nofun), h2.move (fun b o q n p => ?_), z.1, z.2, h5⟩
    have y := x.mv (P := P) b o q (fun w => n (.inr w)) p
    exact ⟨y.1, fun w => w.elim (fun w => n (.inl w)) y.2⟩
end
/-- a value that has come out -/
structure At (K : PySem.W.Frag) (mg : Str → Option Value) (G : Gm) (P : Addr → Prop) (A0 : List (Option Addr)) (L0 : List Addr) (H0 : Hp) (σ : L2.St) (A : List (Option Addr)) (L : List Addr) (s : S) (H : Hp) (r : RV) (v : V) : Prop where
  sr : SR K mg G (Wi P r v) A L s σ H
  ok : RVOk K mg G P A L σ H r v
  new : OwNew A0 H0 r v
  st : Step A0 L0 H0 A L H
  p0 : ∀ a, P a → (∃ o, H0 a = some o) ∧ some a ∉ A0
/-- behind an expression -/
def PostE (K : PySem.W.Frag) (mg : Str → Option Value) (G : Gm) (P : Addr → Prop) (A : List (Option Addr)) (L : List Addr) (H : Hp) (σ : L2.St) (Q : VK) (r : RV) (s' : S) : Prop :=
  ∀ A' L' v H', At K mg G P A L H σ A' L' s' H' r v → Q v H'
def tE (K : PySem.W.Frag) (mg : Str → Option Value) (G : Gm) (Wx : WX) (f : EV) : TE := fun σ H Q => ∃ P A L s, SR K mg G P A L s σ H ∧
  Run K mg G Wx P A L H σ (f s) (PostE K mg G P A L H σ Q)
/-- an expression's judgement -/
structure ED (X : Cx) (G : Gm) (Wx : WX) (e : Expr) (f : EV) : Prop where
  pe : PE X e (tE X.K X.mg G Wx f)
theorem PE.imp {X : Cx} {e : Expr} {t t' : TE} (h : PE X e t) (q : ∀ σ H Q, t' σ H Q → t σ H Q) : PE X e t' := ⟨fun pins s σ H Q I hw => h.run pins s σ H Q I (q σ H Q hw)⟩
section
variable {K : PySem.W.Frag} {mg : Str → Option Value} {G : Gm} {P P1 : Addr → Prop} {A A0 : List (Option Addr)} {L L0 : List Addr} {H H0 : Hp} {σ σ' : L2.St} {s s' : S} {r r' : RV} {v : V} {d : D} {i : Nat} {x : Slot} {ov : Option V} {oa : Option Addr}
theorem mem_set {A : List (Option Addr)} {i : Nat} {oa : Option Addr} {a : Addr} (h : some a ∈ A.set i oa) : some a ∈ A ∨ oa = some a := by
  rcases List.mem_or_eq_of_mem_set h with h | h
  · exact .inl h
  · exact .inr h.symm
/-- a slot is changed -/
theorem SR.set (hs : SR K mg G P1 A L s σ H) (hi : i < s.η.length) (hP : ∀ a, P a → P1 a) (ho : ∀ a, oa = some a → P1 a ∧ ¬ P a ∧ (∃ o, H a = some o ∧ Mut o) ∧ G.H0 a = none)
    (hσ : σ'.length = σ.length ∧ σ'[i]? = some ov ∧ ∀ j : Nat, j ≠ i → σ'[j]? = σ[j]?) (hx : SlotOk K mg (Bd P (A.set i oa) L) H L ov oa x) (hex : x = .ex → ov = some (.ref G.xa) := by first | nofun | (intro _; rfl)) :
    SR K mg G P (A.set i oa) L { s with η := s.η.set i x } σ' H := by
  have hB : ∀ a, Bd P (A.set i oa) L a → Bd P1 A L a := fun a z => by
    rcases z with z | z | z
    · rcases mem_set z with z | z
      · exact .inl z
      · exact .inr (.inr (ho a z).1)
    · exact .inr (.inl z)
    · exact .inr (.inr (hP a z))
  have mem : ∀ a, some a ∈ A.set i oa → some a ∈ A ∨ (P1 a ∧ ¬ P a ∧ (∃ o, H a = some o ∧ Mut o) ∧ G.H0 a = none) := fun a z => (mem_set z).imp id (ho a)
  have lA := hs.lenA
  have iA : i < A.length := by rw [lA]; exact hi
  refine ⟨?_, ?_, fun j y e => ?_, fun j k a e1 e2 => ?_, fun a z => ?_, hs.nd, hs.lenL, fun n ds e => ?_, fun a z => ?_, hs.tab, hs.ent, fun a z => ?_, fun a z => ?_, fun j e => ?_⟩
  · rw [hσ.1, hs.lenσ]; simp
  · simp [lA]
  · by_cases hj : j = i
    · subst hj
      simp only [List.getElem?_set_self hi, Option.some.injEq] at e
      subst e
      exact ⟨ov, oa, hσ.2.1, by simp [List.getElem?_set_self iA], hx⟩
    · simp only [List.getElem?_set_ne (Ne.symm hj)] at e
      obtain ⟨ov', oa', e1, e2, q⟩ := hs.slot j y e
      refine ⟨ov', oa', by rw [hσ.2.2 j hj]; exact e1, by rw [List.getElem?_set_ne (Ne.symm hj)]; exact e2, q.move (fun a o h n _ => ⟨h, fun z => n (hB a z)⟩) (fun _ _ _ _ h => h) fun _ _ h => h⟩
  · by_cases hj : j = i
    · subst hj
      rw [List.getElem?_set_self iA] at e1
      have e1 : oa = some a := Option.some.inj e1
      by_cases hk : k = j
      · exact hk.symm
      · rw [List.getElem?_set_ne (Ne.symm hk)] at e2
        exact absurd (List.mem_of_getElem? e2) (hs.pOk a (ho a e1).1).2.1
    · rw [List.getElem?_set_ne (Ne.symm hj)] at e1
      by_cases hk : k = i
      · subst hk
        rw [List.getElem?_set_self iA] at e2
        have e2 : oa = some a := Option.some.inj e2
        exact absurd (List.mem_of_getElem? e1) (hs.pOk a (ho a e2).1).2.1
      · rw [List.getElem?_set_ne (Ne.symm hk)] at e2
        exact hs.uniq j k a e1 e2
  · rcases mem a z with z | z
    · exact hs.apart a z
    · exact (hs.pOk a z.1).2.2
  · obtain ⟨a, vs, e1, e2, r⟩ := hs.loc n ds e
    exact ⟨a, vs, e1, e2, r.less hB⟩
  · rcases mem a z with z | z
    · exact hs.own a z
    · exact z.2.2.1
  · rcases mem a z with z | z
    · exact hs.ownNew a z
    · exact z.2.2.2
  · have q := hs.pOk a (hP a z)
    exact ⟨q.1, fun w => (mem a w).elim q.2.1 fun w => w.2.1 z, q.2.2⟩
  · by_cases hj : j = i
    · subst hj
      simp only [List.getElem?_set_self hi, Option.some.injEq] at e
      rw [hσ.2.1, hex e]
    · simp only [List.getElem?_set_ne (Ne.symm hj)] at e
      rw [hσ.2.2 j hj]; exact hs.exn j e
theorem SR.slot' (hs : SR K mg G P A L s σ H) {y : Slot} (e : s.η[i]? = some y) : i < s.η.length ∧ ∃ ov oa, σ[i]? = some ov ∧ A[i]? = some oa ∧ SlotOk K mg (Bd P A L) H L ov oa y :=
  ⟨(List.getElem?_eq_some_iff.mp e).1, hs.slot i y e⟩
theorem same_slot {ov : Option V} (h : σ[i]? = some ov) : σ.length = σ.length ∧ σ[i]? = some ov ∧ ∀ j : Nat, j ≠ i → σ[j]? = σ[j]? := ⟨rfl, h, fun _ _ => rfl⟩
/-- one owner less -/
theorem Step.drop : Step A L H (A.set i none) L H :=
  ⟨fun _ _ h _ _ _ => h, fun a h => h.elim (fun z => (mem_set z).elim .inl nofun) fun h => .inr (.inl h), ⟨[], by simp⟩, fun _ o h => ⟨o, h⟩, fun _ h => h⟩
/-- the slot's list is nobody's to change from now on -/
theorem SR.freeze (hs : SR K mg G P A L s σ H) {ds : List D} (e : s.η[i]? = some (.ow ds)) : ∃ v, σ[i]? = some (some v) ∧ SR K mg G P (A.set i none) L { s with η := s.η.set i (.pv (.lst ds)) } σ H ∧
    Rep K mg (Bd P (A.set i none) L) H (.lst ds) v := by
  obtain ⟨hi, ov, oa, e1, e2, a, vs, rfl, rfl, e3, r⟩ := hs.slot' e
  have na : ¬ Bd P (A.set i none) L a := fun z => by
    rcases z with z | z | z
    · obtain ⟨j, hj, ej⟩ := List.getElem_of_mem z
      have ej' : (A.set i none)[j]? = some (some a) := by rw [List.getElem?_eq_getElem hj, ej]
      by_cases h : j = i
      · subst h
        rw [List.getElem?_set_self (by rw [hs.lenA]; exact hi)] at ej'
        cases ej'
      · rw [List.getElem?_set_ne (Ne.symm h)] at ej'
        exact h (hs.uniq j i a ej' e2)
    · exact hs.apart a (List.mem_of_getElem? e2) z
    · exact (hs.pOk a z).2.1 (List.mem_of_getElem? e2)
  have rr : Rep K mg (Bd P (A.set i none) L) H (.lst ds) (.ref a) := by
    unfold Rep
    exact ⟨a, vs, rfl, e3, na, Reps.step r Step.drop⟩
  exact ⟨_, e1, hs.set hi (fun _ z => z) (fun _ z => nomatch z) (same_slot e1) ⟨rfl, _, rfl, rr⟩, rr⟩
end
/-- a name is resolved; what it owns is frozen -/
def keepI (i : Nat) (s : S) : Option (RV × S) := match s.η[i]? with
  | some (.pv d) => some (.pv d, s)
  | some (.ow ds) => some (.pv (.lst ds), { s with η := s.η.set i (.pv (.lst ds)) })
  | some (.lc n) => some (.lc n, s)
  | _ => none
def keepR : RV → S → Option (RV × S)
  | .vr i, s => keepI i s
  | .pv d, s => some (.pv d, s)
  | .ow ds, s => some (.ow ds, s)
  | .lc n, s => some (.lc n, s)
def fz (r : RV) (s : S) : Option (D × S) := match keepR r s with
  | some (.pv d, s') => some (d, s')
  | some (.ow ds, s') => some (.lst ds, s')
  | _ => none
/-- looked at, without being handed on -/
def rd : RV → S → Option D
  | .pv d, _ => some d
  | .ow ds, _ => some (.lst ds)
  | .vr i, s => match s.η[i]? with
    | some (.pv d) => some d
    | some (.ow ds) => some (.lst ds)
    | some (.lc n) => (s.W[n]?).map .lst
    | _ => none
  | .lc n, s => (s.W[n]?).map .lst
section
variable {K : PySem.W.Frag} {mg : Str → Option Value} {G : Gm} {P : Addr → Prop} {A A0 : List (Option Addr)} {L L0 : List Addr} {H H0 : Hp} {σ : L2.St} {s s' : S} {r r' : RV} {v : V} {d : D}
theorem Wi.pv {P : Addr → Prop} {r : RV} {v : V} (h : ∀ ds, r ≠ .ow ds) : ∀ a, Wi P r v a → P a := fun a z => z.elim id fun z => (let ⟨ds, e⟩ := z.1; absurd e (h ds))
theorem OwNew.of (h : ∀ ds, r ≠ .ow ds) : OwNew A0 H0 r v := fun a z => (let ⟨ds, e⟩ := z.1; absurd e (h ds))
theorem At.keep (h : At K mg G P A0 L0 H0 σ A L s H r v) (e : keepR r s = some (r', s')) : (∀ i, r' ≠ .vr i) ∧ ∃ A', At K mg G P A0 L0 H0 σ A' L s' H r' v := by
  cases r with
  | pv d => cases e; exact ⟨nofun, A, h⟩
  | ow ds => cases e; exact ⟨nofun, A, h⟩
  | lc n => cases e; exact ⟨nofun, A, h⟩
  | vr i =>
    have hs := h.sr.lessP (P := P) fun a z => .inl z
    have e9 : σ[i]? = some (some v) := h.ok
    have e : keepI i s = some (r', s') := e
    unfold keepI at e
    cases q : s.η[i]? with
    | none => rw [q] at e; cases e
    | some y =>
      rw [q] at e
      cases y with
      | no => cases e
      | ex => cases e
      | od _ => cases e
      | pv d =>
        cases e
        obtain ⟨hi, ov, oa, e1, e2, rfl, u, rfl, r⟩ := hs.slot' q
        rw [e9] at e1; cases e1
        exact ⟨nofun, A, hs.lessP (Wi.pv nofun), r, OwNew.of nofun, h.st, h.p0⟩
      | lc n =>
        cases e
        obtain ⟨hi, ov, oa, e1, e2, rfl, a, e3, rfl⟩ := hs.slot' q
        rw [e9] at e1; cases e1
        exact ⟨nofun, A, hs.lessP (Wi.pv nofun), ⟨a, e3, rfl⟩, OwNew.of nofun, h.st, h.p0⟩
      | ow ds =>
        cases e
        obtain ⟨u, e1, hs2, rr⟩ := hs.freeze q
        rw [e9] at e1; cases e1
        exact ⟨nofun, _, hs2.lessP (Wi.pv nofun), rr, OwNew.of nofun, h.st.trans Step.drop, h.p0⟩
theorem At.frz (h : At K mg G P A0 L0 H0 σ A L s H r v) (e : fz r s = some (d, s')) : ∃ A', SR K mg G P A' L s' σ H ∧ Rep K mg (Bd P A' L) H d v ∧ Step A0 L0 H0 A' L H := by
  unfold fz at e
  split at e
  · rename_i d' s1 q
    cases e
    obtain ⟨_, A', a⟩ := h.keep q
    exact ⟨A', a.sr.lessP fun _ z => .inl z, a.ok, a.st⟩
  · rename_i ds s1 q
    cases e
    obtain ⟨_, A', a⟩ := h.keep q
    obtain ⟨b, vs, e1, e2, e3, e4, e5, e6⟩ := a.ok
    refine ⟨A', a.sr.lessP fun _ z => .inl z, ?_, a.st⟩
    unfold Rep
    refine ⟨b, vs, e1, e2, fun z => ?_, e3.less fun _ z => .inr z⟩
    rcases z with z | z | z
    · exact e4 z
    · exact e5 z
    · have p := a.p0 b z
      rcases a.new b ⟨⟨ds, rfl⟩, e1⟩ with q | q
      · exact p.2 q
      · obtain ⟨o, ho⟩ := p.1
        rw [ho] at q; cases q
  · cases e
end
end DL
namespace DL
open PySem PySem.Spec PyProof.Rows L2
section
variable {K : PySem.W.Frag} {mg : Str → Option Value} {G : Gm} {Wx : WX} {P P' : Addr → Prop} {A A0 A1 : List (Option Addr)} {L L0 L1 : List Addr} {H H0 H1 H' : Hp} {σ : L2.St} {s s' s1 : S} {r r' : RV} {v x y : V} {d : D} {B : Addr → Prop} {α : Type}
/-! ### looking at a value -/
def PRep (K : PySem.W.Frag) (mg : Str → Option Value) (B : Addr → Prop) (H : Hp) (d : D) (v : V) : Prop :=
  Rep K mg B H d v ∨ ∃ ds a vs, d = .lst ds ∧ v = .ref a ∧ H a = some (.lst vs) ∧ Reps K mg B H ds vs
theorem PRep.int {i : Int} (h : PRep K mg B H (.int i) v) : v = .int i := by
  rcases h with h | ⟨_, _, _, e, _⟩
  · unfold Rep at h; exact h
  · cases e
theorem PRep.str {i : Str} (h : PRep K mg B H (.str i) v) : v = .str i := by
  rcases h with h | ⟨_, _, _, e, _⟩
  · unfold Rep at h; exact h
  · cases e
theorem PRep.bl {i : Bool} (h : PRep K mg B H (.bl i) v) : v = .bl i := by
  rcases h with h | ⟨_, _, _, e, _⟩
  · unfold Rep at h; exact h
  · cases e
theorem PRep.non (h : PRep K mg B H .non v) : v = .non := by
  rcases h with h | ⟨_, _, _, e, _⟩
  · unfold Rep at h; exact h
  · cases e
theorem PRep.ty {n : String} (h : PRep K mg B H (.ty n) v) : v = .ty n := by
  rcases h with h | ⟨_, _, _, e, _⟩
  · unfold Rep at h; exact h
  · cases e
theorem PRep.glb {n : Str} (h : PRep K mg B H (.glb n) v) : ∃ a, mg n = some (.ref a) ∧ v = .ref a := by
  rcases h with h | ⟨_, _, _, e, _⟩
  · unfold Rep at h; exact h
  · cases e
theorem PRep.tup {ds : List D} (h : PRep K mg B H (.tup ds) v) : ∃ a vs, v = .ref a ∧ TupOk K B H a vs ∧ Reps K mg B H ds vs := by
  rcases h with h | ⟨_, _, _, e, _⟩
  · unfold Rep at h; exact h
  · cases e
theorem PRep.lst {ds : List D} (h : PRep K mg B H (.lst ds) v) : ∃ a vs, v = .ref a ∧ H a = some (.lst vs) ∧ Reps K mg B H ds vs := by
  rcases h with h | ⟨ds', a, vs, e, e1, e2, e3⟩
  · unfold Rep at h
    obtain ⟨a, vs, e1, e2, _, e3⟩ := h
    exact ⟨a, vs, e1, e2, e3⟩
  · cases e
    exact ⟨a, vs, e1, e2, e3⟩
theorem PRep.scr {ds : List D} (h : PRep K mg B H (.scr ds) v) : ∃ a vs, v = .ref a ∧ ScrOk K B H a vs ∧ Reps K mg B H ds vs := by
  rcases h with h | ⟨_, _, _, e, _⟩
  · unfold Rep at h; exact h
  · cases e
theorem PRep.dK {ds : List (Key × D)} (h : PRep K mg B H (.dK ds) v) : ∃ a vs, v = .ref a ∧ H a = some (.dK vs) ∧ ¬ B a ∧ RepK K mg B H ds vs := by
  rcases h with h | ⟨_, _, _, e, _⟩
  · unfold Rep at h; exact h
  · cases e
theorem PRep.dT {ds : List (List Key × D)} (h : PRep K mg B H (.dT ds) v) : ∃ a vs, v = .ref a ∧ H a = some (.dT vs) ∧ ¬ B a ∧ RepT K mg B H ds vs := by
  rcases h with h | ⟨_, _, _, e, _⟩
  · unfold Rep at h; exact h
  · cases e
theorem Reps.length : ∀ {ds : List D} {vs : List V}, Reps K mg B H ds vs → ds.length = vs.length
  | [], _, h => by unfold Reps at h; rw [h]; rfl
  | d :: ds, _, h => by unfold Reps at h; obtain ⟨v, r, rfl, _, h2⟩ := h; simp [Reps.length h2]
theorem Reps.get : ∀ {ds : List D} {vs : List V} {i : Nat} {d : D}, Reps K mg B H ds vs → ds[i]? = some d → ∃ v, vs[i]? = some v ∧ Rep K mg B H d v
  | [], _, _, _, _, e => by simp at e
  | d :: ds, _, 0, _, h, e => by unfold Reps at h; obtain ⟨v, r, rfl, h1, h2⟩ := h; simp at e; subst e; exact ⟨v, rfl, h1⟩
  | d :: ds, _, i + 1, _, h, e => by
    unfold Reps at h; obtain ⟨v, r, rfl, h1, h2⟩ := h
    obtain ⟨w, e1, e2⟩ := Reps.get (i := i) h2 (by simpa using e)
    exact ⟨w, by simpa using e1, e2⟩
theorem Reps.append : ∀ {ds es : List D} {vs ws : List V}, Reps K mg B H ds vs → Reps K mg B H es ws → Reps K mg B H (ds ++ es) (vs ++ ws)
  | [], _, _, _, h, h' => by unfold Reps at h; subst h; simpa using h'
  | d :: ds, _, _, _, h, h' => by
    unfold Reps at h; obtain ⟨v, r, rfl, h1, h2⟩ := h
    simp only [List.cons_append]
    unfold Reps
    exact ⟨v, r ++ _, rfl, h1, Reps.append h2 h'⟩
theorem Reps.nil : Reps K mg B H [] [] := by unfold Reps; rfl
theorem Reps.cons {ds : List D} {vs : List V} (h1 : Rep K mg B H d v) (h2 : Reps K mg B H ds vs) : Reps K mg B H (d :: ds) (v :: vs) := by unfold Reps; exact ⟨v, vs, rfl, h1, h2⟩
theorem Reps.one (h1 : Rep K mg B H d v) : Reps K mg B H [d] [v] := Reps.cons h1 Reps.nil
theorem Reps.take : ∀ {ds : List D} {vs : List V} (n : Nat), Reps K mg B H ds vs → Reps K mg B H (ds.take n) (vs.take n)
  | _, _, 0, _ => by simpa using Reps.nil
  | [], _, n + 1, h => by unfold Reps at h; subst h; simpa using Reps.nil
  | d :: ds, _, n + 1, h => by unfold Reps at h; obtain ⟨v, r, rfl, h1, h2⟩ := h; exact Reps.cons h1 (Reps.take n h2)
theorem Reps.drop : ∀ {ds : List D} {vs : List V} (n : Nat), Reps K mg B H ds vs → Reps K mg B H (ds.drop n) (vs.drop n)
  | _, _, 0, h => by simpa using h
  | [], _, n + 1, h => by unfold Reps at h; subst h; simpa using Reps.nil
  | d :: ds, _, n + 1, h => by unfold Reps at h; obtain ⟨v, r, rfl, h1, h2⟩ := h; simpa using Reps.drop n h2
theorem Reps.reverse : ∀ {ds : List D} {vs : List V}, Reps K mg B H ds vs → Reps K mg B H ds.reverse vs.reverse
  | [], _, h => by unfold Reps at h; subst h; simpa using Reps.nil
  | d :: ds, _, h => by unfold Reps at h; obtain ⟨v, r, rfl, h1, h2⟩ := h; simpa using (Reps.reverse h2).append (Reps.one h1)
theorem Reps.rep {ds : List D} {vs : List V} (h : Reps K mg B H ds vs) : ∀ n : Nat, Reps K mg B H (List.replicate n ds).flatten (List.replicate n vs).flatten
  | 0 => by simpa using Reps.nil
  | n + 1 => by simpa [List.replicate_succ] using h.append (Reps.rep h n)
theorem Reps.set : ∀ {ds : List D} {vs : List V} (i : Nat), Reps K mg B H ds vs → Rep K mg B H d v → Reps K mg B H (ds.set i d) (vs.set i v)
  | [], _, _, h, _ => by unfold Reps at h; subst h; simpa using Reps.nil
  | d :: ds, _, 0, h, q => by unfold Reps at h; obtain ⟨v, r, rfl, h1, h2⟩ := h; exact Reps.cons q h2
  | d :: ds, _, i + 1, h, q => by unfold Reps at h; obtain ⟨v, r, rfl, h1, h2⟩ := h; exact Reps.cons h1 (Reps.set i h2 q)
theorem Reps.ints : ∀ {ns : List Int} {vs : List V}, Reps K mg B H (ns.map D.int) vs → vs = ns.map V.int
  | [], _, h => by simpa [Reps] using h
  | n :: ns, _, h => by
    simp only [List.map_cons] at h; unfold Reps at h; obtain ⟨v, r, rfl, h1, h2⟩ := h
    unfold Rep at h1
    rw [h1, Reps.ints h2]; rfl
theorem Reps.ofInts : ∀ {ns : List Int}, Reps K mg B H (ns.map D.int) (ns.map V.int)
  | [] => by simpa using Reps.nil
  | n :: ns => Reps.cons (by unfold Rep; rfl) Reps.ofInts
theorem RVOk.lessP (h : ∀ a, P a → P' a) (x : RVOk K mg G P' A L σ H r v) : RVOk K mg G P A L σ H r v := by
  cases r with
  | pv d => exact Rep.less (fun a z => z.mono h) x
  | vr i => exact x
  | lc n => exact x
  | ow ds =>
    obtain ⟨a, vs, e, h1, h2, h3⟩ := x
    exact ⟨a, vs, e, h1, h2.less (fun b z => z.imp id fun z => z.mono h), h3⟩
theorem SR.there (hs : SR K mg G P A L s σ H) : ∀ a, Bd P A L a → ∃ o, H a = some o := fun a z => by
  rcases z with z | z | z
  · obtain ⟨o, e, _⟩ := hs.own a z; exact ⟨_, e⟩
  · obtain ⟨n, hn, rfl⟩ := List.getElem_of_mem z
    have : n < s.W.length := by rw [← hs.lenL]; exact hn
    obtain ⟨a, vs, e1, e2, _⟩ := hs.loc n _ (List.getElem?_eq_getElem this)
    rw [List.getElem?_eq_getElem hn] at e1
    cases e1
    exact ⟨_, e2⟩
  · exact (hs.pOk a z).1
theorem rd_ok (hs : SR K mg G P A L s σ H) (ok : RVOk K mg G P A L σ H r v) (e : rd r s = some d) : PRep K mg (Bd P A L) H d v := by
  have loc : ∀ {n : Nat} {a : Addr} {d : D}, L[n]? = some a → (s.W[n]?).map D.lst = some d → PRep K mg (Bd P A L) H d (.ref a) := fun {n a d} h e => by
    obtain ⟨ds, e1, rfl⟩ := Option.map_eq_some_iff.mp e
    obtain ⟨b, vs, e2, e3, e4⟩ := hs.loc n ds e1
    rw [h] at e2; cases e2
    exact .inr ⟨ds, _, vs, rfl, rfl, e3, e4⟩
  cases r with
  | pv d' => cases e; exact .inl ok
  | ow ds =>
    cases e
    obtain ⟨a, vs, e1, h1, h2, _⟩ := ok
    exact .inr ⟨ds, a, vs, rfl, e1, h1, h2.less fun b z => .inr z⟩
  | lc n =>
    obtain ⟨a, h1, rfl⟩ := ok
    exact loc h1 e
  | vr i =>
    have ok : σ[i]? = some (some v) := ok
    have e : (match s.η[i]? with
      | some (.pv d) => some d
      | some (.ow ds) => some (.lst ds)
      | some (.lc n) => (s.W[n]?).map .lst
      | _ => none) = some d := e
    cases q : s.η[i]? with
    | none => rw [q] at e; cases e
    | some y =>
      obtain ⟨hi, ov, oa, e1, e2, so⟩ := hs.slot' q
      rw [ok] at e1; cases e1
      rw [q] at e
      cases y with
      | no => cases e
      | ex => cases e
      | od _ => cases e
      | pv d' =>
        cases e
        obtain ⟨_, w, e3, r⟩ := so
        cases e3
        exact .inl r
      | ow ds =>
        cases e
        obtain ⟨a, vs, _, e3, e4, r⟩ := so
        cases e3
        exact .inr ⟨ds, a, vs, rfl, rfl, e4, r⟩
      | lc n =>
        obtain ⟨_, a, e3, e4⟩ := so
        cases e4
        exact loc e3 e
/-! ### one, two expressions -/
theorem SR.p0 (hs : SR K mg G P A L s σ H) : ∀ a, P a → (∃ o, H a = some o) ∧ some a ∉ A := fun a z => ⟨(hs.pOk a z).1, (hs.pOk a z).2.1⟩
theorem tE_one {fa : EV} {k : RV → S → Rs α} {Qf : α → S → Prop} (hs : SR K mg G P A L s σ H) (h : Run K mg G Wx P A L H σ ((fa s).bind k) Qf) :
    tE K mg G Wx fa σ H fun v H1 => ∃ A1 L1 s1 r, At K mg G P A L H σ A1 L1 s1 H1 r v ∧ Run K mg G Wx P A L H σ (k r s1) Qf :=
  ⟨P, A, L, s, hs, (Run.bind h).imp fun r s1 _ hk A' L' v H' a => ⟨A', L', s1, r, a, hk⟩⟩
theorem tE_two {fa fb : EV} {k : RV → RV → S → Rs α} {Qf : α → S → Prop} (hs : SR K mg G P A L s σ H) (h : Run K mg G Wx P A L H σ ((fa s).bind fun ra s1 => (fb s1).bind fun rb s2 => k ra rb s2) Qf) :
    tE K mg G Wx fa σ H fun x H1 => tE K mg G Wx fb σ H1 fun y H2 => ∃ A2 L2 s2 ra rb, SR K mg G P A2 L2 s2 σ H2 ∧ RVOk K mg G P A2 L2 σ H2 ra x ∧ RVOk K mg G P A2 L2 σ H2 rb y ∧ Step A L H A2 L2 H2 ∧
      Run K mg G Wx P A L H σ (k ra rb s2) Qf :=
  ⟨P, A, L, s, hs, (Run.bind h).imp fun ra s1 _ hk A1 L1 x H1 a1 =>
    ⟨Wi P ra x, A1, L1, s1, a1.sr, ((Run.bind hk).on a1.st fun a z => .inl z).imp fun rb s2 _ hk2 A2 L2 y H2 a2 =>
      ⟨A2, L2, s2, ra, rb, a2.sr.lessP fun a z => .inl (.inl z), (a1.ok.step a2.st), a2.ok.lessP fun a z => .inl z, a1.st.trans a2.st, hk2⟩⟩⟩
/-! ### what a plain step hands out -/
structure ResOk (K : PySem.W.Frag) (mg : Str → Option Value) (B : Addr → Prop) (H H' : Hp) (r : RV) (v : V) : Prop where
  keep : ∀ a o, H a = some o → H' a = some o
  rep : match r with
    | .pv d => Rep K mg B H' d v
    | .ow ds => ∃ a vs, v = .ref a ∧ H' a = some (.lst vs) ∧ H a = none ∧ Reps K mg (fun b => b = a ∨ B b) H' ds vs
    | _ => False
theorem Step.keep (k : ∀ a o, H a = some o → H' a = some o) : Step A L H A L H' :=
  ⟨fun a o h _ _ _ => k a o h, fun a h => h.elim .inl fun h => .inr (.inl h), ⟨[], by simp⟩, fun a o h => ⟨o, k a o h⟩, fun a ⟨ps, h, t⟩ => ⟨ps, k a _ h, t⟩⟩
theorem Step.nilA (x : Step A L H A1 L1 H') : True := trivial
/-- all that is tracked is kept; more is in other hands -/
theorem SR.keep (hs : SR K mg G P A L s σ H) (k : ∀ a o, H a = some o → H' a = some o) (hp : ∀ a, P' a → P a ∨ ((∃ o, H' a = some o) ∧ H a = none)) : SR K mg G P' A L s σ H' := by
  have mv : ∀ a o, H a = some o → ¬ Bd P A L a → Plain o → H' a = some o ∧ ¬ Bd P' A L a := fun a o h nb _ => ⟨k a o h, fun z => by
    rcases z with z | z | z
    · exact nb (.inl z)
    · exact nb (.inr (.inl z))
    · rcases hp a z with q | q
      · exact nb (.inr (.inr q))
      · rw [h] at q; cases q.2⟩
  exact { hs with
    slot := fun i x e => let ⟨ov, oa, e1, e2, q⟩ := hs.slot i x e; ⟨ov, oa, e1, e2, q.move mv (fun a o _ _ h => k a _ h) fun _ _ h => h⟩
    loc := fun n ds e => let ⟨a, vs, e1, e2, r⟩ := hs.loc n ds e; ⟨a, vs, e1, k a _ e2, r.move mv⟩
    own := fun a z => let ⟨o, e, m⟩ := hs.own a z; ⟨o, k a _ e, m⟩
    tab := fun a z => let ⟨ps, h, t⟩ := hs.tab a z; ⟨ps, k a _ h, t⟩
    ent := hs.ent.trans (Step.keep k)
    pOk := fun a z => by
      rcases hp a z with q | ⟨q, n⟩
      · have w := hs.pOk a q
        exact ⟨let ⟨o, e⟩ := w.1; ⟨o, k a o e⟩, w.2⟩
      · refine ⟨q, fun w => ?_, fun w => ?_⟩
        · obtain ⟨o, e, _⟩ := hs.own a w
          rw [n] at e; cases e
        · obtain ⟨o, e⟩ := hs.there a (.inr (.inl w))
          rw [n] at e; cases e }
theorem At.mk' (hs : SR K mg G P A1 L1 s1 σ H1) (st : Step A L H A1 L1 H1) (p0 : ∀ a, P a → (∃ o, H a = some o) ∧ some a ∉ A) (h : ResOk K mg (Bd P A1 L1) H1 H' r v) : At K mg G P A L H σ A1 L1 s1 H' r v := by
  have own : ∀ a, Own r v a → (∃ o, H' a = some o) ∧ H1 a = none := fun a ⟨⟨ds, e⟩, e'⟩ => by
    subst e
    obtain ⟨b, vs, e1, e2, e3, _⟩ := h.rep
    rw [e1] at e'; cases e'
    exact ⟨⟨_, e2⟩, e3⟩
  refine ⟨hs.keep h.keep fun a z => z.imp id (own a), ?_, fun a z => ?_, st.trans (Step.keep h.keep), p0⟩
  · cases r with
    | pv d => exact h.rep
    | vr i => exact h.rep.elim
    | lc n => exact h.rep.elim
    | ow ds =>
      obtain ⟨b, vs, e1, e2, e3, e4⟩ := h.rep
      refine ⟨b, vs, e1, e2, e4, fun z => ?_, fun z => ?_, ?_⟩
      · obtain ⟨o, e⟩ := hs.there b (.inl z)
        rw [e3] at e; cases e
      · obtain ⟨o, e⟩ := hs.there b (.inr (.inl z))
        rw [e3] at e; cases e
      · cases e : G.H0 b with
        | none => rfl
        | some o =>
          obtain ⟨o', e'⟩ := hs.ent.there b o e
          rw [e3] at e'; cases e'
  · have n := (own a z).2
    cases e : H a with
    | none => exact .inr rfl
    | some o =>
      obtain ⟨o', e'⟩ := st.there a o e
      rw [n] at e'; cases e'
theorem keep_upd {p : Addr} {o : HO} (h : H p = none) : ∀ a u, H a = some u → upd H p o a = some u := fun a u e => by rw [upd_ne (ne_of_none e h)]; exact e
theorem Reps.laid {p : Addr} {o : HO} {ds : List D} {vs : List V} (h : H p = none) (r : Reps K mg B H ds vs) : Reps K mg (fun b => b = p ∨ B b) (upd H p o) ds vs := r.move fun a u e nb _ => ⟨keep_upd h a u e, fun z => by
  rcases z with z | z
  · subst z; rw [h] at e; cases e
  · exact nb z⟩
theorem ResOk.same (h : Rep K mg B H d v) : ResOk K mg B H H (.pv d) v := ⟨fun _ _ h => h, h⟩
theorem ResOk.tup {p : Addr} {ds : List D} {vs : List V} (hB : ∀ a, B a → ∃ o, H a = some o) (h : H p = none) (r : Reps K mg B H ds vs) : ResOk K mg B H (upd H p (.tup vs)) (.pv (.tup ds)) (.ref p) := by
  refine ⟨keep_upd h, ?_⟩
  show Rep K mg B (upd H p (.tup vs)) (.tup ds) (.ref p)
  unfold Rep
  refine ⟨p, vs, rfl, .inl ⟨.inl upd_same, fun z => ?_⟩, (r.laid h).less fun _ z => .inr z⟩
  obtain ⟨o, e⟩ := hB p z
  rw [h] at e; cases e
theorem ResOk.lst {p : Addr} {ds : List D} {vs : List V} (h : H p = none) (r : Reps K mg B H ds vs) : ResOk K mg B H (upd H p (.lst vs)) (.ow ds) (.ref p) :=
  ⟨keep_upd h, p, vs, rfl, upd_same, h, r.laid h⟩
end
end DL
namespace L2
open PySem PySem.Spec PyProof.Rows
theorem tuple_mul1W (l : Addr) (items : Array Value) (n : Nat) (dd : Option Addr) (sl : Array (Option Value)) (u : Tok) (c1 : (items.isEmpty || (1 : Int) == 1) = true) :
    Meets (Builtin.«tuple.__mul__» ⟨[.ref l, .int 1 u], []⟩) (fun _ R s => s.heap.get? l = some { cls := .type "tuple", dict := dd, data := .seq items n, slots := sl } ∧
      R (.ok (.ret (Value.ref l))) s) :=
  .of_wp fun prog w A R s h => by
    obtain ⟨hp, g, d, tk, os⟩ := s
    obtain ⟨hl, h⟩ := h
    have f1 := AutoSeq1.idx_int
    wp_walk using wpAny_loadPart' hl
    repeat (first
      | (refine wpAny_ite_true (decide_eq_true c1) ?_; wp_walk using wpAny_loadPart' hl)
      | (refine wpAny_ite_false (by decide) ?_; wp_walk using wpAny_loadPart' hl))
    exact ⟨_, rfl, h⟩
def rRep1 (K : PySem.W.Frag) : R2 := fun x y H Q => ∃ l xs, x = .ref l ∧ y = .int 1 ∧ SqT K H l xs ∧ Q (.ref l) H
section
variable {X : Cx}
theorem op_rep1 : OpR X (binaryOp .Mult) (rRep1 X.K) := by
  intro pins s σ H x y v u Q I rx ry h
  obtain ⟨l, xs, rfl, rfl, hT, q⟩ := h
  cases rx
  obtain ⟨t, rfl⟩ := ry
  obtain ⟨its, r, ⟨⟨cls, dd, data, sl⟩, ho, hc, n, hd⟩, hs⟩ := I.tuple hT
  simp only at hc hd
  subst hc hd
  have c1 : (its.toArray.isEmpty || (1 : Int) == 1) = true := by simp
  refine wpAny_binaryOp_repeat_ref (T := "tuple") (U := "int") (by decide) ⟨_, ho, rfl⟩ (fun s' => typeIs_int s' 1 t) noFill_tuple_mul F.fills_int_mul F.slot_int_rmul repeat_tuple F.slot_int_index.lookup
    (call_meets F.slot_int_rmul (typeIs_int s 1 t) F.entry_int_rmul (F.args_int_rmul_2 _ _) (int_rmul_tuple 1 t l its.toArray n dd sl)
      ⟨ho, rfl, ⟨_, ho, rfl⟩, call_meets F.slot_tuple_mul ⟨_, ho, rfl⟩ F.entry_tuple_mul (F.args_tuple_mul_2 _ _) (tuple_mul1W l its.toArray n dd sl t c1) ⟨ho, ?_⟩⟩)
  exact ⟨.ref l, H, I, rfl, q⟩
end
end L2
namespace DL
open PySem PySem.Spec PyProof.Rows L2
/-! ### plain data -/
mutual
def pyD : D → PyData
  | .non => .none
  | .bl b => .bool b
  | .int i => .int i
  | .str x => .str x
  | .tup xs => .tuple (pyDs xs)
  | .lst xs => .list (pyDs xs)
  | .scr xs => .list (pyDs xs)
  | .dK _ => .dict []
  | .dT _ => .dict []
  | .glb _ => .dict []
  | .ty _ => .dict []
def pyDs : List D → List PyData
  | [] => []
  | x :: xs => pyD x :: pyDs xs
end
def okE (d : D) : Bool := SeqAt.shaped (pyD d)
def eqD (a b : D) : Bool := PyData.eqv (pyD a) (pyD b)
mutual
theorem Rep.dp {K : PySem.W.Frag} {mg : Str → Option Value} {B : Addr → Prop} {H : Hp} : ∀ {d : D} {v : V}, Rep K mg B H d v → (pyD d).canLay0 = true → Dp K H v (pyD d)
  | .non, _, h, _ => by unfold Rep at h; subst h; exact .non
  | .bl b, _, h, _ => by unfold Rep at h; subst h; exact .bl b
  | .int b, _, h, _ => by unfold Rep at h; subst h; exact .int b
  | .str b, _, h, _ => by unfold Rep at h; subst h; exact .str b
  | .tup ds, _, h, c => by
    unfold Rep at h
    obtain ⟨a, vs, rfl, h1, h2⟩ := h
    exact .tup h1.sq (Reps.dp h2 c)
  | .lst ds, _, h, c => by
    unfold Rep at h
    obtain ⟨a, vs, rfl, h1, _, h2⟩ := h
    exact .lst (SqL.of h1) (Reps.dp h2 c)
  | .scr ds, _, h, c => by
    unfold Rep at h
    obtain ⟨a, vs, rfl, h1, h2⟩ := h
    exact .lst h1.sq (Reps.dp h2 c)
  | .dK _, _, _, c | .dT _, _, _, c | .glb _, _, _, c | .ty _, _, _, c => by simp [pyD, PyData.canLay0] at c
theorem Reps.dp {K : PySem.W.Frag} {mg : Str → Option Value} {B : Addr → Prop} {H : Hp} : ∀ {ds : List D} {vs : List V}, Reps K mg B H ds vs → PyData.canLayAll0 (pyDs ds) = true → DpAll K H vs (pyDs ds)
  | [], _, h, _ => by unfold Reps at h; subst h; exact .nil
  | d :: ds, _, h, c => by
    unfold Reps at h
    obtain ⟨v, r, rfl, h1, h2⟩ := h
    have c' : ((pyD d).canLay0 && PyData.canLayAll0 (pyDs ds)) = true := c
    rw [Bool.and_eq_true] at c'
    exact .cons (Rep.dp h1 c'.1) (Reps.dp h2 c'.2)
end
theorem PRep.dp {K : PySem.W.Frag} {mg : Str → Option Value} {B : Addr → Prop} {H : Hp} {d : D} {v : V} (h : PRep K mg B H d v) (c : okE d = true) : Dp K H v (pyD d) := by
  have c := SeqAt.canLay_of_shaped c
  rcases h with h | ⟨ds, a, vs, rfl, rfl, h1, h2⟩
  · exact h.dp c
  · exact .lst (SqL.of h1) (Reps.dp h2 c)
/-! ### the operators by values -/
abbrev Ob2 := D → D → Option RV
def pI (i : Int) : Option RV := some (.pv (.int i))
def pB (b : Bool) : Option RV := some (.pv (.bl b))
def gd (c : Bool) (r : Option RV) : Option RV := if c = true then r else none
def mulOk (i j : Int) : Bool := decide (-(2 ^ 64) < i ∧ i < 2 ^ 64) || decide (-(2 ^ 64) < j ∧ j < 2 ^ 64) || decide (i.natAbs.log2 + j.natAbs.log2 < 1000000)
def addD : Ob2
  | .int i, .int j => pI (i + j)
  | .str i, .str j => gd (decide (i.length + j.length ≤ sizeLine)) (some (.pv (.str (i ++ j))))
  | .tup i, .tup j => gd (decide (i.length + j.length ≤ sizeLine)) (some (.pv (.tup (i ++ j))))
  | .lst i, .lst j => gd (decide (i.length + j.length ≤ sizeLine)) (some (.ow (i ++ j)))
  | .int i, .bl k => pI (i + b2i k)
  | _, _ => none
def subD : Ob2
  | .int i, .int j => pI (i - j)
  | _, _ => none
def mulD : Ob2
  | .int i, .int j => gd (mulOk i j) (pI (i * j))
  | .lst i, .int k => gd (decide (-(2 ^ 63) ≤ k ∧ k < 2 ^ 63 ∧ i.length * k.toNat ≤ sizeLine)) (some (.ow (List.replicate k.toNat i).flatten))
  | .tup i, .int k => if k = 1 then some (.pv (.tup i)) else gd (decide (i ≠ [] ∧ 2 ≤ k ∧ k ≤ 1000 ∧ i.length ≤ 1000)) (some (.pv (.tup (List.replicate k.toNat i).flatten)))
  | _, _ => none
def fdivD : Ob2
  | .int i, .int j => gd (decide (0 < j ∧ j.natAbs.log2 < 9000)) (pI (i / j))
  | _, _ => none
def modD : Ob2
  | .int i, .int j => gd (decide (0 < j)) (pI (i % j))
  | _, _ => none
def powD : Ob2
  | .int i, .int j => gd (decide (0 ≤ j ∧ j ≤ 1000000 ∧ i.natAbs < 2 ^ 64)) (pI (i ^ j.toNat))
  | _, _ => none
def shlD : Ob2
  | .int i, .int j => gd (decide (0 ≤ j ∧ j ≤ 1000000 ∧ i.natAbs < 2 ^ 64)) (pI (i * 2 ^ j.toNat))
  | _, _ => none
def shrD : Ob2
  | .int i, .int j => gd (decide (0 ≤ j)) (pI (i / 2 ^ j.toNat))
  | _, _ => none
def andD : Ob2
  | .int i, .int j => pI (Builtin.bitAnd i j)
  | _, _ => none
def orD : Ob2
  | .int i, .int j => pI (Builtin.bitOr i j)
  | _, _ => none
def xorD : Ob2
  | .int i, .int j => pI (Builtin.bitXor i j)
  | _, _ => none
/-- an operation's answer is enough for the layer's question -/
def OpV (K : PySem.W.Frag) (mg : Str → Option Value) (r : R2) (f : Ob2) : Prop := ∀ (B : Addr → Prop) (H : Hp) (x y : V) (a b : D) (res : RV) (Q : VK), (∀ a, B a → ∃ o, H a = some o) → PRep K mg B H a x → PRep K mg B H b y → f a b = some res →
  (∀ v H', ResOk K mg B H H' res v → Q v H') → r x y H Q
section
variable {K : PySem.W.Frag} {mg : Str → Option Value}
theorem gd_some {c : Bool} {r : Option RV} {x : RV} (h : gd c r = some x) : c = true ∧ r = some x := by
  unfold gd at h
  split at h
  · exact ⟨by assumption, h⟩
  · cases h
theorem ResOk.int {B : Addr → Prop} {H : Hp} {i : Int} : ResOk K mg B H H (.pv (.int i)) (.int i) := .same (by unfold Rep; rfl)
theorem ResOk.bl {B : Addr → Prop} {H : Hp} {i : Bool} : ResOk K mg B H H (.pv (.bl i)) (.bl i) := .same (by unfold Rep; rfl)
theorem ResOk.str {B : Addr → Prop} {H : Hp} {i : Str} : ResOk K mg B H H (.pv (.str i)) (.str i) := .same (by unfold Rep; rfl)
/-- two ints, no condition -/
theorem opv_I0 {g : Int → Int → Int} {f : Ob2} (hf : ∀ a b res, f a b = some res → ∃ i j, a = .int i ∧ b = .int j ∧ res = .pv (.int (g i j))) : OpV K mg (rI0 fun i j => .int (g i j)) f := by
  intro B H x y a b res Q hB ha hb e q
  obtain ⟨i, j, rfl, rfl, rfl⟩ := hf a b res e
  exact ⟨i, j, ha.int, hb.int, q _ _ .int⟩
theorem opv_I {C : Int → Int → Prop} {g : Int → Int → Int} {f : Ob2} (hf : ∀ a b res, f a b = some res → ∃ i j, a = .int i ∧ b = .int j ∧ C i j ∧ res = .pv (.int (g i j))) : OpV K mg (rI C fun i j => .int (g i j)) f := by
  intro B H x y a b res Q hB ha hb e q
  obtain ⟨i, j, rfl, rfl, c, rfl⟩ := hf a b res e
  exact ⟨i, j, ha.int, hb.int, c, q _ _ .int⟩
theorem ii {f : Ob2} {P : Int → Int → RV → Prop} (h0 : ∀ i j res, f (.int i) (.int j) = some res → P i j res) (h1 : ∀ a b, (∀ i j, ¬ (a = .int i ∧ b = .int j)) → f a b = none) :
    ∀ a b res, f a b = some res → ∃ i j, a = .int i ∧ b = .int j ∧ P i j res := by
  intro a b res e
  by_cases h : ∃ i j, a = .int i ∧ b = .int j
  · obtain ⟨i, j, rfl, rfl⟩ := h
    exact ⟨i, j, rfl, rfl, h0 i j res e⟩
  · rw [h1 a b fun i j z => h ⟨i, j, z⟩] at e
    cases e
end
section
variable {X : Cx}
def rAdd (K : PySem.W.Frag) : R2 := fun x y H Q => rI0 (fun i j => .int (i + j)) x y H Q ∨ (∃ i j, x = .str i ∧ y = .str j ∧ i.length + j.length ≤ sizeLine ∧ Q (.str (i ++ j)) H) ∨ rCatA K x y H Q ∨ rCat x y H Q ∨
  ∃ i k, x = .int i ∧ y = .bl k ∧ Q (.int (i + b2i k)) H
theorem op_addA : OpR X (binaryOp .Add) (rAdd X.K) := op_add.or (op_add_str.or (op_catA.or (op_cat.or op_add_ib)))
theorem opv_add {K : PySem.W.Frag} {mg : Str → Option Value} : OpV K mg (rAdd K) addD := by
  intro B H x y a b res Q hB ha hb e q
  unfold addD at e
  split at e
  · cases e
    exact .inl ⟨_, _, ha.int, hb.int, q _ _ .int⟩
  · obtain ⟨c, e⟩ := gd_some e
    cases e
    exact .inr (.inl ⟨_, _, ha.str, hb.str, of_decide_eq_true c, q _ _ .str⟩)
  · rename_i i j
    obtain ⟨c, e⟩ := gd_some e
    cases e
    obtain ⟨p, vs, rfl, t, r⟩ := ha.tup
    obtain ⟨p', vs', rfl, t', r'⟩ := hb.tup
    have l := r.length
    have l' := r'.length
    refine .inr (.inr (.inl ⟨p, p', vs, vs', rfl, rfl, t.sq, t'.sq, by rw [← l, ← l']; exact of_decide_eq_true c, fun e => ?_, fun _ e => ?_, fun _ _ o ho => ?_⟩))
    · subst e
      have : i = [] := List.eq_nil_of_length_eq_zero (by rw [l]; rfl)
      subst this
      refine q _ _ (.same ?_)
      rw [List.nil_append]
      unfold Rep
      exact ⟨_, _, rfl, t', r'⟩
    · subst e
      have : j = [] := List.eq_nil_of_length_eq_zero (by rw [l']; rfl)
      subst this
      refine q _ _ (.same ?_)
      rw [List.append_nil]
      unfold Rep
      exact ⟨_, _, rfl, t, r⟩
    · exact q _ _ (.tup hB ho (r.append r'))
  · obtain ⟨c, e⟩ := gd_some e
    cases e
    obtain ⟨p, vs, rfl, t, r⟩ := ha.lst
    obtain ⟨p', vs', rfl, t', r'⟩ := hb.lst
    refine .inr (.inr (.inr (.inl ⟨p, p', vs, vs', rfl, rfl, t, t', by rw [← r.length, ← r'.length]; exact of_decide_eq_true c, fun o ho => q _ _ (.lst ho (r.append r'))⟩)))
  · cases e
    exact .inr (.inr (.inr (.inr ⟨_, _, ha.int, hb.bl, q _ _ .int⟩)))
  · cases e
def rMul (K : PySem.W.Frag) : R2 := fun x y H Q => rI CMul (fun i j => .int (i * j)) x y H Q ∨ rI CMulW (fun i j => .int (i * j)) x y H Q ∨ rRep x y H Q ∨ rRepT K x y H Q ∨ rRep1 K x y H Q
theorem op_mulA : OpR X (binaryOp .Mult) (rMul X.K) := op_mul.or (op_mulW.or (op_rep.or (op_repT.or op_rep1)))
theorem opv_mul {K : PySem.W.Frag} {mg : Str → Option Value} : OpV K mg (rMul K) mulD := by
  intro B H x y a b res Q hB ha hb e q
  unfold mulD at e
  split at e
  · obtain ⟨c, e⟩ := gd_some e
    cases e
    unfold mulOk at c
    rw [Bool.or_eq_true, Bool.or_eq_true] at c
    rcases c with (c | c) | c
    · exact .inl ⟨_, _, ha.int, hb.int, .inl (of_decide_eq_true c), q _ _ .int⟩
    · exact .inl ⟨_, _, ha.int, hb.int, .inr (of_decide_eq_true c), q _ _ .int⟩
    · have c := of_decide_eq_true c
      exact .inr (.inl ⟨_, _, ha.int, hb.int, c, q _ _ .int⟩)
  · obtain ⟨c, e⟩ := gd_some e
    cases e
    have c := of_decide_eq_true c
    obtain ⟨p, vs, rfl, t, r⟩ := ha.lst
    exact .inr (.inr (.inl ⟨p, _, vs, rfl, hb.int, t, c.1, c.2.1, by rw [← r.length]; exact c.2.2, fun o ho => q _ _ (.lst ho (r.rep _))⟩))
  · split at e
    · rename_i hk
      subst hk
      cases e
      obtain ⟨p, vs, rfl, t, r⟩ := ha.tup
      exact .inr (.inr (.inr (.inr ⟨p, vs, rfl, hb.int, t.sq, q _ _ (.same (by unfold Rep; exact ⟨p, vs, rfl, t, r⟩))⟩)))
    obtain ⟨c, e⟩ := gd_some e
    cases e
    have c := of_decide_eq_true c
    obtain ⟨p, vs, rfl, t, r⟩ := ha.tup
    refine .inr (.inr (.inr (.inl ⟨p, _, vs, rfl, hb.int, t.sq, fun z => c.1 (List.eq_nil_of_length_eq_zero ?_), c.2.1, c.2.2.1, by rw [← r.length]; exact c.2.2.2, fun o ho => q _ _ (.tup hB ho (r.rep _))⟩)))
    rw [r.length, z]; rfl
  · cases e
end
end DL
namespace DL
open PySem PySem.Spec PyProof.Rows L2
section
variable {K : PySem.W.Frag} {mg : Str → Option Value}
theorem ii_none {f : Ob2} {a b : D} (h : ∀ i j, ¬ (a = .int i ∧ b = .int j)) (hf : ∀ a b, (∀ i j, a = .int i → b = .int j → False) → f a b = none) : f a b = none := hf a b fun i j e1 e2 => h i j ⟨e1, e2⟩
theorem opv_sub : OpV K mg (rI0 fun i j => .int (i - j)) subD := opv_I0 fun a b res e => by
  unfold subD at e
  split at e
  · cases e; exact ⟨_, _, rfl, rfl, rfl⟩
  · cases e
theorem opv_and : OpV K mg (rI0 fun i j => .int (Builtin.bitAnd i j)) andD := opv_I0 fun a b res e => by
  unfold andD at e
  split at e
  · cases e; exact ⟨_, _, rfl, rfl, rfl⟩
  · cases e
theorem opv_or : OpV K mg (rI0 fun i j => .int (Builtin.bitOr i j)) orD := opv_I0 fun a b res e => by
  unfold orD at e
  split at e
  · cases e; exact ⟨_, _, rfl, rfl, rfl⟩
  · cases e
theorem opv_xor : OpV K mg (rI0 fun i j => .int (Builtin.bitXor i j)) xorD := opv_I0 fun a b res e => by
  unfold xorD at e
  split at e
  · cases e; exact ⟨_, _, rfl, rfl, rfl⟩
  · cases e
theorem opv_fdiv : OpV K mg (rI CDivW fun i j => .int (i / j)) fdivD := opv_I fun a b res e => by
  unfold fdivD at e
  split at e
  · obtain ⟨c, e⟩ := gd_some e
    have c := of_decide_eq_true c
    cases e; exact ⟨_, _, rfl, rfl, c, rfl⟩
  · cases e
theorem opv_mod : OpV K mg (rI (fun _ j => 0 < j) fun i j => .int (i % j)) modD := opv_I fun a b res e => by
  unfold modD at e
  split at e
  · obtain ⟨c, e⟩ := gd_some e
    have c := of_decide_eq_true c
    cases e; exact ⟨_, _, rfl, rfl, c, rfl⟩
  · cases e
theorem opv_pow : OpV K mg (rI CPow fun i j => .int (i ^ j.toNat)) powD := opv_I fun a b res e => by
  unfold powD at e
  split at e
  · obtain ⟨c, e⟩ := gd_some e
    have c := of_decide_eq_true c
    cases e; exact ⟨_, _, rfl, rfl, c, rfl⟩
  · cases e
theorem opv_shl : OpV K mg (rI CPow fun i j => .int (i * 2 ^ j.toNat)) shlD := opv_I fun a b res e => by
  unfold shlD at e
  split at e
  · obtain ⟨c, e⟩ := gd_some e
    have c := of_decide_eq_true c
    cases e; exact ⟨_, _, rfl, rfl, c, rfl⟩
  · cases e
theorem opv_shr : OpV K mg (rI (fun _ j => 0 ≤ j) fun i j => .int (i / 2 ^ j.toNat)) shrD := opv_I fun a b res e => by
  unfold shrD at e
  split at e
  · obtain ⟨c, e⟩ := gd_some e
    have c := of_decide_eq_true c
    cases e; exact ⟨_, _, rfl, rfl, c, rfl⟩
  · cases e
end
/-! ### comparisons by values -/
/-- sets of text, whether a text stands in another: by the library's own look -/
def inStr (i j : Str) : Bool := !(Builtin.Str.occurrences j i 0 j.length 1).isEmpty
def eqO (a b : D) : Option Bool := match a, b with
  | .int i, .int j => some (i == j)
  | .str i, .str j => some (i == j)
  | a, b => if (okE a && okE b) = true then some (eqD a b) else none
def oB (o : Option Bool) : Option RV := o.map fun b => .pv (.bl b)
def eqC : Ob2 := fun a b => oB (eqO a b)
def neC : Ob2 := fun a b => oB ((eqO a b).map not)
def allI : List D → Option (List Int)
  | [] => some []
  | .int i :: r => (allI r).map fun t => i :: t
  | _ => none
def ltC : Ob2
  | .int i, .int j => pB (decide (i < j))
  | .str i, .str j => pB (decide (i.cps.toList < j.cps.toList))
  | .tup xs, .tup ys => match allI xs, allI ys with
    | some ns, some ms => pB (HT.lexLt ns ms)
    | _, _ => none
  | _, _ => none
def leC : Ob2
  | .int i, .int j => pB (decide (i ≤ j))
  | .str i, .str j => pB (!decide (j.cps.toList < i.cps.toList))
  | _, _ => none
def gtC : Ob2
  | .int i, .int j => pB (decide (j < i))
  | .str i, .str j => pB (decide (j.cps.toList < i.cps.toList))
  | _, _ => none
def geC : Ob2
  | .int i, .int j => pB (decide (j ≤ i))
  | .str i, .str j => pB (!decide (i.cps.toList < j.cps.toList))
  | _, _ => none
def inO (a b : D) : Option Bool := match b with
  | .str j => match a with
    | .str i => some (inStr i j)
    | _ => none
  | .lst ds => if (okE a && okE b) = true then some (ds.any fun z => eqD z a) else none
  | .tup ds => if (a :: ds).all (fun d => match d with | .non => true | .bl _ => true | .int _ => true | .str _ => true | _ => false) = true then some (ds.any fun z => eqD z a) else none
  | _ => none
def inC : Ob2 := fun a b => oB (inO a b)
def niC : Ob2 := fun a b => oB ((inO a b).map not)
def isO (a b : D) : Option Bool := match b with
  | .non => some (match a with | .non => true | _ => false)
  | .bl c => some (match a with | .bl d => d == c | _ => false)
  | _ => none
def isC : Ob2 := fun a b => oB (isO a b)
def isnC : Ob2 := fun a b => oB ((isO a b).map not)
section
variable {K : PySem.W.Frag} {mg : Str → Option Value} {X : Cx}
theorem oB_some {o : Option Bool} {res : RV} (h : oB o = some res) : ∃ b, o = some b ∧ res = .pv (.bl b) := by
  obtain ⟨b, e, rfl⟩ := Option.map_eq_some_iff.mp h
  exact ⟨b, e, rfl⟩
theorem allI_some : ∀ {xs : List D} {ns : List Int}, allI xs = some ns → xs = ns.map D.int
  | [], ns, h => by unfold allI at h; cases h; rfl
  | x :: xs, ns, h => by
    unfold allI at h
    split at h
    · rename_i e; cases e
    · rename_i i r e
      cases e
      obtain ⟨t, e1, rfl⟩ := Option.map_eq_some_iff.mp h
      rw [allI_some e1]; rfl
    · cases h
theorem allI_map (ns : List Int) : allI (ns.map D.int) = some ns := by
  induction ns with
  | nil => rfl
  | cons n ns ih => simp [allI, ih]
def rEqA (K : PySem.W.Frag) : R2 := fun x y H Q => rEq x y H Q ∨ rEqD K x y H Q
theorem op_eqA (hu : X.A.units + 64 < cLine) : OpR X (compareOp .Eq) (rEqA X.K) := op_eq.or (op_eqD hu)
def rNeA (K : PySem.W.Frag) : R2 := fun x y H Q => rNe x y H Q ∨ rNeD K x y H Q
theorem op_neA (hu : X.A.units + 64 < cLine) : OpR X (compareOp .NotEq) (rNeA X.K) := op_ne.or (op_neD hu)
theorem eqO_cases {a b : D} {c : Bool} (h : eqO a b = some c) : (∃ i j, a = .int i ∧ b = .int j ∧ c = (i == j)) ∨ (∃ i j, a = .str i ∧ b = .str j ∧ c = (i == j)) ∨ (okE a = true ∧ okE b = true ∧ c = eqD a b) := by
  unfold eqO at h
  split at h
  · cases h; exact .inl ⟨_, _, rfl, rfl, rfl⟩
  · cases h; exact .inr (.inl ⟨_, _, rfl, rfl, rfl⟩)
  · split at h
    · rename_i e
      rw [Bool.and_eq_true] at e
      cases h
      exact .inr (.inr ⟨e.1, e.2, rfl⟩)
    · cases h
theorem opv_eq : OpV K mg (rEqA K) eqC := by
  intro B H x y a b res Q hB ha hb e0 q
  obtain ⟨c, e, rfl⟩ := oB_some e0
  have q' := q (.bl c) H .bl
  rcases eqO_cases e with ⟨i, j, rfl, rfl, rfl⟩ | ⟨i, j, rfl, rfl, rfl⟩ | ⟨h1, h2, rfl⟩
  · refine .inl ⟨by rw [ha.int, hb.int]; rfl, ?_⟩
    rw [ha.int, hb.int, dec_int]; exact q'
  · refine .inl ⟨by rw [ha.str, hb.str]; rfl, ?_⟩
    rw [ha.str, hb.str, dec_str]; exact q'
  · exact .inr ⟨_, _, ha.dp h1, hb.dp h2, h1, h2, q'⟩
theorem opv_ne : OpV K mg (rNeA K) neC := by
  intro B H x y a b res Q hB ha hb e0 q
  obtain ⟨c0, e9, rfl⟩ := oB_some e0
  obtain ⟨c, e, rfl⟩ := Option.map_eq_some_iff.mp e9
  have q' := q (.bl (!c)) H .bl
  rcases eqO_cases e with ⟨i, j, rfl, rfl, rfl⟩ | ⟨i, j, rfl, rfl, rfl⟩ | ⟨h1, h2, rfl⟩
  · refine .inl ⟨by rw [ha.int, hb.int]; rfl, ?_⟩
    rw [ha.int, hb.int, dec_int]; exact q'
  · refine .inl ⟨by rw [ha.str, hb.str]; rfl, ?_⟩
    rw [ha.str, hb.str, dec_str]; exact q'
  · exact .inr ⟨_, _, ha.dp h1, hb.dp h2, h1, h2, q'⟩
def rLtA (K : PySem.W.Frag) : R2 := fun x y H Q => rI0 (fun i j => .bl (decide (i < j))) x y H Q ∨ (∃ i j, x = .str i ∧ y = .str j ∧ Q (.bl (decide (i.cps.toList < j.cps.toList))) H) ∨ rLtT K x y H Q
theorem op_ltA (hu : X.A.units + 64 < cLine) : OpR X (compareOp .Lt) (rLtA X.K) := op_lt.or (op_lt_str.or (op_ltT (by omega)))
theorem opv_lt : OpV K mg (rLtA K) ltC := by
  intro B H x y a b res Q hB ha hb e q
  unfold ltC at e
  split at e
  · cases e; exact .inl ⟨_, _, ha.int, hb.int, q _ _ .bl⟩
  · cases e; exact .inr (.inl ⟨_, _, ha.str, hb.str, q _ _ .bl⟩)
  · split at e
    · rename_i ns ms h1 h2
      cases e
      rw [allI_some h1] at ha
      rw [allI_some h2] at hb
      obtain ⟨p, vs, rfl, t, r⟩ := ha.tup
      obtain ⟨p', vs', rfl, t', r'⟩ := hb.tup
      rw [r.ints] at t
      rw [r'.ints] at t'
      exact .inr (.inr ⟨_, _, ns, ms, rfl, rfl, t.sq, t'.sq, q _ _ .bl⟩)
    · cases e
  · cases e
def rLeA (K : PySem.W.Frag) : R2 := fun x y H Q => rI0 (fun i j => .bl (decide (i ≤ j))) x y H Q ∨ ∃ i j, x = .str i ∧ y = .str j ∧ Q (.bl (!decide (j.cps.toList < i.cps.toList))) H
theorem op_leA {X : Cx} : OpR X (compareOp .LtE) (rLeA X.K) := op_le.or op_le_str
theorem opv_le : OpV K mg (rLeA K) leC := by
  intro B H x y a b res Q hB ha hb e q
  unfold leC at e
  split at e
  · cases e; exact .inl ⟨_, _, ha.int, hb.int, q _ _ .bl⟩
  · cases e; exact .inr ⟨_, _, ha.str, hb.str, q _ _ .bl⟩
  · cases e
def rGtA (K : PySem.W.Frag) : R2 := fun x y H Q => rI0 (fun i j => .bl (decide (j < i))) x y H Q ∨ ∃ i j, x = .str i ∧ y = .str j ∧ Q (.bl (decide (j.cps.toList < i.cps.toList))) H
theorem op_gtA {X : Cx} : OpR X (compareOp .Gt) (rGtA X.K) := op_gt.or op_gt_str
theorem opv_gt : OpV K mg (rGtA K) gtC := by
  intro B H x y a b res Q hB ha hb e q
  unfold gtC at e
  split at e
  · cases e; exact .inl ⟨_, _, ha.int, hb.int, q _ _ .bl⟩
  · cases e; exact .inr ⟨_, _, ha.str, hb.str, q _ _ .bl⟩
  · cases e
def rGeA (K : PySem.W.Frag) : R2 := fun x y H Q => rI0 (fun i j => .bl (decide (j ≤ i))) x y H Q ∨ ∃ i j, x = .str i ∧ y = .str j ∧ Q (.bl (!decide (i.cps.toList < j.cps.toList))) H
theorem op_geA {X : Cx} : OpR X (compareOp .GtE) (rGeA X.K) := op_ge.or op_ge_str
theorem opv_ge : OpV K mg (rGeA K) geC := by
  intro B H x y a b res Q hB ha hb e q
  unfold geC at e
  split at e
  · cases e; exact .inl ⟨_, _, ha.int, hb.int, q _ _ .bl⟩
  · cases e; exact .inr ⟨_, _, ha.str, hb.str, q _ _ .bl⟩
  · cases e
/-! is -/
def isV (x : V) (y : V) : Bool := match y with
  | .non => decide (x = .non)
  | .bl c => decide (x = .bl c)
  | _ => false
def rIs (neg : Bool) : R2 := fun x y H Q => (y = .non ∨ ∃ c, y = .bl c) ∧ Q (.bl (neg != isV x y)) H
theorem isV_ok {x y : V} {v u : Value} (rx : RelV x v) (ry : RelV y u) (h : y = .non ∨ ∃ c, y = .bl c) : plainIs v u = true ∧ (v == u) = isV x y := by
  rcases h with rfl | ⟨c, rfl⟩
  · cases ry
    cases x with
    | non => cases rx; exact ⟨rfl, rfl⟩
    | bl _ => cases rx; exact ⟨rfl, rfl⟩
    | int _ => obtain ⟨t, rfl⟩ := rx; exact ⟨rfl, rfl⟩
    | str _ => obtain ⟨t, rfl⟩ := rx; exact ⟨rfl, rfl⟩
    | byt _ => obtain ⟨t, rfl⟩ := rx; exact ⟨rfl, rfl⟩
    | flt _ => obtain ⟨t, rfl⟩ := rx; exact ⟨rfl, rfl⟩
    | ref _ => cases rx; exact ⟨rfl, rfl⟩
    | ty _ => cases rx; exact ⟨rfl, rfl⟩
  · cases ry
    cases x with
    | non => cases rx; exact ⟨rfl, rfl⟩
    | bl d =>
      cases rx
      refine ⟨rfl, ?_⟩
      cases c <;> cases d <;> rfl
    | int _ => obtain ⟨t, rfl⟩ := rx; exact ⟨rfl, rfl⟩
    | str _ => obtain ⟨t, rfl⟩ := rx; exact ⟨rfl, rfl⟩
    | byt _ => obtain ⟨t, rfl⟩ := rx; exact ⟨rfl, rfl⟩
    | flt _ => obtain ⟨t, rfl⟩ := rx; exact ⟨rfl, rfl⟩
    | ref _ => cases rx; exact ⟨rfl, rfl⟩
    | ty _ => cases rx; exact ⟨rfl, rfl⟩
theorem op_isA : OpR X (compareOp .Is) (rIs false) := by
  intro pins s σ H x y v u Q I rx ry ⟨h, q⟩
  obtain ⟨h1, h2⟩ := isV_ok rx ry h
  refine wpAny_is_plain h1 ⟨.bl _, H, I, rfl, ?_⟩
  rw [h2]; simpa using q
theorem op_isnA : OpR X (compareOp .IsNot) (rIs true) := by
  intro pins s σ H x y v u Q I rx ry ⟨h, q⟩
  obtain ⟨h1, h2⟩ := isV_ok rx ry h
  refine wpAny_isNot_plain h1 ⟨.bl _, H, I, rfl, ?_⟩
  rw [h2]; simpa using q
theorem isO_ok {B : Addr → Prop} {H : Hp} {a b : D} {x y : V} {c : Bool} (ha : PRep K mg B H a x) (hb : PRep K mg B H b y) (e : isO a b = some c) : (y = .non ∨ ∃ c, y = .bl c) ∧ isV x y = c := by
  have nr : ∀ {d : D} {w : V} {p : Addr}, PRep K mg B H d w → w = .ref p → (∀ b, d ≠ .bl b) ∧ d ≠ .non := fun {d w p} h e => by
    subst e
    refine ⟨fun b z => ?_, fun z => ?_⟩
    · subst z; have := h.bl; cases this
    · subst z; have := h.non; cases this
  unfold isO at e
  split at e
  · cases e
    have := hb.non; subst this
    refine ⟨.inl rfl, ?_⟩
    unfold isV
    cases a with
    | non => rw [ha.non]; rfl
    | bl _ => rw [ha.bl]; rfl
    | int _ => rw [ha.int]; rfl
    | str _ => rw [ha.str]; rfl
    | ty _ => rw [ha.ty]; rfl
    | glb _ => obtain ⟨a, _, rfl⟩ := ha.glb; rfl
    | tup _ => obtain ⟨p, _, rfl, _⟩ := ha.tup; rfl
    | lst _ => obtain ⟨p, _, rfl, _⟩ := ha.lst; rfl
    | scr _ => obtain ⟨p, _, rfl, _⟩ := ha.scr; rfl
    | dK _ => obtain ⟨p, _, rfl, _⟩ := ha.dK; rfl
    | dT _ => obtain ⟨p, _, rfl, _⟩ := ha.dT; rfl
  · cases e
    have := hb.bl; subst this
    refine ⟨.inr ⟨_, rfl⟩, ?_⟩
    unfold isV
    cases a with
    | non => rw [ha.non]; rfl
    | bl d => rw [ha.bl]; rename_i c; cases c <;> cases d <;> rfl
    | int _ => rw [ha.int]; rfl
    | str _ => rw [ha.str]; rfl
    | ty _ => rw [ha.ty]; rfl
    | glb _ => obtain ⟨a, _, rfl⟩ := ha.glb; rfl
    | tup _ => obtain ⟨p, _, rfl, _⟩ := ha.tup; rfl
    | lst _ => obtain ⟨p, _, rfl, _⟩ := ha.lst; rfl
    | scr _ => obtain ⟨p, _, rfl, _⟩ := ha.scr; rfl
    | dK _ => obtain ⟨p, _, rfl, _⟩ := ha.dK; rfl
    | dT _ => obtain ⟨p, _, rfl, _⟩ := ha.dT; rfl
  · cases e
theorem opv_is : OpV K mg (rIs false) isC := by
  intro B H x y a b res Q hB ha hb e0 q
  obtain ⟨c, e, rfl⟩ := oB_some e0
  obtain ⟨h1, h2⟩ := isO_ok ha hb e
  refine ⟨h1, ?_⟩
  rw [h2]; simpa using q (.bl c) H .bl
theorem opv_isn : OpV K mg (rIs true) isnC := by
  intro B H x y a b res Q hB ha hb e0 q
  obtain ⟨c0, e9, rfl⟩ := oB_some e0
  obtain ⟨c, e, rfl⟩ := Option.map_eq_some_iff.mp e9
  obtain ⟨h1, h2⟩ := isO_ok ha hb e
  refine ⟨h1, ?_⟩
  rw [h2]; simpa using q (.bl (!c)) H .bl
/-! in -/
def rInA (K : PySem.W.Frag) : R2 := fun x y H Q => (∃ i j, x = .str i ∧ y = .str j ∧ Q (.bl (inStr i j)) H) ∨ rInD K x y H Q ∨ rIn K false x y H Q
theorem op_inA (hu : X.A.units + 65 < cLine) : OpR X (compareOp .In) (rInA X.K) := op_in_str.or ((op_inD hu).or op_in_seq)
def rNiA (K : PySem.W.Frag) : R2 := fun x y H Q => (∃ i j, x = .str i ∧ y = .str j ∧ Q (.bl (!inStr i j)) H) ∨ rNotInD K x y H Q ∨ rIn K true x y H Q
theorem op_niA (hu : X.A.units + 65 < cLine) : OpR X (compareOp .NotIn) (rNiA X.K) := op_notin_str.or ((op_notInD hu).or op_notIn_seq)
def flatD (d : D) : Bool := match d with | .non => true | .bl _ => true | .int _ => true | .str _ => true | _ => false
theorem flat_rep {B : Addr → Prop} {H : Hp} {d : D} {v : V} (h : Rep K mg B H d v) (f : flatD d = true) : flatV v = true := by
  cases d <;> first | (simp [flatD] at f; done) | (unfold Rep at h; subst h; rfl)
theorem flat_eq {B : Addr → Prop} {H : Hp} {d e : D} {v u : V} (h : Rep K mg B H d v) (h' : Rep K mg B H e u) (f : flatD d = true) (f' : flatD e = true) : eqV v u = eqD d e := by
  cases d <;> cases e <;> first | (simp [flatD] at f; done) | (simp [flatD] at f'; done) | (unfold Rep at h h'; subst h; subst h'; first | rfl | (simp [eqV, eqD, pyD, PyData.eqv]))
theorem flat_all {B : Addr → Prop} {H : Hp} : ∀ {ds : List D} {vs : List V}, Reps K mg B H ds vs → ds.all flatD = true → vs.all flatV = true
  | [], _, h, _ => by unfold Reps at h; subst h; rfl
  | d :: ds, _, h, f => by
    unfold Reps at h; obtain ⟨v, r, rfl, h1, h2⟩ := h
    simp only [List.all_cons, Bool.and_eq_true] at f ⊢
    exact ⟨flat_rep h1 f.1, flat_all h2 f.2⟩
theorem flat_any {B : Addr → Prop} {H : Hp} {a : D} {x : V} (ha : Rep K mg B H a x) (fa : flatD a = true) : ∀ {ds : List D} {vs : List V}, Reps K mg B H ds vs → ds.all flatD = true → inV x vs = ds.any fun z => eqD z a
  | [], _, h, _ => by unfold Reps at h; subst h; rfl
  | d :: ds, _, h, f => by
    unfold Reps at h; obtain ⟨v, r, rfl, h1, h2⟩ := h
    simp only [List.all_cons, Bool.and_eq_true] at f
    have := flat_any ha fa h2 f.2
    unfold inV at this ⊢
    simp only [List.any_cons, this, flat_eq h1 ha f.1 fa]
theorem pyDs_map (ds : List D) : pyDs ds = ds.map pyD := by
  induction ds with
  | nil => rfl
  | cons d ds ih => simp [pyDs, ih]
theorem inO_cases {B : Addr → Prop} {H : Hp} {a b : D} {x y : V} {c : Bool} (ha : PRep K mg B H a x) (hb : PRep K mg B H b y) (e : inO a b = some c) : (∃ i j, x = .str i ∧ y = .str j ∧ c = inStr i j) ∨
    (∃ d ds, Dp K H x d ∧ Dp K H y (.list ds) ∧ SeqAt.shaped d = true ∧ SeqAt.shaped (.list ds) = true ∧ c = (ds.any fun z => PyData.eqv z d)) ∨
    (∃ p xs, y = .ref p ∧ (SqL K H p xs ∨ SqT K H p xs) ∧ flatV x = true ∧ xs.all flatV = true ∧ c = inV x xs) := by
  unfold inO at e
  split at e
  · split at e
    · cases e; exact .inl ⟨_, _, ha.str, hb.str, rfl⟩
    · cases e
  · split at e
    · rename_i ds h
      rw [Bool.and_eq_true] at h
      cases e
      refine .inr (.inl ⟨_, _, ha.dp h.1, hb.dp h.2, h.1, h.2, ?_⟩)
      rw [pyDs_map, List.any_map]; rfl
    · cases e
  · split at e
    · rename_i ds h
      cases e
      have h' : flatD a = true ∧ ds.all flatD = true := by
        have : (a :: ds).all flatD = true := h
        simpa only [List.all_cons, Bool.and_eq_true] using this
      have ra : Rep K mg B H a x := by
        rcases ha with ha | ⟨_, _, _, rfl, _⟩
        · exact ha
        · exact absurd h'.1 (by simp [flatD])
      obtain ⟨p, vs, rfl, t, r⟩ := hb.tup
      exact .inr (.inr ⟨p, vs, rfl, .inr t.sq, flat_rep ra h'.1, flat_all r h'.2, (flat_any ra h'.1 r h'.2).symm⟩)
    · cases e
  · cases e
theorem opv_in : OpV K mg (rInA K) inC := by
  intro B H x y a b res Q hB ha hb e0 q
  obtain ⟨c, e, rfl⟩ := oB_some e0
  have q' := q (.bl c) H .bl
  rcases inO_cases ha hb e with ⟨i, j, e1, e2, rfl⟩ | ⟨d, ds, e1, e2, e3, e4, rfl⟩ | ⟨p, xs, e1, e2, e3, e4, rfl⟩
  · exact .inl ⟨i, j, e1, e2, q'⟩
  · exact .inr (.inl ⟨d, ds, e1, e2, e3, e4, q'⟩)
  · exact .inr (.inr ⟨p, xs, e1, e2, e3, e4, q'⟩)
theorem opv_ni : OpV K mg (rNiA K) niC := by
  intro B H x y a b res Q hB ha hb e0 q
  obtain ⟨c0, e9, rfl⟩ := oB_some e0
  obtain ⟨c, e, rfl⟩ := Option.map_eq_some_iff.mp e9
  have q' := q (.bl (!c)) H .bl
  rcases inO_cases ha hb e with ⟨i, j, e1, e2, rfl⟩ | ⟨d, ds, e1, e2, e3, e4, rfl⟩ | ⟨p, xs, e1, e2, e3, e4, rfl⟩
  · exact .inl ⟨i, j, e1, e2, q'⟩
  · exact .inr (.inl ⟨d, ds, e1, e2, e3, e4, q'⟩)
  · exact .inr (.inr ⟨p, xs, e1, e2, e3, e4, q'⟩)
end
end DL
namespace DL
open PySem PySem.Spec PyProof.Rows L2
section
variable {K : PySem.W.Frag} {mg : Str → Option Value} {X : Cx} {G : Gm} {Wx : WX} {a b c e : Expr} {fa fb fc fe : EV} {pos : Pos}
theorem tE.mono {f : EV} {σ : L2.St} {H : Hp} {Q Q' : VK} (h : tE K mg G Wx f σ H Q) (q : ∀ v H, Q v H → Q' v H) : tE K mg G Wx f σ H Q' := by
  obtain ⟨P, A, L, s, hs, h⟩ := h
  exact ⟨P, A, L, s, hs, h.imp fun r s' _ p A' L' v H' a => q _ _ (p A' L' v H' a)⟩
/-! ### leaves -/
def eC (d : D) : EV := fun s => .ok (.pv d) s
def eV (i : Nat) : EV := fun s => match s.η[i]? with
  | some (.pv d) => .ok (.pv d) s
  | some (.ow _) => .ok (.vr i) s
  | some (.lc n) => .ok (.lc n) s
  | _ => .bad
theorem tE_pure {P : Addr → Prop} {A : List (Option Addr)} {L : List Addr} {s : S} {σ : L2.St} {H : Hp} {d : D} {v : V} {Q : VK} (hs : SR K mg G P A L s σ H) (h : Run K mg G Wx P A L H σ (.ok (.pv d) s) (PostE K mg G P A L H σ Q))
    (r : Rep K mg (Bd P A L) H d v) : Q v H := h A L v H (At.mk' hs (Step.refl A L H) hs.p0 (ResOk.same r))
theorem ed_int {i j pos} : ED X G Wx (.Constant (.int i) j pos) (eC (.int i)) := ⟨PE.imp pe_int fun σ H Q ⟨P, A, L, s, hs, h⟩ => tE_pure hs h (by unfold Rep; rfl)⟩
theorem ed_str {i j pos} : ED X G Wx (.Constant (.str i) j pos) (eC (.str i)) := ⟨PE.imp pe_str fun σ H Q ⟨P, A, L, s, hs, h⟩ => tE_pure hs h (by unfold Rep; rfl)⟩
theorem ed_bl {i j pos} : ED X G Wx (.Constant (.bool i) j pos) (eC (.bl i)) := ⟨PE.imp pe_bl fun σ H Q ⟨P, A, L, s, hs, h⟩ => tE_pure hs h (by unfold Rep; rfl)⟩
theorem ed_non {j pos} : ED X G Wx (.Constant .none j pos) (eC .non) := ⟨PE.imp pe_non fun σ H Q ⟨P, A, L, s, hs, h⟩ => tE_pure hs h (by unfold Rep; rfl)⟩
/-- a module's constant -/
theorem ed_glob {x : Str} {v : V} {u : Value} {d : D} (hg : Gl X x) (hm : X.mg x = some u) (r : RelV v u) (hr : ∀ B H, Rep X.K X.mg B H d v) (hd : (x == ("__debug__" : Str)) = false := by decide) : ED X G Wx (.Name x pos) (eC d) :=
  ⟨PE.imp (pe_glob hg hm r hd) fun σ H Q ⟨P, A, L, s, hs, h⟩ => tE_pure hs h (hr _ _)⟩
theorem ed_globI {x : Str} {i : Int} {t : Tok} (hg : Gl X x) (hm : X.mg x = some (.int i t)) (hd : (x == ("__debug__" : Str)) = false := by decide) : ED X G Wx (.Name x pos) (eC (.int i)) :=
  ed_glob (v := .int i) hg hm ⟨t, rfl⟩ (fun _ _ => by unfold Rep; rfl) hd
theorem ed_globS {x : Str} {i : Str} {t : Tok} (hg : Gl X x) (hm : X.mg x = some (.str i t)) (hd : (x == ("__debug__" : Str)) = false := by decide) : ED X G Wx (.Name x pos) (eC (.str i)) :=
  ed_glob (v := .str i) hg hm ⟨t, rfl⟩ (fun _ _ => by unfold Rep; rfl) hd
theorem ed_globR {x : Str} {f : Addr} (hg : Gl X x) (hm : X.mg x = some (.ref f)) (hd : (x == ("__debug__" : Str)) = false := by decide) : ED X G Wx (.Name x pos) (eC (.glb x)) :=
  ed_glob (v := .ref f) hg hm rfl (fun _ _ => by unfold Rep; exact ⟨f, hm, rfl⟩) hd
/-- a built-in class as a value -/
theorem ed_ty {x : Str} {n : String} (hg : Gl X x) (hm : X.mg x = none) (hv : bootBuiltins x = some (.type n)) (hn : x ≠ "__name__" := by decide) (hd : (x == ("__debug__" : Str)) = false := by decide) : ED X G Wx (.Name x pos) (eC (.ty n)) :=
  ⟨PE.imp (pe_bltn (v := .ty n) hg hm hv rfl hn hd) fun σ H Q ⟨P, A, L, s, hs, h⟩ => tE_pure hs h (by unfold Rep; rfl)⟩
theorem ed_v (i : Nat) {x : Str} (hN : X.N[i]? = some x := by rfl) (hv : Vis X.env.scope x := by first | exact Or.inl rfl | exact Or.inr (Or.inl rfl) | exact Or.inr (Or.inr rfl)) (hd : (x == ("__debug__" : Str)) = false := by decide)
    (hcd : (x == ("__classdict__" : Str)) = false := by decide) : ED X G Wx (.Name x pos) (eV i) := by
  refine ⟨PE.imp (pe_var hN hv hd hcd) fun σ H Q ⟨P, A, L, s, hs, h⟩ => ?_⟩
  unfold eV at h
  cases q : s.η[i]? with
  | none => rw [q] at h; exact h.elim
  | some y =>
    rw [q] at h
    obtain ⟨hi, ov, oa, e1, e2, so⟩ := hs.slot' q
    cases y with
    | no => exact h.elim
    | ex => exact h.elim
    | od _ => exact h.elim
    | pv d =>
      obtain ⟨_, v, rfl, r⟩ := so
      exact ⟨v, e1, tE_pure hs h r⟩
    | ow ds =>
      obtain ⟨p, vs, _, rfl, _, _⟩ := so
      exact ⟨_, e1, h A L _ H ⟨hs.lessP (Wi.pv nofun), e1, OwNew.of nofun, Step.refl _ _ _, hs.p0⟩⟩
    | lc n =>
      obtain ⟨_, p, e3, rfl⟩ := so
      exact ⟨_, e1, h A L _ H ⟨hs.lessP (Wi.pv nofun), ⟨p, e3, rfl⟩, OwNew.of nofun, Step.refl _ _ _, hs.p0⟩⟩
/-! ### operators -/
def fin1 (f : D → Option RV) (ra : RV) (s : S) : Rs RV := match rd ra s with
  | some a => match f a with
    | some r => .ok r s
    | none => .bad
  | none => .bad
def fin2 (f : Ob2) (ra rb : RV) (s : S) : Rs RV := match rd ra s, rd rb s with
  | some a, some b => match f a b with
    | some r => .ok r s
    | none => .bad
  | _, _ => .bad
def eOp1 (f : D → Option RV) (fa : EV) : EV := fun s => (fa s).bind fun ra s1 => fin1 f ra s1
def eOp2 (f : Ob2) (fa fb : EV) : EV := fun s => (fa s).bind fun ra s1 => (fb s1).bind fun rb s2 => fin2 f ra rb s2
def OpV1 (K : PySem.W.Frag) (mg : Str → Option Value) (r : V → Hp → VK → Prop) (f : D → Option RV) : Prop := ∀ (B : Addr → Prop) (H : Hp) (x : V) (a : D) (res : RV) (Q : VK), (∀ a, B a → ∃ o, H a = some o) → PRep K mg B H a x → f a = some res →
  (∀ v H', ResOk K mg B H H' res v → Q v H') → r x H Q
section
variable {P : Addr → Prop} {A A2 : List (Option Addr)} {s s2 : S} {σ : L2.St} {L L2 : List Addr} {H H2 : Hp} {ra rb : RV} {x y : V} {Q : VK}
theorem run_fin1 {r : V → Hp → VK → Prop} {f : D → Option RV} (hv : OpV1 K mg r f) (hs : SR K mg G P A2 L2 s2 σ H2) (p0 : ∀ a, P a → (∃ o, H a = some o) ∧ some a ∉ A) (oa : RVOk K mg G P A2 L2 σ H2 ra x) (st : Step A L H A2 L2 H2)
    (h : Run K mg G Wx P A L H σ (fin1 f ra s2) (PostE K mg G P A L H σ Q)) : r x H2 Q := by
  unfold fin1 at h
  cases e1 : rd ra s2 with
  | none => rw [e1] at h; exact h.elim
  | some a =>
    rw [e1] at h
    simp only at h
    cases e3 : f a with
    | none => rw [e3] at h; exact h.elim
    | some res =>
      rw [e3] at h
      exact hv _ H2 x a res Q hs.there (rd_ok hs oa e1) e3 fun v H' ro => h A2 L2 v H' (At.mk' hs st p0 ro)
theorem run_fin2 {r : R2} {f : Ob2} (hv : OpV K mg r f) (hs : SR K mg G P A2 L2 s2 σ H2) (p0 : ∀ a, P a → (∃ o, H a = some o) ∧ some a ∉ A) (oa : RVOk K mg G P A2 L2 σ H2 ra x) (ob : RVOk K mg G P A2 L2 σ H2 rb y) (st : Step A L H A2 L2 H2)
    (h : Run K mg G Wx P A L H σ (fin2 f ra rb s2) (PostE K mg G P A L H σ Q)) : r x y H2 Q := by
  unfold fin2 at h
  cases e1 : rd ra s2 with
  | none => rw [e1] at h; exact h.elim
  | some a =>
    cases e2 : rd rb s2 with
    | none => rw [e1, e2] at h; exact h.elim
    | some b =>
      rw [e1, e2] at h
      simp only at h
      cases e3 : f a b with
      | none => rw [e3] at h; exact h.elim
      | some res =>
        rw [e3] at h
        exact hv _ H2 x y a b res Q hs.there (rd_ok hs oa e1) (rd_ok hs ob e2) e3 fun v H' ro => h A2 L2 v H' (At.mk' hs st p0 ro)
end
theorem tE_op2 {r : R2} {f : Ob2} (hv : OpV K mg r f) {σ : L2.St} {H : Hp} {Q : VK} (h : tE K mg G Wx (eOp2 f fa fb) σ H Q) : tOp r (tE K mg G Wx fa) (tE K mg G Wx fb) σ H Q := by
  obtain ⟨P, A, L, s, hs, h⟩ := h
  exact (tE_two hs h).mono fun x H1 h1 => h1.mono fun y H2 ⟨A2, L2, s2, ra, rb, hs2, oa, ob, st, h2⟩ => run_fin2 hv hs2 hs.p0 oa ob st h2
theorem ed_op2 {op : Operator} {r : R2} {f : Ob2} (ho : OpR X (binaryOp op) r) (hv : OpV X.K X.mg r f) (ha : ED X G Wx a fa) (hb : ED X G Wx b fb) : ED X G Wx (.BinOp a op b pos) (eOp2 f fa fb) :=
  ⟨PE.imp (pe_op ho ha.pe hb.pe) fun σ H Q h => tE_op2 hv h⟩
theorem ed_add (ha : ED X G Wx a fa) (hb : ED X G Wx b fb) : ED X G Wx (.BinOp a .Add b pos) (eOp2 addD fa fb) := ed_op2 op_addA opv_add ha hb
theorem ed_sub (ha : ED X G Wx a fa) (hb : ED X G Wx b fb) : ED X G Wx (.BinOp a .Sub b pos) (eOp2 subD fa fb) := ed_op2 op_sub opv_sub ha hb
theorem ed_mul (ha : ED X G Wx a fa) (hb : ED X G Wx b fb) : ED X G Wx (.BinOp a .Mult b pos) (eOp2 mulD fa fb) := ed_op2 op_mulA opv_mul ha hb
theorem ed_fdiv (ha : ED X G Wx a fa) (hb : ED X G Wx b fb) : ED X G Wx (.BinOp a .FloorDiv b pos) (eOp2 fdivD fa fb) := ed_op2 op_fdivW opv_fdiv ha hb
theorem ed_mod (ha : ED X G Wx a fa) (hb : ED X G Wx b fb) : ED X G Wx (.BinOp a .Mod b pos) (eOp2 modD fa fb) := ed_op2 op_mod opv_mod ha hb
theorem ed_pow (ha : ED X G Wx a fa) (hb : ED X G Wx b fb) : ED X G Wx (.BinOp a .Pow b pos) (eOp2 powD fa fb) := ed_op2 op_pow opv_pow ha hb
theorem ed_shl (ha : ED X G Wx a fa) (hb : ED X G Wx b fb) : ED X G Wx (.BinOp a .LShift b pos) (eOp2 shlD fa fb) := ed_op2 op_shl opv_shl ha hb
theorem ed_shr (ha : ED X G Wx a fa) (hb : ED X G Wx b fb) : ED X G Wx (.BinOp a .RShift b pos) (eOp2 shrD fa fb) := ed_op2 op_shr opv_shr ha hb
theorem ed_and_ (ha : ED X G Wx a fa) (hb : ED X G Wx b fb) : ED X G Wx (.BinOp a .BitAnd b pos) (eOp2 andD fa fb) := ed_op2 op_and opv_and ha hb
theorem ed_or_ (ha : ED X G Wx a fa) (hb : ED X G Wx b fb) : ED X G Wx (.BinOp a .BitOr b pos) (eOp2 orD fa fb) := ed_op2 op_or opv_or ha hb
theorem ed_xor (ha : ED X G Wx a fa) (hb : ED X G Wx b fb) : ED X G Wx (.BinOp a .BitXor b pos) (eOp2 xorD fa fb) := ed_op2 op_xor opv_xor ha hb
def negD : D → Option RV
  | .int i => pI (-i)
  | _ => none
theorem ed_neg (ha : ED X G Wx a fa) : ED X G Wx (.UnaryOp .USub a pos) (eOp1 negD fa) :=
  ⟨PE.imp (pe_un un_neg ha.pe) fun σ H Q ⟨P, A, L, s, hs, h⟩ => (tE_one hs h).mono fun x H1 ⟨A1, L1, s1, r, at1, h1⟩ =>
    run_fin1 (f := negD) (r := rU fun i => .int (-i)) (fun B H x a res Q _ ha e q => by
      unfold negD at e
      split at e
      · cases e; exact ⟨_, ha.int, q _ _ .int⟩
      · cases e) (at1.sr.lessP fun _ z => .inl z) hs.p0 at1.ok at1.st h1⟩
/-! ### tests -/
def PostT (K : PySem.W.Frag) (mg : Str → Option Value) (G : Gm) (P : Addr → Prop) (A : List (Option Addr)) (L : List Addr) (H : Hp) (σ : L2.St) (Q : Bool → Hp → Prop) (b : Bool) (s' : S) : Prop :=
  ∀ A' L' H', SR K mg G P A' L' s' σ H' → Step A L H A' L' H' → Q b H'
abbrev TV := S → Rs Bool
def tT (K : PySem.W.Frag) (mg : Str → Option Value) (G : Gm) (Wx : WX) (f : TV) : TT := fun σ H Q => ∃ P A L s, SR K mg G P A L s σ H ∧ Run K mg G Wx P A L H σ (f s) (PostT K mg G P A L H σ Q)
structure TD (X : Cx) (G : Gm) (Wx : WX) (e : Expr) (f : TV) : Prop where
  pt : PT X e (tT X.K X.mg G Wx f)
structure WD (X : Cx) (G : Gm) (Wx : WX) (e : Expr) (f : TV) : Prop where
  pw : PW X e (tT X.K X.mg G Wx f)
theorem PT.imp {X : Cx} {e : Expr} {t t' : TT} (h : PT X e t) (q : ∀ σ H Q, t' σ H Q → t σ H Q) : PT X e t' := ⟨fun pins s σ H Q I hw => h.run pins s σ H Q I (q σ H Q hw)⟩
theorem PW.imp {X : Cx} {e : Expr} {t t' : TT} (h : PW X e t) (q : ∀ σ H Q, t' σ H Q → t σ H Q) : PW X e t' := ⟨fun w pins s σ H Q I hw => h.run w pins s σ H Q I (q σ H Q hw)⟩
theorem WD.td {f : TV} (h : WD X G Wx e f) : TD X G Wx e f := ⟨h.pw.pt⟩
def toB (r : RV) (s : S) : Rs Bool := match r with
  | .pv (.bl b) => .ok b s
  | _ => .bad
def truD : D → Option Bool
  | .non => some false
  | .bl b => some b
  | .int i => some (i != 0)
  | .str y => if y.length ≤ sizeLine then some ((y.length : Int) != 0) else none
  | .tup xs => some (!xs.isEmpty)
  | .lst xs => some (!xs.isEmpty)
  | .scr xs => some (!xs.isEmpty)
  | .dK kvs => some (!kvs.isEmpty)
  | _ => none
def finT (r : RV) (s : S) : Rs Bool := match rd r s with
  | some d => match truD d with
    | some b => .ok b s
    | none => .bad
  | none => .bad
def tOfB (fe : EV) : TV := fun s => (fe s).bind toB
def tOf (fe : EV) : TV := fun s => (fe s).bind finT
theorem Reps.isEmpty {B : Addr → Prop} {H : Hp} {ds : List D} {vs : List V} (r : Reps K mg B H ds vs) : ds.isEmpty = vs.isEmpty := by
  have := r.length
  cases ds <;> cases vs <;> simp_all
theorem RepK.length {B : Addr → Prop} {H : Hp} : ∀ {ds : List (Key × D)} {vs : List (Key × V)}, RepK K mg B H ds vs → ds.length = vs.length
  | [], _, h => by unfold RepK at h; rw [h]; rfl
  | (k, d) :: ds, _, h => by unfold RepK at h; obtain ⟨v, r, rfl, _, h2⟩ := h; simp [RepK.length h2]
theorem tru_ok' {B : Addr → Prop} {H : Hp} {d : D} {x : V} {b : Bool} (h : PRep K mg B H d x) (e : truD d = some b) : TruV K x H b := by
  cases d with
  | non => cases e; rw [h.non]; rfl
  | bl c => cases e; rw [h.bl]; rfl
  | int c => cases e; rw [h.int]; rfl
  | str y =>
    rw [h.str]
    have e : (if y.length ≤ sizeLine then some ((y.length : Int) != 0) else none) = some b := e
    split at e
    · cases e; exact ⟨by assumption, rfl⟩
    · cases e
  | tup xs =>
    cases e
    obtain ⟨p, vs, rfl, t, r⟩ := h.tup
    exact .inr (.inl ⟨vs, t.sq, by rw [r.isEmpty]⟩)
  | lst xs =>
    cases e
    obtain ⟨p, vs, rfl, t, r⟩ := h.lst
    exact .inl ⟨vs, SqL.of t, by rw [r.isEmpty]⟩
  | scr xs =>
    cases e
    obtain ⟨p, vs, rfl, t, r⟩ := h.scr
    exact .inl ⟨vs, t.sq, by rw [r.isEmpty]⟩
  | dK kvs =>
    cases e
    obtain ⟨p, vs, rfl, t, _, r⟩ := h.dK
    refine .inr (.inr ⟨vs, t, ?_⟩)
    have := r.length
    cases kvs <;> cases vs <;> simp_all
  | dT _ => cases e
  | glb _ => cases e
  | ty _ => cases e
theorem td_cmp {op : CmpOp} {r : R2} {f : Ob2} (ho : OpR X (compareOp op) r) (hv : OpV X.K X.mg r f) (ha : ED X G Wx a fa) (hb : ED X G Wx b fb) (hm : behindInMarks op b = false) : TD X G Wx (.Compare a [op] [b] pos) (tOfB (eOp2 f fa fb)) := by
  refine ⟨PT.imp (pt_cmpR ho ha.pe hb.pe hm) fun σ H Q ⟨P, A, L, s, hs, h⟩ => ?_⟩
  refine tE_op2 hv ⟨P, A, L, s, hs, (Run.bind h).imp fun r s' _ p A' L' v H' at' => ?_⟩
  unfold toB at p
  split at p
  · rename_i b0 _
    have e : v = .bl b0 := by have := at'.ok; unfold RVOk Rep at this; exact this
    exact ⟨b0, e, p A' L' H' (at'.sr.lessP fun _ z => .inl z) at'.st⟩
  · exact p.elim
theorem ed_cmp {op : CmpOp} {r : R2} {f : Ob2} (ho : OpR X (compareOp op) r) (hv : OpV X.K X.mg r f) (ha : ED X G Wx a fa) (hb : ED X G Wx b fb) (hm : behindInMarks op b = false) : ED X G Wx (.Compare a [op] [b] pos) (eOp2 f fa fb) :=
  ⟨PE.imp (pe_cmpR ho ha.pe hb.pe hm) fun σ H Q h => tE_op2 hv h⟩
/-- any expression as a test -/
theorem td_val (he : ED X G Wx e fe) (hi : ∀ whole, isTrue e X.env whole = (do let v ← whole; standAt e.pos; holding [v] (truthy v)) := by intro _; rfl) : TD X G Wx e (tOf fe) := by
  refine ⟨PT.imp (pt_truth he.pe hi) fun σ H Q ⟨P, A, L, s, hs, h⟩ => ?_⟩
  refine ⟨P, A, L, s, hs, (Run.bind h).imp fun r s' _ p A' L' v H' at' => ?_⟩
  unfold finT at p
  have sr := at'.sr.lessP (P := P) fun _ z => .inl z
  cases e1 : rd r s' with
  | none => rw [e1] at p; exact p.elim
  | some d =>
    rw [e1] at p
    simp only at p
    cases e2 : truD d with
    | none => rw [e2] at p; exact p.elim
    | some b =>
      rw [e2] at p
      exact ⟨b, tru_ok' (rd_ok sr at'.ok e1) e2, p A' L' H' sr at'.st⟩
def tAndD (f g : TV) : TV := fun s => (f s).bind fun b s1 => if b = true then g s1 else .ok false s1
def tOrD (f g : TV) : TV := fun s => (f s).bind fun b s1 => if b = true then .ok true s1 else g s1
def tNotD (f : TV) : TV := fun s => (f s).bind fun b s1 => .ok (!b) s1
variable {f g : TV} {rest : List Expr}
theorem Run.shift {α : Type} {P : Addr → Prop} {A A1 : List (Option Addr)} {L L1 : List Addr} {H H1 : Hp} {σ : L2.St} {x : Rs α} {Qf Qf' : α → S → Prop} (h : Run K mg G Wx P A L H σ x Qf) (st : Step A L H A1 L1 H1) (q : ∀ a s', x = .ok a s' → Qf a s' → Qf' a s') :
    Run K mg G Wx P A1 L1 H1 σ x Qf' := (h.on st fun _ z => z).imp q
theorem PostT.shift {P : Addr → Prop} {A A1 : List (Option Addr)} {L L1 : List Addr} {H H1 : Hp} {σ : L2.St} {Q : Bool → Hp → Prop} {b : Bool} {s : S} (h : PostT K mg G P A L H σ Q b s) (st : Step A L H A1 L1 H1) : PostT K mg G P A1 L1 H1 σ Q b s :=
  fun A' L' H' hs st' => h A' L' H' hs (st.trans st')
theorem tT_and {σ : L2.St} {H : Hp} {Q : Bool → Hp → Prop} (h : tT K mg G Wx (tAndD f g) σ H Q) : tAnd (tT K mg G Wx f) (tT K mg G Wx g) σ H Q := by
  obtain ⟨P, A, L, s, hs, h⟩ := h
  refine ⟨P, A, L, s, hs, (Run.bind h).imp fun b s' _ p A' L' H' hs' st => ?_⟩
  cases b with
  | true => rw [if_pos rfl] at p ⊢; exact ⟨P, A', L', s', hs', p.shift st fun b s2 _ q => q.shift st⟩
  | false => rw [if_neg (by decide)] at p ⊢; exact p A' L' H' hs' st
theorem tT_or {σ : L2.St} {H : Hp} {Q : Bool → Hp → Prop} (h : tT K mg G Wx (tOrD f g) σ H Q) : tOr (tT K mg G Wx f) (tT K mg G Wx g) σ H Q := by
  obtain ⟨P, A, L, s, hs, h⟩ := h
  refine ⟨P, A, L, s, hs, (Run.bind h).imp fun b s' _ p A' L' H' hs' st => ?_⟩
  cases b with
  | true => rw [if_pos rfl] at p ⊢; exact p A' L' H' hs' st
  | false => rw [if_neg (by decide)] at p ⊢; exact ⟨P, A', L', s', hs', p.shift st fun b s2 _ q => q.shift st⟩
theorem wd_and1 (ha : TD X G Wx a f) : WD X G Wx (.BoolOp .And [a] pos) f := ⟨pw_and1 ha.pt⟩
theorem wd_or1 (ha : TD X G Wx a f) : WD X G Wx (.BoolOp .Or [a] pos) f := ⟨pw_or1 ha.pt⟩
theorem wd_and (ha : TD X G Wx a f) (hb : WD X G Wx (.BoolOp .And (b :: rest) pos) g) : WD X G Wx (.BoolOp .And (a :: b :: rest) pos) (tAndD f g) := ⟨PW.imp (pw_and ha.pt hb.pw) fun _ _ _ h => tT_and h⟩
theorem wd_or (ha : TD X G Wx a f) (hb : WD X G Wx (.BoolOp .Or (b :: rest) pos) g) : WD X G Wx (.BoolOp .Or (a :: b :: rest) pos) (tOrD f g) := ⟨PW.imp (pw_or ha.pt hb.pw) fun _ _ _ h => tT_or h⟩
theorem td_not (ha : TD X G Wx a f) : TD X G Wx (.UnaryOp .Not a pos) (tNotD f) :=
  ⟨PT.imp (pt_not ha.pt) fun σ H Q ⟨P, A, L, s, hs, h⟩ => ⟨P, A, L, s, hs, (Run.bind h).imp fun b s' _ p A' L' H' hs' st => p A' L' H' hs' st⟩⟩
/-! ### and, or, not as values; a if t else b -/
def eAndD (fa fb : EV) : EV := fun s => (fa s).bind fun r s1 => (finT r s1).bind fun b s2 => if b = true then fb s2 else .ok r s2
def eOrD (fa fb : EV) : EV := fun s => (fa s).bind fun r s1 => (finT r s1).bind fun b s2 => if b = true then .ok r s2 else fb s2
def notD (d : D) : Option RV := (truD d).map fun b => .pv (.bl (!b))
def eIfD (t : TV) (fa fb : EV) : EV := fun s => (t s).bind fun b s1 => if b = true then fa s1 else fb s1
theorem PostE.shift {P : Addr → Prop} {A A1 : List (Option Addr)} {L L1 : List Addr} {H H1 : Hp} {σ : L2.St} {Q : VK} {r : RV} {s : S} (h : PostE K mg G P A L H σ Q r s) (st : Step A L H A1 L1 H1) (p0 : ∀ a, P a → (∃ o, H a = some o) ∧ some a ∉ A) : PostE K mg G P A1 L1 H1 σ Q r s :=
  fun A' L' v H' a => h A' L' v H' ⟨a.sr, a.ok, (fun b z => by
    rcases a.new b z with q | q
    · rcases st.new b (.inl q) with w | w | w
      · exact .inl w
      · exfalso
        obtain ⟨i, hi, rfl⟩ := List.getElem_of_mem w
        obtain ⟨⟨ds, rfl⟩, rfl⟩ := z
        obtain ⟨b, vs, e1, _, _, _, e5, _⟩ := a.ok
        cases e1
        obtain ⟨r1, e2⟩ := (st.trans a.st).pre
        exact e5 (by rw [e2]; exact List.mem_append_left _ w)
      · exact .inr w
    · cases e : H b with
      | none => exact .inr rfl
      | some o =>
        obtain ⟨o', e'⟩ := st.there b o e
        rw [q] at e'; cases e'), st.trans a.st, p0⟩
theorem run_finT {P : Addr → Prop} {A A1 : List (Option Addr)} {L L1 : List Addr} {s1 : S} {σ : L2.St} {H H1 : Hp} {r : RV} {v : V} {α : Type} {k : Bool → S → Rs α} {Qf : α → S → Prop} (hs : SR K mg G P A1 L1 s1 σ H1) (ok : RVOk K mg G P A1 L1 σ H1 r v)
    (h : Run K mg G Wx P A L H σ ((finT r s1).bind k) Qf) : ∃ b, TruV K v H1 b ∧ Run K mg G Wx P A L H σ (k b s1) Qf := by
  unfold finT at h
  cases e1 : rd r s1 with
  | none => rw [e1] at h; exact h.elim
  | some d =>
    rw [e1] at h
    simp only at h
    cases e2 : truD d with
    | none => rw [e2] at h; exact h.elim
    | some b =>
      rw [e2] at h
      exact ⟨b, tru_ok' (rd_ok hs ok e1) e2, h⟩
theorem At.weak {P : Addr → Prop} {A A1 : List (Option Addr)} {L L1 : List Addr} {s1 : S} {σ : L2.St} {H H1 : Hp} {r : RV} {v : V} (a : At K mg G P A L H σ A1 L1 s1 H1 r v) : SR K mg G P A1 L1 s1 σ H1 := a.sr.lessP fun _ z => .inl z
theorem ed_andV (ha : ED X G Wx a fa) (hb : ED X G Wx (.BoolOp .And (b :: rest) pos) fb) : ED X G Wx (.BoolOp .And (a :: b :: rest) pos) (eAndD fa fb) := by
  refine ⟨PE.imp (pe_andT ha.pe hb.pe) fun σ H Q ⟨P, A, L, s, hs, h⟩ => (tE_one hs h).mono fun x H1 ⟨A1, L1, s1, r, a1, h1⟩ => ?_⟩
  obtain ⟨b, t, h2⟩ := run_finT a1.weak a1.ok h1
  refine ⟨b, t, ?_⟩
  cases b with
  | true => rw [if_pos rfl] at h2 ⊢; exact ⟨P, A1, L1, s1, a1.weak, h2.shift a1.st fun r s2 _ q => q.shift a1.st hs.p0⟩
  | false => rw [if_neg (by decide)] at h2 ⊢; exact h2 A1 L1 x H1 a1
theorem ed_orV (ha : ED X G Wx a fa) (hb : ED X G Wx (.BoolOp .Or (b :: rest) pos) fb) : ED X G Wx (.BoolOp .Or (a :: b :: rest) pos) (eOrD fa fb) := by
  refine ⟨PE.imp (pe_orT ha.pe hb.pe) fun σ H Q ⟨P, A, L, s, hs, h⟩ => (tE_one hs h).mono fun x H1 ⟨A1, L1, s1, r, a1, h1⟩ => ?_⟩
  obtain ⟨b, t, h2⟩ := run_finT a1.weak a1.ok h1
  refine ⟨b, t, ?_⟩
  cases b with
  | true => rw [if_pos rfl] at h2 ⊢; exact h2 A1 L1 x H1 a1
  | false => rw [if_neg (by decide)] at h2 ⊢; exact ⟨P, A1, L1, s1, a1.weak, h2.shift a1.st fun r s2 _ q => q.shift a1.st hs.p0⟩
theorem ed_oneV {op : BoolOp} (ha : ED X G Wx a fa) : ED X G Wx (.BoolOp op [a] pos) fa := ⟨pe_one ha.pe⟩
theorem ed_notV (ha : ED X G Wx a fa) : ED X G Wx (.UnaryOp .Not a pos) (eOp1 notD fa) := by
  refine ⟨PE.imp (pe_notT ha.pe) fun σ H Q ⟨P, A, L, s, hs, h⟩ => (tE_one hs h).mono fun x H1 ⟨A1, L1, s1, r, a1, h1⟩ => ?_⟩
  refine run_fin1 (f := notD) (r := fun x H1 Q => ∃ k, TruV X.K x H1 k ∧ Q (.bl (!k)) H1) (fun B H x a res Q _ ha e q => ?_) a1.weak hs.p0 a1.ok a1.st h1
  obtain ⟨b, e1, rfl⟩ := Option.map_eq_some_iff.mp e
  exact ⟨b, tru_ok' ha e1, q _ _ .bl⟩
theorem ed_ifE (hc : TD X G Wx c f) (ha : ED X G Wx a fa) (hb : ED X G Wx b fb) : ED X G Wx (.IfExp c a b pos) (eIfD f fa fb) := by
  refine ⟨PE.imp (pe_ifExp hc.pt ha.pe hb.pe) fun σ H Q ⟨P, A, L, s, hs, h⟩ => ⟨P, A, L, s, hs, (Run.bind h).imp fun b s' _ p A' L' H' hs' st => ?_⟩⟩
  cases b with
  | true => rw [if_pos rfl] at p ⊢; exact ⟨P, A', L', s', hs', p.shift st fun r s2 _ q => q.shift st hs.p0⟩
  | false => rw [if_neg (by decide)] at p ⊢; exact ⟨P, A', L', s', hs', p.shift st fun r s2 _ q => q.shift st hs.p0⟩
end
end DL
namespace DL
open PySem PySem.Spec PyProof.Rows L2
section
variable {K : PySem.W.Frag} {mg : Str → Option Value} {X : Cx} {G : Gm} {Wx : WX} {a b c e : Expr} {es : List Expr} {fa fb fc fe : EV} {pos : Pos}
/-! ### arguments -/
abbrev AV := S → Rs (List RV)
def ArgOk (K : PySem.W.Frag) (mg : Str → Option Value) (P : Addr → Prop) (A : List (Option Addr)) (L : List Addr) (H : Hp) : RV → V → Prop
  | .pv d, v => Rep K mg (Bd P A L) H d v
  | .lc n, v => ∃ a, L[n]? = some a ∧ v = .ref a
  | _, _ => False
def ArgsOk (K : PySem.W.Frag) (mg : Str → Option Value) (P : Addr → Prop) (A : List (Option Addr)) (L : List Addr) (H : Hp) : List RV → List V → Prop
  | [], vs => vs = []
  | r :: rs, vs => ∃ v t, vs = v :: t ∧ ArgOk K mg P A L H r v ∧ ArgsOk K mg P A L H rs t
section
variable {P P' : Addr → Prop} {A A' : List (Option Addr)} {L L' : List Addr} {H H' : Hp}
theorem ArgOk.step {r : RV} {v : V} (h : ArgOk K mg P A L H r v) (x : Step A L H A' L' H') : ArgOk K mg P A' L' H' r v := by
  cases r with
  | pv d => exact Rep.step h x
  | lc n => obtain ⟨a, h1, h2⟩ := h; exact ⟨a, x.loc h1, h2⟩
  | ow ds => exact h.elim
  | vr i => exact h.elim
theorem ArgsOk.length : ∀ {rs : List RV} {vs : List V}, ArgsOk K mg P A L H rs vs → rs.length = vs.length
  | [], _, h => by unfold ArgsOk at h; rw [h]; rfl
  | r :: rs, _, h => by unfold ArgsOk at h; obtain ⟨v, t, rfl, _, h2⟩ := h; simp [ArgsOk.length h2]
theorem ArgsOk.step : ∀ {rs : List RV} {vs : List V}, ArgsOk K mg P A L H rs vs → Step A L H A' L' H' → ArgsOk K mg P A' L' H' rs vs
  | [], _, h, _ => by unfold ArgsOk at h ⊢; exact h
  | r :: rs, _, h, x => by unfold ArgsOk at h ⊢; obtain ⟨v, t, e, h1, h2⟩ := h; exact ⟨v, t, e, h1.step x, h2.step x⟩
end
def PostA (K : PySem.W.Frag) (mg : Str → Option Value) (G : Gm) (P : Addr → Prop) (A : List (Option Addr)) (L : List Addr) (H : Hp) (σ : L2.St) (Q : List V → Hp → Prop) (rs : List RV) (s' : S) : Prop :=
  ∀ A' L' vs H', SR K mg G P A' L' s' σ H' → ArgsOk K mg P A' L' H' rs vs → Step A L H A' L' H' → Q vs H'
def tA (K : PySem.W.Frag) (mg : Str → Option Value) (G : Gm) (Wx : WX) (f : AV) : TA := fun σ H Q => ∃ P A L s, SR K mg G P A L s σ H ∧ Run K mg G Wx P A L H σ (f s) (PostA K mg G P A L H σ Q)
structure AD (X : Cx) (G : Gm) (Wx : WX) (es : List Expr) (f : AV) : Prop where
  pa : PA X es (tA X.K X.mg G Wx f)
theorem PA.imp {X : Cx} {e : List Expr} {t t' : TA} (h : PA X e t) (q : ∀ σ H Q, t' σ H Q → t σ H Q) : PA X e t' := ⟨fun pos pins s σ H Q I hw => h.run pos pins s σ H Q I (q σ H Q hw)⟩
/-- handed on: what it owns is frozen -/
def argR (r : RV) (s : S) : Rs RV := match keepR r s with
  | some (.pv d, s') => .ok (.pv d) s'
  | some (.ow ds, s') => .ok (.pv (.lst ds)) s'
  | some (.lc n, s') => .ok (.lc n) s'
  | _ => .bad
def aNil : AV := fun s => .ok [] s
def aCons (f : EV) (g : AV) : AV := fun s => (f s).bind fun r s1 => (argR r s1).bind fun r' s2 => (g s2).bind fun rs s3 => .ok (r' :: rs) s3
theorem run_argR {P : Addr → Prop} {A A1 : List (Option Addr)} {L L1 : List Addr} {s1 : S} {σ : L2.St} {H H1 : Hp} {r : RV} {v : V} {α : Type} {k : RV → S → Rs α} {Qf : α → S → Prop} (at1 : At K mg G P A L H σ A1 L1 s1 H1 r v)
    (h : Run K mg G Wx P A L H σ ((argR r s1).bind k) Qf) : ∃ A2 s2 r2, SR K mg G P A2 L1 s2 σ H1 ∧ ArgOk K mg P A2 L1 H1 r2 v ∧ Step A L H A2 L1 H1 ∧ Run K mg G Wx P A L H σ (k r2 s2) Qf := by
  unfold argR at h
  split at h
  · rename_i d s' e
    obtain ⟨_, A2, a2⟩ := at1.keep e
    exact ⟨A2, s', .pv d, a2.weak, a2.ok, a2.st, h⟩
  · rename_i ds s' e
    have e2 : fz r s1 = some (.lst ds, s') := by unfold fz; rw [e]
    obtain ⟨A2, sr, rp, st⟩ := at1.frz e2
    exact ⟨A2, s', .pv (.lst ds), sr, rp, st, h⟩
  · rename_i n s' e
    obtain ⟨_, A2, a2⟩ := at1.keep e
    exact ⟨A2, s', .lc n, a2.weak, a2.ok, a2.st, h⟩
  · exact h.elim
theorem ad_nil : AD X G Wx [] aNil := ⟨PA.imp pa_nil fun σ H Q ⟨P, A, L, s, hs, h⟩ => h A L [] H hs (by unfold ArgsOk; rfl) (Step.refl A L H)⟩
theorem ad_cons {g : AV} (he : ED X G Wx e fe) (hr : AD X G Wx es g) (hs : starEach (e :: es) X.env = (false, eval e X.env) :: starEach es X.env := by rfl) : AD X G Wx (e :: es) (aCons fe g) := by
  refine ⟨PA.imp (pa_cons he.pe hr.pa hs) fun σ H Q ⟨P, A, L, s, hs, h⟩ => (tE_one hs h).mono fun x H1 ⟨A1, L1, s1, r, a1, h1⟩ => ?_⟩
  obtain ⟨A2, s2, r2, sr, ok, st, h2⟩ := run_argR a1 h1
  exact ⟨P, A2, L1, s2, sr, (Run.bind h2).shift st fun rs s3 _ q A3 L3 vs H3 sr3 ok3 st3 => q A3 L3 (x :: vs) H3 sr3 (by unfold ArgsOk; exact ⟨x, vs, rfl, ok.step st3, ok3⟩) (st.trans st3)⟩
/-! ### displays -/
def rvDs : List RV → Option (List D)
  | [] => some []
  | .pv d :: rs => (rvDs rs).map fun ds => d :: ds
  | _ => none
theorem ArgsOk.reps {P : Addr → Prop} {A : List (Option Addr)} {L : List Addr} {H : Hp} : ∀ {rs : List RV} {vs : List V} {ds : List D}, ArgsOk K mg P A L H rs vs → rvDs rs = some ds → Reps K mg (Bd P A L) H ds vs
  | [], vs, ds, h, e => by unfold rvDs at e; cases e; unfold ArgsOk at h; subst h; exact Reps.nil
  | .pv d :: rs, vs, ds, h, e => by
    unfold rvDs at e
    obtain ⟨t, e1, rfl⟩ := Option.map_eq_some_iff.mp e
    unfold ArgsOk at h
    obtain ⟨v, r, rfl, h1, h2⟩ := h
    exact Reps.cons h1 (ArgsOk.reps h2 e1)
  | .ow _ :: rs, _, _, _, e | .vr _ :: rs, _, _, _, e | .lc _ :: rs, _, _, _, e => by unfold rvDs at e; cases e
def dspR (k : List D → RV) (rs : List RV) (s : S) : Rs RV := match rvDs rs with
  | some ds => if ds.length ≤ sizeLine then .ok (k ds) s else .bad
  | none => .bad
def eTup (f : AV) : EV := fun s => (f s).bind (dspR fun ds => .pv (.tup ds))
def eLst (f : AV) : EV := fun s => (f s).bind (dspR .ow)
theorem run_dsp {P : Addr → Prop} {A A1 : List (Option Addr)} {L L1 : List Addr} {s1 : S} {σ : L2.St} {H H1 : Hp} {rs : List RV} {vs : List V} {Qf : RV → S → Prop} {k : List D → RV} (ok : ArgsOk K mg P A1 L1 H1 rs vs)
    (h : Run K mg G Wx P A L H σ (dspR k rs s1) Qf) : ∃ ds, Reps K mg (Bd P A1 L1) H1 ds vs ∧ vs.length ≤ sizeLine ∧ Qf (k ds) s1 := by
  unfold dspR at h
  split at h
  · rename_i ds e
    split at h
    · rename_i z
      have r := ok.reps e
      exact ⟨ds, r, by rw [← r.length]; exact z, h⟩
    · exact h.elim
  · exact h.elim
theorem ed_tup {f : AV} {x1} (h : AD X G Wx es f) : ED X G Wx (.Tuple es x1 pos) (eTup f) := by
  refine ⟨PE.imp (pe_tup h.pa) fun σ H Q ⟨P, A, L, s, hs, h⟩ => ⟨P, A, L, s, hs, (Run.bind h).imp fun rs s1 _ q A1 L1 vs H1 sr ok st => ?_⟩⟩
  obtain ⟨ds, r, z, q⟩ := run_dsp ok q
  exact ⟨z, fun p hp => q A1 L1 _ _ (At.mk' sr st hs.p0 (ResOk.tup sr.there hp r))⟩
theorem ed_lst {f : AV} (h : AD X G Wx es f) : ED X G Wx (.List es pos) (eLst f) := by
  refine ⟨PE.imp (pe_lst h.pa) fun σ H Q ⟨P, A, L, s, hs, h⟩ => ⟨P, A, L, s, hs, (Run.bind h).imp fun rs s1 _ q A1 L1 vs H1 sr ok st => ?_⟩⟩
  obtain ⟨ds, r, z, q⟩ := run_dsp ok q
  exact ⟨z, fun p hp => q A1 L1 _ _ (At.mk' sr st hs.p0 (ResOk.lst hp r))⟩
/-! ### built-ins of one argument, looked at -/
theorem tE_op1 {r : V → Hp → VK → Prop} {f : D → Option RV} (hv : OpV1 K mg r f) {σ : L2.St} {H : Hp} {Q : VK} (h : tE K mg G Wx (eOp1 f fa) σ H Q) : tE K mg G Wx fa σ H fun x H1 => r x H1 Q := by
  obtain ⟨P, A, L, s, hs, h⟩ := h
  exact (tE_one hs h).mono fun x H1 ⟨A1, L1, s1, r, a1, h1⟩ => run_fin1 hv a1.weak hs.p0 a1.ok a1.st h1
theorem ed_b1 {id : String} {x : Str} {p : Pos} {r : List V → Hp → VK → Prop} {f : D → Option RV} (hc : CallR X (.builtin id) r) (hv : OpV1 X.K X.mg (fun v => r [v]) f) (hg : Gl X x) (hm : X.mg x = none) (hb : bootBuiltins x = some (.builtin id)) (ha : ED X G Wx e fe)
    (hn : x ≠ "__name__" := by decide) (hdb : (x == ("__debug__" : Str)) = false := by decide) (he : starEach [e] X.env = (false, eval e X.env) :: starEach [] X.env := by rfl) : ED X G Wx (.Call (.Name x p) [e] [] pos) (eOp1 f fe) :=
  ⟨PE.imp (pe_callB hc hg hm hb (pa_cons ha.pe pa_nil he) hn hdb he rfl) fun σ H Q h => tE_op1 hv h⟩
theorem ed_t1 {T : String} {x : Str} {p : Pos} {r : List V → Hp → VK → Prop} {f : D → Option RV} (hc : CallR X (.type T) r) (hv : OpV1 X.K X.mg (fun v => r [v]) f) (hg : Gl X x) (hm : X.mg x = none) (hb : bootBuiltins x = some (.type T)) (ha : ED X G Wx e fe)
    (hn : x ≠ "__name__" := by decide) (hdb : (x == ("__debug__" : Str)) = false := by decide) (he : starEach [e] X.env = (false, eval e X.env) :: starEach [] X.env := by rfl) : ED X G Wx (.Call (.Name x p) [e] [] pos) (eOp1 f fe) :=
  ⟨PE.imp (pe_callTy hc hg hm hb (pa_cons ha.pe pa_nil he) hn hdb he rfl) fun σ H Q h => tE_op1 hv h⟩
theorem ed_b2 {id : String} {x : Str} {p : Pos} {r : List V → Hp → VK → Prop} {f : Ob2} (hc : CallR X (.builtin id) r) (hv : OpV X.K X.mg (fun v u => r [v, u]) f) (hg : Gl X x) (hm : X.mg x = none) (hb : bootBuiltins x = some (.builtin id)) (ha : ED X G Wx a fa) (hb' : ED X G Wx b fb)
    (hn : x ≠ "__name__" := by decide) (hdb : (x == ("__debug__" : Str)) = false := by decide) (he : starEach [a, b] X.env = (false, eval a X.env) :: starEach [b] X.env := by rfl) (he2 : starEach [b] X.env = (false, eval b X.env) :: starEach [] X.env := by rfl)
    (hpl : (backTo pos (starEach [b] X.env)).any (·.1) = false := by rfl) : ED X G Wx (.Call (.Name x p) [a, b] [] pos) (eOp2 f fa fb) :=
  ⟨PE.imp (pe_callB hc hg hm hb (pa_cons ha.pe (pa_cons hb'.pe pa_nil he2) he) hn hdb he hpl) fun σ H Q h => tE_op2 (r := fun v u => r [v, u]) hv h⟩
def lenD : D → Option RV
  | .str y => gd (decide (y.length ≤ sizeLine)) (pI y.length)
  | .tup xs => pI xs.length
  | .lst xs => pI xs.length
  | .scr xs => pI xs.length
  | .dK kvs => pI kvs.length
  | _ => none
def absD : D → Option RV
  | .int i => pI (if i < 0 then -i else i)
  | _ => none
def intD : D → Option RV
  | .int i => pI i
  | .bl k => pI (if k then 1 else 0)
  | _ => none
def boolD : D → Option RV
  | .int i => pB (i != 0)
  | .bl k => pB k
  | _ => none
/-- a list of them -/
def seqD : D → Option (List D)
  | .tup xs => some xs
  | .lst xs => some xs
  | .scr xs => some xs
  | _ => none
def listD (d : D) : Option RV := (seqD d).map .ow
def tupleD : D → Option RV
  | .tup xs => some (.pv (.tup xs))
  | .lst xs => some (.pv (.tup xs))
  | .scr xs => some (.pv (.tup xs))
  | _ => none
theorem PRep.seq {B : Addr → Prop} {H : Hp} {d : D} {v : V} {xs : List D} (h : PRep K mg B H d v) (e : seqD d = some xs) : ∃ p vs, v = .ref p ∧ (SqL K H p vs ∨ SqT K H p vs) ∧ Reps K mg B H xs vs := by
  cases d with
  | tup _ => cases e; obtain ⟨p, vs, rfl, t, r⟩ := h.tup; exact ⟨p, vs, rfl, .inr t.sq, r⟩
  | lst _ => cases e; obtain ⟨p, vs, rfl, t, r⟩ := h.lst; exact ⟨p, vs, rfl, .inl (SqL.of t), r⟩
  | scr _ => cases e; obtain ⟨p, vs, rfl, t, r⟩ := h.scr; exact ⟨p, vs, rfl, .inl t.sq, r⟩
  | _ => cases e
def rLenA (K : PySem.W.Frag) : List V → Hp → VK → Prop := fun xs H Q => (∃ p ys, xs = [.ref p] ∧ (SqL K H p ys ∨ SqT K H p ys) ∧ Q (.int ys.length) H) ∨ (∃ z, xs = [.str z] ∧ z.length ≤ sizeLine ∧ Q (.int z.length) H) ∨ ∃ a kvs, xs = [V.ref a] ∧ H a = some (.dK kvs) ∧ Q (.int kvs.length) H
theorem call_lenA : CallR X (.builtin "len") (rLenA X.K) := call_len_seq.or (call_len_str.or call_lenD)
theorem opv_len : OpV1 K mg (fun v => rLenA K [v]) lenD := by
  intro B H x a res Q hB ha e q
  have sq : ∀ {xs : List D}, seqD a = some xs → res = .pv (.int xs.length) → rLenA K [x] H Q := fun {xs} e1 e2 => by
    subst e2
    obtain ⟨p, vs, rfl, t, r⟩ := ha.seq e1
    exact .inl ⟨p, vs, rfl, t, by have := q (.int xs.length) H .int; rw [r.length] at this; exact this⟩
  cases a with
  | str y =>
    have e : gd (decide (y.length ≤ sizeLine)) (pI y.length) = some res := e
    obtain ⟨c, e⟩ := gd_some e
    cases e
    exact .inr (.inl ⟨y, by rw [ha.str], of_decide_eq_true c, q _ _ .int⟩)
  | tup xs => cases e; exact sq rfl rfl
  | lst xs => cases e; exact sq rfl rfl
  | scr xs => cases e; exact sq rfl rfl
  | dK kvs =>
    cases e
    obtain ⟨p, ws, rfl, t, _, r⟩ := ha.dK
    exact .inr (.inr ⟨p, ws, rfl, t, by have := q (.int kvs.length) H .int; rw [r.length] at this; exact this⟩)
  | _ => cases e
theorem opv_abs : OpV1 K mg (fun v H Q => ∃ i, [v] = [V.int i] ∧ Q (.int (if i < 0 then -i else i)) H) absD := by
  intro B H x a res Q hB ha e q
  unfold absD at e
  split at e
  · cases e; exact ⟨_, by rw [ha.int], q _ _ .int⟩
  · cases e
theorem opv_int1 : OpV1 K mg (fun v H Q => (∃ i, [v] = [V.int i] ∧ Q (.int i) H) ∨ ∃ k, [v] = [V.bl k] ∧ Q (.int (if k then 1 else 0)) H) intD := by
  intro B H x a res Q hB ha e q
  unfold intD at e
  split at e
  · cases e; exact .inl ⟨_, by rw [ha.int], q _ _ .int⟩
  · cases e; exact .inr ⟨_, by rw [ha.bl], q _ _ .int⟩
  · cases e
theorem opv_bool1 : OpV1 K mg (fun v H Q => (∃ i, [v] = [V.int i] ∧ Q (.bl (i != 0)) H) ∨ ∃ k, [v] = [V.bl k] ∧ Q (.bl k) H) boolD := by
  intro B H x a res Q hB ha e q
  unfold boolD at e
  split at e
  · cases e; exact .inl ⟨_, by rw [ha.int], q _ _ .bl⟩
  · cases e; exact .inr ⟨_, by rw [ha.bl], q _ _ .bl⟩
  · cases e
theorem opv_list : OpV1 K mg (fun v H Q => ∃ p ys, [v] = [V.ref p] ∧ (SqL K H p ys ∨ SqT K H p ys) ∧ ∀ l, H l = none → Q (.ref l) (upd H l (.lst ys))) listD := by
  intro B H x a res Q hB ha e q
  obtain ⟨xs, e1, rfl⟩ := Option.map_eq_some_iff.mp e
  obtain ⟨p, vs, rfl, t, r⟩ := ha.seq e1
  exact ⟨p, vs, rfl, t, fun l hl => q _ _ (.lst hl r)⟩
theorem opv_tuple : OpV1 K mg (fun v H Q => ∃ p ys, [v] = [V.ref p] ∧ ((SqL K H p ys ∧ ∀ l, H l = none → Q (.ref l) (upd H l (.tup ys))) ∨ (SqT K H p ys ∧ Q (.ref p) H))) tupleD := by
  intro B H x a res Q hB ha e q
  cases a with
  | tup xs =>
    cases e; obtain ⟨p, vs, rfl, t, r⟩ := ha.tup
    exact ⟨p, vs, rfl, .inr ⟨t.sq, q _ _ (.same (by unfold Rep; exact ⟨p, vs, rfl, t, r⟩))⟩⟩
  | lst xs => cases e; obtain ⟨p, vs, rfl, t, r⟩ := ha.lst; exact ⟨p, vs, rfl, .inl ⟨SqL.of t, fun l hl => q _ _ (.tup hB hl r)⟩⟩
  | scr xs => cases e; obtain ⟨p, vs, rfl, t, r⟩ := ha.scr; exact ⟨p, vs, rfl, .inl ⟨t.sq, fun l hl => q _ _ (.tup hB hl r)⟩⟩
  | _ => cases e
def max2D : Ob2
  | .int i, .int j => pI (if j > i then j else i)
  | _, _ => none
def min2D : Ob2
  | .int i, .int j => pI (if j < i then j else i)
  | _, _ => none
theorem opv_max2 : OpV K mg (fun v u H Q => ∃ i j, [v, u] = [V.int i, V.int j] ∧ Q (.int (if j > i then j else i)) H) max2D := by
  intro B H x y a b res Q hB ha hb e q
  unfold max2D at e
  split at e
  · cases e; exact ⟨_, _, by rw [ha.int, hb.int], q _ _ .int⟩
  · cases e
theorem opv_min2 : OpV K mg (fun v u H Q => ∃ i j, [v, u] = [V.int i, V.int j] ∧ Q (.int (if j < i then j else i)) H) min2D := by
  intro B H x y a b res Q hB ha hb e q
  unfold min2D at e
  split at e
  · cases e; exact ⟨_, _, by rw [ha.int, hb.int], q _ _ .int⟩
  · cases e
/-! sums, greatest, least, sorted, of ints -/
def sumD (d : D) : Option RV := (seqD d).bind fun xs => (allI xs).bind fun ns => pI ns.sum
/-! ### items and cuts -/
def ixD : Ob2
  | d, .int i => match d with
    | .tup xs => (atI xs i).map .pv
    | .lst xs => (atI xs i).map .pv
    | .scr xs => (atI xs i).map .pv
    | .str z => if z.length ≤ sizeLine then (atI z.cps.toList i).map fun c => .pv (.str ⟨#[c]⟩) else none
    | _ => none
  | _, _ => none
theorem Reps.atI {B : Addr → Prop} {H : Hp} {xs : List D} {vs : List V} {i : Int} {d : D} (r : Reps K mg B H xs vs) (e : L2.atI xs i = some d) : ∃ v, L2.atI vs i = some v ∧ Rep K mg B H d v := by
  unfold L2.atI at e ⊢
  rw [← r.length]
  cases h : ixN xs.length i with
  | none => rw [h] at e; cases e
  | some j => rw [h] at e; exact r.get e
theorem opv_ix : OpV K mg (rIx K) ixD := by
  intro B H x y a b res Q hB ha hb e q
  unfold ixD at e
  split at e
  · have hb := hb.int
    split at e
    · obtain ⟨d, e1, rfl⟩ := Option.map_eq_some_iff.mp e
      obtain ⟨p, vs, rfl, t, r⟩ := ha.tup
      obtain ⟨v, e2, rv⟩ := r.atI e1
      exact .inr (.inl ⟨p, vs, _, v, rfl, hb, t.sq, e2, q _ _ (.same rv)⟩)
    · obtain ⟨d, e1, rfl⟩ := Option.map_eq_some_iff.mp e
      obtain ⟨p, vs, rfl, t, r⟩ := ha.lst
      obtain ⟨v, e2, rv⟩ := r.atI e1
      exact .inl ⟨p, vs, _, v, rfl, hb, SqL.of t, e2, q _ _ (.same rv)⟩
    · obtain ⟨d, e1, rfl⟩ := Option.map_eq_some_iff.mp e
      obtain ⟨p, vs, rfl, t, r⟩ := ha.scr
      obtain ⟨v, e2, rv⟩ := r.atI e1
      exact .inl ⟨p, vs, _, v, rfl, hb, t.sq, e2, q _ _ (.same rv)⟩
    · split at e
      · rename_i z
        obtain ⟨d, e1, rfl⟩ := Option.map_eq_some_iff.mp e
        exact .inr (.inr ⟨_, _, d, ha.str, hb, z, e1, q _ _ .str⟩)
      · cases e
    · cases e
  · cases e
theorem ed_ix (ha : ED X G Wx a fa) (hb : ED X G Wx b fb) (hs : PlainIx b := by exact fun _ _ => rfl) : ED X G Wx (.Subscript a b pos) (eOp2 ixD fa fb) :=
  ⟨PE.imp (pe_ix ix_seq ha.pe hb.pe hs) fun σ H Q h => tE_op2 opv_ix h⟩
def cutL {α : Type} (xs : List α) (lo hi : Option Int) : List α := (xs.drop (HT.sIx xs.length 0 lo)).take (HT.sIx xs.length xs.length hi - HT.sIx xs.length 0 lo)
def slD (d : D) (lo hi : Option Int) : Option RV := match d with
  | .tup xs => some (.pv (.tup (cutL xs lo hi)))
  | .lst xs => some (.ow (cutL xs lo hi))
  | .scr xs => some (.ow (cutL xs lo hi))
  | .str z => if z.length ≤ sizeLine then some (.pv (.str (cutS z lo hi))) else none
  | _ => none
def rSl (K : PySem.W.Frag) : V → Option Int → Option Int → Hp → VK → Prop := fun x lo hi H Q => rSlA K x lo hi H Q ∨ rSlL K x lo hi H Q ∨ rSlS x lo hi H Q
theorem sl_any : SlR X (rSl X.K) := sl_tupA.or (sl_list.or sl_str)
theorem Reps.cut {B : Addr → Prop} {H : Hp} {xs : List D} {vs : List V} {lo hi : Option Int} (r : Reps K mg B H xs vs) : Reps K mg B H (cutL xs lo hi) (cutV vs lo hi) := by
  unfold cutL cutV
  rw [← r.length]
  exact (r.drop _).take _
theorem opv_sl {B : Addr → Prop} {H : Hp} {x : V} {a : D} {lo hi : Option Int} {res : RV} {Q : VK} (hB : ∀ a, B a → ∃ o, H a = some o) (ha : PRep K mg B H a x) (e : slD a lo hi = some res) (q : ∀ v H', ResOk K mg B H H' res v → Q v H') : rSl K x lo hi H Q := by
  unfold slD at e
  split at e
  · cases e
    obtain ⟨p, vs, rfl, t, r⟩ := ha.tup
    have rc := r.cut (lo := lo) (hi := hi)
    refine .inl ⟨p, vs, rfl, t.sq, fun ⟨w1, w2⟩ => q _ _ (.same ?_), fun _ o ho => q _ _ (.tup hB ho rc)⟩
    have ev : cutV vs lo hi = vs := by unfold cutV; rw [w1, w2]; simp
    rw [ev] at rc
    unfold Rep
    exact ⟨p, vs, rfl, t, rc⟩
  · cases e
    obtain ⟨p, vs, rfl, t, r⟩ := ha.lst
    exact .inr (.inl ⟨p, vs, rfl, SqL.of t, fun o ho => q _ _ (.lst ho r.cut)⟩)
  · cases e
    obtain ⟨p, vs, rfl, t, r⟩ := ha.scr
    exact .inr (.inl ⟨p, vs, rfl, t.sq, fun o ho => q _ _ (.lst ho r.cut)⟩)
  · split at e
    · rename_i z
      cases e
      exact .inr (.inr ⟨_, ha.str, z, q _ _ .str⟩)
    · cases e
  · cases e
/-- a part of a slice -/
abbrev OV := S → Rs (Option Int)
def oNo : OV := fun s => .ok none s
def oSo (f : EV) : OV := fun s => (f s).bind fun r s1 => match rd r s1 with
  | some (.int i) => .ok (some i) s1
  | _ => .bad
def tO (K : PySem.W.Frag) (mg : Str → Option Value) (G : Gm) (Wx : WX) (f : OV) : TO := fun σ H Q => ∃ P A L s, SR K mg G P A L s σ H ∧ Run K mg G Wx P A L H σ (f s) fun o s' => ∀ A' L' H', SR K mg G P A' L' s' σ H' → Step A L H A' L' H' → Q o H'
structure OD (X : Cx) (G : Gm) (Wx : WX) (e : Option Expr) (f : OV) : Prop where
  po : PO X e (tO X.K X.mg G Wx f)
theorem PO.imp {X : Cx} {e : Option Expr} {t t' : TO} (h : PO X e t) (q : ∀ σ H Q, t' σ H Q → t σ H Q) : PO X e t' := ⟨fun pins s σ H Q I hw => h.run pins s σ H Q I (q σ H Q hw)⟩
theorem od_no : OD X G Wx none oNo := ⟨PO.imp po_none fun σ H Q ⟨P, A, L, s, hs, h⟩ => h A L H hs (Step.refl A L H)⟩
theorem od_so (he : ED X G Wx e fe) : OD X G Wx (some e) (oSo fe) := by
  refine ⟨PO.imp (po_some he.pe) fun σ H Q ⟨P, A, L, s, hs, h⟩ => (tE_one hs h).mono fun x H1 ⟨A1, L1, s1, r, a1, h1⟩ => ?_⟩
  split at h1
  · rename_i i e1
    exact ⟨i, (rd_ok a1.weak a1.ok e1).int, h1 A1 L1 H1 a1.weak a1.st⟩
  · exact h1.elim
def eSl (fa : EV) (lo hi : OV) : EV := fun s => (fa s).bind fun r s1 => (lo s1).bind fun l s2 => (hi s2).bind fun u s3 => fin1 (fun d => slD d l u) r s3
theorem ed_sl {lo hi : Option Expr} {p2 : Pos} {fl fh : OV} (ha : ED X G Wx a fa) (hl : OD X G Wx lo fl) (hh : OD X G Wx hi fh) : ED X G Wx (.Subscript a (.Slice lo hi none p2) pos) (eSl fa fl fh) := by
  refine ⟨PE.imp (pe_slice sl_any ha.pe hl.po hh.po) fun σ H Q ⟨P, A, L, s, hs, h⟩ => (tE_one hs h).mono fun x H1 ⟨A1, L1, s1, r, a1, h1⟩ => ?_⟩
  refine ⟨Wi P r x, A1, L1, s1, a1.sr, ((Run.bind h1).on a1.st fun _ z => .inl z).imp fun l s2 _ q A2 L2 H2 sr2 st2 => ?_⟩
  refine ⟨Wi P r x, A2, L2, s2, sr2, ((Run.bind q).on (a1.st.trans st2) fun _ z => .inl z).imp fun u s3 _ q3 A3 L3 H3 sr3 st3 => ?_⟩
  have st := (a1.st.trans st2).trans st3
  exact run_fin1 (r := fun x => rSl X.K x l u) (fun B H x a res Q hB ha e q => opv_sl hB ha e q) (sr3.lessP fun _ z => .inl z) hs.p0 (a1.ok.step (st2.trans st3)) st q3
end
end DL
namespace DL
open PySem PySem.Spec PyProof.Rows L2
/-! ### what follows a statement -/
def RunS {α : Type} (K : PySem.W.Frag) (mg : Str → Option Value) (G : Gm) (Wx : WX) (P : Addr → Prop) (A : List (Option Addr)) (L : List Addr) (H : Hp) (x : Rs α) (Q : α → S → Prop) : Prop :=
  match x with
  | .ok a s' => Q a s'
  | .err c s' => ∀ A' L' σ' H' C, SR K mg G P A' L' s' σ' H' → Step A L H A' L' H' → mg c = some (.ref C) → Wx (.ref C) none σ' H'
  | .bad => False
def PostN (K : PySem.W.Frag) (mg : Str → Option Value) (G : Gm) (P : Addr → Prop) (A : List (Option Addr)) (L : List Addr) (H : Hp) (Q : L2.St → Hp → Prop) (s' : S) : Prop :=
  ∀ A' L' σ' H', SR K mg G P A' L' s' σ' H' → Step A L H A' L' H' → Q σ' H'
def PostR (K : PySem.W.Frag) (mg : Str → Option Value) (G : Gm) (P : Addr → Prop) (A : List (Option Addr)) (L : List Addr) (H : Hp) (Q : VK) (r : RV) (s' : S) : Prop :=
  ∀ A' L' σ' v H', SR K mg G (Wi P r v) A' L' s' σ' H' → RVOk K mg G P A' L' σ' H' r v → Step A L H A' L' H' → Q v H'
def PostS (K : PySem.W.Frag) (mg : Str → Option Value) (G : Gm) (P : Addr → Prop) (A : List (Option Addr)) (L : List Addr) (H : Hp) (D : Ends) (f : Fl) (s' : S) : Prop :=
  match f with
  | .nx => PostN K mg G P A L H D.nx s'
  | .bk => PostN K mg G P A L H D.bk s'
  | .ct => PostN K mg G P A L H D.ct s'
  | .rt r => (∀ i, r ≠ .vr i) ∧ PostR K mg G P A L H D.rt r s'
section
variable {K : PySem.W.Frag} {mg : Str → Option Value} {X : Cx} {G : Gm} {Wx : WX} {a b c e : Expr} {es : List Expr} {fa fb fc fe : EV} {pos : Pos} {α β : Type}
variable {P P' : Addr → Prop} {A A' A1 : List (Option Addr)} {σ σ' : L2.St} {L L' L1 : List Addr} {H H' H1 : Hp} {s s' : S}
theorem RunS.bind {x : Rs α} {k : α → S → Rs β} {Q : β → S → Prop} (h : RunS K mg G Wx P A L H (x.bind k) Q) : RunS K mg G Wx P A L H x fun a s1 => RunS K mg G Wx P A L H (k a s1) Q := by
  cases x <;> exact h
theorem RunS.imp {x : Rs α} {Q Q' : α → S → Prop} (h : RunS K mg G Wx P A L H x Q) (q : ∀ a s', x = .ok a s' → Q a s' → Q' a s') : RunS K mg G Wx P A L H x Q' := by
  cases x with
  | bad => exact h
  | err c s1 => exact h
  | ok a s1 => exact q a s1 rfl h
theorem RunS.run {x : Rs α} {Q : α → S → Prop} (h : RunS K mg G Wx P A L H x Q) : Run K mg G Wx P A L H σ x Q := by
  cases x with
  | bad => exact h
  | ok a s1 => exact h
  | err c s1 => exact fun A' L' H' C hs st hc => h A' L' σ H' C hs st hc
theorem RunS.on {x : Rs α} {Q : α → S → Prop} (h : RunS K mg G Wx P A L H x Q) (st : Step A L H A1 L1 H1) (hp : ∀ a, P a → P' a) : RunS K mg G Wx P' A1 L1 H1 x Q := by
  cases x with
  | bad => exact h
  | ok a s1 => exact h
  | err c s1 => exact fun A2 L2 σ2 H2 C hs2 st2 hc => h A2 L2 σ2 H2 C (hs2.lessP hp) (st.trans st2) hc
theorem PostN.shift {Q : L2.St → Hp → Prop} (h : PostN K mg G P A L H Q s) (st : Step A L H A1 L1 H1) : PostN K mg G P A1 L1 H1 Q s := fun A' L' σ' H' hs st' => h A' L' σ' H' hs (st.trans st')
theorem PostS.shift {D : Ends} {f : Fl} (h : PostS K mg G P A L H D f s) (st : Step A L H A1 L1 H1) : PostS K mg G P A1 L1 H1 D f s := by
  cases f with
  | nx => exact PostN.shift h st
  | bk => exact PostN.shift h st
  | ct => exact PostN.shift h st
  | rt r => exact ⟨h.1, fun A' L' σ' v H' sr ok st' => h.2 A' L' σ' v H' sr ok (st.trans st')⟩
theorem RunS.shift {x : Rs Fl} {D : Ends} (h : RunS K mg G Wx P A L H x (PostS K mg G P A L H D)) (st : Step A L H A1 L1 H1) : RunS K mg G Wx P A1 L1 H1 x (PostS K mg G P A1 L1 H1 D) :=
  (h.on st fun _ z => z).imp fun _ _ _ q => q.shift st
def tS (K : PySem.W.Frag) (mg : Str → Option Value) (G : Gm) (Wx : WX) (f : SV) : TS := fun D σ H => ∃ P A L s, SR K mg G P A L s σ H ∧ RunS K mg G Wx P A L H (f s) (PostS K mg G P A L H D)
structure SD (X : Cx) (G : Gm) (Wx : WX) (st : Stmt) (f : SV) : Prop where
  ps : PS X st (tS X.K X.mg G Wx f)
structure SsD (X : Cx) (G : Gm) (Wx : WX) (st : List Stmt) (f : SV) : Prop where
  pss : PSs X st (tS X.K X.mg G Wx f)
theorem PS.imp {X : Cx} {e : Stmt} {t t' : TS} (h : PS X e t) (q : ∀ D σ H, t' D σ H → t D σ H) : PS X e t' := ⟨fun pins s σ H D I hw => h.run pins s σ H D I (q D σ H hw)⟩
theorem PSs.imp {X : Cx} {e : List Stmt} {t t' : TS} (h : PSs X e t) (q : ∀ D σ H, t' D σ H → t D σ H) : PSs X e t' := ⟨fun pins s σ H D I hw => h.run pins s σ H D I (q D σ H hw)⟩
/-! ### blocks -/
def sNil : SV := fun s => .ok .nx s
def sSeq (f g : SV) : SV := fun s => (f s).bind fun fl s1 => match fl with
  | .nx => g s1
  | fl => .ok fl s1
variable {st : Stmt} {sts : List Stmt} {f g : SV}
theorem ss_nil : SsD X G Wx [] sNil := ⟨PSs.imp pss_nil fun D σ H ⟨P, A, L, s, hs, h⟩ => h A L σ H hs (Step.refl A L H)⟩
theorem tS_seq {D : Ends} (h : tS K mg G Wx (sSeq f g) D σ H) : tSeq (tS K mg G Wx f) (tS K mg G Wx g) D σ H := by
  obtain ⟨P, A, L, s, hs, h⟩ := h
  refine ⟨P, A, L, s, hs, (RunS.bind h).imp fun fl s1 _ q => ?_⟩
  cases fl with
  | nx => exact fun A' L' σ' H' hs' st => ⟨P, A', L', s1, hs', RunS.shift q st⟩
  | bk => exact q
  | ct => exact q
  | rt r => exact q
theorem ss_cons (h1 : SD X G Wx st f) (h2 : SsD X G Wx sts g) : SsD X G Wx (st :: sts) (sSeq f g) := ⟨PSs.imp (pss_cons h1.ps h2.pss) fun _ _ _ h => tS_seq h⟩
theorem ss_one (h1 : SD X G Wx st f) : SsD X G Wx [st] f := ⟨pss_one h1.ps⟩
def sIf (t : TV) (f g : SV) : SV := fun s => (t s).bind fun b s1 => if b = true then f s1 else g s1
theorem sd_if {sa sb : List Stmt} {t : TV} (hc : TD X G Wx c t) (ha : SsD X G Wx sa f) (hb : SsD X G Wx sb g) : SD X G Wx (.If c sa sb pos) (sIf t f g) := by
  refine ⟨PS.imp (ps_if hc.pt ha.pss hb.pss) fun D σ H ⟨P, A, L, s, hs, h⟩ => ⟨P, A, L, s, hs, (RunS.bind h).run.imp fun b s1 _ q A1 L1 H1 hs1 st => ?_⟩⟩
  cases b with
  | true => rw [if_pos rfl] at q ⊢; exact ⟨P, A1, L1, s1, hs1, RunS.shift q st⟩
  | false => rw [if_neg (by decide)] at q ⊢; exact ⟨P, A1, L1, s1, hs1, RunS.shift q st⟩
def sPass : SV := fun s => .ok .nx s
def sBk : SV := fun s => .ok .bk s
def sCt : SV := fun s => .ok .ct s
theorem sd_pass : SD X G Wx (.Pass pos) sPass := ⟨PS.imp ps_pass fun D σ H ⟨P, A, L, s, hs, h⟩ => h A L σ H hs (Step.refl A L H)⟩
theorem sd_break : SD X G Wx (.Break pos) sBk := ⟨PS.imp ps_break fun D σ H ⟨P, A, L, s, hs, h⟩ => h A L σ H hs (Step.refl A L H)⟩
theorem sd_cont : SD X G Wx (.Continue pos) sCt := ⟨PS.imp ps_continue fun D σ H ⟨P, A, L, s, hs, h⟩ => h A L σ H hs (Step.refl A L H)⟩
def sEx (fe : EV) : SV := fun s => (fe s).bind fun _ s1 => .ok .nx s1
theorem tE_oneS {k : RV → S → Rs α} {Qf : α → S → Prop} (hs : SR K mg G P A L s σ H) (h : RunS K mg G Wx P A L H ((fa s).bind k) Qf) :
    tE K mg G Wx fa σ H fun v H1 => ∃ A1 L1 s1 r, At K mg G P A L H σ A1 L1 s1 H1 r v ∧ RunS K mg G Wx P A L H (k r s1) Qf :=
  ⟨P, A, L, s, hs, (RunS.bind h).run.imp fun r s1 _ hk A' L' v H' a => ⟨A', L', s1, r, a, hk⟩⟩
theorem sd_expr (he : ED X G Wx e fe) (hs : swapsWith e none pos.line X.env = pure false := by rfl) : SD X G Wx (.Expr e pos) (sEx fe) :=
  ⟨PS.imp (ps_expr he.pe hs) fun D σ H ⟨P, A, L, s, hs, h⟩ => (tE_oneS hs h).mono fun v H1 ⟨A1, L1, s1, r, a1, h1⟩ => h1 A1 L1 σ H1 a1.weak a1.st⟩
/-- what a def hands back: a slot's own list goes with it -/
def retR (r : RV) (s : S) : Rs Fl := match r with
  | .vr i => match s.η[i]? with
    | some (.pv d) => .ok (.rt (.pv d)) s
    | some (.ow ds) => .ok (.rt (.ow ds)) { s with η := s.η.set i .no }
    | some (.lc n) => .ok (.rt (.lc n)) s
    | _ => .bad
  | .pv d => .ok (.rt (.pv d)) s
  | .ow ds => .ok (.rt (.ow ds)) s
  | .lc n => .ok (.rt (.lc n)) s
def sRet (fe : EV) : SV := fun s => (fe s).bind retR
def sRetN : SV := fun s => .ok (.rt (.pv .non)) s
theorem sd_ret (he : ED X G Wx e fe) : SD X G Wx (.Return (some e) pos) (sRet fe) := by
  refine ⟨PS.imp (ps_ret he.pe) fun D σ H ⟨P, A, L, s, hs, h⟩ => (tE_oneS hs h).mono fun v H1 ⟨A1, L1, s1, r, a1, h1⟩ => ?_⟩
  unfold retR at h1
  split at h1
  · rename_i i
    have w := a1.weak
    have e9 : σ[i]? = some (some v) := a1.ok
    split at h1
    · rename_i d q
      obtain ⟨hi, ov, oa, e1, e2, _, u, rfl, r⟩ := w.slot' q
      rw [e9] at e1; cases e1
      exact h1.2 A1 L1 σ _ H1 (w.lessP (Wi.pv nofun)) r a1.st
    · rename_i ds q
      obtain ⟨hi, ov, oa, e1, e2, p, vs, rfl, rfl, e3, r⟩ := w.slot' q
      rw [e9] at e1; cases e1
      have nb : ∀ b, Bd P (A1.set i none) L1 b → b ≠ p ∧ Bd P A1 L1 b := fun b z => by
        rcases z with z | z | z
        · refine ⟨fun y => ?_, .inl ((mem_set z).elim id nofun)⟩
          subst y
          obtain ⟨j, hj, ej⟩ := List.getElem_of_mem z
          have ej' : (A1.set i none)[j]? = some (some b) := by rw [List.getElem?_eq_getElem hj, ej]
          by_cases h : j = i
          · subst h
            rw [List.getElem?_set_self (by rw [w.lenA]; exact hi)] at ej'
            cases ej'
          · rw [List.getElem?_set_ne (Ne.symm h)] at ej'
            exact h (w.uniq j i b ej' e2)
        · exact ⟨fun y => w.apart p (List.mem_of_getElem? e2) (y ▸ z), .inr (.inl z)⟩
        · exact ⟨fun y => (w.pOk b z).2.1 (y ▸ List.mem_of_getElem? e2), .inr (.inr z)⟩
      have up : some p ∈ A1 := List.mem_of_getElem? e2
      have np : some p ∉ A1.set i none := fun z => (nb p (.inl z)).1 rfl
      have sr2 := w.set (i := i) (ov := some (.ref p)) (oa := none) (x := .no) (P := P) hi (fun _ z => z) (fun _ z => nomatch z) (same_slot e9) rfl
      have sr3 : SR X.K X.mg G (Wi P (.ow ds) (.ref p)) (A1.set i none) L1 { s1 with η := s1.η.set i .no } σ H1 := by
        have mv : ∀ a o, H1 a = some o → ¬ Bd P A1 L1 a → Plain o → H1 a = some o ∧ ¬ Bd (Wi P (.ow ds) (.ref p)) (A1.set i none) L1 a := fun a o e n _ => ⟨e, fun z => by
          rcases z with z | z | z | z
          · exact n (nb a (.inl z)).2
          · exact n (.inr (.inl z))
          · exact n (.inr (.inr z))
          · obtain ⟨_, y⟩ := z
            cases y
            exact n (.inl up)⟩
        refine { sr2 with slot := fun j y ey => ?_, loc := fun n ds' ey => ?_, pOk := fun a z => ?_ }
        · by_cases hj : j = i
          · subst hj
            simp only [List.getElem?_set_self hi, Option.some.injEq] at ey
            subst ey
            exact ⟨_, none, e9, by rw [List.getElem?_set_self (by rw [w.lenA]; exact hi)], rfl⟩
          · simp only [List.getElem?_set_ne (Ne.symm hj)] at ey
            obtain ⟨ov', oa', f1, f2, q⟩ := w.slot j y ey
            exact ⟨ov', oa', f1, by rw [List.getElem?_set_ne (Ne.symm hj)]; exact f2, q.move mv (fun _ _ _ _ h => h) fun _ _ h => h⟩
        · obtain ⟨a, vs', f1, f2, f3⟩ := w.loc n ds' ey
          exact ⟨a, vs', f1, f2, f3.move mv⟩
        · rcases z with z | z
          · have y := w.pOk a z
            exact ⟨y.1, fun q => (nb a (.inl q)).1 ((mem_set q).elim (fun q => absurd q y.2.1) nofun), y.2.2⟩
          · obtain ⟨_, y⟩ := z
            cases y
            exact ⟨⟨_, e3⟩, np, w.apart p up⟩
      refine h1.2 (A1.set i none) L1 σ _ H1 sr3 ⟨p, vs, rfl, e3, r.move fun a o e n _ => ⟨e, fun z => ?_⟩, np, w.apart p up, w.ownNew p up⟩ (a1.st.trans Step.drop)
      rcases z with z | z
      · subst z; exact n (.inl up)
      · exact n (nb a z).2
    · rename_i n q
      obtain ⟨hi, ov, oa, e1, e2, _, u, e3, e4⟩ := w.slot' q
      rw [e9] at e1; cases e1
      cases e4
      exact h1.2 A1 L1 σ _ H1 (w.lessP (Wi.pv nofun)) ⟨u, e3, rfl⟩ a1.st
    · exact h1.elim
  · exact h1.2 A1 L1 σ v H1 a1.sr a1.ok a1.st
  · exact h1.2 A1 L1 σ v H1 a1.sr a1.ok a1.st
  · exact h1.2 A1 L1 σ v H1 a1.sr a1.ok a1.st
theorem sd_retN : SD X G Wx (.Return none pos) sRetN :=
  ⟨PS.imp ps_retN fun D σ H ⟨P, A, L, s, hs, h⟩ => h.2 A L σ .non H (hs.lessP (Wi.pv nofun)) (by show Rep _ _ _ _ _ _; unfold Rep; rfl) (Step.refl A L H)⟩
/-! ### targets -/
abbrev GV := RV → S → Rs Unit
def tG (K : PySem.W.Frag) (mg : Str → Option Value) (G : Gm) (Wx : WX) (g : GV) : TG := fun v σ H Q => ∃ P A0 L0 H0 A L s r, At K mg G P A0 L0 H0 σ A L s H r v ∧ RunS K mg G Wx P A0 L0 H0 (g r s) fun _ s' => PostN K mg G P A0 L0 H0 Q s'
structure GD (X : Cx) (G : Gm) (Wx : WX) (t : Expr) (g : GV) : Prop where
  pg : PG X t (tG X.K X.mg G Wx g)
theorem PG.imp {X : Cx} {e : Expr} {t t' : TG} (h : PG X e t) (q : ∀ v σ H Q, t' v σ H Q → t v σ H Q) : PG X e t' := ⟨fun pins s σ H v u Q I r hw => h.run pins s σ H v u Q I r (q v σ H Q hw)⟩
def slotOf : RV → Option Slot
  | .pv d => some (.pv d)
  | .ow ds => some (.ow ds)
  | .lc n => some (.lc n)
  | .vr _ => none
/-- a value is laid into a slot -/
def gSet (i : Nat) : GV := fun r s => match keepR r s with
  | some (r', s') => if i < s'.η.length then match slotOf r' with
    | some x => .ok () { s' with η := s'.η.set i x }
    | none => .bad
    else .bad
  | none => .bad
theorem Bd.sub {P P' : Addr → Prop} {A A' : List (Option Addr)} {L : List Addr} (h1 : ∀ a, some a ∈ A' → Bd P A L a) (h2 : ∀ a, P' a → P a) : ∀ a, Bd P' A' L a → Bd P A L a := fun a z => z.elim (h1 a) fun z => z.elim (fun z => .inr (.inl z)) fun z => .inr (.inr (h2 a z))
theorem At.np {r : RV} {v : V} (a : At K mg G P A L H σ A1 L1 s H1 r v) : ∀ b, Own r v b → ¬ P b := fun b z p => by
  have w := a.p0 b p
  rcases a.new b z with q | q
  · exact w.2 q
  · obtain ⟨o, ho⟩ := w.1
    rw [ho] at q; cases q
theorem At.put {r : RV} {v : V} {i : Nat} {x : Slot} (h : At K mg G P A L H σ A1 L1 s H1 r v) (hi : i < s.η.length) (e : slotOf r = some x) :
    ∃ oa, SR K mg G P (A1.set i oa) L1 { s with η := s.η.set i x } (σ.set i (some v)) H1 ∧ (∀ a, oa = some a → Own r v a) := by
  have hiσ : i < σ.length := by rw [h.sr.lenσ]; exact hi
  have sl : (σ.set i (some v)).length = σ.length ∧ (σ.set i (some v))[i]? = some (some v) ∧ ∀ j : Nat, j ≠ i → (σ.set i (some v))[j]? = σ[j]? := ⟨by simp, List.getElem?_set_self hiσ, fun j hj => List.getElem?_set_ne (Ne.symm hj)⟩
  have sub : ∀ a, Bd P (A1.set i none) L1 a → Bd P A1 L1 a := Bd.sub (fun a z => .inl ((mem_set z).elim id nofun)) fun _ z => z
  cases r with
  | pv d =>
    cases e
    exact ⟨none, h.sr.set (P := P) hi (fun _ z => .inl z) (fun _ z => nomatch z) sl ⟨rfl, v, rfl, Rep.less sub h.ok⟩, fun _ z => nomatch z⟩
  | lc n =>
    cases e
    obtain ⟨a, e1, rfl⟩ := h.ok
    exact ⟨none, h.sr.set (P := P) hi (fun _ z => .inl z) (fun _ z => nomatch z) sl ⟨rfl, a, e1, rfl⟩, fun _ z => nomatch z⟩
  | vr j => cases e
  | ow ds =>
    cases e
    obtain ⟨a, vs, rfl, e1, r, e3, e4, e5⟩ := h.ok
    have own : Own (.ow ds) (.ref a) a := ⟨⟨ds, rfl⟩, rfl⟩
    refine ⟨some a, h.sr.set (P := P) hi (fun _ z => .inl z) (fun b z => ?_) sl ⟨a, vs, rfl, rfl, e1, r.less fun b z => ?_⟩, fun b z => ?_⟩
    · cases z
      exact ⟨.inr own, h.np a own, ⟨_, e1, .inl ⟨vs, rfl⟩⟩, e5⟩
    · rcases z with z | z | z
      · rcases mem_set z with z | z
        · exact .inr (.inl z)
        · cases z; exact .inl rfl
      · exact .inr (.inr (.inl z))
      · exact .inr (.inr (.inr z))
    · cases z; exact own
theorem At.putStep {r : RV} {v : V} {i : Nat} {oa : Option Addr} (h : At K mg G P A L H σ A1 L1 s H1 r v) (ho : ∀ a, oa = some a → Own r v a) : Step A L H (A1.set i oa) L1 H1 := by
  refine ⟨h.st.frm, fun a z => ?_, h.st.pre, h.st.there, h.st.tab⟩
  rcases z with z | z
  · rcases mem_set z with z | z
    · exact h.st.new a (.inl z)
    · rcases h.new a (ho a z) with q | q
      · exact .inl q
      · exact .inr (.inr q)
  · exact h.st.new a (.inr z)
theorem run_gSet {r : RV} {v : V} {i : Nat} {Q : L2.St → Hp → Prop} (a : At K mg G P A L H σ A1 L1 s H1 r v) (h : RunS K mg G Wx P A L H (gSet i r s) fun _ s' => PostN K mg G P A L H Q s') : Q (σ.set i (some v)) H1 := by
  unfold gSet at h
  split at h
  · rename_i r' s' e
    obtain ⟨_, A2, a2⟩ := a.keep e
    split at h
    · rename_i hi
      split at h
      · rename_i x ex
        obtain ⟨oa, sr, ho⟩ := a2.put hi ex
        exact h _ _ _ _ sr (a2.putStep ho)
      · exact h.elim
    · exact h.elim
  · exact h.elim
theorem gd_name {i : Nat} {x : Str} (hN : X.N.Nodup) (hi : X.N[i]? = some x) (hx : Loc X.env.scope x) (hf : X.fn x = true ∨ X.env.scope.names.lookup x = some .local := by first | exact .inl rfl | exact .inr rfl | assumption) : GD X G Wx (.Name x pos) (gSet i) :=
  ⟨PG.imp (pg_name hN hi hx hf) fun v σ H Q ⟨P, A0, L0, H0, A, L, s, r, a, h⟩ => run_gSet a h⟩
def sAsg (fe : EV) (g : GV) : SV := fun s => (fe s).bind fun r s1 => (g r s1).bind fun _ s2 => .ok .nx s2
theorem tS_asg {D : Ends} {g : GV} (h : tS K mg G Wx (sAsg fe g) D σ H) : tAsg (tE K mg G Wx fe) (tG K mg G Wx g) D σ H := by
  obtain ⟨P, A, L, s, hs, h⟩ := h
  exact (tE_oneS hs h).mono fun v H1 ⟨A1, L1, s1, r, a1, h1⟩ => ⟨P, A, L, H, A1, L1, s1, r, a1, (RunS.bind h1).imp fun _ _ _ q => q⟩
/-- name = e -/
theorem sd_set {i : Nat} {x : Str} {pos' : Pos} (hN : X.N.Nodup) (hi : X.N[i]? = some x) (hx : Loc X.env.scope x) (he : ED X G Wx e fe) (hs : swapsWith e (some (.Name x pos')) pos.line X.env = pure false := by rfl)
    (hf : X.fn x = true ∨ X.env.scope.names.lookup x = some .local := by first | exact .inl rfl | exact .inr rfl | assumption) : SD X G Wx (.Assign [.Name x pos'] e pos) (sAsg fe (gSet i)) := by
  refine ⟨PS.imp (ps_set hN hi hx he.pe hs hf) fun D σ H h => ?_⟩
  exact tE.mono (tS_asg h) fun v H1 ⟨P, A0, L0, H0, A, L, s, r, a, h⟩ => run_gSet a h
/-- target = e -/
theorem sd_asg {tg : Expr} {g : GV} (he : ED X G Wx e fe) (hg : GD X G Wx tg g) (hs : swapsWithSole [tg] e pos.line X.env = pure false := by rfl) (hw : swappedStores [tg] e X.env = pure none := by rfl)
    (h1 : (assignEach [tg] X.env).map (·.2) = [assign tg X.env] := by rfl) : SD X G Wx (.Assign [tg] e pos) (sAsg fe g) := ⟨PS.imp (ps_asg he.pe hg.pg hs hw h1) fun _ _ _ h => tS_asg h⟩
/-! several targets -/
abbrev GVs := List D → S → Rs Unit
def gNilD : GVs := fun ds s => match ds with
  | [] => .ok () s
  | _ => .bad
def gConsD (g : GV) (gs : GVs) : GVs := fun ds s => match ds with
  | d :: ds => (g (.pv d) s).bind fun _ s1 => gs ds s1
  | [] => .bad
def tGs (K : PySem.W.Frag) (mg : Str → Option Value) (G : Gm) (Wx : WX) (g : GVs) : TGs := fun vs σ H Q => ∃ P A L s ds, SR K mg G P A L s σ H ∧ Reps K mg (Bd P A L) H ds vs ∧ RunS K mg G Wx P A L H (g ds s) fun _ s' => PostN K mg G P A L H Q s'
structure GsD (X : Cx) (G : Gm) (Wx : WX) (t : List Expr) (g : GVs) : Prop where
  pgs : PGs X t (tGs X.K X.mg G Wx g)
theorem PGs.imp {X : Cx} {e : List Expr} {t t' : TGs} (h : PGs X e t) (q : ∀ v σ H Q, t' v σ H Q → t v σ H Q) : PGs X e t' := ⟨fun pins s σ H v u Q I r hw => h.run pins s σ H v u Q I r (q v σ H Q hw)⟩
theorem gs_nil : GsD X G Wx [] gNilD := by
  refine ⟨PGs.imp pgs_nil fun vs σ H Q ⟨P, A, L, s, ds, sr, r, h⟩ => ?_⟩
  unfold gNilD at h
  split at h
  · unfold Reps at r; exact ⟨r, h A L σ H sr (Step.refl _ _ _)⟩
  · exact h.elim
theorem gs_cons {t : Expr} {ts : List Expr} {g : GV} {gs : GVs} (h1 : GD X G Wx t g) (h2 : GsD X G Wx ts gs) (hs : (assignEach (t :: ts) X.env).map (·.2) = assign t X.env :: (assignEach ts X.env).map (·.2) := by rfl) : GsD X G Wx (t :: ts) (gConsD g gs) := by
  refine ⟨PGs.imp (pgs_cons h1.pg h2.pgs hs) fun vs σ H Q ⟨P, A, L, s, ds, sr, r, h⟩ => ?_⟩
  unfold gConsD at h
  split at h
  · rename_i d ds
    unfold Reps at r
    obtain ⟨v, vs, rfl, r1, r2⟩ := r
    refine ⟨v, vs, rfl, P, A, L, H, A, L, s, .pv d, ⟨sr.lessP (Wi.pv nofun), r1, OwNew.of nofun, Step.refl _ _ _, sr.p0⟩, (RunS.bind h).imp fun _ s1 _ q A2 L2 σ2 H2 sr2 st2 => ?_⟩
    exact ⟨P, A2, L2, s1, ds, sr2, r2.step st2, (q.on st2 fun _ z => z).imp fun _ _ _ q => q.shift st2⟩
  · exact h.elim
/-- (a, b, ..) = a tuple or a list -/
def gTupD (gs : GVs) : GV := fun r s => match rd r s with
  | some d => match seqD d with
    | some ds => gs ds s
    | none => .bad
  | none => .bad
theorem PG.or {t : Expr} {t1 t2 : TG} (h1 : PG X t t1) (h2 : PG X t t2) : PG X t fun v σ H Q => t1 v σ H Q ∨ t2 v σ H Q :=
  ⟨fun pins s σ H v u Q I r hw => hw.elim (h1.run pins s σ H v u Q I r) (h2.run pins s σ H v u Q I r)⟩
def lenIs (n : Nat) (gs : GVs) : GVs := fun ds s => if ds.length = n then gs ds s else .bad
theorem gd_tup {es : List Expr} {k : Nat} {gs : GVs} {n : Nat} (hc : X.calm = true) (h : GsD X G Wx es gs) (hn : (assignEach es X.env).length = n := by rfl) (hst : (assignEach es X.env).findIdx? (·.1) = none := by rfl) : GD X G Wx (.Tuple es k pos) (gTupD (lenIs n gs)) := by
  refine ⟨PG.imp (PG.or (pg_tup hc h.pgs hn hst) (pg_lst hc h.pgs hn hst)) fun v σ H Q ⟨P, A0, L0, H0, A, L, s, r, a, h⟩ => ?_⟩
  unfold gTupD at h
  have w := a.weak
  cases e1 : rd r s with
  | none => rw [e1] at h; exact h.elim
  | some d =>
    rw [e1] at h
    simp only at h
    cases e2 : seqD d with
    | none => rw [e2] at h; exact h.elim
    | some ds =>
      rw [e2] at h
      unfold lenIs at h
      simp only at h
      split at h
      · rename_i hl
        have pr := rd_ok w a.ok e1
        have fin : ∀ {vs : List V}, Reps X.K X.mg (Bd P A L) H ds vs → tGs X.K X.mg G Wx gs vs σ H Q := fun r => ⟨P, A, L, s, ds, w, r, (h.on a.st fun _ z => z).imp fun _ _ _ q => q.shift a.st⟩
        cases d with
        | tup xs => cases e2; obtain ⟨p, vs, rfl, t, r⟩ := pr.tup; exact .inl ⟨p, vs, rfl, t.sq, by rw [← r.length]; exact hl, fin r⟩
        | lst xs => cases e2; obtain ⟨p, vs, rfl, t, r⟩ := pr.lst; exact .inr ⟨p, vs, rfl, SqL.of t, by rw [← r.length]; exact hl, fin r⟩
        | scr xs => cases e2; obtain ⟨p, vs, rfl, t, r⟩ := pr.scr; exact .inr ⟨p, vs, rfl, t.sq, by rw [← r.length]; exact hl, fin r⟩
        | _ => cases e2
      · exact h.elim
/-- two names at once -/
def putR (i : Nat) (r : RV) (s : S) : Rs Unit := match slotOf r with
  | some x => if i < s.η.length then .ok () { s with η := s.η.set i x } else .bad
  | none => .bad
def keepX (r : RV) (s : S) : Rs RV := match keepR r s with
  | some (r', s') => .ok r' s'
  | none => .bad
def sPar (i j : Nat) (fa fb : EV) : SV := fun s => (fa s).bind fun ra s1 => (keepX ra s1).bind fun ra s1 => (fb s1).bind fun rb s2 => (keepX rb s2).bind fun rb s2 => (putR j rb s2).bind fun _ s3 => (putR i ra s3).bind fun _ s4 => .ok .nx s4
theorem run_keepX {r : RV} {v : V} {k : RV → S → Rs α} {Qf : α → S → Prop} (a : At K mg G P A L H σ A1 L1 s H1 r v) (h : RunS K mg G Wx P' A' L' H' ((keepX r s).bind k) Qf) : ∃ A2 s2 r2, At K mg G P A L H σ A2 L1 s2 H1 r2 v ∧ (∀ i, r2 ≠ .vr i) ∧ RunS K mg G Wx P' A' L' H' (k r2 s2) Qf := by
  unfold keepX at h
  split at h
  · rename_i r' s' e
    obtain ⟨nv, A2, a2⟩ := a.keep e
    exact ⟨A2, s', r', a2, nv, h⟩
  · exact h.elim
theorem RVOk.sig {r : RV} {v : V} (h : RVOk K mg G P A L σ H r v) (n : ∀ i, r ≠ .vr i) : RVOk K mg G P A L σ' H r v := by
  cases r with
  | vr i => exact absurd rfl (n i)
  | pv _ => exact h
  | ow _ => exact h
  | lc _ => exact h
theorem run_putR {r : RV} {v : V} {i : Nat} {k : Unit → S → Rs α} {Qf : α → S → Prop} (a : At K mg G P A L H σ A1 L1 s H1 r v) (h : RunS K mg G Wx P' A' L' H' ((putR i r s).bind k) Qf) :
    ∃ oa s2, SR K mg G P (A1.set i oa) L1 s2 (σ.set i (some v)) H1 ∧ Step A L H (A1.set i oa) L1 H1 ∧ (∀ a, oa = some a → Own r v a) ∧ RunS K mg G Wx P' A' L' H' (k () s2) Qf := by
  unfold putR at h
  split at h
  · rename_i x e
    split at h
    · rename_i hi
      obtain ⟨oa, sr, ho⟩ := a.put hi e
      exact ⟨oa, _, sr, a.putStep ho, ho, h⟩
    · exact h.elim
  · exact h.elim
theorem sd_par {i j : Nat} {x y : Str} {px py pt : Pos} {kt k2 pt2} (hc : X.calm = true) (hN : X.N.Nodup) (hi : X.N[i]? = some x) (hj : X.N[j]? = some y) (hij : i ≠ j)
    (hx : X.env.scope.names.lookup x = some .local) (hy : X.env.scope.names.lookup y = some .local) (ha : ED X G Wx a fa) (hb : ED X G Wx b fb)
    (hw : swappedStores [.Tuple [.Name x px, .Name y py] kt pt] (.Tuple [a, b] k2 pt2) X.env = pure (some [x, y]))
    (hs : swapsWithSole [.Tuple [.Name x px, .Name y py] kt pt] (.Tuple [a, b] k2 pt2) pos.line X.env = pure false := by rfl)
    (he : starEach [a, b] X.env = (false, eval a X.env) :: starEach [b] X.env := by rfl) (he2 : starEach [b] X.env = (false, eval b X.env) :: starEach [] X.env := by rfl) :
    SD X G Wx (.Assign [.Tuple [.Name x px, .Name y py] kt pt] (.Tuple [a, b] k2 pt2) pos) (sPar i j fa fb) := by
  refine ⟨PS.imp (ps_par hc hN hi hj hij hx hy (pa_cons ha.pe (pa_cons hb.pe pa_nil he2) he) hw hs) fun D σ H ⟨P, A, L, s, hs, h⟩ => (tE_oneS hs h).mono fun x H1 ⟨A1, L1, s1, ra, a1, h1⟩ => ?_⟩
  obtain ⟨A2, s2, ra, a2, na, h2⟩ := run_keepX a1 h1
  refine ⟨Wi P ra x, A2, L1, s2, a2.sr, ((RunS.bind h2).on a2.st fun _ z => .inl z).run.imp fun rb s3 _ q A3 L3 y H3 b3 => ?_⟩
  obtain ⟨A4, s4, rb, b4, nb, q⟩ := run_keepX b3 q
  obtain ⟨ob, s5, sr5, st5, ho5, q⟩ := run_putR (i := j) b4 q
  have a5 : At X.K X.mg G P A L H (σ.set j (some y)) (A4.set j ob) L3 s5 H3 ra x := ⟨sr5, (a2.ok.step st5).sig na, a2.new, a2.st.trans st5, a2.p0⟩
  obtain ⟨oa, s6, sr6, st6, ho6, q⟩ := run_putR (i := i) a5 q
  refine ⟨x, y, rfl, ?_⟩
  rw [List.set_comm _ _ hij]
  exact q _ _ _ _ sr6 st6
end
end DL
namespace DL
open PySem PySem.Spec PyProof.Rows L2
section
variable {K : PySem.W.Frag} {mg : Str → Option Value} {X : Cx} {G : Gm} {Wx : WX} {a b c e : Expr} {es : List Expr} {fa fb fc fe : EV} {pos : Pos} {α β : Type}
variable {P P' : Addr → Prop} {A A' A1 : List (Option Addr)} {σ σ' : L2.St} {L L' L1 : List Addr} {H H' H1 : Hp} {s s' : S}
/-! ### what is walked -/
abbrev IV := S → Rs (List D)
/-- the iterator J hands out ds, whatever happens beside it -/
def ItOk (K : PySem.W.Frag) (mg : Str → Option Value) (P : Addr → Prop) (A : List (Option Addr)) (L : List Addr) (H : Hp) (J : It) (ds : List D) : Prop :=
  ∀ P' A' L' H', (∀ a, P' a → P a ∨ H a = none) → Step A L H A' L' H' → (∀ a, Bd P' A' L' a → ∃ o, H' a = some o) →
    (∀ i, i < ds.length → J.go i H') ∧ J.stop ds.length H' ∧ ∀ i d x H'', ds[i]? = some d → J.yld i H' x H'' → ResOk K mg (Bd P' A' L') H' H'' (.pv d) x
def PostI (K : PySem.W.Frag) (mg : Str → Option Value) (G : Gm) (P : Addr → Prop) (A : List (Option Addr)) (L : List Addr) (H : Hp) (σ : L2.St) (R : It → Hp → Prop) (ds : List D) (s' : S) : Prop :=
  ∀ A' L' H' J, SR K mg G P A' L' s' σ H' → ItOk K mg P A' L' H' J ds → Step A L H A' L' H' → R J H'
def tI (K : PySem.W.Frag) (mg : Str → Option Value) (G : Gm) (Wx : WX) (f : IV) : TI := fun σ H R => ∃ P A L s, SR K mg G P A L s σ H ∧ Run K mg G Wx P A L H σ (f s) (PostI K mg G P A L H σ R)
structure ID (X : Cx) (G : Gm) (Wx : WX) (tg e : Expr) (f : IV) : Prop where
  pi : PI X tg e (tI X.K X.mg G Wx f)
theorem PI.imp {tg e : Expr} {t t' : TI} (h : PI X tg e t) (q : ∀ σ H Q, t' σ H Q → t σ H Q) : PI X tg e t' := ⟨fun pins s σ H R I hw => h.run pins s σ H R I (q σ H R hw)⟩
/-- the items of a value that is walked by itself -/
def itD : D → Option (List D)
  | .tup xs => some xs
  | .lst xs => some xs
  | .scr xs => some xs
  | _ => none
/-- a text's signs -/
def chD (x : Str) : List D := x.cps.toList.map fun c => .str ⟨#[c]⟩
def itX : D → Option (List D)
  | .str x => some (chD x)
  | d => itD d
def iOf (fe : EV) : IV := fun s => (fe s).bind fun r s1 => match fz r s1 with
  | some (d, s2) => match itX d with
    | some ds => .ok ds s2
    | none => .bad
  | none => .bad
theorem Step.mvP (x : Step A L H A' L' H') (hP : ∀ a, P' a → P a ∨ H a = none) : ∀ a o, H a = some o → ¬ Bd P A L a → Plain o → H' a = some o ∧ ¬ Bd P' A' L' a := fun a o h nb p => by
  have y := x.mv (P := P) a o h nb p
  refine ⟨y.1, fun z => ?_⟩
  rcases z with z | z | z
  · exact y.2 (.inl z)
  · exact y.2 (.inr (.inl z))
  · rcases hP a z with q | q
    · exact nb (.inr (.inr q))
    · rw [h] at q; cases q
theorem TupOk.step {vs : List V} {p : Addr} (h : TupOk K (Bd P A L) H p vs) (x : Step A L H A' L' H') (hP : ∀ a, P' a → P a ∨ H a = none) : TupOk K (Bd P' A' L') H' p vs := by
  rcases h with ⟨h | ⟨o, h⟩, nb⟩ | h
  · have z := x.mvP hP p _ h nb (fun _ => nofun); exact .inl ⟨.inl z.1, z.2⟩
  · have z := x.mvP hP p _ h nb (fun _ => nofun); exact .inl ⟨.inr ⟨o, z.1⟩, z.2⟩
  · exact .inr h
theorem ScrOk.step {vs : List V} {p : Addr} (h : ScrOk K (Bd P A L) H p vs) (x : Step A L H A' L' H') (hP : ∀ a, P' a → P a ∨ H a = none) : ScrOk K (Bd P' A' L') H' p vs := by
  rcases h with ⟨h | ⟨o, h⟩, nb⟩ | h
  · have z := x.mvP hP p _ h nb (fun _ => nofun); exact .inl ⟨.inl z.1, z.2⟩
  · have z := x.mvP hP p _ h nb (fun _ => nofun); exact .inl ⟨.inr ⟨o, z.1⟩, z.2⟩
  · exact .inr h
theorem itl_ok {p : Addr} {vs : List V} {ds : List D} (h : ScrOk K (Bd P A L) H p vs) (r : Reps K mg (Bd P A L) H ds vs) : ItOk K mg P A L H (Itl K p) ds := by
  intro P' A' L' H' hP st hB
  have h' := (h.step st hP).sq
  have r' : Reps K mg (Bd P' A' L') H' ds vs := r.move (st.mvP hP)
  refine ⟨fun i hi => ?_, ⟨vs, h', by rw [r'.length]; exact Nat.le_refl _⟩, fun i d x H'' e y => ?_⟩
  · obtain ⟨v, e, _⟩ := r'.get (List.getElem?_eq_getElem hi)
    exact ⟨vs, v, h', e⟩
  · obtain ⟨e1, y⟩ := y
    subst e1
    obtain ⟨v, e2, rv⟩ := r'.get e
    have := y vs h'
    rw [e2] at this
    cases this
    exact ResOk.same rv
theorem itt_ok {p : Addr} {vs : List V} {ds : List D} (h : TupOk K (Bd P A L) H p vs) (r : Reps K mg (Bd P A L) H ds vs) : ItOk K mg P A L H (Itt K p) ds := by
  intro P' A' L' H' hP st hB
  have h' := (h.step st hP).sq
  have r' : Reps K mg (Bd P' A' L') H' ds vs := r.move (st.mvP hP)
  refine ⟨fun i hi => ?_, ⟨vs, h', by rw [r'.length]; exact Nat.le_refl _⟩, fun i d x H'' e y => ?_⟩
  · obtain ⟨v, e, _⟩ := r'.get (List.getElem?_eq_getElem hi)
    exact ⟨vs, v, h', e⟩
  · obtain ⟨e1, y⟩ := y
    subst e1
    obtain ⟨v, e2, rv⟩ := r'.get e
    have := y vs h'
    rw [e2] at this
    cases this
    exact ResOk.same rv
theorem its_ok (x : Str) : ItOk K mg P A L H (Its x) (chD x) := by
  intro P' A' L' H' hP st hB
  have ln : (chD x).length = x.cps.size := by unfold chD; simp
  refine ⟨fun i hi => by rw [ln] at hi; exact hi, by rw [ln]; exact Nat.le_refl _, fun i d v H'' e y => ?_⟩
  obtain ⟨e1, c, hc, rfl⟩ := y
  subst e1
  have hc' : x.cps.toList[i]? = some c := by rw [Array.getElem?_toList]; exact hc
  unfold chD at e
  rw [List.getElem?_map, hc'] at e
  cases e
  exact ResOk.same (by unfold Rep; rfl)
/-- a list, a tuple or a text, walked -/
theorem id_val {tg : Expr} (he : ED X G Wx e fe) : ID X G Wx tg e (iOf fe) := by
  refine ⟨⟨fun pins sh σ H R I ⟨P, A, L, s, hs, h⟩ => ?_⟩⟩
  have key : ∀ {r : RV} {s1 : S}, fe s = .ok r s1 → (∃ xs s2, fz r s1 = some (.tup xs, s2) ∧ Run X.K X.mg G Wx P A L H σ (.ok xs s2) (PostI X.K X.mg G P A L H σ R)) ∨
      (∃ xs s2, (fz r s1 = some (.lst xs, s2) ∨ fz r s1 = some (.scr xs, s2)) ∧ Run X.K X.mg G Wx P A L H σ (.ok xs s2) (PostI X.K X.mg G P A L H σ R)) ∨
      (∃ z s2, fz r s1 = some (.str z, s2) ∧ Run X.K X.mg G Wx P A L H σ (.ok (chD z) s2) (PostI X.K X.mg G P A L H σ R)) := fun {r s1} e => by
    have h' := h
    unfold iOf at h'
    rw [e] at h'
    have h' : Run X.K X.mg G Wx P A L H σ (match fz r s1 with
      | some (d, s2) => match itX d with
        | some ds => .ok ds s2
        | none => .bad
      | none => .bad) (PostI X.K X.mg G P A L H σ R) := h'
    split at h'
    · rename_i d s2 e1
      split at h'
      · rename_i ds e2
        cases d with
        | tup xs => cases e2; exact .inl ⟨_, s2, e1, h'⟩
        | lst xs => cases e2; exact .inr (.inl ⟨_, s2, .inl e1, h'⟩)
        | scr xs => cases e2; exact .inr (.inl ⟨_, s2, .inr e1, h'⟩)
        | str z => cases e2; exact .inr (.inr ⟨_, s2, e1, h'⟩)
        | _ => cases e2
      · exact h'.elim
    · exact h'.elim
  cases q : fe s with
  | bad => unfold iOf at h; rw [q] at h; exact h.elim
  | err c s1 =>
    refine (pi_tup (tg := tg) he.pe).run pins sh σ H R I ⟨P, A, L, s, hs, ?_⟩
    unfold iOf at h
    rw [q] at h ⊢
    exact h
  | ok r s1 =>
    rcases key q with ⟨xs, s2, e1, h2⟩ | ⟨xs, s2, e1, h2⟩ | ⟨z, s2, e1, h2⟩
    · refine (pi_tup (tg := tg) he.pe).run pins sh σ H R I ⟨P, A, L, s, hs, ?_⟩
      rw [q]
      intro A1 L1 v H1 a1
      obtain ⟨A2, sr, rp, st⟩ := a1.frz e1
      unfold Rep at rp
      obtain ⟨p, vs, rfl, t, r⟩ := rp
      exact ⟨p, rfl, ⟨vs, t.sq⟩, h2 A2 L1 H1 _ sr (itt_ok t r) st⟩
    · refine (pi_list (tg := tg) he.pe).run pins sh σ H R I ⟨P, A, L, s, hs, ?_⟩
      rw [q]
      intro A1 L1 v H1 a1
      rcases e1 with e1 | e1
      · obtain ⟨A2, sr, rp, st⟩ := a1.frz e1
        unfold Rep at rp
        obtain ⟨p, vs, rfl, t, nb, r⟩ := rp
        exact ⟨p, rfl, ⟨vs, SqL.of t⟩, h2 A2 L1 H1 _ sr (itl_ok (.inl ⟨.inl t, nb⟩) r) st⟩
      · obtain ⟨A2, sr, rp, st⟩ := a1.frz e1
        unfold Rep at rp
        obtain ⟨p, vs, rfl, t, r⟩ := rp
        exact ⟨p, rfl, ⟨vs, t.sq⟩, h2 A2 L1 H1 _ sr (itl_ok t r) st⟩
    · refine (pi_str (tg := tg) he.pe).run pins sh σ H R I ⟨P, A, L, s, hs, ?_⟩
      rw [q]
      intro A1 L1 v H1 a1
      obtain ⟨A2, sr, rp, st⟩ := a1.frz e1
      unfold Rep at rp
      exact ⟨z, rp, h2 A2 L1 H1 _ sr (its_ok z) st⟩
/-! range -/
theorem rng_ex (lo hi : Int) : ∃ l : List D, l = (List.range (hi - lo).toNat).map fun (i : Nat) => .int (lo + (i : Int)) := ⟨_, rfl⟩
/-- sealed: nothing steps through a written range -/
noncomputable def rngD (lo hi : Int) : List D := Classical.choose (rng_ex lo hi)
theorem rngD_eq (lo hi : Int) : rngD lo hi = (List.range (hi - lo).toNat).map fun (i : Nat) => .int (lo + (i : Int)) := Classical.choose_spec (rng_ex lo hi)
theorem itr_ok (lo hi : Int) : ItOk K mg P A L H (Itr lo (hi - lo).toNat) (rngD lo hi) := by
  intro P' A' L' H' hP st hB
  have ln : (rngD lo hi).length = (hi - lo).toNat := by rw [rngD_eq]; simp
  refine ⟨fun i hi => by rw [ln] at hi; exact hi, by rw [ln]; exact Nat.le_refl _, fun i d x H'' e y => ?_⟩
  obtain ⟨e1, e2⟩ := y
  subst e1; subst e2
  rw [rngD_eq] at e
  rw [List.getElem?_map] at e
  obtain ⟨j, e3, rfl⟩ := Option.map_eq_some_iff.mp e
  have : j = i := by
    rw [List.getElem?_eq_some_iff] at e3
    obtain ⟨h, e3⟩ := e3
    simpa using e3.symm
  subst this
  exact ResOk.same (by unfold Rep; rfl)
def rOk (i : Int) : Bool := decide (-(2 ^ 62) ≤ i ∧ i < 2 ^ 62)
noncomputable def iR1 (fa : EV) : IV := fun s => (fa s).bind fun r s1 => match rd r s1 with
  | some (.int j) => if rOk j = true then .ok (rngD 0 j) s1 else .bad
  | _ => .bad
noncomputable def iR2 (fa fb : EV) : IV := fun s => (fa s).bind fun ra s1 => (fb s1).bind fun rb s2 => match rd ra s2, rd rb s2 with
  | some (.int i), some (.int j) => if (rOk i && rOk j) = true then .ok (rngD i j) s2 else .bad
  | _, _ => .bad
theorem id_range1 {tg : Expr} {p : Pos} (hg : Gl X "range") (hm : X.mg "range" = none) (ha : ED X G Wx a fa) (hs : starEach [a] X.env = [(false, eval a X.env)] := by rfl) : ID X G Wx tg (.Call (.Name "range" p) [a] [] pos) (iR1 fa) := by
  refine ⟨PI.imp (pi_range1 hg hm (pa_cons ha.pe pa_nil hs) hs) fun σ H R ⟨P, A, L, s, hs, h⟩ => (tE_one hs h).mono fun v H1 ⟨A1, L1, s1, r, a1, h1⟩ => ?_⟩
  split at h1
  · rename_i j e1
    split at h1
    · rename_i c
      have c := of_decide_eq_true c
      have := (rd_ok a1.weak a1.ok e1).int
      subst this
      refine ⟨j, rfl, c.1, c.2, ?_⟩
      have := itr_ok (K := X.K) (mg := X.mg) (P := P) (A := A1) (L := L1) (H := H1) 0 j
      rw [Int.sub_zero] at this
      exact h1 A1 L1 H1 _ a1.weak this a1.st
    · exact h1.elim
  · exact h1.elim
theorem id_range2 {tg : Expr} {p : Pos} (hg : Gl X "range") (hm : X.mg "range" = none) (ha : ED X G Wx a fa) (hb : ED X G Wx b fb) (hs : starEach [a, b] X.env = [(false, eval a X.env), (false, eval b X.env)] := by rfl) (hs2 : starEach [b] X.env = [(false, eval b X.env)] := by rfl) :
    ID X G Wx tg (.Call (.Name "range" p) [a, b] [] pos) (iR2 fa fb) := by
  refine ⟨PI.imp (pi_range2 hg hm (pa_cons ha.pe (pa_cons hb.pe pa_nil hs2) (by rw [hs, hs2])) hs hs2) fun σ H R ⟨P, A, L, s, hs, h⟩ => (tE_two hs h).mono fun x H1 h1 => h1.mono fun y H2 ⟨A2, L2, s2, ra, rb, hs2, oa, ob, st, h2⟩ => ?_⟩
  split at h2
  · rename_i i j e1 e2
    split at h2
    · rename_i c
      rw [Bool.and_eq_true] at c
      have c1 := of_decide_eq_true c.1
      have c2 := of_decide_eq_true c.2
      have := (rd_ok hs2 oa e1).int
      subst this
      have := (rd_ok hs2 ob e2).int
      subst this
      exact ⟨i, j, rfl, ⟨c1.1, c1.2, c2.1, c2.2⟩, h2 A2 L2 H2 _ hs2 (itr_ok i j) st⟩
    · exact h2.elim
  · exact h2.elim
/-! ### for -/
def loopD (g : GV) (body : SV) : List D → S → Rs Fl
  | [], s => .ok .nx s
  | d :: ds, s => (g (.pv d) s).bind fun _ s1 => (body s1).bind fun fl s2 => match fl with
    | .nx => loopD g body ds s2
    | .ct => loopD g body ds s2
    | .bk => .ok .nx s2
    | .rt r => .ok (.rt r) s2
def sFor (it : IV) (g : GV) (body : SV) : SV := fun s => (it s).bind fun ds s1 => loopD g body ds s1
theorem Reps.nth {ds : List D} {i : Nat} (h : i < ds.length) : ds.drop i = ds[i] :: ds.drop (i + 1) := List.drop_eq_getElem_cons h
theorem tS_for {g : GV} {f : SV} {Dn : Ends} {J : It} {ds : List D} {σ : L2.St} (sr : SR K mg G P A L s σ H) (ok : ItOk K mg P A L H J ds) (h : RunS K mg G Wx P A L H (loopD g f ds s) (PostS K mg G P A L H Dn)) :
    ∃ W : Nat → Nat → L2.St → Hp → Prop, (∃ m, W 0 m σ H) ∧ ∀ i m σ H, W i m σ H →
      (J.stop i H ∧ Dn.nx σ H) ∨ (J.go i H ∧ ∃ N : L2.St → Hp → Prop, (∀ σ' H', N σ' H' → ∃ m', m' < m ∧ W (i + 1) m' σ' H') ∧ ∀ x H', J.yld i H x H' → tG K mg G Wx g x σ H' fun σ2 H2 => tS K mg G Wx f { Dn with nx := N, ct := N, bk := Dn.nx } σ2 H2) := by
  refine ⟨fun i m σ' H' => i + m = ds.length ∧ ∃ A' L' s', SR K mg G P A' L' s' σ' H' ∧ Step A L H A' L' H' ∧ RunS K mg G Wx P A L H (loopD g f (ds.drop i) s') (PostS K mg G P A L H Dn),
    ⟨ds.length, by omega, A, L, s, sr, Step.refl _ _ _, by simpa using h⟩, ?_⟩
  rintro i m σ1 H1 ⟨em, A1, L1, s1, sr1, st1, h1⟩
  obtain ⟨go, stop, yld⟩ := ok P A1 L1 H1 (fun _ z => .inl z) st1 sr1.there
  by_cases hi : i < ds.length
  · refine .inr ⟨go i hi, fun σ' H' => ∃ A' L' s', SR K mg G P A' L' s' σ' H' ∧ Step A L H A' L' H' ∧ RunS K mg G Wx P A L H (loopD g f (ds.drop (i + 1)) s') (PostS K mg G P A L H Dn), fun σ' H' n => ⟨m - 1, by omega, by omega, n⟩, fun x H2 y => ?_⟩
    have ro := yld i _ x H2 (List.getElem?_eq_getElem hi) y
    rw [Reps.nth hi] at h1
    unfold loopD at h1
    have a1 : At K mg G P A1 L1 H1 σ1 A1 L1 s1 H2 (.pv ds[i]) x := At.mk' sr1 (Step.refl _ _ _) sr1.p0 ro
    refine ⟨P, A1, L1, H1, A1, L1, s1, _, a1, ((RunS.bind h1).on st1 fun _ z => z).imp fun _ s2 _ q A2 L2 σ2 H3 sr2 st2 => ?_⟩
    have st12 := st1.trans st2
    refine ⟨P, A2, L2, s2, sr2, ((RunS.bind q).on st12 fun _ z => z).imp fun fl s3 _ q => ?_⟩
    cases fl with
    | nx => exact fun A4 L4 σ4 H4 sr4 st4 => ⟨A4, L4, s3, sr4, st12.trans st4, q⟩
    | ct => exact fun A4 L4 σ4 H4 sr4 st4 => ⟨A4, L4, s3, sr4, st12.trans st4, q⟩
    | bk => exact fun A4 L4 σ4 H4 sr4 st4 => q A4 L4 σ4 H4 sr4 (st12.trans st4)
    | rt r => exact ⟨q.1, fun A4 L4 σ4 v H4 sr4 ok4 st4 => q.2 A4 L4 σ4 v H4 sr4 ok4 (st12.trans st4)⟩
  · have e : i = ds.length := by omega
    subst e
    rw [List.drop_length] at h1
    exact .inl ⟨stop, h1 A1 L1 σ1 H1 sr1 st1⟩
theorem sd_for {tg iter : Expr} {body : List Stmt} {it : IV} {g : GV} {f : SV} (hp : PassesOwn (model X.prog X.w) X.A X.env X.xe) (hc : X.calm = true) (hi : ID X G Wx tg iter it) (hg : GD X G Wx tg g) (hb : SsD X G Wx body f)
    (hs : ∀ x, foldedSetIterable iter X.env x = pure x := by intro _; rfl) : SD X G Wx (.For tg iter body [] pos) (sFor it g f) := by
  refine ⟨PS.imp (ps_for hp hc hi.pi hg.pg hb.pss hs) fun Dn σ H ⟨P, A, L, s, hs, h⟩ => ?_⟩
  refine ⟨P, A, L, s, hs, (RunS.bind h).run.imp fun ds s1 _ q A1 L1 H1 J sr1 ok1 st1 => ?_⟩
  exact tS_for sr1 ok1 (RunS.shift q st1)
/-! ### while -/
def loopW (t : TV) (body : SV) : Nat → S → Rs Fl
  | 0, _ => .bad
  | n + 1, s => (t s).bind fun b s1 => if b = true then (body s1).bind fun fl s2 => match fl with
    | .nx => loopW t body n s2
    | .ct => loopW t body n s2
    | .bk => .ok .nx s2
    | .rt r => .ok (.rt r) s2
    else .ok .nx s1
def sWhile (n : Nat) (t : TV) (body : SV) : SV := fun s => loopW t body n s
theorem sd_while {body : List Stmt} {t : TV} {f : SV} (n : Nat) (hp : PassesOwn (model X.prog X.w) X.A X.env X.xe) (hc : TD X G Wx c t) (hb : SsD X G Wx body f) : SD X G Wx (.While c body [] pos) (sWhile n t f) := by
  refine ⟨PS.imp (ps_while hp hc.pt hb.pss) fun Dn σ H ⟨P, A, L, s, hs, h⟩ => ?_⟩
  refine ⟨fun m σ' H' => ∃ A' L' s', SR X.K X.mg G P A' L' s' σ' H' ∧ Step A L H A' L' H' ∧ RunS X.K X.mg G Wx P A L H (loopW t f m s') (PostS X.K X.mg G P A L H Dn), ⟨n, A, L, s, hs, Step.refl _ _ _, h⟩, ?_⟩
  rintro m σ1 H1 ⟨A1, L1, s1, sr1, st1, h1⟩
  cases m with
  | zero => exact h1.elim
  | succ m =>
    unfold loopW at h1
    refine ⟨P, A1, L1, s1, sr1, ((RunS.bind h1).on st1 fun _ z => z).run.imp fun b s2 _ q A2 L2 H2 sr2 st2 => ?_⟩
    have st12 := st1.trans st2
    cases b with
    | true =>
      rw [if_pos rfl] at q
      refine iteT ⟨fun σ' H' => ∃ A' L' s', SR X.K X.mg G P A' L' s' σ' H' ∧ Step A L H A' L' H' ∧ RunS X.K X.mg G Wx P A L H (loopW t f m s') (PostS X.K X.mg G P A L H Dn), fun σ' H' n => ⟨m, by omega, n⟩, ?_⟩
      refine ⟨P, A2, L2, s2, sr2, ((RunS.bind q).on st12 fun _ z => z).imp fun fl s3 _ q => ?_⟩
      cases fl with
      | nx => exact fun A4 L4 σ4 H4 sr4 st4 => ⟨A4, L4, s3, sr4, st12.trans st4, q⟩
      | ct => exact fun A4 L4 σ4 H4 sr4 st4 => ⟨A4, L4, s3, sr4, st12.trans st4, q⟩
      | bk => exact fun A4 L4 σ4 H4 sr4 st4 => q A4 L4 σ4 H4 sr4 (st12.trans st4)
      | rt r => exact ⟨q.1, fun A4 L4 σ4 v H4 sr4 ok4 st4 => q.2 A4 L4 σ4 v H4 sr4 ok4 (st12.trans st4)⟩
    | false =>
      rw [if_neg (by decide)] at q
      refine iteF ?_
      exact q A2 L2 σ1 H2 sr2 st12
end
end DL
namespace DL
open PySem PySem.Spec PyProof.Rows L2
/-! ### the slots of a comprehension -/
def wipeN (η : List Slot) : List Nat → List Slot
  | [] => η
  | v :: vs => (wipeN η vs).set v .no
def restN (η0 η : List Slot) : List Nat → List Slot
  | [] => η
  | v :: vs => (restN η0 η vs).set v (η0.getD v .no)
def noOwn (η : List Slot) (vs : List Nat) : Bool := vs.all fun v => match η[v]? with
  | some (.ow _) => false
  | some (.od _) => false
  | some _ => true
  | none => false
theorem wipeN_len (η : List Slot) : ∀ vs, (wipeN η vs).length = η.length
  | [] => rfl
  | v :: vs => by unfold wipeN; rw [List.length_set, wipeN_len η vs]
theorem restN_len (η0 η : List Slot) : ∀ vs, (restN η0 η vs).length = η.length
  | [] => rfl
  | v :: vs => by unfold restN; rw [List.length_set, restN_len η0 η vs]
theorem wipeN_in {η : List Slot} {j : Nat} : ∀ {vs : List Nat}, j ∈ vs → j < η.length → (wipeN η vs)[j]? = some .no
  | v :: vs, h, hl => by
    unfold wipeN
    by_cases e : j = v
    · subst e; rw [List.getElem?_set_self (by rw [wipeN_len]; exact hl)]
    · rw [List.getElem?_set_ne (Ne.symm e)]
      exact wipeN_in ((List.mem_cons.mp h).resolve_left e) hl
theorem wipeN_out {η : List Slot} {j : Nat} : ∀ {vs : List Nat}, j ∉ vs → (wipeN η vs)[j]? = η[j]?
  | [], _ => rfl
  | v :: vs, h => by
    unfold wipeN
    rw [List.getElem?_set_ne (fun e => h (by rw [← e]; exact List.mem_cons_self))]
    exact wipeN_out fun z => h (List.mem_cons_of_mem _ z)
theorem restN_in {η0 η : List Slot} {j : Nat} : ∀ {vs : List Nat}, j ∈ vs → j < η.length → (restN η0 η vs)[j]? = some (η0.getD j .no)
  | v :: vs, h, hl => by
    unfold restN
    by_cases e : j = v
    · subst e; rw [List.getElem?_set_self (by rw [restN_len]; exact hl)]
    · rw [List.getElem?_set_ne (Ne.symm e)]
      exact restN_in ((List.mem_cons.mp h).resolve_left e) hl
theorem restN_out {η0 η : List Slot} {j : Nat} : ∀ {vs : List Nat}, j ∉ vs → (restN η0 η vs)[j]? = η[j]?
  | [], _ => rfl
  | v :: vs, h => by
    unfold restN
    rw [List.getElem?_set_ne (fun e => h (by rw [← e]; exact List.mem_cons_self))]
    exact restN_out fun z => h (List.mem_cons_of_mem _ z)
theorem wipe_in {σ : L2.St} {j : Nat} : ∀ {vs : List Nat}, j ∈ vs → j < σ.length → (wipe σ vs)[j]? = some none
  | v :: vs, h, hl => by
    unfold wipe
    by_cases e : j = v
    · subst e; rw [List.getElem?_set_self (by rw [wipe_length]; exact hl)]
    · rw [List.getElem?_set_ne (Ne.symm e)]
      exact wipe_in ((List.mem_cons.mp h).resolve_left e) hl
theorem wipe_out {σ : L2.St} {j : Nat} : ∀ {vs : List Nat}, j ∉ vs → (wipe σ vs)[j]? = σ[j]?
  | [], _ => rfl
  | v :: vs, h => by
    unfold wipe
    rw [List.getElem?_set_ne (fun e => h (by rw [← e]; exact List.mem_cons_self))]
    exact wipe_out fun z => h (List.mem_cons_of_mem _ z)
theorem wipe_ext {σ σ' : L2.St} {vs : List Nat} (hl : σ'.length = σ.length) (h : ∀ j : Nat, j ∉ vs → σ'[j]? = σ[j]?) : wipe σ' vs = wipe σ vs := by
  apply List.ext_getElem?
  intro j
  by_cases hj : j ∈ vs
  · by_cases hb : j < σ.length
    · rw [wipe_in hj hb, wipe_in hj (by rw [hl]; exact hb)]
    · rw [List.getElem?_eq_none (by rw [wipe_length]; omega), List.getElem?_eq_none (by rw [wipe_length]; omega)]
  · rw [wipe_out hj, wipe_out hj, h j hj]
theorem wipe_set {σ : L2.St} {vs : List Nat} {i : Nat} {v : Option V} (h : i ∈ vs) : wipe (σ.set i v) vs = wipe σ vs :=
  wipe_ext (by simp) fun j hj => List.getElem?_set_ne fun e => hj (by rw [← e]; exact h)
section
variable {K : PySem.W.Frag} {mg : Str → Option Value} {X : Cx} {G : Gm} {Wx : WX} {a b c e : Expr} {es : List Expr} {fa fb fc fe : EV} {pos : Pos} {α β : Type}
variable {P P' : Addr → Prop} {A A' A1 : List (Option Addr)} {σ σ' : L2.St} {L L' L1 : List Addr} {H H' H1 : Hp} {s s' : S} {vs : List Nat}
theorem SR.slots {η' : List Slot} (hs : SR K mg G P A L s σ H) (h1 : σ'.length = η'.length) (h2 : A.length = η'.length) (h : ∀ (i : Nat) (x : Slot), η'[i]? = some x → ∃ ov oa, σ'[i]? = some ov ∧ A[i]? = some oa ∧ SlotOk K mg (Bd P A L) H L ov oa x ∧ (x = .ex → ov = some (.ref G.xa))) :
    SR K mg G P A L { s with η := η' } σ' H := { hs with lenσ := h1, lenA := h2, slot := fun i x e => let ⟨ov, oa, e1, e2, q, _⟩ := h i x e; ⟨ov, oa, e1, e2, q⟩, exn := fun i e => let ⟨ov, oa, e1, e2, q, x⟩ := h i .ex e; by rw [e1, x rfl] }
theorem noOwn_at {η : List Slot} {j : Nat} (h : noOwn η vs = true) (hj : j ∈ vs) : ∃ x, η[j]? = some x ∧ (∀ ds, x ≠ .ow ds) ∧ ∀ kvs, x ≠ .od kvs := by
  have z := List.all_eq_true.mp h j hj
  cases q : η[j]? with
  | none => rw [q] at z; cases z
  | some x =>
    refine ⟨x, rfl, fun ds e => ?_, fun ds e => ?_⟩
    · rw [q, e] at z; cases z
    · rw [q, e] at z; cases z
theorem SlotOk.free {B : Addr → Prop} {ov : Option V} {oa : Option Addr} {x : Slot} (h : SlotOk K mg B H L ov oa x) (n : (∀ ds, x ≠ .ow ds) ∧ ∀ kvs, x ≠ .od kvs) : oa = none := by
  cases x with
  | no => exact h
  | pv d => exact h.1
  | lc d => exact h.1
  | ex => exact h
  | ow ds => exact absurd rfl (n.1 ds)
  | od ds => exact absurd rfl (n.2 ds)
theorem SR.wiped (hs : SR K mg G P A L s σ H) (h : noOwn s.η vs = true) : SR K mg G P A L { s with η := wipeN s.η vs } (wipe σ vs) H := by
  refine hs.slots (by rw [wipe_length, wipeN_len]; exact hs.lenσ) (by rw [wipeN_len]; exact hs.lenA) fun j x e => ?_
  by_cases hj : j ∈ vs
  · obtain ⟨y, ey, ny⟩ := noOwn_at h hj
    obtain ⟨hl, ov, oa, e1, e2, so⟩ := hs.slot' ey
    rw [wipeN_in hj hl] at e
    cases e
    have := so.free ny
    subst this
    exact ⟨none, none, wipe_in hj (by rw [hs.lenσ]; exact hl), e2, rfl, nofun⟩
  · rw [wipeN_out hj] at e
    obtain ⟨ov, oa, e1, e2, so⟩ := hs.slot j x e
    exact ⟨ov, oa, by rw [wipe_out hj]; exact e1, e2, so, fun z => by subst z; have q := hs.exn j e; rw [e1] at q; exact Option.some.inj q⟩
/-- behind the comprehension its slots are what they were -/
theorem SR.rest {P0 : Addr → Prop} {A0 : List (Option Addr)} {L0 : List Addr} {H0 : Hp} {s0 : S} (h0 : SR K mg G P0 A0 L0 s0 σ H0) (n0 : noOwn s0.η vs = true) (st : Step A0 L0 H0 A L H) (hP : ∀ a, P a → P0 a ∨ H0 a = none)
    (hs : SR K mg G P A L { s with η := wipeN s.η vs } (wipe σ vs) H) (hl : s.η.length = s0.η.length) : SR K mg G P A L { s with η := restN s0.η s.η vs } σ H := by
  refine hs.slots (η' := restN s0.η s.η vs) (by rw [restN_len, hl]; exact h0.lenσ) (by rw [restN_len]; have := hs.lenA; rw [wipeN_len] at this; exact this) fun j x e => ?_
  by_cases hj : j ∈ vs
  · obtain ⟨y, ey, ny⟩ := noOwn_at n0 hj
    obtain ⟨hjl, ov, oa, e1, e2, so⟩ := h0.slot' ey
    have hjl' : j < s.η.length := by rw [hl]; exact hjl
    rw [restN_in hj hjl'] at e
    have e3 : s0.η.getD j .no = y := by rw [List.getD_eq_getElem?_getD, ey]; rfl
    rw [e3] at e
    cases e
    obtain ⟨ov', oa', f1, f2, so'⟩ := hs.slot j .no (wipeN_in hj hjl')
    have : oa' = none := so'
    subst this
    have := so.free ny
    subst this
    refine ⟨ov, none, e1, f2, so.move (fun a o h nb p => ?_) (fun _ _ z => nomatch z) (fun _ _ q => st.loc q), fun z => by subst z; have q := h0.exn j ey; rw [e1] at q; exact Option.some.inj q⟩
    have y := st.mv (P := P0) a o h nb p
    refine ⟨y.1, fun z => y.2 ?_⟩
    rcases z with z | z | z
    · exact .inl z
    · exact .inr (.inl z)
    · rcases hP a z with q | q
      · exact .inr (.inr q)
      · rw [h] at q; cases q
  · rw [restN_out hj] at e
    obtain ⟨ov, oa, f1, f2, so⟩ := hs.slot j x (by rw [wipeN_out hj]; exact e)
    rw [wipe_out hj] at f1
    exact ⟨ov, oa, f1, f2, so, fun z => by subst z; have q := hs.exn j (by rw [wipeN_out hj]; exact e); rw [wipe_out hj] at q; rw [f1] at q; exact Option.some.inj q⟩
/-! ### its target -/
def tGv (K : PySem.W.Frag) (mg : Str → Option Value) (G : Gm) (vs : List Nat) (g : GV) : TG := fun v σ H Q => ∃ P A0 L0 H0 A L s r s', At K mg G P A0 L0 H0 σ A L s H r v ∧ g r s = .ok () s' ∧
  ∀ A' L' σ' H', SR K mg G P A' L' s' σ' H' → Step A0 L0 H0 A' L' H' → wipe σ' vs = wipe σ vs → Q σ' H'
structure GDv (X : Cx) (G : Gm) (vs : List Nat) (t : Expr) (g : GV) : Prop where
  pg : PG X t (tGv X.K X.mg G vs g)
theorem gv_set {r : RV} {v : V} {i : Nat} {Q : L2.St → Hp → Prop} {s' : S} (a : At K mg G P A L H σ A1 L1 s H1 r v) (h : gSet i r s = .ok () s') (q : ∀ A' L' σ' H', SR K mg G P A' L' s' σ' H' → Step A L H A' L' H' → σ' = σ.set i (some v) → Q σ' H') : Q (σ.set i (some v)) H1 := by
  unfold gSet at h
  split at h
  · rename_i r' s1 e
    obtain ⟨_, A2, a2⟩ := a.keep e
    split at h
    · rename_i hi
      split at h
      · rename_i x ex
        obtain ⟨oa, sr, ho⟩ := a2.put hi ex
        cases h
        exact q _ _ _ _ sr (a2.putStep ho) rfl
      · cases h
    · cases h
  · cases h
theorem gv_name {i : Nat} {x : Str} (hv : i ∈ vs) (hN : X.N.Nodup) (hi : X.N[i]? = some x) (hx : Loc X.env.scope x) (hf : X.fn x = true ∨ X.env.scope.names.lookup x = some .local := by first | exact .inl rfl | exact .inr rfl | assumption) : GDv X G vs (.Name x pos) (gSet i) :=
  ⟨PG.imp (pg_name hN hi hx hf) fun v σ H Q ⟨P, A0, L0, H0, A, L, s, r, s', a, h, q⟩ => gv_set a h fun A' L' σ' H' sr st e => q A' L' σ' H' sr st (by rw [e]; exact wipe_set hv)⟩
def tGsv (K : PySem.W.Frag) (mg : Str → Option Value) (G : Gm) (vs : List Nat) (g : GVs) : TGs := fun ws σ H Q => ∃ P A L s ds s', SR K mg G P A L s σ H ∧ Reps K mg (Bd P A L) H ds ws ∧ g ds s = .ok () s' ∧
  ∀ A' L' σ' H', SR K mg G P A' L' s' σ' H' → Step A L H A' L' H' → wipe σ' vs = wipe σ vs → Q σ' H'
structure GsDv (X : Cx) (G : Gm) (vs : List Nat) (t : List Expr) (g : GVs) : Prop where
  pgs : PGs X t (tGsv X.K X.mg G vs g)
theorem gsv_nil : GsDv X G vs [] gNilD := by
  refine ⟨PGs.imp pgs_nil fun ws σ H Q ⟨P, A, L, s, ds, s', sr, r, h, q⟩ => ?_⟩
  unfold gNilD at h
  split at h
  · unfold Reps at r; cases h; exact ⟨r, q A L σ H sr (Step.refl _ _ _) rfl⟩
  · cases h
theorem gsv_cons {t : Expr} {ts : List Expr} {g : GV} {gs : GVs} (h1 : GDv X G vs t g) (h2 : GsDv X G vs ts gs) (hs : (assignEach (t :: ts) X.env).map (·.2) = assign t X.env :: (assignEach ts X.env).map (·.2) := by rfl) : GsDv X G vs (t :: ts) (gConsD g gs) := by
  refine ⟨PGs.imp (pgs_cons h1.pg h2.pgs hs) fun ws σ H Q ⟨P, A, L, s, ds, s', sr, r, h, q⟩ => ?_⟩
  unfold gConsD at h
  split at h
  · rename_i d ds
    unfold Reps at r
    obtain ⟨v, ws, rfl, r1, r2⟩ := r
    cases e : g (.pv d) s with
    | bad => rw [e] at h; cases h
    | err _ _ => rw [e] at h; cases h
    | ok u s1 =>
      rw [e] at h
      refine ⟨v, ws, rfl, P, A, L, H, A, L, s, .pv d, s1, ⟨sr.lessP (Wi.pv nofun), r1, OwNew.of nofun, Step.refl _ _ _, sr.p0⟩, e, fun A2 L2 σ2 H2 sr2 st2 w2 => ?_⟩
      exact ⟨P, A2, L2, s1, ds, s', sr2, r2.step st2, h, fun A3 L3 σ3 H3 sr3 st3 w3 => q A3 L3 σ3 H3 sr3 (st2.trans st3) (w3.trans w2)⟩
  · cases h
theorem gv_tup {es : List Expr} {k : Nat} {gs : GVs} {n : Nat} (hc : X.calm = true) (h : GsDv X G vs es gs) (hn : (assignEach es X.env).length = n := by rfl) (hst : (assignEach es X.env).findIdx? (·.1) = none := by rfl) : GDv X G vs (.Tuple es k pos) (gTupD (lenIs n gs)) := by
  refine ⟨PG.imp (PG.or (pg_tup hc h.pgs hn hst) (pg_lst hc h.pgs hn hst)) fun v σ H Q ⟨P, A0, L0, H0, A, L, s, r, s', a, h, q⟩ => ?_⟩
  unfold gTupD at h
  have w := a.weak
  cases e1 : rd r s with
  | none => rw [e1] at h; cases h
  | some d =>
    rw [e1] at h
    simp only at h
    cases e2 : seqD d with
    | none => rw [e2] at h; cases h
    | some ds =>
      rw [e2] at h
      unfold lenIs at h
      simp only at h
      split at h
      · rename_i hl
        have pr := rd_ok w a.ok e1
        have fin : ∀ {ws : List V}, Reps X.K X.mg (Bd P A L) H ds ws → tGsv X.K X.mg G vs gs ws σ H Q := fun r => ⟨P, A, L, s, ds, s', w, r, h, fun A3 L3 σ3 H3 sr3 st3 w3 => q A3 L3 σ3 H3 sr3 (a.st.trans st3) w3⟩
        cases d with
        | tup xs => cases e2; obtain ⟨p, vs, rfl, t, r⟩ := pr.tup; exact .inl ⟨p, vs, rfl, t.sq, by rw [← r.length]; exact hl, fin r⟩
        | lst xs => cases e2; obtain ⟨p, vs, rfl, t, r⟩ := pr.lst; exact .inr ⟨p, vs, rfl, SqL.of t, by rw [← r.length]; exact hl, fin r⟩
        | scr xs => cases e2; obtain ⟨p, vs, rfl, t, r⟩ := pr.scr; exact .inr ⟨p, vs, rfl, t.sq, by rw [← r.length]; exact hl, fin r⟩
        | _ => cases e2
      · cases h
/-! ### the comprehension -/
/-- a value is frozen; no errors leave the block -/
def fzR (r : RV) (s : S) : Rs D := match fz r s with
  | some (d, s') => .ok d s'
  | none => .bad
def noErr {α : Type} (x : Rs α) : Rs α := match x with
  | .ok a s => .ok a s
  | _ => .bad
def tTrue : TV := fun s => .ok true s
def loopC (vs : List Nat) (g : GV) (t : TV) (fe : EV) : List D → List D → S → Rs (List D)
  | [], acc, s => .ok acc s
  | d :: ds, acc, s => (g (.pv d) s).bind fun _ s1 => (t s1).bind fun b s2 => if b = true then (fe s2).bind fun r s3 => (fzR r s3).bind fun y s4 => if acc.length < sizeLine then loopC vs g t fe ds (acc ++ [y]) { s4 with η := wipeN s4.η vs } else .bad
    else loopC vs g t fe ds acc { s2 with η := wipeN s2.η vs }
def eComp (vs : List Nat) (it : IV) (g : GV) (t : TV) (fe : EV) : EV := fun s => (it s).bind fun ds s1 => if noOwn s1.η vs = true then (noErr (loopC vs g t fe ds [] { s1 with η := wipeN s1.η vs })).bind fun acc s2 => .ok (.ow acc) { s2 with η := restN s1.η s2.η vs } else .bad
theorem wipeN_idem (η : List Slot) (vs : List Nat) : wipeN (wipeN η vs) vs = wipeN η vs := by
  apply List.ext_getElem?
  intro j
  by_cases hj : j ∈ vs
  · by_cases hb : j < η.length
    · rw [wipeN_in hj (by rw [wipeN_len]; exact hb), wipeN_in hj hb]
    · rw [List.getElem?_eq_none (by rw [wipeN_len, wipeN_len]; omega), List.getElem?_eq_none (by rw [wipeN_len]; omega)]
  · rw [wipeN_out hj]
/-- the slots forgotten, whatever they own -/
theorem SR.wipeA (hs : SR K mg G P A L s σ H) : ∀ vs : List Nat, ∃ A', SR K mg G P A' L { s with η := wipeN s.η vs } (wipe σ vs) H ∧ Step A L H A' L H ∧ ∀ a, some a ∈ A' → some a ∈ A
  | [] => ⟨A, hs, Step.refl _ _ _, fun _ z => z⟩
  | v :: vs => by
    obtain ⟨A', sr, st, m⟩ := SR.wipeA hs vs
    by_cases hv : v < s.η.length
    · have hv' : v < (wipeN s.η vs).length := by rw [wipeN_len]; exact hv
      have lσ := sr.lenσ
      refine ⟨A'.set v none, sr.set (x := .no) (σ' := (wipe σ vs).set v none) (ov := none) hv' (fun _ z => z) (fun _ z => nomatch z) ⟨by simp, List.getElem?_set_self (by rw [lσ]; exact hv'), fun j hj => List.getElem?_set_ne (Ne.symm hj)⟩ rfl, st.trans Step.drop, fun a z => m a ((mem_set z).elim id nofun)⟩
    · have e1 : wipeN s.η (v :: vs) = wipeN s.η vs := by
        show (wipeN s.η vs).set v .no = _
        exact List.set_eq_of_length_le (by rw [wipeN_len]; omega)
      have e2 : wipe σ (v :: vs) = wipe σ vs := by
        show (wipe σ vs).set v none = _
        exact List.set_eq_of_length_le (by rw [wipe_length, hs.lenσ]; omega)
      rw [e1, e2]
      exact ⟨A', sr, st, m⟩
/-- what is in other hands is changed -/
theorem SR.updP {p : Addr} {xs ys : List V} (hs : SR K mg G P A L s σ H) (hp : P p) (hH : H p = some (.lst xs)) (h0 : G.H0 p = none) : SR K mg G P A L s σ (upd H p (.lst ys)) := by
  have pk := hs.pOk p hp
  have mv : ∀ a o, H a = some o → ¬ Bd P A L a → Plain o → upd H p (.lst ys) a = some o ∧ ¬ Bd P A L a := fun a o h n _ => ⟨by rw [upd_ne (fun z => n (by rw [z]; exact .inr (.inr hp)))]; exact h, n⟩
  have th : ∀ a o, H a = some o → ∃ o', upd H p (.lst ys) a = some o' := fun a o h => by
    by_cases e : a = p
    · subst e; exact ⟨_, upd_same⟩
    · exact ⟨o, by rw [upd_ne e]; exact h⟩
  have neA : ∀ a, some a ∈ A → a ≠ p := fun a z e => pk.2.1 (e ▸ z)
  have tb : ∀ a, GxR.TabG H a → GxR.TabG (upd H p (.lst ys)) a := fun a ⟨ps, h, t⟩ => ⟨ps, by rw [upd_ne (fun z => by subst z; rw [hH] at h; cases h)]; exact h, t⟩
  exact { hs with
    slot := fun i x e => let ⟨ov, oa, e1, e2, q⟩ := hs.slot i x e; ⟨ov, oa, e1, e2, q.move mv (fun a vs z _ h => by rw [upd_ne (neA a (by rw [← z]; exact List.mem_of_getElem? e2))]; exact h) fun _ _ h => h⟩
    loc := fun n ds e => let ⟨a, vs, e1, e2, r⟩ := hs.loc n ds e; ⟨a, vs, e1, by rw [upd_ne (fun z => pk.2.2 (by rw [← z]; exact List.mem_of_getElem? e1))]; exact e2, r.move mv⟩
    own := fun a z => let ⟨o, e, m⟩ := hs.own a z; ⟨o, by rw [upd_ne (neA a z)]; exact e, m⟩
    tab := fun a z => tb a (hs.tab a z)
    ent := ⟨fun a o h hA hL q => by rw [upd_ne (fun z => by subst z; rw [h0] at h; cases h)]; exact hs.ent.frm a o h hA hL q, hs.ent.new, hs.ent.pre, fun a o h => let ⟨o', h'⟩ := hs.ent.there a o h; th a o' h', fun a h => tb a (hs.ent.tab a h)⟩
    pOk := fun a z => let w := hs.pOk a z; ⟨let ⟨o, e⟩ := w.1; th a o e, w.2⟩ }
theorem Step.updNew {p : Addr} {xs ys : List V} (st : Step A L H A' L' H') (hp : H p = none) (hp' : H' p = some (.lst xs)) : Step A L H A' L' (upd H' p (.lst ys)) := by
  refine ⟨fun a o h hA hL q => ?_, st.new, st.pre, fun a o h => ?_, fun a h => ?_⟩
  · rw [upd_ne (fun z => by subst z; rw [hp] at h; cases h)]; exact st.frm a o h hA hL q
  · obtain ⟨o', h'⟩ := st.there a o h
    exact ⟨o', by rw [upd_ne (fun z => by subst z; rw [hp] at h; cases h)]; exact h'⟩
  · obtain ⟨ps, h', t⟩ := st.tab a h
    exact ⟨ps, by rw [upd_ne (fun z => by subst z; rw [hp'] at h'; cases h')]; exact h', t⟩
/-- the block's contexts -/
abbrev Blk (X : Cx) (scope : Scope) (sh : Shared) (H : Hp) (C : Addr) (cl : List (Str × Addr)) (fp : List Addr) : Cx := X.blk sh H scope (compEnvC scope cl C X.env) fp
abbrev W0 : WX := fun _ _ _ _ => False
theorem Run.ok0 {x : Rs α} {Q : α → S → Prop} (h : ∃ a s', x = .ok a s' ∧ Q a s') : Run K mg G Wx P A L H σ x Q := by
  obtain ⟨a, s', e, q⟩ := h
  rw [e]; exact q
theorem bind_ok {x : Rs α} {k : α → S → Rs β} {b : β} {s' : S} (h : x.bind k = .ok b s') : ∃ a s1, x = .ok a s1 ∧ k a s1 = .ok b s' := by
  cases x with
  | ok a s1 => exact ⟨a, s1, rfl, h⟩
  | err _ _ => cases h
  | bad => cases h
theorem ed_compQ {elt tg iter : Expr} {ifs : List Expr} {scope : Scope} {own : List (Str × Nat)} {it : IV} {g : GV} {t : TV} {tt : TT} {te : TE} {σ : L2.St} {Q : VK} {vs : List Nat}
    (ht : ∀ {σ H Q}, tT K mg G W0 t σ H Q → tt σ H Q) (hte : ∀ {σ H Q}, tE K mg G W0 fe σ H Q → te σ H Q)
    (h : tE K mg G Wx (eComp vs it g t fe) σ H Q) : tLc (tI K mg G Wx it) (tGv K mg G vs g) tt te vs σ H Q := by
  obtain ⟨P, A, L, s, hs, h⟩ := h
  refine ⟨P, A, L, s, hs, (Run.bind h).imp fun ds s1 _ h1 A1 L1 H1 J sr1 ok1 st1 => ?_⟩
  by_cases nO : noOwn s1.η vs = true
  · rw [if_pos nO] at h1
    cases e : loopC vs g t fe ds [] { s1 with η := wipeN s1.η vs } with
    | bad => rw [e] at h1; exact h1.elim
    | err _ _ => rw [e] at h1; exact h1.elim
    | ok acc sf =>
      rw [e] at h1
      have h1 : PostE K mg G P A L H σ Q (.ow acc) { sf with η := restN s1.η sf.η vs } := h1
      intro p hp
      let P1 : Addr → Prop := fun a => P a ∨ a = p
      have srw := sr1.wiped nO
      have sr0 : SR K mg G P1 A1 L1 { s1 with η := wipeN s1.η vs } (wipe σ vs) (upd H1 p (.lst [])) := srw.keep (keep_upd hp) fun a z => z.imp id fun z => by subst z; exact ⟨⟨_, upd_same⟩, hp⟩
      have stp : Step A1 L1 H1 A1 L1 (upd H1 p (.lst [])) := Step.keep (keep_upd hp)
      refine ⟨fun i m H' => i + m = ds.length ∧ ∃ A' L' s' cc ccV, SR K mg G P1 A' L' s' (wipe σ vs) H' ∧ Step A1 L1 H1 A' L' H' ∧ some p ∉ A' ∧ p ∉ L' ∧ H' p = some (.lst ccV) ∧ Reps K mg (fun b => b = p ∨ Bd P A' L' b) H' cc ccV ∧ s'.η.length = s1.η.length ∧ wipeN s'.η vs = s'.η ∧
          loopC vs g t fe (ds.drop i) cc s' = .ok acc sf,
        ⟨ds.length, by omega, A1, L1, _, [], [], sr0, stp, ?_, ?_, upd_same, Reps.nil, by rw [wipeN_len], ?_, e⟩, ?_⟩
      · intro z; obtain ⟨o, eo⟩ := sr1.there p (.inl z); rw [hp] at eo; cases eo
      · intro z; obtain ⟨o, eo⟩ := sr1.there p (.inr (.inl z)); rw [hp] at eo; cases eo
      · exact wipeN_idem _ _
      · rintro i m H2 ⟨em, A2, L2, s2, cc, ccV, sr2, st2, na, nl, hpv, rc, hlen, hw, e2⟩
        have np0 : G.H0 p = none := by
          cases q : G.H0 p with
          | none => rfl
          | some o =>
            obtain ⟨o', q'⟩ := sr1.ent.there p o q
            rw [hp] at q'; cases q'
        obtain ⟨go, stop, yld⟩ := ok1 P1 A2 L2 H2 (fun a z => z.imp id fun z => by rw [z]; exact hp) st2 sr2.there
        by_cases hi : i < ds.length
        · refine .inr ⟨go i hi, fun H' => ∃ A' L' s' cc ccV, SR K mg G P1 A' L' s' (wipe σ vs) H' ∧ Step A1 L1 H1 A' L' H' ∧ some p ∉ A' ∧ p ∉ L' ∧ H' p = some (.lst ccV) ∧ Reps K mg (fun b => b = p ∨ Bd P A' L' b) H' cc ccV ∧ s'.η.length = s1.η.length ∧ wipeN s'.η vs = s'.η ∧
            loopC vs g t fe (ds.drop (i + 1)) cc s' = .ok acc sf, fun H' n => ⟨m - 1, by omega, by omega, n⟩, fun x H3 y => ?_⟩
          have ro := yld i _ x H3 (List.getElem?_eq_getElem hi) y
          rw [Reps.nth hi] at e2
          unfold loopC at e2
          obtain ⟨_, s3, eg, e2⟩ := bind_ok e2
          obtain ⟨b, s4, et, e2⟩ := bind_ok e2
          have a2 : At K mg G P1 A2 L2 H2 (wipe σ vs) A2 L2 s2 H3 (.pv ds[i]) x := At.mk' sr2 (Step.refl _ _ _) sr2.p0 ro
          refine ⟨P1, A2, L2, H2, A2, L2, s2, _, s3, a2, eg, fun A3 L3 σ3 H4 sr3 st3 w3 => ?_⟩
          have w3 : wipe σ3 vs = wipe σ vs := w3.trans (wipe_ext (wipe_length _ _) fun j hj => wipe_out hj)
          have l3 : s3.η.length = s1.η.length := by rw [← sr3.lenσ, ← wipe_length σ3 vs, w3, sr2.lenσ]; exact hlen
          refine ⟨w3, ht ⟨P1, A3, L3, s3, sr3, Run.ok0 ⟨b, s4, et, fun A4 L4 H5 sr4 st4 => ?_⟩⟩⟩
          have l4 : s4.η.length = s1.η.length := by rw [← sr4.lenσ, sr3.lenσ]; exact l3
          cases b with
          | true =>
            rw [if_pos rfl] at e2
            obtain ⟨r, s5, ef, e2⟩ := bind_ok e2
            obtain ⟨y', s6, ez, e2⟩ := bind_ok e2
            refine iteT (hte ⟨P1, A4, L4, s4, sr4, Run.ok0 ⟨r, s5, ef, fun A5 L5 v H6 a5 => ?_⟩⟩)
            have ez : fz r s5 = some (y', s6) := by
              unfold fzR at ez
              split at ez
              · rename_i q; cases ez; exact q
              · cases ez
            split at e2
            · rename_i hz
              obtain ⟨A6, sr6, rp, st6⟩ := a5.frz ez
              have S' := st3.trans (st4.trans st6)
              have out := S'.out hpv na nl
              have h6 := S'.frm p _ hpv na nl (fun _ => nofun)
              obtain ⟨A7, sr7, st7, m7⟩ := sr6.wipeA vs
              rw [w3] at sr7
              have na7 : some p ∉ A7 := fun z => out.1 (m7 p z)
              refine ⟨ccV, h6, by rw [← rc.length]; exact hz, A7, L5, _, cc ++ [y'], ccV ++ [v], sr7.updP (.inr rfl) h6 np0, ((st2.trans S').trans st7).updNew hp h6, na7, out.2, upd_same, ?_, ?_, wipeN_idem _ _, e2⟩
              · refine Reps.append (rc.move fun a o h n pl => ?_) (Reps.one (rp.move fun a o h n pl => ?_))
                · have z := (S'.trans st7).mv (P := P) a o h (fun w => n (.inr w)) pl
                  have ne : a ≠ p := fun w => n (.inl w)
                  exact ⟨by rw [upd_ne ne]; exact z.1, fun w => w.elim ne z.2⟩
                · have ne : a ≠ p := fun w => n (.inr (.inr (.inr w)))
                  refine ⟨by rw [upd_ne ne]; exact h, fun w => w.elim ne fun w => ?_⟩
                  rcases w with w | w | w
                  · exact n (.inl (m7 a w))
                  · exact n (.inr (.inl w))
                  · exact n (.inr (.inr (.inl w)))
              · show (wipeN s6.η vs).length = _
                rw [wipeN_len, ← sr6.lenσ, sr4.lenσ]; exact l4
            · cases e2
          | false =>
            rw [if_neg (by decide)] at e2
            have S' := st3.trans st4
            have out := S'.out hpv na nl
            have h5 := S'.frm p _ hpv na nl (fun _ => nofun)
            obtain ⟨A7, sr7, st7, m7⟩ := sr4.wipeA vs
            rw [w3] at sr7
            refine iteF ⟨A7, L4, _, cc, ccV, sr7, (st2.trans S').trans st7, fun z => out.1 (m7 p z), out.2, h5, rc.move fun a o h n pl => ?_, ?_, wipeN_idem _ _, e2⟩
            · have z := (S'.trans st7).mv (P := P) a o h (fun w => n (.inr w)) pl
              exact ⟨z.1, fun w => w.elim (fun w => n (.inl w)) z.2⟩
            · show (wipeN s4.η vs).length = _
              rw [wipeN_len]; exact l4
        · have e3 : i = ds.length := by omega
          subst e3
          rw [List.drop_length] at e2
          unfold loopC at e2
          cases e2
          have own : ∀ a, Own (.ow acc) (.ref p) a → a = p := fun a z => by have := z.2; cases this; rfl
          have srw' : SR K mg G (Wi P (.ow acc) (.ref p)) A2 L2 { sf with η := wipeN sf.η vs } (wipe σ vs) H2 := by
            rw [hw]
            exact sr2.lessP fun a z => z.imp id (own a)
          refine .inl ⟨stop, h1 A2 L2 (.ref p) H2 ⟨?_, ⟨p, ccV, rfl, hpv, rc, na, nl, np0⟩, fun a z => ?_, st1.trans st2, hs.p0⟩⟩
          · exact SR.rest sr1 nO st2 (fun a z => z.imp id fun z => by rw [own a z]; exact hp) srw' hlen
          · have := own a z
            subst this
            cases q : H a with
            | none => exact .inr rfl
            | some o =>
              obtain ⟨o', q'⟩ := st1.there a o q
              rw [hp] at q'; cases q'
  · rw [if_neg nO] at h1; exact h1.elim
/-- the tests of a comprehension -/
structure CD (X : Cx) (G : Gm) (ifs : List Expr) (t : TV) (tt : TT) : Prop where
  pts : PTs X ifs tt
  of : ∀ {σ H Q}, tT X.K X.mg G W0 t σ H Q → tt σ H Q
theorem cd_nil : CD X G [] tTrue tYes := ⟨pts_nil, fun ⟨P, A, L, s, hs, h⟩ => h A L _ hs (Step.refl _ _ _)⟩
theorem cd_one {t : TV} (h : TD X G W0 c t) : CD X G [c] t (tT X.K X.mg G W0 t) := ⟨pts_one h.pt, fun h => h⟩
variable {elt tg iter : Expr} {ifs : List Expr} {scope : Scope} {own : List (Str × Nat)} {it : IV} {g : GV} {t : TV} {tt : TT}
theorem ed_comp (own : List (Str × Nat)) (hc : X.calm = true) (hN : X.N.Nodup) (hi : ID X G Wx tg iter it) (ok : BlkOk X.N X.env.scope scope own)
    (hg : ∀ (s : Shared) (H : Hp) (C : Addr) (cl : List (Str × Addr)) (fp : List Addr), GDv (Blk X scope s H C cl fp) G (own.map (·.2)) tg g)
    (ht : ∀ (s : Shared) (H : Hp) (C : Addr) (cl : List (Str × Addr)) (fp : List Addr), CD (Blk X scope s H C cl fp) G ifs t tt)
    (he : ∀ (s : Shared) (H : Hp) (C : Addr) (cl : List (Str × Addr)) (fp : List Addr), ED (Blk X scope s H C cl fp) G W0 elt fe) (hs : ∀ x, foldedSetIterable iter X.env x = pure x := by intro _; rfl) :
    ED X G Wx (.ListComp elt [⟨tg, iter, ifs, 0⟩] scope pos) (eComp (own.map (·.2)) it g t fe) := by
  refine ⟨⟨fun pins sh σ H Q I h => ?_⟩⟩
  exact (pe_lc (te := tE X.K X.mg G W0 fe) (g := tGv X.K X.mg G (own.map (·.2)) g) hc hN hi.pi ok (fun s H C cl fp => (hg s H C cl fp).pg) (fun s H C cl fp => (ht s H C cl fp).pts) (fun s H C cl fp => (he s H C cl fp).pe) hs).run pins sh σ H Q I
    (ed_compQ (elt := elt) (tg := tg) (iter := iter) (ifs := ifs) (scope := scope) (own := own) (ht sh H 0 [] []).of (fun h => h) h)
theorem sd_setComp {i : Nat} {y : Str} {py spos : Pos} (own : List (Str × Nat)) (hc : X.calm = true) (hN : X.N.Nodup) (hy : X.N[i]? = some y) (hyl : X.env.scope.names.lookup y = some .local)
    (hsw : swapsWith (.ListComp elt [⟨tg, iter, ifs, 0⟩] scope pos) (some (.Name y py)) spos.line X.env = pure true) (hi : ID X G Wx tg iter it) (ok : BlkOk X.N X.env.scope scope own)
    (hg : ∀ (s : Shared) (H : Hp) (C : Addr) (cl : List (Str × Addr)) (fp : List Addr), GDv (Blk X scope s H C cl fp) G (own.map (·.2)) tg g)
    (ht : ∀ (s : Shared) (H : Hp) (C : Addr) (cl : List (Str × Addr)) (fp : List Addr), CD (Blk X scope s H C cl fp) G ifs t tt)
    (he : ∀ (s : Shared) (H : Hp) (C : Addr) (cl : List (Str × Addr)) (fp : List Addr), ED (Blk X scope s H C cl fp) G W0 elt fe) (hs : ∀ x, foldedSetIterable iter X.env x = pure x := by intro _; rfl) :
    SD X G Wx (.Assign [.Name y py] (.ListComp elt [⟨tg, iter, ifs, 0⟩] scope pos) spos) (sAsg (eComp (own.map (·.2)) it g t fe) (gSet i)) := by
  refine ⟨⟨fun pins sh σ H Dn I h => ?_⟩⟩
  refine (ps_setLc (te := tE X.K X.mg G W0 fe) (g := tGv X.K X.mg G (own.map (·.2)) g) hc hN hy hyl hsw hi.pi ok (fun s H C cl fp => (hg s H C cl fp).pg) (fun s H C cl fp => (ht s H C cl fp).pts) (fun s H C cl fp => (he s H C cl fp).pe) hs).run pins sh σ H Dn I ?_
  refine ed_compQ (Wx := Wx) (elt := elt) (tg := tg) (iter := iter) (ifs := ifs) (scope := scope) (own := own) (ht sh H 0 [] []).of (fun h => h) ?_
  exact tE.mono (tS_asg h) fun v H1 ⟨P, A0, L0, H0, A, L, s, r, a, h⟩ => run_gSet a h
end
end DL
namespace DL
open PySem PySem.Spec PyProof.Rows L2
section
variable {K : PySem.W.Frag} {mg : Str → Option Value} {X : Cx} {G : Gm} {Wx : WX} {a b c e : Expr} {es : List Expr} {fa fb fc fe : EV} {pos : Pos} {α β : Type}
variable {P P' : Addr → Prop} {A A' A1 : List (Option Addr)} {σ σ' : L2.St} {L L' L1 : List Addr} {H H' H1 : Hp} {s s' : S} {vs : List Nat}
/-! ### a list is changed in its place -/
def lstAt (i : Nat) (s : S) : Option (List D) := match s.η[i]? with
  | some (.ow ds) => some ds
  | some (.lc n) => s.W[n]?
  | _ => none
def lstPut (i : Nat) (ds : List D) (s : S) : S := match s.η[i]? with
  | some (.ow _) => { s with η := s.η.set i (.ow ds) }
  | some (.lc n) => { s with W := s.W.set n ds }
  | _ => s
theorem Step.mutate {p : Addr} {xs ys : List V} (hp : some p ∈ A ∨ p ∈ L) (hH : H p = some (.lst xs)) : Step A L H A L (upd H p (.lst ys)) := by
  refine ⟨fun a o h hA hL q => ?_, fun a h => h.elim .inl fun h => .inr (.inl h), ⟨[], by simp⟩, fun a o h => ?_, fun a ⟨ps, h, t⟩ => ⟨ps, ?_, t⟩⟩
  · rw [upd_ne (fun z => by subst z; exact hp.elim hA hL)]; exact h
  · by_cases e : a = p
    · subst e; exact ⟨_, upd_same⟩
    · exact ⟨o, by rw [upd_ne e]; exact h⟩
  · rw [upd_ne (fun z => by subst z; rw [hH] at h; cases h)]; exact h
theorem mut_mv {p : Addr} {ys : List V} (hp : some p ∈ A ∨ p ∈ L) : ∀ a o, H a = some o → ¬ Bd P A L a → Plain o → upd H p (.lst ys) a = some o ∧ ¬ Bd P A L a := fun a o h n _ =>
  ⟨by rw [upd_ne (fun z => by subst z; exact n (hp.elim .inl fun z => .inr (.inl z)))]; exact h, n⟩
theorem SR.mutate {i : Nat} {ds ds' : List D} (hs : SR K mg G P A L s σ H) (e : lstAt i s = some ds) : ∃ p xs, σ[i]? = some (some (.ref p)) ∧ H p = some (.lst xs) ∧ Reps K mg (Bd P A L) H ds xs ∧ (some p ∈ A ∨ p ∈ L) ∧
    ∀ ds' ys, Reps K mg (Bd P A L) H ds' ys → SR K mg G P A L (lstPut i ds' s) σ (upd H p (.lst ys)) ∧ Step A L H A L (upd H p (.lst ys)) := by
  unfold lstAt at e
  split at e
  · rename_i ds0 q
    cases e
    obtain ⟨hi, ov, oa, e1, e2, p, xs, rfl, rfl, e3, r⟩ := hs.slot' q
    have up : some p ∈ A := List.mem_of_getElem? e2
    refine ⟨p, xs, e1, e3, r, .inl up, fun ds' ys r' => ⟨?_, Step.mutate (.inl up) e3⟩⟩
    have ep : lstPut i ds' s = { s with η := s.η.set i (.ow ds') } := by unfold lstPut; rw [q]
    rw [ep]
    have mv := mut_mv (P := P) (H := H) (A := A) (L := L) (p := p) (ys := ys) (.inl up)
    exact { hs with
      lenσ := by show σ.length = (s.η.set i _).length; rw [List.length_set]; exact hs.lenσ
      lenA := by show A.length = (s.η.set i _).length; rw [List.length_set]; exact hs.lenA
      slot := fun j x ej => by
        have ej : (s.η.set i (.ow ds'))[j]? = some x := ej
        by_cases hj : j = i
        · subst hj
          rw [List.getElem?_set_self hi] at ej
          cases ej
          exact ⟨_, _, e1, e2, p, ys, rfl, rfl, upd_same, r'.move mv⟩
        · rw [List.getElem?_set_ne (Ne.symm hj)] at ej
          obtain ⟨ov', oa', f1, f2, so⟩ := hs.slot j x ej
          exact ⟨ov', oa', f1, f2, so.move mv (fun a vs z _ h => by rw [upd_ne (fun w => by subst w; rw [z] at f2; exact hj (hs.uniq j i a f2 e2))]; exact h) fun _ _ h => h⟩
      exn := fun j ej => by
        have ej : (s.η.set i (.ow ds'))[j]? = some .ex := ej
        by_cases hj : j = i
        · subst hj
          rw [List.getElem?_set_self hi] at ej
          cases ej
        · rw [List.getElem?_set_ne (Ne.symm hj)] at ej
          exact hs.exn j ej
      loc := fun n ds e => by
        obtain ⟨a, vs, f1, f2, f3⟩ := hs.loc n ds e
        exact ⟨a, vs, f1, by rw [upd_ne (fun w => by subst w; exact hs.apart a up (List.mem_of_getElem? f1))]; exact f2, f3.move mv⟩
      own := fun a z => by
        by_cases h : a = p
        · subst h; exact ⟨_, upd_same, .inl ⟨ys, rfl⟩⟩
        · obtain ⟨o, e, m⟩ := hs.own a z; exact ⟨o, by rw [upd_ne h]; exact e, m⟩
      tab := fun a z => (Step.mutate (A := A) (L := L) (ys := ys) (.inl up) e3).tab a (hs.tab a z)
      ent := by
        refine ⟨fun a o h hA hL q => ?_, hs.ent.new, hs.ent.pre, fun a o h => ?_, fun a h => (Step.mutate (A := A) (L := L) (ys := ys) (.inl up) e3).tab a (hs.ent.tab a h)⟩
        · rw [upd_ne (fun z => by subst z; have := hs.ownNew a up; rw [this] at h; cases h)]; exact hs.ent.frm a o h hA hL q
        · obtain ⟨o', h'⟩ := hs.ent.there a o h; exact (Step.mutate (A := A) (L := L) (ys := ys) (.inl up) e3).there a o' h'
      pOk := fun a z => let w := hs.pOk a z; ⟨let ⟨o, e⟩ := w.1; (Step.mutate (A := A) (L := L) (ys := ys) (.inl up) e3).there a o e, w.2⟩ }
  · rename_i n q
    obtain ⟨hi, ov, oa, e1, e2, rfl, p, e3, rfl⟩ := hs.slot' q
    obtain ⟨p', xs, f1, f2, r⟩ := hs.loc n ds e
    rw [e3] at f1; cases f1
    have up : p ∈ L := List.mem_of_getElem? e3
    refine ⟨p, xs, e1, f2, r, .inr up, fun ds' ys r' => ⟨?_, Step.mutate (.inr up) f2⟩⟩
    have ep : lstPut i ds' s = { s with W := s.W.set n ds' } := by unfold lstPut; rw [q]
    rw [ep]
    have mv := mut_mv (P := P) (H := H) (A := A) (L := L) (p := p) (ys := ys) (.inr up)
    have nA : ∀ a, some a ∈ A → a ≠ p := fun a z w => by subst w; exact hs.apart a z up
    exact { hs with
      lenL := by show L.length = (s.W.set n ds').length; rw [List.length_set]; exact hs.lenL
      slot := fun j x ej => by
        obtain ⟨ov', oa', f1, f2', so⟩ := hs.slot j x ej
        exact ⟨ov', oa', f1, f2', so.move mv (fun a vs z _ h => by rw [upd_ne (nA a (by rw [← z]; exact List.mem_of_getElem? f2'))]; exact h) fun _ _ h => h⟩
      loc := fun m es ee => by
        have ee : (s.W.set n ds')[m]? = some es := ee
        by_cases hm : m = n
        · subst hm
          rw [List.getElem?_set_self (by have := (List.getElem?_eq_some_iff.mp e3).1; rw [hs.lenL] at this; exact this)] at ee
          cases ee
          exact ⟨p, ys, e3, upd_same, r'.move mv⟩
        · rw [List.getElem?_set_ne (Ne.symm hm)] at ee
          obtain ⟨a, vs, g1, g2, g3⟩ := hs.loc m es ee
          refine ⟨a, vs, g1, ?_, g3.move mv⟩
          rw [upd_ne (fun w => ?_)]; exact g2
          subst w
          obtain ⟨l1, q1⟩ := List.getElem?_eq_some_iff.mp g1
          obtain ⟨l2, q2⟩ := List.getElem?_eq_some_iff.mp e3
          exact hm ((List.getElem_inj hs.nd).mp (q1.trans q2.symm))
      own := fun a z => let ⟨o, e, m⟩ := hs.own a z; ⟨o, by rw [upd_ne (nA a z)]; exact e, m⟩
      tab := fun a z => (Step.mutate (A := A) (L := L) (ys := ys) (.inr up) f2).tab a (hs.tab a z)
      ent := by
        refine ⟨fun a o h hA hL q => ?_, hs.ent.new, hs.ent.pre, fun a o h => ?_, fun a h => (Step.mutate (A := A) (L := L) (ys := ys) (.inr up) f2).tab a (hs.ent.tab a h)⟩
        · rw [upd_ne (fun z => ?_)]; exact hs.ent.frm a o h hA hL q
          subst z
          rcases hs.ent.new a (.inr up) with w | w | w
          · cases w
          · exact hL w
          · rw [w] at h; cases h
        · obtain ⟨o', h'⟩ := hs.ent.there a o h; exact (Step.mutate (A := A) (L := L) (ys := ys) (.inr up) f2).there a o' h'
      pOk := fun a z => let w := hs.pOk a z; ⟨let ⟨o, e⟩ := w.1; (Step.mutate (A := A) (L := L) (ys := ys) (.inr up) f2).there a o e, w.2⟩ }
  · cases e
/-! xs.append(e), xs.pop(), xs.extend(e) -/
theorem run_fzR {P : Addr → Prop} {A A1 : List (Option Addr)} {L L1 : List Addr} {s1 : S} {σ : L2.St} {H H1 : Hp} {r : RV} {v : V} {k : D → S → Rs α} {Qf : α → S → Prop} (at1 : At K mg G P A L H σ A1 L1 s1 H1 r v)
    (h : Run K mg G Wx P A L H σ ((fzR r s1).bind k) Qf) : ∃ A2 s2 d, SR K mg G P A2 L1 s2 σ H1 ∧ Rep K mg (Bd P A2 L1) H1 d v ∧ Step A L H A2 L1 H1 ∧ Run K mg G Wx P A L H σ (k d s2) Qf := by
  unfold fzR at h
  split at h
  · rename_i d s' e
    obtain ⟨A2, sr, rp, st⟩ := at1.frz e
    exact ⟨A2, s', d, sr, rp, st, h⟩
  · exact h.elim
def eApp (i : Nat) (fe : EV) : EV := fun s => match lstAt i s with
  | some _ => (fe s).bind fun r s1 => (fzR r s1).bind fun y s2 => match lstAt i s2 with
    | some ds => if ds.length < sizeLine then .ok (.pv .non) (lstPut i (ds ++ [y]) s2) else .bad
    | none => .bad
  | none => .bad
theorem At.non (hs : SR K mg G P A1 L1 s σ H1) (st : Step A L H A1 L1 H1) (p0 : ∀ a, P a → (∃ o, H a = some o) ∧ some a ∉ A) : At K mg G P A L H σ A1 L1 s H1 (.pv .non) .non := At.mk' hs st p0 (ResOk.same (by unfold Rep; rfl))
theorem ed_append (i : Nat) {x : Str} {p apos cpos : Pos} (ho : PE X (.Name x p) (tVar i)) (he : ED X G Wx e fe)
    (hbase : attributeBase (.Name x p) "append" X.env (eval (.Name x p) X.env) = eval (.Name x p) X.env := by rfl)
    (hfew : ((backTo cpos (starEach [e] X.env)).all (fun x => !x.1) && (backToKw cpos (keywordEach [] X.env)).all (fun x => x.1.isSome) && decide ([e].length + ([] : List Keyword).length + (if ([] : List Keyword).isEmpty then 0 else 1) < 30)) = true := by rfl)
    (hline : (apos.endLine == cpos.line) = true := by rfl) (hs : starEach [e] X.env = (false, eval e X.env) :: starEach [] X.env := by rfl) : ED X G Wx (.Call (.Attribute (.Name x p) "append" apos) [e] [] cpos) (eApp i fe) := by
  refine ⟨PE.imp (pe_bm PySem.F.plainAttrs_list PySem.F.slot_list_append PySem.F.type_list_append mt_append ho (pa_cons he.pe pa_nil hs) hbase hfew hline hs rfl) fun σ H Q ⟨P, A, L, s, hs, h⟩ => ?_⟩
  unfold eApp at h
  split at h
  · rename_i ds0 e0
    obtain ⟨q0, xs0, e1, e2, _, _, _⟩ := hs.mutate (ds' := []) e0
    refine ⟨_, e1, .inl ⟨rfl, _, SqL.of e2⟩, (tE_one hs h).mono fun v H1 ⟨A1, L1, s1, r, a1, h1⟩ => ?_⟩
    obtain ⟨A2, s2, y, sr2, rp, st2, h2⟩ := run_fzR a1 h1
    split at h2
    · rename_i ds e3
      split at h2
      · rename_i hz
        obtain ⟨q, xs, f1, f2, f3, f4, f5⟩ := sr2.mutate (ds' := []) e3
        rw [e1] at f1; cases f1
        obtain ⟨sr3, st3⟩ := f5 (ds ++ [y]) (xs ++ [v]) (f3.append (Reps.one rp))
        exact ⟨q0, xs, v, rfl, rfl, f2, by rw [← f3.length]; exact hz, h2 A2 L1 _ _ (At.non sr3 (st2.trans st3) hs.p0)⟩
      · exact h2.elim
    · exact h2.elim
  · exact h.elim
def ePop (i : Nat) : EV := fun s => match lstAt i s with
  | some ds => match ds[ds.length - 1]? with
    | some d => .ok (.pv d) (lstPut i ds.dropLast s)
    | none => .bad
  | none => .bad
theorem Reps.dropLast {B : Addr → Prop} {ds : List D} {xs : List V} (h : Reps K mg B H ds xs) : Reps K mg B H ds.dropLast xs.dropLast := by
  rw [List.dropLast_eq_take, List.dropLast_eq_take, ← h.length]
  exact h.take _
theorem ed_pop (i : Nat) {x : Str} {p apos cpos : Pos} (ho : PE X (.Name x p) (tVar i)) (hbase : attributeBase (.Name x p) "pop" X.env (eval (.Name x p) X.env) = eval (.Name x p) X.env := by rfl) (hline : (apos.endLine == cpos.line) = true := by rfl) :
    ED X G Wx (.Call (.Attribute (.Name x p) "pop" apos) [] [] cpos) (ePop i) := by
  refine ⟨PE.imp (pe_bm0 PySem.F.plainAttrs_list PySem.F.slot_list_pop PySem.F.type_list_pop mt_pop ho hbase hline) fun σ H Q ⟨P, A, L, s, hs, h⟩ => ?_⟩
  unfold ePop at h
  split at h
  · rename_i ds e0
    split at h
    · rename_i d ed
      obtain ⟨q0, xs, e1, e2, r, m, f5⟩ := hs.mutate (ds' := []) e0
      obtain ⟨v, ev, rv⟩ := r.get ed
      rw [r.length] at ev
      obtain ⟨sr3, st3⟩ := f5 _ _ r.dropLast
      exact ⟨_, e1, .inl ⟨rfl, _, SqL.of e2⟩, q0, xs, v, rfl, rfl, e2, ev, h A L _ _ (At.mk' sr3 st3 hs.p0 (ResOk.same (rv.move (mut_mv m))))⟩
    · exact h.elim
  · exact h.elim
end
theorem extend_tup (l : Addr) (items : Array Value) (n : Nat) (b : Addr) (items2 : Array Value) (n2 : Nat) (dd : Option Addr) (sl : Array (Option Value)) (hs0 : ¬(!items.isEmpty && Builtin.List.listTooLong (items.size + items2.size)) = true) (hs1 : items.size ≤ sizeLine) (hs2 : items.size + items2.size ≤ sizeLine + 1) :
    Meets (Builtin.«list.extend» ⟨[.ref l, .ref b], []⟩) (fun _ R s => s.heap.get? l = some { cls := .type "list", dict := none, data := .seq items n, slots := #[] } ∧
      s.heap.get? b = some { cls := .type "tuple", dict := dd, data := .seq items2 n2, slots := sl } ∧ R (.ok (.ret Value.none)) { s with heap := s.heap.update l (Obj.mapSeq fun x => x ++ items2), toks := s.toks }) :=
  .of_wp fun prog w A R s h => by
    obtain ⟨hp, g, d, tk, os⟩ := s
    obtain ⟨hl, hb, h⟩ := h
    have f1 := AutoSeq1.idx_int
    have f2 := AutoSeq1.sub_tuple_tuple
    have f3 := AutoSeq1.sub_list_list
    have f4 := AutoSeq1.sub_tuple_list
    have f5 := AutoSeq1.sub_list_tuple
    have hz' : (items ++ items2).size ≤ sizeLine + 1 := by rw [Array.size_append]; exact hs2
    wp_walk using (wpAny_updateSeq hl rfl (hz := hs1) (_hz' := hz')), AutoSeq1.wpAny_loadPart' hl, AutoSeq1.wpAny_loadPart' hb
    exact ⟨_, rfl, h⟩
section
variable {K : PySem.W.Frag} {mg : Str → Option Value} {X : Cx} {G : Gm} {Wx : WX} {a b c e : Expr} {es : List Expr} {fa fb fc fe : EV} {pos : Pos} {α β : Type}
variable {P P' : Addr → Prop} {A A' A1 : List (Option Addr)} {σ σ' : L2.St} {L L' L1 : List Addr} {H H' H1 : Hp} {s s' : S} {vs : List Nat}
def rExtA (K : PySem.W.Frag) : V → List V → Hp → VK → Prop := fun x vs H Q => ∃ l b xs zs, x = .ref l ∧ vs = [.ref b] ∧ H l = some (.lst xs) ∧ (H b = some (.lst zs) ∨ SqT K H b zs) ∧ xs.length + zs.length ≤ sizeLine ∧ Q .non (upd H l (.lst (xs ++ zs)))
theorem mt_extA : MtR X "list.extend" (rExtA X.K) := by
  intro pins s σ H x vs v us Q I rx rv h
  obtain ⟨l, b, xs, zs, rfl, rfl, hH, hB, hz, q⟩ := h
  rcases hB with hB | hB
  · exact mt_extend pins s σ H (.ref l) [.ref b] v us Q I rx rv ⟨l, b, xs, zs, rfl, rfl, hH, hB, hz, q⟩
  · cases rx
    obtain ⟨u, rfl, ru⟩ := rv.one
    cases ru
    obtain ⟨z, its, n, r, hl, ee⟩ := I.lstM hH
    obtain ⟨its2, r2, ⟨ob, e2, c2, n2, d2⟩, z2⟩ := I.tuple hB
    have hsz : its.toArray.size + its2.toArray.size ≤ sizeLine := by rw [List.size_toArray, List.size_toArray, ← r2.length]; omega
    have hlong : ¬ (!its.toArray.isEmpty && Builtin.List.listTooLong (its.toArray.size + its2.toArray.size)) = true := by
      rw [notLongL hsz, Bool.and_false]
      exact Bool.false_ne_true
    obtain ⟨oc, od, odt, osl⟩ := ob
    cases c2
    cases d2
    refine call_meets F.slot_list_extend ⟨_, ee, rfl⟩ F.entry_list_extend (F.args_list_extend_2 _ _)
      (extend_tup l its.toArray n b its2.toArray n2 od osl hlong (by rw [List.size_toArray]; omega) (by omega)) ⟨ee, e2, ?_⟩
    refine ⟨.non, _, I.lset (its' := its ++ its2) hH ee (by simp) (r.append r2) ?_, rfl, q⟩
    rw [List.length_append]
    omega
def eExt (i : Nat) (fe : EV) : EV := fun s => match lstAt i s with
  | some _ => (fe s).bind fun r s1 => match rd r s1, lstAt i s1 with
    | some (.lst zs), some ds => if ds.length + zs.length ≤ sizeLine then .ok (.pv .non) (lstPut i (ds ++ zs) s1) else .bad
    | some (.tup zs), some ds => if ds.length + zs.length ≤ sizeLine then .ok (.pv .non) (lstPut i (ds ++ zs) s1) else .bad
    | _, _ => .bad
  | none => .bad
theorem ed_extend (i : Nat) {x : Str} {p apos cpos : Pos} (ho : PE X (.Name x p) (tVar i)) (he : ED X G Wx e fe)
    (hbase : attributeBase (.Name x p) "extend" X.env (eval (.Name x p) X.env) = eval (.Name x p) X.env := by rfl)
    (hfew : ((backTo cpos (starEach [e] X.env)).all (fun x => !x.1) && (backToKw cpos (keywordEach [] X.env)).all (fun x => x.1.isSome) && decide ([e].length + ([] : List Keyword).length + (if ([] : List Keyword).isEmpty then 0 else 1) < 30)) = true := by rfl)
    (hline : (apos.endLine == cpos.line) = true := by rfl) (hs : starEach [e] X.env = (false, eval e X.env) :: starEach [] X.env := by rfl) : ED X G Wx (.Call (.Attribute (.Name x p) "extend" apos) [e] [] cpos) (eExt i fe) := by
  refine ⟨PE.imp (pe_bm PySem.F.plainAttrs_list PySem.F.slot_list_extend PySem.F.type_list_extend mt_extA ho (pa_cons he.pe pa_nil hs) hbase hfew hline hs rfl) fun σ H Q ⟨P, A, L, s, hs, h⟩ => ?_⟩
  unfold eExt at h
  split at h
  · rename_i ds0 e0
    obtain ⟨q0, xs0, e1, e2, _, _, _⟩ := hs.mutate (ds' := []) e0
    refine ⟨_, e1, .inl ⟨rfl, _, SqL.of e2⟩, (tE_one hs h).mono fun v H1 ⟨A1, L1, s1, r, a1, h1⟩ => ?_⟩
    split at h1
    · rename_i zs ds e3 e4
      split at h1
      · rename_i hz
        obtain ⟨q, xs, f1, f2, f3, f4, f5⟩ := a1.weak.mutate (ds' := []) e4
        rw [e1] at f1; cases f1
        obtain ⟨b, ws, rfl, g1, g2⟩ := (rd_ok a1.weak a1.ok e3).lst
        obtain ⟨sr3, st3⟩ := f5 (ds ++ zs) (xs ++ ws) (f3.append g2)
        exact ⟨q0, b, xs, ws, rfl, rfl, f2, .inl g1, by rw [← f3.length, ← g2.length]; exact hz, h1 A1 L1 _ _ (At.non sr3 (a1.st.trans st3) hs.p0)⟩
      · exact h1.elim
    · rename_i zs ds e3 e4
      split at h1
      · rename_i hz
        obtain ⟨q, xs, f1, f2, f3, f4, f5⟩ := a1.weak.mutate (ds' := []) e4
        rw [e1] at f1; cases f1
        obtain ⟨b, ws, rfl, g1, g2⟩ := (rd_ok a1.weak a1.ok e3).tup
        obtain ⟨sr3, st3⟩ := f5 (ds ++ zs) (xs ++ ws) (f3.append g2)
        exact ⟨q0, b, xs, ws, rfl, rfl, f2, .inr g1.sq, by rw [← f3.length, ← g2.length]; exact hz, h1 A1 L1 _ _ (At.non sr3 (a1.st.trans st3) hs.p0)⟩
      · exact h1.elim
    · exact h1.elim
  · exact h.elim
/-! ### xs[i] = e -/
def gSubD (i : Nat) (fi : EV) : GV := fun r s => (fzR r s).bind fun d s1 => match lstAt i s1 with
  | some _ => (fi s1).bind fun ri s2 => match rd ri s2, lstAt i s2 with
    | some (.int k), some ds => match ixN ds.length k with
      | some j => .ok () (lstPut i (ds.set j d) s2)
      | none => .bad
    | _, _ => .bad
  | none => .bad
theorem run_fzRS {P : Addr → Prop} {A A1 : List (Option Addr)} {L L1 : List Addr} {s1 : S} {σ : L2.St} {H H1 : Hp} {r : RV} {v : V} {k : D → S → Rs α} {Qf : α → S → Prop} (at1 : At K mg G P A L H σ A1 L1 s1 H1 r v)
    (h : RunS K mg G Wx P A L H ((fzR r s1).bind k) Qf) : ∃ A2 s2 d, SR K mg G P A2 L1 s2 σ H1 ∧ Rep K mg (Bd P A2 L1) H1 d v ∧ Step A L H A2 L1 H1 ∧ RunS K mg G Wx P A L H (k d s2) Qf := by
  unfold fzR at h
  split at h
  · rename_i d s' e
    obtain ⟨A2, sr, rp, st⟩ := at1.frz e
    exact ⟨A2, s', d, sr, rp, st, h⟩
  · exact h.elim
theorem gd_sub (i : Nat) {x : Str} {p : Pos} (ho : PE X (.Name x p) (tVar i)) (hi : ED X G Wx e fe)
    (ha : ∀ v, assign (.Subscript (.Name x p) e pos) X.env v = (do
      let ov ← holding [v] (eval (.Name x p) X.env)
      let iv ← holding [v, ov] (eval e X.env)
      standAt pos
      holding [v, ov, iv] (setItem ov iv v)
      release [v, ov, iv] []) := by intro _; rfl) : GD X G Wx (.Subscript (.Name x p) e pos) (gSubD i fe) := by
  refine ⟨PG.imp (pg_sub ho hi.pe set_list ha) fun v σ H Q ⟨P, A0, L0, H0, A, L, s, r, a, h⟩ => ?_⟩
  obtain ⟨A2, s2, d, sr2, rp, st2, h⟩ := run_fzRS a h
  split at h
  · rename_i ds0 e0
    obtain ⟨q0, xs0, e1, e2, _, _, _⟩ := sr2.mutate (ds' := []) e0
    refine ⟨_, e1, P, A2, L, s2, sr2, ((RunS.bind h).on st2 fun _ z => z).run.imp fun ri s3 _ h3 A3 L3 v3 H3 a3 => ?_⟩
    split at h3
    · rename_i k ds e3 e4
      split at h3
      · rename_i j ej
        obtain ⟨q, xs, f1, f2, f3, f4, f5⟩ := a3.weak.mutate (ds' := []) e4
        rw [e1] at f1; cases f1
        obtain ⟨sr4, st4⟩ := f5 (ds.set j d) (xs.set j v) (f3.set j (rp.step a3.st))
        exact ⟨q0, xs, k, j, rfl, (rd_ok a3.weak a3.ok e3).int, f2, by rw [← f3.length]; exact ej, h3 A3 L3 σ _ sr4 ((st2.trans a3.st).trans st4)⟩
      · exact h3.elim
    · exact h3.elim
  · exact h.elim
/-! ### name op= e -/
def sAug (i : Nat) (f : Ob2) (fe : EV) : SV := fun s => match s.η[i]? with
  | some (.pv a) => (fe s).bind fun rb s1 => match rd rb s1 with
    | some b => match f a b with
      | some r => (gSet i r s1).bind fun _ s2 => .ok .nx s2
      | none => .bad
    | none => .bad
  | _ => .bad
theorem sd_aug {i : Nat} {x : Str} {op : Operator} {r : R2} {f : Ob2} {pos' : Pos} (hN : X.N.Nodup) (hi : X.N[i]? = some x) (hx : Loc X.env.scope x) (ho : OpR X (inplaceOp op) r) (hv : OpV X.K X.mg r f) (he : ED X G Wx e fe)
    (hf : X.fn x = true ∨ X.env.scope.names.lookup x = some .local := by first | exact .inl rfl | exact .inr rfl | assumption) : SD X G Wx (.AugAssign (.Name x pos') op e pos) (sAug i f fe) := by
  refine ⟨PS.imp (ps_aug hN hi hx he.pe (ti := r) ho hf) fun Dn σ H ⟨P, A, L, s, hs, h⟩ => ?_⟩
  unfold sAug at h
  split at h
  · rename_i d q
    obtain ⟨hi, ov, oa, e1, e2, _, v, rfl, rv⟩ := hs.slot' q
    refine ⟨v, e1, (tE_oneS hs h).mono fun y H1 ⟨A1, L1, s1, rb, a1, h1⟩ => ?_⟩
    split at h1
    · rename_i b e3
      split at h1
      · rename_i res e4
        refine hv _ H1 v y d b res _ a1.weak.there (.inl (rv.step a1.st)) (rd_ok a1.weak a1.ok e3) e4 fun w H2 ro => ?_
        have a2 : At X.K X.mg G P A L H σ A1 L1 s1 H2 res w := At.mk' a1.weak a1.st hs.p0 ro
        exact run_gSet a2 ((RunS.bind h1).imp fun _ _ _ q => q)
      · exact h1.elim
    · exact h1.elim
  · exact h.elim
/-! ### isinstance -/
def tyN : D → Option String
  | .non => some "NoneType"
  | .bl _ => some "bool"
  | .int _ => some "int"
  | .str _ => some "str"
  | .tup _ => some "tuple"
  | .lst _ => some "list"
  | .scr _ => some "list"
  | .dK _ => some "dict"
  | .dT _ => some "dict"
  | _ => none
def isB (n T : String) : Bool := n == T || (n == "bool" && T == "int")
def isiD (T : String) (d : D) : Option RV := (tyN d).bind fun n => pB (isB n T)
def isiOk (T : String) : Bool := ["int", "bool", "str", "tuple", "list", "dict"].contains T
theorem kitB_is : ∀ T ∈ ["int", "bool", "str", "tuple", "list", "dict"], ∀ n ∈ ["NoneType", "bool", "int", "str", "tuple", "list", "dict"], kitB n T = some (isB n T) := by decide +kernel
theorem tyx_of {B : Addr → Prop} {d : D} {v : V} {n : String} (h : PRep K mg B H d v) (e : tyN d = some n) : TyX K H v (.type n) := by
  cases d with
  | non => cases e; rw [h.non]; exact .base .non
  | bl _ => cases e; rw [h.bl]; exact .base (.bl _)
  | int _ => cases e; rw [h.int]; exact .base (.int _)
  | str _ => cases e; rw [h.str]; exact .base (.str _)
  | tup _ =>
    cases e; obtain ⟨p, vs, rfl, t, _⟩ := h.tup
    rcases t with ⟨t | ⟨o, t⟩, _⟩ | ⟨o, its, n, k, c, _⟩
    · exact .base (.tup t)
    · exact .fTuple t
    · exact .kTuple k c
  | lst _ => cases e; obtain ⟨p, vs, rfl, t, _⟩ := h.lst; exact .base (.lst t)
  | scr _ =>
    cases e; obtain ⟨p, vs, rfl, t, _⟩ := h.scr
    rcases t with ⟨t | ⟨o, t⟩, _⟩ | ⟨o, its, n, k, c, _⟩
    · exact .base (.lst t)
    · exact .base (.frz t)
    · exact .kList k c
  | dK _ => cases e; obtain ⟨p, vs, rfl, t, _⟩ := h.dK; exact .base (.dK t)
  | dT _ => cases e; obtain ⟨p, vs, rfl, t, _⟩ := h.dT; exact .base (.dT t)
  | glb _ => cases e
  | ty _ => cases e
def isi2 : Ob2
  | d, .ty T => if isiOk T = true then isiD T d else none
  | _, _ => none
theorem opv_isi : OpV K mg (fun v u => rIsi K [v, u]) isi2 := by
  intro B H x y a b res Q hB ha hb e q
  unfold isi2 at e
  split at e
  · rename_i T
    split at e
    · rename_i hT
      obtain ⟨n, e1, e2⟩ := Option.bind_eq_some_iff.mp e
      cases e2
      have hn : n ∈ ["NoneType", "bool", "int", "str", "tuple", "list", "dict"] := by
        cases a <;> cases e1 <;> decide
      refine ⟨x, .ty T, .type n, .type T, isB n T, by rw [hb.ty], .ty T, tyx_of ha e1, kit_ty (kitB_is T (by simpa [isiOk] using hT) n hn), q _ _ .bl⟩
    · cases e
  · cases e
end
end DL
namespace DL
open PySem PySem.Spec PyProof.Rows L2
/-! ### defs -/
inductive Rf where
  | ok (r : RV) (W : List (List D)) | err (c : Str) (W : List (List D)) | bad
/-- what a def computes -/
abbrev Fn := List RV → List (List D) → Rf
section
variable {K : PySem.W.Frag} {mg : Str → Option Value} {X : Cx} {G : Gm} {Wx : WX} {e : Expr} {es : List Expr} {pos : Pos} {α β : Type}
variable {P P' : Addr → Prop} {A A' A1 : List (Option Addr)} {σ σ' : L2.St} {L L' L1 : List Addr} {H H' H1 : Hp} {s s' : S} {vs : List V}
/-- a def's promise: it computes f -/
def spD (K : PySem.W.Frag) (mg : Str → Option Value) (tb : List Addr) (f : Fn) : Sp := fun vs H Q E => ∃ (P : Addr → Prop) (L : List Addr) (args : List RV) (W : List (List D)),
  SR K mg ⟨H, L, tb, 0⟩ P [] L ⟨[], W⟩ [] H ∧ ArgsOk K mg P [] L H args vs ∧
  match f args W with
  | .ok r W' => ∀ L' v H', SR K mg ⟨H, L, tb, 0⟩ (Wi P r v) [] L' ⟨[], W'⟩ [] H' → RVOk K mg ⟨H, L, tb, 0⟩ P [] L' [] H' r v → Q v H'
  | .err c W' => ∀ L' H' C, SR K mg ⟨H, L, tb, 0⟩ P [] L' ⟨[], W'⟩ [] H' → mg c = some (.ref C) → E (.ref C) none H'
  | .bad => False
def toSlot : RV → Slot
  | .pv d => .pv d
  | .ow ds => .ow ds
  | .lc n => .lc n
  | .vr _ => .no
def outF (x : Rs Fl) : Rf := match x with
  | .ok (.rt (.pv d)) s => .ok (.pv d) s.W
  | .ok (.rt (.ow d)) s => .ok (.ow d) s.W
  | .ok (.rt (.lc d)) s => .ok (.lc d) s.W
  | .ok .nx s => .ok (.pv .non) s.W
  | .err c s => .err c s.W
  | _ => .bad
/-- a def of n names by its body -/
def bodyF (n : Nat) (body : SV) : Fn := fun args W => outF (body ⟨args.map toSlot ++ List.replicate (n - args.length) .no, W⟩)
theorem SR.strip (hs : SR K mg G P A L s σ H) : SR K mg G P [] L ⟨[], s.W⟩ [] H :=
  ⟨rfl, rfl, fun i x e => by simp at e, fun i j a e => by simp at e, fun a z => by simp at z, hs.nd, hs.lenL,
    fun n ds e => let ⟨a, vs, e1, e2, r⟩ := hs.loc n ds e; ⟨a, vs, e1, e2, r.less (Bd.sub (fun a z => by simp at z) fun _ z => z)⟩,
    fun a z => by simp at z, hs.tab, hs.ent, fun a z => by simp at z, fun a z => let w := hs.pOk a z; ⟨w.1, by simp, w.2.2⟩, fun i e => by simp at e⟩
theorem RVOk.strip {r : RV} {v : V} (h : RVOk K mg G P A L σ H r v) (n : ∀ i, r ≠ .vr i) : RVOk K mg G P [] L [] H r v := by
  have sub : ∀ a, Bd P [] L a → Bd P A L a := Bd.sub (fun a z => by simp at z) fun _ z => z
  cases r with
  | pv d => exact Rep.less sub h
  | vr i => exact absurd rfl (n i)
  | lc n => exact h
  | ow ds => obtain ⟨a, vs, e, h1, h2, h3, h4⟩ := h; exact ⟨a, vs, e, h1, h2.less (fun b z => z.imp id (sub b)), by simp, h4⟩
theorem start_slots : ∀ {args : List RV} {vs : List V} (m : Nat), ArgsOk K mg P [] L H args vs → ∀ (i : Nat) (x : Slot), (args.map toSlot ++ List.replicate m .no)[i]? = some x →
    ∃ ov, (vs.map some ++ List.replicate m none)[i]? = some ov ∧ SlotOk K mg (Bd P [] L) H L ov none x
  | [], _, m, h, i, x, e => by
    unfold ArgsOk at h; subst h
    simp only [List.map_nil, List.nil_append] at e ⊢
    rw [List.getElem?_replicate] at e ⊢
    split at e
    · rename_i hi; cases e; rw [if_pos hi]; exact ⟨none, rfl, rfl⟩
    · cases e
  | r :: rs, _, m, h, i, x, e => by
    unfold ArgsOk at h
    obtain ⟨v, t, rfl, h1, h2⟩ := h
    cases i with
    | zero =>
      have e : some (toSlot r) = some x := e
      cases e
      refine ⟨some v, rfl, ?_⟩
      cases r with
      | pv d => exact ⟨rfl, v, rfl, h1⟩
      | lc n => obtain ⟨a, e1, rfl⟩ := h1; exact ⟨rfl, a, e1, rfl⟩
      | ow _ => exact h1.elim
      | vr _ => exact h1.elim
    | succ i => exact start_slots m h2 i x e
theorem no_ex {args : List RV} {m : Nat} (i : Nat) : (args.map toSlot ++ List.replicate m .no)[i]? ≠ some .ex := fun e => by
  have := List.mem_of_getElem? e
  rcases List.mem_append.mp this with h | h
  · obtain ⟨r, _, h⟩ := List.mem_map.mp h
    cases r <;> cases h
  · cases List.eq_of_mem_replicate h
theorem run_body {body : SV} {W : List (List D)} {n : Nat} {args : List RV} {Q : VK} {E : XK} {tb : List Addr} (sr : SR K mg ⟨H, L, tb, 0⟩ P [] L ⟨[], W⟩ [] H) (ok : ArgsOk K mg P [] L H args vs) {N : List Str} (hn : N.length = n)
    (h : match bodyF n body args W with
      | .ok r W' => ∀ L' v H', SR K mg ⟨H, L, tb, 0⟩ (Wi P r v) [] L' ⟨[], W'⟩ [] H' → RVOk K mg ⟨H, L, tb, 0⟩ P [] L' [] H' r v → Q v H'
      | .err c W' => ∀ L' H' C, SR K mg ⟨H, L, tb, 0⟩ P [] L' ⟨[], W'⟩ [] H' → mg c = some (.ref C) → E (.ref C) none H'
      | .bad => False) : tS K mg ⟨H, L, tb, 0⟩ (fun cls d _ H' => E cls d H') body { nx := fun _ H' => Q .non H', rt := Q } (L2.start N vs) H := by
  have ln := ok.length
  let η : List Slot := args.map toSlot ++ List.replicate (n - args.length) .no
  have lη : η.length = args.length + (n - args.length) := by simp [η]
  have lσ : (L2.start N vs).length = η.length := by unfold L2.start; rw [lη, hn, ln]; simp
  have sr2 : SR K mg ⟨H, L, tb, 0⟩ P (List.replicate η.length none) L ⟨η, W⟩ (L2.start N vs) H := by
    have noA : ∀ a, some a ∉ List.replicate η.length (none : Option Addr) := fun a z => by have := List.eq_of_mem_replicate z; cases this
    have sub : ∀ a, Bd P (List.replicate η.length none) L a → Bd P [] L a := Bd.sub (fun a z => absurd z (noA a)) fun _ z => z
    refine ⟨lσ, by simp, fun i x e => ?_, fun i j a e => ?_, fun a z => absurd z (noA a), sr.nd, sr.lenL, fun n ds e => ?_, fun a z => absurd z (noA a), sr.tab, sr.ent, fun a z => absurd z (noA a), fun a z => ?_, fun i e => absurd e (no_ex i)⟩
    · obtain ⟨ov, e1, so⟩ := start_slots (n - args.length) ok i x e
      refine ⟨ov, none, ?_, ?_, so.move (fun a o h nb _ => ⟨h, fun z => nb (sub a z)⟩) (fun _ _ z => nomatch z) fun _ _ h => h⟩
      · unfold L2.start; rw [hn, ← ln]; exact e1
      · rw [List.getElem?_replicate, if_pos (List.getElem?_eq_some_iff.mp e).1]
    · exact absurd (List.mem_of_getElem? e) (noA a)
    · obtain ⟨a, vs, e1, e2, r⟩ := sr.loc n ds e; exact ⟨a, vs, e1, e2, r.less sub⟩
    · have w := sr.pOk a z; exact ⟨w.1, noA a, w.2.2⟩
  refine ⟨P, _, L, ⟨η, W⟩, sr2, ?_⟩
  have e0 : bodyF n body args W = outF (body ⟨η, W⟩) := rfl
  rw [e0] at h
  cases q : body ⟨η, W⟩ with
  | bad => rw [q] at h; exact h
  | err c s2 =>
    rw [q] at h
    exact fun A2 L2 σ2 H2 C sr3 st3 hc => h L2 H2 C sr3.strip hc
  | ok fl s2 =>
    rw [q] at h
    cases fl with
    | bk => exact h.elim
    | ct => exact h.elim
    | nx => exact fun A2 L2 σ2 H2 sr3 st3 => h L2 .non H2 (sr3.strip.lessP (Wi.pv nofun)) (by show Rep _ _ _ _ _ _; unfold Rep; rfl)
    | rt r =>
      have fin : (∀ i, r ≠ .vr i) → (∀ L' v H', SR K mg ⟨H, L, tb, 0⟩ (Wi P r v) [] L' ⟨[], s2.W⟩ [] H' → RVOk K mg ⟨H, L, tb, 0⟩ P [] L' [] H' r v → Q v H') →
          PostS K mg ⟨H, L, tb, 0⟩ P (List.replicate η.length none) L H { nx := fun _ H' => Q .non H', rt := Q } (.rt r) s2 := fun nv h => ⟨nv, fun A2 L2 σ2 v H2 sr3 ok3 st3 => h L2 v H2 sr3.strip (ok3.strip nv)⟩
      cases r with
      | vr i => exact h.elim
      | pv d => exact fin nofun h
      | ow d => exact fin nofun h
      | lc d => exact fin nofun h
/-- a def of m parameters and n names -/
def defF (m n : Nat) (body : SV) : Fn := fun args W => if args.length = m then bodyF n body args W else .bad
/-- THE RULE for a def: its body's judgement -/
theorem fn_ok {Pg : Program} {w : World} {base : Heap} {x qual : Str} {st : Stmt} {f : Addr} {fd : FuncData} {N ps : List Str} {k : Nat} {tb : List Addr} {body : SV} (F : Fun K x qual st f fd) (Sc : FnScope N ps (defScope st))
    (hb : ∀ (cdv : Value) (A : Around) (outer : List Env) (s : Shared) (H : Hp) (E : XK) (G : Gm), G.tb = tb → Room k (A.deeper (envOfC qual (defScope st) s.heap.objs.size f cdv)) →
      SsD (cxOf (L2N.CX Pg w) Pg w K mg base N qual (defScope st) f cdv A outer s H E) G (fun cls d _ H' => E cls d H') (defBody st) body) :
    FnOk Pg w K mg base (L2N.CX Pg w) (k + 1) f fd ps (spD K mg tb (defF ps.length N.length body)) := by
  obtain ⟨oc, od, kV, doc, pm, an, cdv, ct, osl, rfl, lk, hcd⟩ := F.ex
  refine fn_of lk hcd Sc (fun vs H Q E h => ?_) fun A outer s H vs Q E hr h => ?_
  · obtain ⟨P, L, args, W, sr, ok, h⟩ := h
    by_cases hl : args.length = ps.length
    · rw [← ok.length]; exact hl
    · unfold defF at h
      rw [if_neg hl] at h
      exact h.elim
  · obtain ⟨P, L, args, W, sr, ok, h⟩ := h
    unfold defF at h
    by_cases hl : args.length = ps.length
    · rw [if_pos hl] at h
      exact ⟨_, (hb cdv A outer s H E ⟨H, L, tb, 0⟩ rfl hr).pss, run_body sr ok rfl h⟩
    · rw [if_neg hl] at h
      exact h.elim
/-! ### a call -/
def eCall (F : Fn) (fs : AV) : EV := fun s => (fs s).bind fun args s1 => match F args s1.W with
  | .ok r W' => .ok r { s1 with W := W' }
  | .err c W' => .err c { s1 with W := W' }
  | .bad => .bad
theorem call_back {tb : List Addr} {W : List (List D)} {Po : Addr → Prop} (sr1 : SR K mg G P A1 L1 s σ H1) (sr : SR K mg ⟨H1, L1, tb, 0⟩ Po [] L' ⟨[], W⟩ [] H') (hP : ∀ a, P' a → P a ∨ H1 a = none) (hPo : ∀ a, P' a ∨ some a ∈ A1 → Po a) : SR K mg G P' A1 L' { s with W := W } σ H' ∧ Step A1 L1 H1 A1 L' H' := by
  have ent := sr.ent
  have outA : ∀ a, some a ∈ A1 → H' a = H1 a := fun a z => by
    obtain ⟨vs, e, m⟩ := sr1.own a z
    rw [ent.frm a _ e (by simp) (sr1.apart a z) m.plain, e]
  have st : Step A1 L1 H1 A1 L' H' := ⟨fun a o h _ hL q => ent.frm a o h (by simp) hL q, fun a z => by
    rcases z with z | z
    · exact .inl z
    · rcases ent.new a (.inr z) with w | w | w
      · simp at w
      · exact .inr (.inl w)
      · exact .inr (.inr w), ent.pre, ent.there, ent.tab⟩
  have mv := fun (a : Addr) (o : HO) (h : H1 a = some o) (nb : ¬ Bd P A1 L1 a) (q : Plain o) => st.mvP (P' := P') hP a o h nb q
  have sub : ∀ a, Bd P' A1 L' a → Bd Po [] L' a := fun a z => by
    rcases z with z | z | z
    · exact .inr (.inr (hPo a (.inr z)))
    · exact .inr (.inl z)
    · exact .inr (.inr (hPo a (.inl z)))
  refine ⟨⟨sr1.lenσ, sr1.lenA, fun i x e => ?_, sr1.uniq, fun a z => ?_, sr.nd, sr.lenL, fun n ds e => ?_, fun a z => ?_, fun a z => ent.tab a (sr1.tab a z), ?_, sr1.ownNew, fun a z => ?_, sr1.exn⟩, st⟩
  · obtain ⟨ov, oa, e1, e2, so⟩ := sr1.slot i x e
    refine ⟨ov, oa, e1, e2, so.move mv (fun a vs z _ h => ?_) fun _ _ q => st.loc q⟩
    rw [outA a (by rw [← z]; exact List.mem_of_getElem? e2)]; exact h
  · intro w
    have := sr.pOk a (hPo a (.inr z))
    exact this.2.2 w
  · obtain ⟨a, vs, e1, e2, r⟩ := sr.loc n ds e
    exact ⟨a, vs, e1, e2, r.less sub⟩
  · obtain ⟨vs, e, m⟩ := sr1.own a z
    exact ⟨vs, by rw [outA a z]; exact e, m⟩
  · have e1 := sr1.ent
    refine ⟨fun a o h hA hL q => ?_, fun a z => ?_, ?_, fun a o h => ?_, fun a h => ent.tab a (e1.tab a h)⟩
    · have y := e1.frm a o h hA hL q
      refine ent.frm a o y (by simp) (fun z => ?_) q
      rcases e1.new a (.inr z) with w | w | w
      · simp at w
      · exact hL w
      · rw [h] at w; cases w
    · rcases z with z | z
      · simp at z
      · rcases ent.new a (.inr z) with w | w | w
        · simp at w
        · exact e1.new a (.inr w)
        · have w : H1 a = none := w
          refine .inr (.inr ?_)
          cases q : G.H0 a with
          | none => rfl
          | some o => obtain ⟨o', q'⟩ := e1.there a o q; rw [w] at q'; cases q'
    · obtain ⟨r1, q1⟩ := e1.pre
      obtain ⟨r2, q2⟩ := ent.pre
      exact ⟨r1 ++ r2, by rw [q2, q1, List.append_assoc]⟩
    · obtain ⟨o', h'⟩ := e1.there a o h; exact ent.there a o' h'
  · have w := sr.pOk a (hPo a (.inl z))
    refine ⟨w.1, fun y => ?_, w.2.2⟩
    rcases hP a z with q | q
    · exact (sr1.pOk a q).2.1 y
    · obtain ⟨vs, e, m⟩ := sr1.own a y
      rw [q] at e; cases e
theorem tE_call {F : Fn} {fs : AV} {Q : VK} {tb : List Addr} (htb : G.tb = tb) (h : tE K mg G Wx (eCall F fs) σ H Q) : tA K mg G Wx fs σ H fun vs H1 => spD K mg tb F vs H1 Q fun cls d H' => Wx cls d σ H' := by
  obtain ⟨P, A, L, s, hs, h⟩ := h
  refine ⟨P, A, L, s, hs, (Run.bind h).imp fun args s1 _ h1 A1 L1 vs H1 sr1 ok1 st1 => ?_⟩
  let Po : Addr → Prop := fun a => P a ∨ some a ∈ A1
  have eqB : ∀ a, Bd Po [] L1 a → Bd P A1 L1 a := fun a z => by
    rcases z with z | z | z | z
    · simp at z
    · exact .inr (.inl z)
    · exact .inr (.inr z)
    · exact .inl z
  refine ⟨Po, L1, args, s1.W, ⟨rfl, rfl, fun i x e => by simp at e, fun i j a e => by simp at e, fun a z => by simp at z, sr1.nd, sr1.lenL, fun n ds e => ?_, fun a z => by simp at z, fun a z => sr1.tab a (by rw [htb]; exact z), Step.refl _ _ _, fun a z => by simp at z, fun a z => ?_, fun i e => by simp at e⟩, ?_, ?_⟩
  · obtain ⟨a, vs, e1, e2, r⟩ := sr1.loc n ds e
    exact ⟨a, vs, e1, e2, r.less eqB⟩
  · rcases z with z | z
    · have w := sr1.pOk a z; exact ⟨w.1, by simp, w.2.2⟩
    · exact ⟨let ⟨vs, e, _⟩ := sr1.own a z; ⟨_, e⟩, by simp, sr1.apart a z⟩
  · have less : ∀ {rs : List RV} {vs : List V}, ArgsOk K mg P A1 L1 H1 rs vs → ArgsOk K mg Po [] L1 H1 rs vs := fun {rs} => by
      induction rs with
      | nil => intro vs h; unfold ArgsOk at h ⊢; exact h
      | cons r rs ih =>
        intro vs h
        unfold ArgsOk at h ⊢
        obtain ⟨v, t, e, h1, h2⟩ := h
        refine ⟨v, t, e, ?_, ih h2⟩
        cases r with
        | pv d => exact Rep.less eqB h1
        | lc n => exact h1
        | ow _ => exact h1
        | vr _ => exact h1
    exact less ok1
  · split at h1
    · rename_i r W' e
      intro L' v H' sr ok
      have own : ∀ a, Own r v a → H1 a = none := fun a z => by
        obtain ⟨⟨ds, rfl⟩, rfl⟩ := z
        obtain ⟨b, vs, e1, _, _, _, _, e6⟩ := ok
        cases e1
        exact e6
      obtain ⟨sr2, st2⟩ := call_back (P' := Wi P r v) sr1 sr (fun a z => z.imp id (own a)) fun a z => by
        rcases z with (z | z) | z
        · exact .inl (.inl z)
        · exact .inr z
        · exact .inl (.inr z)
      have nH0 : ∀ a, H1 a = none → G.H0 a = none := fun a n => by
        cases q : G.H0 a with
        | none => rfl
        | some o => obtain ⟨o', q'⟩ := sr1.ent.there a o q; rw [n] at q'; cases q'
      refine h1 A1 L' v H' ⟨sr2, ?_, fun a z => ?_, st1.trans st2, hs.p0⟩
      · have sub : ∀ a, Bd P A1 L' a → Bd Po [] L' a := fun a z => by
          rcases z with z | z | z
          · exact .inr (.inr (.inr z))
          · exact .inr (.inl z)
          · exact .inr (.inr (.inl z))
        cases r with
        | pv d => exact Rep.less sub ok
        | vr i => have ok : ([] : L2.St)[i]? = some (some v) := ok; simp at ok
        | lc n => exact ok
        | ow ds =>
          obtain ⟨b, vs, e1, e2, e3, e4, e5, e6⟩ := ok
          refine ⟨b, vs, e1, e2, e3.less fun a z => z.imp id (sub a), fun z => ?_, e5, nH0 b e6⟩
          obtain ⟨ws, w, _⟩ := sr1.own b z
          have e6 : H1 b = none := e6
          rw [e6] at w; cases w
      · have n := own a z
        cases q : H a with
        | none => exact .inr rfl
        | some o => obtain ⟨o', q'⟩ := st1.there a o q; rw [n] at q'; cases q'
    · rename_i c W' e
      intro L' H' C sr hc
      obtain ⟨sr2, st2⟩ := call_back (P' := P) sr1 sr (fun a z => .inl z) fun a z => z
      exact h1 A1 L' H' C sr2 (st1.trans st2) hc
    · exact h1.elim
theorem ed_call {k : Nat} {f : Addr} {fd : FuncData} {ps : List Str} {tb : List Addr} {F : Fn} {fs : AV} {x : Str} {p : Pos} (Fk : FnOk X.prog X.w X.K X.mg X.base (L2N.CX X.prog X.w) k f fd ps (spD X.K X.mg tb F)) (hr : Room k X.A) (htb : G.tb = tb) (tk : L2N.Takes X Wx)
    (hg : Gl X x) (hm : X.mg x = some (.ref f)) (hk : PySem.W.keepIn X.K (.ref f) = true) (hb : Binds X.K fd ps []) (ha : AD X G Wx (e :: es) fs)
    (hdb : (x == ("__debug__" : Str)) = false := by decide) (he : starEach (e :: es) X.env = (false, eval e X.env) :: starEach es X.env := by rfl) (hpl : (backTo pos (starEach es X.env)).any (·.1) = false := by rfl) :
    ED X G Wx (.Call (.Name x p) (e :: es) [] pos) (eCall F fs) :=
  ⟨PE.imp (pe_callS Fk hr hg hm hk hb (fun σ => L2N.passAt tk σ) ha.pa hdb he hpl) fun σ H Q h => tE_call htb h⟩
end
end DL
namespace DL
open PySem PySem.Spec PyProof.Rows L2
/-! ### list(reversed(a list)) -/
section
variable {prog : Program} {w : World} {A : Around} {E : Value → Shared → Prop} {s : Shared}
theorem extend_rev {R : Result → Shared → Prop} {it l : Addr} {items : Array Value} (hh : A.handled = none) (hit : s.heap.IsRevIter it l ((items.size : Int) - 1)) (hl : s.heap.IsList l items) (hne : l ≠ it) (hn : items.size ≤ sizeLine) (T : Addr) (res : Value) (c₀ : Nat)
    (hTi : T ≠ it) (hTl : T ≠ l) (hT : s.heap.get? T = some { cls := .type "list", data := .seq #[] c₀ })
    (hR : ∀ (h' : Heap) (tk : Nat) (acc : Array Value) (c' : Nat), (∀ b o, b ≠ it → b ≠ T → s.heap.get? b = some o → h'.get? b = some o) → h'.get? T = some { cls := .type "list", dict := none, data := .seq acc c', slots := #[] } →
      ItemsOf (fun i v => items[items.size - 1 - i]? = some v) acc items.size → R (.ok (.ret res)) { s with heap := h', toks := tk }) :
    wpAny (model prog w) A.in1 (Builtin.List.listExtendWith (.ref T) (.ref it) res)
      (fun fin s' => match fin with | .done f => R (.ok f) s' | .again c' => c'.quiet = true ∧ codeAny (model prog w) A c' R s') (fun e s' => R (.error e) s') s := by
  have W := (Walks.listRev (prog := prog) (w := w) (A := A.in1) hh it l hne items).toS
  have hSf : T ∉ [it, l] := by simp only [List.mem_cons, List.not_mem_nil, or_false, not_or]; exact ⟨hTi, hTl⟩
  have hTy : s.TypeIs (.ref it) "list_reverseiterator" := hit.typeIs
  have h1 : Builtin.List.listSameRef (.ref T) (.ref it) = false := by simp [Builtin.List.listSameRef, hTi]
  unfold Builtin.List.listExtendWith
  refine wpAny_bind (wpAny_typeOf hTy ?_)
  rw [if_neg (by rw [h1]; decide)]
  refine wpAny_bind (wpAny_pyIter_revIter hit ?_)
  refine wpAny_bind (wpAny_holding ?_)
  unfold Builtin.List.listLengthHint
  refine wpAny_bind (wpAny_specialOf hTy RT.nolen_lri ?_)
  show wpAny _ A.in1 (specialOf (Value.ref it) (Str.ofString "__length_hint__") >>= _) _ _ _
  refine wpAny_bind (wpAny_specialOf hTy RT.hint_lri ?_)
  generalize hid : ("list_reverseiterator.__length_hint__" : String) = id0
  wp_delta
  rw [show splitId id0 = some ("list_reverseiterator", "__length_hint__") from by subst hid; decide +kernel]
  subst hid
  refine wpAny_bind (wpAny_isInstance (b := true) hTy (by rw [isSubtype_type]; kernel_rfl) ?_)
  refine wpAny_pure ?_
  rw [if_neg (by decide)]
  have e0 : ((items.size : Nat) : Int) - 1 - ((0 : Nat) : Int) = (items.size : Int) - 1 := by omega
  refine wpAny_pure ⟨plainId_quiet F.plain_extend_loop _, codeAny_extend_loopS W hn _ hSf _ items.size 0 _ _ _ rfl (Nat.zero_le _) ⟨Nat.zero_le _, by rw [e0]; exact hit, hl⟩ hT (ItemsOf.nil _) fun s' acc' c' hm hS' hacc => ?_⟩
  rw [Moved.eq_with hm]
  refine hR s'.heap s'.toks acc' c' (fun b o hb hbT e => hm.heap b o (fun hmem => ?_) e) hS' hacc
  rcases List.mem_cons.mp hmem with e' | hmem
  · exact hbT e'
  · exact hb (List.mem_singleton.mp hmem)
theorem call_list_rev {it l : Addr} {items : Array Value} {Q : Value → Shared → Prop} (hh : A.handled = none) (hit : s.heap.IsRevIter it l ((items.size : Int) - 1)) (hl : s.heap.IsList l items) (hne : l ≠ it) (hn : items.size ≤ sizeLine)
    (hQ : ∀ (h' : Heap) (tk : Nat) (acc : Array Value) (c' : Nat), (∀ b o, b ≠ it → s.heap.get? b = some o → h'.get? b = some o) → h'.get? s.heap.objs.size = some { cls := .type "list", dict := none, data := .seq acc c', slots := #[] } →
      ItemsOf (fun i v => items[items.size - 1 - i]? = some v) acc items.size → Q (.ref s.heap.objs.size) { s with heap := h', toks := tk }) :
    wpAny (model prog w) A (call (.type "list") [.ref it]) Q E s := by
  obtain ⟨oi, hoi, _⟩ := id hit
  obtain ⟨ol, hol, _⟩ := id hl
  have hSi : s.heap.objs.size ≠ it := Nat.ne_of_gt (Heap.lt_size hoi)
  have hSl : s.heap.objs.size ≠ l := Nat.ne_of_gt (Heap.lt_size hol)
  refine callType_codes (Q₁ := fun obj s₁ => obj = .ref s.heap.objs.size ∧ s₁ = { s with heap := s.heap.push { cls := .type "list", data := .seq #[] } }) PySem.F.called_list (PySem.F.typeCall_list_1 _) PySem.F.entry_list_init
    (code_list_new _ ⟨rfl, rfl⟩) fun obj s₁ h₁ => ?_
  obtain ⟨rfl, rfl⟩ := h₁
  have hS : (s.heap.push { cls := .type "list", data := .seq #[] }).get? s.heap.objs.size = some { cls := .type "list", data := .seq #[] } := Heap.get?_push_size _ rfl
  refine ⟨⟨_, hS, rfl⟩, PySem.F.args_list_init_2 _ _, ?_⟩
  show wpAny _ _ (do let old ← Builtin.List.listItems (.ref s.heap.objs.size); Builtin.List.listUpdate (.ref s.heap.objs.size) (fun _ => #[]); letGo old.toList.reverse; Builtin.List.listExtendWith (.ref s.heap.objs.size) (.ref it) .none) _ _ _
  refine wpAny_bind ?_
  unfold Builtin.List.listItems
  refine wpAny_bind (wpAny_seqItems hS rfl (wpAny_pure ?_))
  show wpAny _ _ (updateSeq s.heap.objs.size (fun _ => #[]) >>= fun _ => letGo (#[] : Array Value).toList.reverse >>= fun _ => Builtin.List.listExtendWith (.ref s.heap.objs.size) (.ref it) .none) _ _ _
  refine wpAny_bind (wpAny_updateSeq hS rfl ?_)
  have hS₂ := Heap.get?_update_self (Obj.mapSeq (fun _ => (#[] : Array Value))) hS rfl
  have oth : ∀ b o, s.heap.get? b = some o → ((s.heap.push { cls := .type "list", data := .seq #[] }).update s.heap.objs.size (Obj.mapSeq (fun _ => (#[] : Array Value)))).get? b = some o :=
    fun b o e => (Heap.get?_update_other _ _ (Ne.symm (Nat.ne_of_lt (Heap.lt_size e)))).trans (Heap.get?_push_of_some _ e)
  refine wpAny_bind (wpAny_letGo ?_)
  have hl1 : ((s.heap.push { cls := .type "list", data := .seq #[] }).update s.heap.objs.size (Obj.mapSeq (fun _ => (#[] : Array Value)))).IsList l items := by
    obtain ⟨o, e, c, d⟩ := hl
    exact ⟨o, oth _ _ e, c, d⟩
  refine extend_rev (A := A.in1) hh (hit.at fun o e => oth _ _ e) hl1 hne hn _ .none _ hSi hSl hS₂ fun h' tk acc c' hk hS' hacc => ?_
  exact ⟨rfl, hQ h' tk acc c' (fun b o hb e => hk b o hb (Nat.ne_of_lt (Heap.lt_size e)) (oth b o e)) hS' hacc⟩
end
def tLstRev (K : PySem.W.Frag) (te : TE) : TE := fun σ H Q => te σ H fun v H1 => ∃ (a : Addr) (xs : List V), v = .ref a ∧ SqL K H1 a xs ∧ ∀ q, H1 q = none → Q (.ref q) (upd H1 q (.lst xs.reverse))
theorem pe_lstRev {X : Cx} {e : Expr} {te : TE} {p p2 pos pos2 : Pos} (hc : X.calm = true) (hg : Gl X "list") (hm : X.mg "list" = none) (hg2 : Gl X "reversed") (hm2 : X.mg "reversed" = none) (he : PE X e te)
    (hs : starEach [e] X.env = (false, eval e X.env) :: starEach [] X.env := by rfl)
    (hs2 : starEach [.Call (.Name "reversed" p2) [e] [] pos2] X.env = (false, eval (.Call (.Name "reversed" p2) [e] [] pos2) X.env) :: starEach [] X.env := by rfl) :
    PE X (.Call (.Name "list" p) [.Call (.Name "reversed" p2) [e] [] pos2] [] pos) (tLstRev X.K te) := by
  refine ⟨fun pins s σ H Q I h => ?_⟩
  refine Call_ (ld_blt I hg hm boot_list (PyProof.Rows.callWith_type1 (args_cons (Call_ (ld_blt I hg2 hm2 PyProof.Rows.boot_reversed (PyProof.Rows.callWith_type1 (args_cons (thn (he.run pins s σ H _ I h) fun u s1 ⟨v, H1, I1, r1, q1⟩ => args_nil ?_) hs) hs rfl))) hs2) hs2 rfl))
  obtain ⟨a, xs, ev, hq, q⟩ := q1
  subst ev
  obtain rfl : u = Value.ref a := r1
  obtain ⟨its, rv, p', hz⟩ := I1.list hq
  refine call_reversed_list p'.isList (args_nil ?_)
  have k0 : ∀ b o, s1.heap.get? b = some o → (s1.heap.push (revObj a ((its.toArray.size : Int) - 1))).get? b = some o := fun b o e => Heap.get?_push_of_some _ e
  have I2 : Inv X pins σ H1 { s1 with heap := s1.heap.push (revObj a ((its.toArray.size : Int) - 1)) } := I1.kept (t' := s1.toks) k0
  have fp : FpOk X pins H1 s1.heap.objs.size := I1.fpOk (H' := H1) (b := s1.heap.objs.size) (Nat.le_refl _) (I1.hok.fresh (Nat.le_refl _))
  have hl := p'.isList
  obtain ⟨ol, hol, _⟩ := id hl
  have hne : a ≠ s1.heap.objs.size := Nat.ne_of_lt (Heap.lt_size hol)
  have hn : its.toArray.size ≤ sizeLine := by rw [List.size_toArray, ← rv.length]; exact hz
  refine call_list_rev (s := { s1 with heap := s1.heap.push (revObj a ((its.toArray.size : Int) - 1)) }) (I1.ok.hd hc) ⟨_, Heap.get?_push_size _ rfl, rfl, rfl⟩ (hl.push _) hne hn fun h' tk acc c' hk hS' hi => ?_
  have fr := I2.hok.fresh (Nat.le_refl _)
  refine ⟨.ref _, upd H1 _ (.lst xs.reverse), I2.turnedNew (t' := tk) (ch := [s1.heap.objs.size]) (fun b o hb e => hk b o (fun z => hb (by simp [z])) e) (fun b hb => by
    have : b = s1.heap.objs.size := by simpa using hb
    subst this; exact fp) (Nat.le_refl _) ?_, rfl, q _ fr⟩
  refine ⟨by rw [List.length_reverse]; exact hz, acc.toList, c', RT.vals_rev rv hi, ?_⟩
  rw [Array.toArray_toList]; exact hS'
section
variable {K : PySem.W.Frag} {mg : Str → Option Value} {X : Cx} {G : Gm} {Wx : WX} {a b c e : Expr} {es : List Expr} {fa fb fc fe : EV} {pos : Pos} {α : Type}
def revD : D → Option RV
  | .lst xs => some (.ow xs.reverse)
  | .scr xs => some (.ow xs.reverse)
  | _ => none
theorem opv_rev : OpV1 K mg (fun v H Q => ∃ (a : Addr) (xs : List V), v = .ref a ∧ SqL K H a xs ∧ ∀ q, H q = none → Q (.ref q) (upd H q (.lst xs.reverse))) revD := by
  intro B H x a res Q hB ha e q
  cases a with
  | lst xs => cases e; obtain ⟨p, vs, rfl, t, r⟩ := ha.lst; exact ⟨p, vs, rfl, SqL.of t, fun l hl => q _ _ (.lst hl r.reverse)⟩
  | scr xs => cases e; obtain ⟨p, vs, rfl, t, r⟩ := ha.scr; exact ⟨p, vs, rfl, t.sq, fun l hl => q _ _ (.lst hl r.reverse)⟩
  | _ => cases e
theorem ed_lstRev {p p2 pos2 : Pos} (hc : X.calm = true) (hg : Gl X "list") (hm : X.mg "list" = none) (hg2 : Gl X "reversed") (hm2 : X.mg "reversed" = none) (he : ED X G Wx e fe)
    (hs : starEach [e] X.env = (false, eval e X.env) :: starEach [] X.env := by rfl)
    (hs2 : starEach [.Call (.Name "reversed" p2) [e] [] pos2] X.env = (false, eval (.Call (.Name "reversed" p2) [e] [] pos2) X.env) :: starEach [] X.env := by rfl) :
    ED X G Wx (.Call (.Name "list" p) [.Call (.Name "reversed" p2) [e] [] pos2] [] pos) (eOp1 revD fe) :=
  ⟨PE.imp (pe_lstRev hc hg hm hg2 hm2 he.pe hs hs2) fun σ H Q h => tE_op1 opv_rev h⟩
def tupRevD : D → Option RV
  | .lst xs => some (.pv (.tup xs.reverse))
  | .scr xs => some (.pv (.tup xs.reverse))
  | _ => none
theorem opv_tupRev : OpV1 K mg (fun v H Q => ∃ (a : Addr) (xs : List V), v = .ref a ∧ SqL K H a xs ∧ ∀ q, H q = none → Q (.ref q) (upd H q (.tup xs.reverse))) tupRevD := by
  intro B H x a res Q hB ha e q
  cases a with
  | lst xs => cases e; obtain ⟨p, vs, rfl, t, r⟩ := ha.lst; exact ⟨p, vs, rfl, SqL.of t, fun l hl => q _ _ (.tup hB hl r.reverse)⟩
  | scr xs => cases e; obtain ⟨p, vs, rfl, t, r⟩ := ha.scr; exact ⟨p, vs, rfl, t.sq, fun l hl => q _ _ (.tup hB hl r.reverse)⟩
  | _ => cases e
theorem ed_tupRev {p p2 pos2 : Pos} (hc : X.calm = true) (hg : Gl X "tuple") (hm : X.mg "tuple" = none) (hg2 : Gl X "reversed") (hm2 : X.mg "reversed" = none) (he : ED X G Wx e fe)
    (hs : starEach [e] X.env = (false, eval e X.env) :: starEach [] X.env := by rfl)
    (hs2 : starEach [.Call (.Name "reversed" p2) [e] [] pos2] X.env = (false, eval (.Call (.Name "reversed" p2) [e] [] pos2) X.env) :: starEach [] X.env := by rfl) :
    ED X G Wx (.Call (.Name "tuple" p) [.Call (.Name "reversed" p2) [e] [] pos2] [] pos) (eOp1 tupRevD fe) :=
  ⟨PE.imp (RT.pe_tupRev hc hg hm hg2 hm2 he.pe hs hs2) fun σ H Q h => tE_op1 opv_tupRev h⟩
/-! ### starred items of a display -/
def aStar (f : EV) (g : AV) : AV := fun s => (f s).bind fun r s1 => match (rd r s1).bind seqD with
  | some ds => (g s1).bind fun rs s2 => .ok (ds.map .pv ++ rs) s2
  | none => .bad
theorem ArgsOk.app {P : Addr → Prop} {A : List (Option Addr)} {L : List Addr} {H : Hp} {rs : List RV} {ws : List V} (h2 : ArgsOk K mg P A L H rs ws) : ∀ {ds : List D} {vs : List V}, Reps K mg (Bd P A L) H ds vs → ArgsOk K mg P A L H (ds.map .pv ++ rs) (vs ++ ws)
  | [], _, h => by unfold Reps at h; subst h; simpa using h2
  | d :: ds, _, h => by
    unfold Reps at h; obtain ⟨v, r, rfl, h1, h3⟩ := h
    simp only [List.map_cons, List.cons_append]
    unfold ArgsOk
    exact ⟨v, _, rfl, h1, ArgsOk.app h2 h3⟩
theorem ad_star {g : AV} {p : Pos} (he : ED X G Wx e fe) (hr : AD X G Wx es g) (hs : starEach (.Starred e p :: es) X.env = (true, eval e X.env) :: starEach es X.env := by rfl) : AD X G Wx (.Starred e p :: es) (aStar fe g) := by
  refine ⟨PA.imp (StX.pa_star he.pe hr.pa hs) fun σ H Q ⟨P, A, L, s, hs, h⟩ => (tE_one hs h).mono fun x H1 ⟨A1, L1, s1, r, a1, h1⟩ => ?_⟩
  cases e1 : (rd r s1).bind seqD with
  | none => rw [e1] at h1; exact h1.elim
  | some ds =>
    rw [e1] at h1
    obtain ⟨d, e2, e3⟩ := Option.bind_eq_some_iff.mp e1
    obtain ⟨q, vs, rfl, t, rp⟩ := (rd_ok a1.weak a1.ok e2).seq e3
    refine ⟨q, vs, rfl, t.symm, P, A1, L1, s1, a1.weak, (Run.bind h1).shift a1.st fun rs s3 _ q A3 L3 ws H3 sr3 ok3 st3 => ?_⟩
    exact q A3 L3 _ H3 sr3 (ok3.app (rp.step st3)) (a1.st.trans st3)
/-! ### a list that is handed round -/
variable {P : Addr → Prop} {A A1 : List (Option Addr)} {σ : L2.St} {L L1 : List Addr} {H H1 : Hp} {s : S}
def gShare (i : Nat) : GV := fun r s => match r with
  | .ow ds => if i < s.η.length then .ok () { η := s.η.set i (.lc s.W.length), W := s.W ++ [ds] } else .bad
  | _ => .bad
theorem At.share {ds : List D} {v : V} {i : Nat} (h : At K mg G P A L H σ A1 L1 s H1 (.ow ds) v) (hi : i < s.η.length) :
    ∃ a, v = .ref a ∧ SR K mg G P (A1.set i none) (L1 ++ [a]) { η := s.η.set i (.lc s.W.length), W := s.W ++ [ds] } (σ.set i (some v)) H1 ∧ Step A L H (A1.set i none) (L1 ++ [a]) H1 := by
  obtain ⟨a, vs, rfl, e1, r, e3, e4, e5⟩ := h.ok
  have own : Own (.ow ds) (.ref a) a := ⟨⟨ds, rfl⟩, rfl⟩
  have hs := h.sr
  have iA : i < A1.length := by rw [hs.lenA]; exact hi
  have iσ : i < σ.length := by rw [hs.lenσ]; exact hi
  have nP := h.np a own
  have memA : ∀ b, some b ∈ A1.set i none → some b ∈ A1 := fun b z => (mem_set z).elim id nofun
  have memL : ∀ b, b ∈ L1 ++ [a] → b ∈ L1 ∨ b = a := fun b z => by simpa using z
  have hB : ∀ b, Bd P (A1.set i none) (L1 ++ [a]) b → Bd (Wi P (.ow ds) (.ref a)) A1 L1 b := fun b z => by
    rcases z with z | z | z
    · exact .inl (memA b z)
    · rcases memL b z with z | rfl
      · exact .inr (.inl z)
      · exact .inr (.inr (.inr own))
    · exact .inr (.inr (.inl z))
  have loc : ∀ {n : Nat} {b : Addr}, L1[n]? = some b → (L1 ++ [a])[n]? = some b := fun {n b} e => by rw [List.getElem?_append_left (List.getElem?_eq_some_iff.mp e).1]; exact e
  refine ⟨a, rfl, ⟨by simp [hs.lenσ], by simp [hs.lenA], fun j y e => ?_, fun j k b f1 f2 => ?_, fun b z w => ?_, ?_, by simp [hs.lenL], fun n ds' e => ?_, fun b z => hs.own b (memA b z), hs.tab, ?_, fun b z => hs.ownNew b (memA b z), fun b z => ?_, fun j e => ?_⟩, ?_⟩
  · by_cases hj : j = i
    · subst hj
      simp only [List.getElem?_set_self hi, Option.some.injEq] at e
      subst e
      refine ⟨some (.ref a), none, List.getElem?_set_self iσ, List.getElem?_set_self iA, rfl, a, ?_, rfl⟩
      rw [← hs.lenL, List.getElem?_append_right (Nat.le_refl _)]; simp
    · simp only [List.getElem?_set_ne (Ne.symm hj)] at e
      obtain ⟨ov', oa', f1, f2, q⟩ := hs.slot j y e
      exact ⟨ov', oa', by rw [List.getElem?_set_ne (Ne.symm hj)]; exact f1, by rw [List.getElem?_set_ne (Ne.symm hj)]; exact f2, q.move (fun b o h n _ => ⟨h, fun z => n (hB b z)⟩) (fun _ _ _ _ h => h) fun _ _ h => loc h⟩
  · have g1 : A1[j]? = some (some b) := by
      by_cases hj : j = i
      · subst hj; rw [List.getElem?_set_self iA] at f1; cases f1
      · rwa [List.getElem?_set_ne (Ne.symm hj)] at f1
    have g2 : A1[k]? = some (some b) := by
      by_cases hk : k = i
      · subst hk; rw [List.getElem?_set_self iA] at f2; cases f2
      · rwa [List.getElem?_set_ne (Ne.symm hk)] at f2
    exact hs.uniq j k b g1 g2
  · rcases memL b w with w | rfl
    · exact hs.apart b (memA b z) w
    · exact e3 (memA b z)
  · rw [List.nodup_append]
    exact ⟨hs.nd, by simp, fun x hx y hy e => by simp at hy; subst hy; subst e; exact e4 hx⟩
  · by_cases hn : n < s.W.length
    · simp only [List.getElem?_append_left hn] at e
      obtain ⟨b, us, f1, f2, f3⟩ := hs.loc n ds' e
      exact ⟨b, us, loc f1, f2, f3.less hB⟩
    · have hn' : n = s.W.length := by
        have := (List.getElem?_eq_some_iff.mp e).1
        simp at this; omega
      subst hn'
      simp at e
      subst e
      refine ⟨a, vs, ?_, e1, r.less fun b z => ?_⟩
      · rw [← hs.lenL, List.getElem?_append_right (Nat.le_refl _)]; simp
      · rcases z with z | z | z
        · exact .inr (.inl (memA b z))
        · rcases memL b z with z | z
          · exact .inr (.inr (.inl z))
          · exact .inl z
        · exact .inr (.inr (.inr z))
  · have en := hs.ent
    refine ⟨en.frm, fun b z => ?_, ?_, en.there, en.tab⟩
    · rcases z with z | z
      · simp at z
      · rcases memL b z with z | rfl
        · exact en.new b (.inr z)
        · exact .inr (.inr e5)
    · obtain ⟨r', e⟩ := en.pre
      exact ⟨r' ++ [a], by rw [e]; simp⟩
  · have w := hs.pOk b (.inl z)
    refine ⟨w.1, fun y => w.2.1 (memA b y), fun y => ?_⟩
    rcases memL b y with y | rfl
    · exact w.2.2 y
    · exact nP z
  · have e : (s.η.set i (.lc s.W.length))[j]? = some .ex := e
    by_cases hj : j = i
    · subst hj
      rw [List.getElem?_set_self hi] at e
      cases e
    · rw [List.getElem?_set_ne (Ne.symm hj)] at e ⊢
      exact hs.exn j e
  · have st := h.st
    refine ⟨st.frm, fun b z => ?_, ?_, st.there, st.tab⟩
    · rcases z with z | z
      · exact st.new b (.inl (memA b z))
      · rcases memL b z with z | rfl
        · exact st.new b (.inr z)
        · rcases h.new b own with q | q
          · exact .inl q
          · exact .inr (.inr q)
    · obtain ⟨r', e⟩ := st.pre
      exact ⟨r' ++ [a], by rw [e]; simp⟩
/-- name = e, a list that others change, too -/
theorem sd_share {i : Nat} {x : Str} {pos' : Pos} (hN : X.N.Nodup) (hi : X.N[i]? = some x) (hx : Loc X.env.scope x) (he : ED X G Wx e fe) (hs : swapsWith e (some (.Name x pos')) pos.line X.env = pure false := by rfl)
    (hf : X.fn x = true ∨ X.env.scope.names.lookup x = some .local := by first | exact .inl rfl | exact .inr rfl | assumption) : SD X G Wx (.Assign [.Name x pos'] e pos) (sAsg fe (gShare i)) := by
  refine ⟨PS.imp (ps_set hN hi hx he.pe hs hf) fun D σ H h => ?_⟩
  refine tE.mono (tS_asg h) fun v H1 ⟨P, A0, L0, H0, A, L, s, r, a, h⟩ => ?_
  unfold gShare at h
  split at h
  · split at h
    · rename_i ds hi
      obtain ⟨p, rfl, sr, st⟩ := a.share hi
      exact h _ _ _ _ sr st
    · exact h.elim
  · exact h.elim
end
end DL
namespace DL
open PySem PySem.Spec PyProof.Rows L2
section
variable {K : PySem.W.Frag} {mg : Str → Option Value} {X : Cx} {G : Gm} {Wx : WX} {a b c e : Expr} {es : List Expr} {fa fb fc fe : EV} {pos : Pos} {α : Type}
/-! ### a op b op c -/
def eChain (f f' : Ob2) (fa fb fc : EV) : EV := fun s => (fa s).bind fun ra s1 => (fb s1).bind fun rb s2 => match rb with
  | .pv b => (fin2 f ra (.pv b) s2).bind fun r s3 => match r with
    | .pv (.bl true) => (fc s3).bind fun rc s4 => fin2 f' (.pv b) rc s4
    | .pv (.bl false) => .ok (.pv (.bl false)) s3
    | _ => .bad
  | _ => .bad
theorem fin2_some {α : Type} {f : Ob2} {ra rb : RV} {s : S} {k : RV → S → Rs α} {P : Addr → Prop} {A : List (Option Addr)} {L : List Addr} {H : Hp} {σ : L2.St} {Qf : α → S → Prop} (h : Run K mg G Wx P A L H σ ((fin2 f ra rb s).bind k) Qf) :
    ∃ x y r, rd ra s = some x ∧ rd rb s = some y ∧ f x y = some r ∧ Run K mg G Wx P A L H σ (k r s) Qf := by
  unfold fin2 at h
  cases e1 : rd ra s with
  | none => rw [e1] at h; exact h.elim
  | some x =>
    cases e2 : rd rb s with
    | none => rw [e1, e2] at h; exact h.elim
    | some y =>
      rw [e1, e2] at h
      simp only at h
      cases e3 : f x y with
      | none => rw [e3] at h; exact h.elim
      | some r => rw [e3] at h; exact ⟨x, y, r, rfl, rfl, e3, h⟩
theorem tE_chain {r r' : R2} {f f' : Ob2} (hv : OpV K mg r f) (hv' : OpV K mg r' f') {σ : L2.St} {H : Hp} {Q : VK} (h : tE K mg G Wx (eChain f f' fa fb fc) σ H Q) :
    tChain r r' (tE K mg G Wx fa) (tE K mg G Wx fb) (tE K mg G Wx fc) σ H Q := by
  obtain ⟨P, A, L, s, hs, h⟩ := h
  unfold tChain
  refine (tE_two hs h).mono fun x H1 h1 => h1.mono fun y H2 ⟨A2, L2', s2, ra, rb, hs2, oa, ob, st, h2⟩ => ?_
  cases rb with
  | pv b =>
    obtain ⟨xd, yd, rr, e1, e2, e3, h3⟩ := fin2_some h2
    have pa := rd_ok hs2 oa e1
    have pb := rd_ok hs2 ob e2
    refine hv _ _ _ _ _ _ rr _ hs2.there pa pb e3 fun z H3 ro => ?_
    have st3 : Step A L H A2 L2' H3 := st.trans (Step.keep ro.keep)
    have hs3 : SR K mg G P A2 L2' s2 σ H3 := hs2.keep ro.keep fun a z => .inl z
    have ob3 : RVOk K mg G P A2 L2' σ H3 (.pv b) y := ob.step (Step.keep ro.keep)
    have rp := ro.rep
    split at h3
    · refine ⟨true, by simpa [Rep] using rp, ?_⟩
      rw [if_pos rfl]
      refine ⟨P, A2, L2', s2, hs3, ((Run.bind h3).on st3 fun a z => z).imp fun rc s4 _ q A4 L4 w H4 a4 => ?_⟩
      exact run_fin2 hv' a4.weak hs.p0 (ob3.step a4.st) (a4.ok) (st3.trans a4.st) q
    · refine ⟨false, by simpa [Rep] using rp, ?_⟩
      rw [if_neg (by decide)]
      exact h3 A2 L2' _ H3 ⟨hs3.lessP (Wi.pv nofun), by show Rep _ _ _ _ _ _; unfold Rep; rfl, OwNew.of nofun, st3, hs.p0⟩
    · exact h3.elim
  | ow ds => exact h2.elim
  | vr i => exact h2.elim
  | lc n => exact h2.elim
theorem ed_chain {op op' : CmpOp} {r r' : R2} {f f' : Ob2} (ho : OpR X (compareOp op) r) (hv : OpV X.K X.mg r f) (ho' : OpR X (compareOp op') r') (hv' : OpV X.K X.mg r' f') (ha : ED X G Wx a fa) (hb : ED X G Wx b fb) (hc : ED X G Wx c fc)
    (hm : lastMarks [op, op'] [b, c] = false := by with_unfolding_all rfl) : ED X G Wx (.Compare a [op, op'] [b, c] pos) (eChain f f' fa fb fc) :=
  ⟨PE.imp (pe_chain ho ho' ha.pe hb.pe hc.pe hm) fun σ H Q h => tE_chain hv hv' h⟩
theorem td_chain {op op' : CmpOp} {r r' : R2} {f f' : Ob2} (ho : OpR X (compareOp op) r) (hv : OpV X.K X.mg r f) (ho' : OpR X (compareOp op') r') (hv' : OpV X.K X.mg r' f') (ha : ED X G Wx a fa) (hb : ED X G Wx b fb) (hc : ED X G Wx c fc)
    (hm : lastMarks [op, op'] [b, c] = false := by with_unfolding_all rfl) : TD X G Wx (.Compare a [op, op'] [b, c] pos) (tOfB (eChain f f' fa fb fc)) := by
  refine ⟨PT.imp (pt_chain ho ho' ha.pe hb.pe hc.pe hm) fun σ H Q ⟨P, A, L, s, hs, h⟩ => ?_⟩
  refine tE_chain hv hv' ⟨P, A, L, s, hs, (Run.bind h).imp fun r s' _ p A' L' v H' at' => ?_⟩
  unfold toB at p
  split at p
  · rename_i b0 _
    have e : v = .bl b0 := by have := at'.ok; unfold RVOk Rep at this; exact this
    exact ⟨b0, e, p A' L' H' (at'.sr.lessP fun _ z => .inl z) at'.st⟩
  · exact p.elim
end
/-! ### the defs of a program -/
/-- a def that stands in the module -/
structure Row (K : PySem.W.Frag) (mg : Str → Option Value) (st : Stmt) (x : Str) (ps : List Str) : Prop where
  ex : ∃ f fd, mg x = some (.ref f) ∧ Fun K x x st f fd ∧ ∀ us : List Value, us.length = ps.length → bindArgs fd ⟨us, []⟩ = pure (ps.zip us)
/-- .. and keeps its promise -/
structure Has (Pg : Program) (w : World) (K : PySem.W.Frag) (mg : Str → Option Value) (base : Heap) (tb : List Addr) (k : Nat) (x : Str) (ps : List Str) (m : Fn) : Prop where
  ex : ∃ f fd, mg x = some (.ref f) ∧ PySem.W.keepIn K (.ref f) = true ∧ Binds K fd ps [] ∧ FnOk Pg w K mg base (L2N.CX Pg w) k f fd ps (spD K mg tb m) ∧ ∃ oc od osl, K.lookup f = some ⟨oc, od, .func fd, osl⟩
section
variable {Pg : Program} {w : World} {K : PySem.W.Frag} {mg : Str → Option Value} {base : Heap} {tb : List Addr} {k j : Nat} {x : Str} {ps N : List Str} {m : Fn} {st : Stmt} {body : SV}
theorem Has.mono (h : Has Pg w K mg base tb j x ps m) (l : j ≤ k) : Has Pg w K mg base tb k x ps m := let ⟨f, fd, a, b, c, d, e⟩ := h.ex; ⟨f, fd, a, b, c, d.mono l, e⟩
theorem Has.of (R : Row K mg st x ps) (Sc : FnScope N ps (defScope st))
    (hb : ∀ (f : Addr) (cdv : Value) (A : Around) (outer : List Env) (s : Shared) (H : Hp) (E : XK) (G : Gm), G.tb = tb → Room k (A.deeper (envOfC x (defScope st) s.heap.objs.size f cdv)) →
      SsD (cxOf (L2N.CX Pg w) Pg w K mg base N x (defScope st) f cdv A outer s H E) G (fun cls d _ H' => E cls d H') (defBody st) body) :
    Has Pg w K mg base tb (k + 1) x ps (defF ps.length N.length body) := by
  obtain ⟨f, fd, h1, F, b⟩ := R.ex
  refine ⟨f, fd, h1, F.kp, .all b, fn_ok F Sc (hb f), ?_⟩
  obtain ⟨oc, od, kV, doc, pm, an, cdv, ct, osl, e, lk, _⟩ := F.ex
  exact ⟨oc, od, osl, lk⟩
theorem Has.bad (R : Row K mg st x ps) : Has Pg w K mg base tb k x ps fun _ _ => .bad := by
  obtain ⟨f, fd, h1, F, b⟩ := R.ex
  obtain ⟨oc, od, kV, doc, pm, an, cdv, ct, osl, e, lk, _⟩ := F.ex
  refine ⟨f, fd, h1, F.kp, .all b, ⟨fun vs H Q E h => ?_, fun A outer s H args us vs Q E hr he hb hv h => ?_⟩, oc, od, osl, lk⟩
  · obtain ⟨P, L, args, W, _, _, h⟩ := h; exact h.elim
  · obtain ⟨P, L, args, W, _, _, h⟩ := h; exact h.elim
end
section
variable {X : Cx} {G : Gm} {Wx : WX} {e : Expr} {es : List Expr} {pos : Pos}
theorem ed_callH {k j : Nat} {ps : List Str} {tb : List Addr} {F : Fn} {fs : AV} {x : Str} {p : Pos} (Fk : Has X.prog X.w X.K X.mg X.base tb j x ps F) (hr : Room k X.A) (htb : G.tb = tb) (tk : L2N.Takes X Wx) (ha : AD X G Wx (e :: es) fs) (hjk : j ≤ k := by decide)
    (hg : Gl X x := by rfl)
    (hdb : (x == ("__debug__" : Str)) = false := by decide) (he : starEach (e :: es) X.env = (false, eval e X.env) :: starEach es X.env := by rfl) (hpl : (backTo pos (starEach es X.env)).any (·.1) = false := by rfl) :
    ED X G Wx (.Call (.Name x p) (e :: es) [] pos) (eCall F fs) := by
  obtain ⟨f, fd, hm, hk, hb, F, _⟩ := Fk.ex
  exact ed_call F (hr.mono hjk) htb tk hg hm hk hb ha hdb he hpl
theorem takes_cx {Pg : Program} {w : World} {K : PySem.W.Frag} {mg : Str → Option Value} {base : Heap} {N : List Str} {qual : Str} {scope : Scope} {f : Addr} {cd : Value} {A : Around} {outer : List Env} {s : Shared} {H : Hp} {E : XK} :
    L2N.Takes (cxOf (L2N.CX Pg w) Pg w K mg base N qual scope f cd A outer s H E) fun cls d _ H' => E cls d H'   := L2N.takes_of rfl rfl rfl rfl
theorem owns_cx {Pg : Program} {w : World} {K : PySem.W.Frag} {mg : Str → Option Value} {base : Heap} {N : List Str} {qual : Str} {scope : Scope} {f : Addr} {cd : Value} {A : Around} {outer : List Env} {s : Shared} {H : Hp} {E : XK} :
    PassesOwn (model Pg w) (cxOf (L2N.CX Pg w) Pg w K mg base N qual scope f cd A outer s H E).A (cxOf (L2N.CX Pg w) Pg w K mg base N qual scope f cd A outer s H E).env (cxOf (L2N.CX Pg w) Pg w K mg base N qual scope f cd A outer s H E).xe :=
  passes_of (X := cxOf (L2N.CX Pg w) Pg w K mg base N qual scope f cd A outer s H E) (K := fun e s'' => L2N.CX Pg w outer H s E e s'') (E₁ := fun e s'' => L2N.CX Pg w outer H s E e s'') rfl
end
/-- the built-in names that the module leaves alone -/
structure Blt (mg : Str → Option Value) : Prop where
  no : ∀ x ∈ ["len", "isinstance", "range", "tuple", "int", "list", "sorted", "all", "any", "abs", "sum", "reversed", "max", "min", "enumerate", "dict", "zip", "set", "str", "bool", "ord", "divmod"], mg (Str.ofString x) = none
end DL
namespace DL
open PySem PySem.Spec PyProof.Rows L2
/-! ### a comprehension's scope, checked -/
def blkB (N : List Str) (sc scope : Scope) (own : List (Str × Nat)) : Bool :=
  scope.kind == .function && scope.names.all (fun y => scope.names.lookup y.1 == some y.2) && own.all (fun p => N[p.2]? == some p.1) &&
  scope.names.all (fun y => !(y.2 == .free) || (sc.names.lookup y.1 == some .cell || sc.names.lookup y.1 == some .free)) &&
  scope.names.all (fun y => !(y.2 == .local || y.2 == .cell) || ((own.map (·.1)).contains y.1 || !N.contains y.1))
theorem blk_ok {N : List Str} {sc scope : Scope} {own : List (Str × Nat)} (h : blkB N sc scope own = true) : BlkOk N sc scope own := by
  unfold blkB at h
  simp only [Bool.and_eq_true, List.all_eq_true] at h
  obtain ⟨⟨⟨⟨h1, h2⟩, h3⟩, h4⟩, h5⟩ := h
  refine ⟨by simpa using h1, fun y hy => by simpa using h2 y hy, fun p hp => by simpa using h3 p hp, fun y hy e => ?_, fun y hy e => ?_⟩
  · have := h4 y hy
    rw [e] at this
    simpa using this
  · have := h5 y hy
    rcases e with e | e
    · rw [e] at this
      simpa using this
    · rw [e] at this
      simpa using this
section
variable {Pg : Program} {w : World} {K : PySem.W.Frag} {mg : Str → Option Value} {base : Heap} {tb : List Addr} {k j : Nat} {x : Str} {ps N : List Str} {m : Fn} {st : Stmt} {body : SV}
/-- a def's row by what the head says of it -/
theorem Row.mk' {h : Heap} {f : Addr} {oc : Value} {od an : Option Addr} {osl : Array (Option Value)} {kV doc pm cdv ct : Value} (X : K.In h) (G : h.Ns mainGlobals mg)
    (hb : ∀ (kV doc pm : Value) (an : Option Addr) (cdv ct : Value) (us : List Value), us.length = ps.length → bindArgs (PySem.W.fnOf x x (defArgs st) (defBody st) (defScope st) .none kV doc pm an cdv ct) ⟨us, []⟩ = pure (ps.zip us))
    (a : PySem.W.nsIn K mainGlobals x = some (some (.ref f))) (l : K.lookup f = some ⟨oc, od, .func (PySem.W.fnOf x x (defArgs st) (defBody st) (defScope st) .none kV doc pm an cdv ct), osl⟩)
    (c : PySem.W.codeIn K cdv x = true) (k : PySem.W.keepIn K (.ref f) = true) : Row K mg st x ps :=
  ⟨f, _, PySem.W.mg_of X G a, fun_mk l c k, hb kV doc pm an cdv ct⟩
/-- the law's own promise -/
theorem law_sp {H : Hp} {a : Addr} {ns : List Int} (hS : SqL K H a (ns.map V.int)) (htb : ∀ a ∈ tb, GxR.TabG H a) (h : ∃ W', m [.pv (.scr (ns.map D.int))] [] = .ok (.pv (.bl true)) W') :
    spD K mg tb m [.ref a] H (fun v _ => v = .bl true) fun _ _ _ => False := by
  obtain ⟨W', h⟩ := h
  refine ⟨fun _ => False, [], [.pv (.scr (ns.map D.int))], [], ⟨rfl, rfl, fun i x e => by simp at e, fun i j a e => by simp at e, fun a z => by simp at z, List.nodup_nil, rfl, fun n ds e => by simp at e, fun a z => by simp at z, htb, Step.refl _ _ _, fun a z => by simp at z, fun a z => z.elim, fun i e => by simp at e⟩, ?_, ?_⟩
  · unfold ArgsOk
    refine ⟨_, _, rfl, ?_, by unfold ArgsOk; rfl⟩
    show Rep _ _ _ _ _ _
    unfold Rep
    refine ⟨a, ns.map V.int, rfl, ?_, Reps.ofInts⟩
    rcases hS with hS | hS
    · refine .inl ⟨hS, fun z => ?_⟩
      rcases z with z | z | z
      · simp at z
      · simp at z
      · exact z
    · exact .inr hS
  · rw [h]
    intro L' v H' sr ok
    have ok : Rep K mg (Bd (fun _ => False) [] L') H' (.bl true) v := ok
    unfold Rep at ok
    exact ok
end
/-- the end of a law without tables -/
theorem lawAt0 {l : PySem.W.OpenLaw} {w : World} {K : PySem.W.Frag} {k n : Nat} {x : Str} {mg : Str → Option Value} {fa : Addr} {h : Heap} {m : Fn} {st : Stmt} {nm : Str} (R : Row K mg st nm [x]) (hfa : mg nm = some (.ref fa))
    (F : ∀ (base : Heap) (f : Addr) (fd : FuncData), Fun K nm nm st f fd → FnOk l.prog w K mg base (L2N.CX l.prog w) k f fd [x] (spD K mg [] m))
    (hm : ∀ ns : List Int, ns.length ≤ n → (∀ z ∈ ns, Builtin.Int.intBits z ≤ 1048576) → ∃ W', m [.pv (.scr (ns.map D.int))] [] = .ok (.pv (.bl true)) W') : LamX.LawAtS l w K (L2N.CX l.prog w) k n x mg fa h := by
  obtain ⟨f, fd, h1, Fn, b⟩ := R.ex
  have e := hfa.symm.trans h1
  cases e
  exact ⟨fd, [], spD K mg [] m, fun p hp => by simp at hp, fun p hp => by simp at hp, fun p hp => by simp at hp, fun s u => .of_eq (b [u] rfl), fun H a ns hl hb _ hS => law_sp hS (fun a z => by simp at z) (hm ns hl hb), fun base _ _ _ => F base _ fd Fn⟩
theorem cx_none {P : Program} {w : World} {H : Hp} {s : Shared} {e : Value} {s' : Shared} (h : L2N.CX P w [] H s (fun _ _ _ => False) e s') : False := by
  obtain ⟨_, _, _, _, _, _, _, _, _, _, _, _, h⟩ := h
  exact h
end DL
namespace DL
open PySem PySem.Spec PyProof.Rows L2
theorem bt_len : bootBuiltins "len" = some (.builtin "len") := by decide +kernel
theorem bt_isinstance : bootBuiltins "isinstance" = some (.builtin "isinstance") := by decide +kernel
theorem bt_abs : bootBuiltins "abs" = some (.builtin "abs") := by decide +kernel
theorem bt_max : bootBuiltins "max" = some (.builtin "max") := by decide +kernel
theorem bt_min : bootBuiltins "min" = some (.builtin "min") := by decide +kernel
theorem bt_sum : bootBuiltins "sum" = some (.builtin "sum") := by decide +kernel
theorem bt_sorted : bootBuiltins "sorted" = some (.builtin "sorted") := by decide +kernel
theorem bt_all : bootBuiltins "all" = some (.builtin "all") := by decide +kernel
theorem bt_any : bootBuiltins "any" = some (.builtin "any") := by decide +kernel
theorem bt_int : bootBuiltins "int" = some (.type "int") := by decide +kernel
theorem bt_bool : bootBuiltins "bool" = some (.type "bool") := by decide +kernel
theorem bt_str : bootBuiltins "str" = some (.type "str") := by decide +kernel
theorem bt_list : bootBuiltins "list" = some (.type "list") := by decide +kernel
theorem bt_tuple : bootBuiltins "tuple" = some (.type "tuple") := by decide +kernel
theorem bt_dict : bootBuiltins "dict" = some (.type "dict") := by decide +kernel
theorem bt_set : bootBuiltins "set" = some (.type "set") := by decide +kernel
theorem bt_range : bootBuiltins "range" = some (.type "range") := by decide +kernel
theorem bt_reversed : bootBuiltins "reversed" = some (.type "reversed") := by decide +kernel
theorem bt_enumerate : bootBuiltins "enumerate" = some (.type "enumerate") := by decide +kernel
theorem bt_zip : bootBuiltins "zip" = some (.type "zip") := by decide +kernel
theorem u64 {k : Nat} {A : Around} (r : Room k A) : A.units + 64 < cLine := by have := r.un; omega
theorem u65 {k : Nat} {A : Around} (r : Room k A) : A.units + 65 < cLine := by have := r.un; omega
section
variable {X : Cx} {G : Gm} {Wx : WX} {c : Expr} {fe : EV} {pos : Pos} {elt tg iter : Expr} {scope : Scope} {it : IV} {g : GV} {t : TV}
theorem ed_comp0 (own : List (Str × Nat)) (hc : X.calm = true) (hN : X.N.Nodup) (hi : ID X G Wx tg iter it) (ok : BlkOk X.N X.env.scope scope own)
    (hg : ∀ (s : Shared) (H : Hp) (C : Addr) (cl : List (Str × Addr)) (fp : List Addr), GDv (Blk X scope s H C cl fp) G (own.map (·.2)) tg g)
    (he : ∀ (s : Shared) (H : Hp) (C : Addr) (cl : List (Str × Addr)) (fp : List Addr), ED (Blk X scope s H C cl fp) G W0 elt fe) (hs : ∀ x, foldedSetIterable iter X.env x = pure x := by intro _; rfl) :
    ED X G Wx (.ListComp elt [⟨tg, iter, [], 0⟩] scope pos) (eComp (own.map (·.2)) it g tTrue fe) := ed_comp (tt := tYes) own hc hN hi ok hg (fun _ _ _ _ _ => cd_nil) he hs
theorem ed_comp1 (own : List (Str × Nat)) (hc : X.calm = true) (hN : X.N.Nodup) (hi : ID X G Wx tg iter it) (ok : BlkOk X.N X.env.scope scope own)
    (hg : ∀ (s : Shared) (H : Hp) (C : Addr) (cl : List (Str × Addr)) (fp : List Addr), GDv (Blk X scope s H C cl fp) G (own.map (·.2)) tg g)
    (ht : ∀ (s : Shared) (H : Hp) (C : Addr) (cl : List (Str × Addr)) (fp : List Addr), TD (Blk X scope s H C cl fp) G W0 c t)
    (he : ∀ (s : Shared) (H : Hp) (C : Addr) (cl : List (Str × Addr)) (fp : List Addr), ED (Blk X scope s H C cl fp) G W0 elt fe) (hs : ∀ x, foldedSetIterable iter X.env x = pure x := by intro _; rfl) :
    ED X G Wx (.ListComp elt [⟨tg, iter, [c], 0⟩] scope pos) (eComp (own.map (·.2)) it g t fe) := ed_comp (tt := tT X.K X.mg G W0 t) own hc hN hi ok hg (fun s H C cl fp => cd_one (ht s H C cl fp)) he hs
theorem sd_setComp0 {i : Nat} {y : Str} {py spos : Pos} (own : List (Str × Nat)) (hc : X.calm = true) (hN : X.N.Nodup) (hy : X.N[i]? = some y) (hyl : X.env.scope.names.lookup y = some .local)
    (hsw : swapsWith (.ListComp elt [⟨tg, iter, [], 0⟩] scope pos) (some (.Name y py)) spos.line X.env = pure true) (hi : ID X G Wx tg iter it) (ok : BlkOk X.N X.env.scope scope own)
    (hg : ∀ (s : Shared) (H : Hp) (C : Addr) (cl : List (Str × Addr)) (fp : List Addr), GDv (Blk X scope s H C cl fp) G (own.map (·.2)) tg g)
    (he : ∀ (s : Shared) (H : Hp) (C : Addr) (cl : List (Str × Addr)) (fp : List Addr), ED (Blk X scope s H C cl fp) G W0 elt fe) (hs : ∀ x, foldedSetIterable iter X.env x = pure x := by intro _; rfl) :
    SD X G Wx (.Assign [.Name y py] (.ListComp elt [⟨tg, iter, [], 0⟩] scope pos) spos) (sAsg (eComp (own.map (·.2)) it g tTrue fe) (gSet i)) := sd_setComp (tt := tYes) own hc hN hy hyl hsw hi ok hg (fun _ _ _ _ _ => cd_nil) he hs
theorem sd_setComp1 {i : Nat} {y : Str} {py spos : Pos} (own : List (Str × Nat)) (hc : X.calm = true) (hN : X.N.Nodup) (hy : X.N[i]? = some y) (hyl : X.env.scope.names.lookup y = some .local)
    (hsw : swapsWith (.ListComp elt [⟨tg, iter, [c], 0⟩] scope pos) (some (.Name y py)) spos.line X.env = pure true) (hi : ID X G Wx tg iter it) (ok : BlkOk X.N X.env.scope scope own)
    (hg : ∀ (s : Shared) (H : Hp) (C : Addr) (cl : List (Str × Addr)) (fp : List Addr), GDv (Blk X scope s H C cl fp) G (own.map (·.2)) tg g)
    (ht : ∀ (s : Shared) (H : Hp) (C : Addr) (cl : List (Str × Addr)) (fp : List Addr), TD (Blk X scope s H C cl fp) G W0 c t)
    (he : ∀ (s : Shared) (H : Hp) (C : Addr) (cl : List (Str × Addr)) (fp : List Addr), ED (Blk X scope s H C cl fp) G W0 elt fe) (hs : ∀ x, foldedSetIterable iter X.env x = pure x := by intro _; rfl) :
    SD X G Wx (.Assign [.Name y py] (.ListComp elt [⟨tg, iter, [c], 0⟩] scope pos) spos) (sAsg (eComp (own.map (·.2)) it g t fe) (gSet i)) := sd_setComp (tt := tT X.K X.mg G W0 t) own hc hN hy hyl hsw hi ok hg (fun s H C cl fp => cd_one (ht s H C cl fp)) he hs
end
/-- more turns than any loop here takes -/
noncomputable def fuel : Nat := Classical.choose (⟨2 ^ 64, rfl⟩ : ∃ n : Nat, n = 2 ^ 64)
theorem fuel_eq : fuel = 2 ^ 64 := Classical.choose_spec (⟨2 ^ 64, rfl⟩ : ∃ n : Nat, n = 2 ^ 64)
end DL
namespace DL
open PySem PySem.Spec PyProof.Rows L2
/-! ### enumerate(a tuple) -/
theorem draws_tuple {prog : Program} {w : World} {A : Around} (hh : A.handled = none) (it l : Addr) (hne : l ≠ it) (items : Array Value) :
    Draws prog w A it [it, l] items.size (fun i v => items[i]? = some v) (fun i h => h.IsTupleIter it l i ∧ h.IsTuple l items) where
  live := fun _ _ st => let ⟨o, ho, _⟩ := st.1; ⟨o, ho⟩
  frame := fun _ _ _ st hk => ⟨st.1.at fun o e => hk it (by simp) o e, let ⟨o, ho, r⟩ := st.2; ⟨o, hk l (by simp) o ho, r⟩⟩
  item := fun i s Q E hi st hQ => by
    refine RZ.nextOf_tuple_item st.1 st.2 (Array.getElem?_eq_getElem hi) fun h' hit hs => ?_
    exact hQ _ h' s.toks (Array.getElem?_eq_getElem hi) ⟨hit, let ⟨o, ho, r⟩ := st.2; ⟨o, (hs.2 l hne).trans ho, r⟩⟩ hs
  done := fun s Q E st hE => RZ.nextOf_tuple_end hh st.1 st.2 (Array.getElem?_eq_none (Nat.le_refl _)) hE
theorem meets_enum_tup (l : Addr) (items : Array Value) (n : Nat) (dct : Option Addr) (sl : Array (Option Value)) :
    Meets (Builtin.«enumerate.__new__» ⟨[.type "enumerate", .ref l], []⟩) (fun _ R s => s.heap.get? l = some { cls := .type "tuple", dict := dct, data := .seq items n, slots := sl } ∧
      R (.ok (.ret (.ref (s.heap.push { cls := .type "tuple_iterator", data := .fields #[.ref l, .int 0 0] }).objs.size)))
        { s with heap := (s.heap.push { cls := .type "tuple_iterator", data := .fields #[.ref l, .int 0 0] }).push { cls := .type "enumerate", data := .fields #[.none, .bool false, .ref s.heap.objs.size, rawInt 0, .none, .none] } }) :=
  .of_wp fun prog w A R s h => by
    obtain ⟨hp, g, d, tk, os⟩ := s; obtain ⟨hl, h⟩ := h
    have hsub := sub_enumerate
    have hL : Heap.IsTuple (Shared.heap ⟨hp, g, d, tk, os⟩) l items := ⟨_, hl, rfl, n, rfl⟩
    wp_walk using AutoSeq1.wpAny_loadPart' hl
    refine wpAny_stack_any fun st => wpAny_pure ?_
    split
    · rename_i c _ _ _ _ _
      cases (c == Value.type "enumerate")
      · wp_walk using AutoSeq1.wpAny_loadPart' hl, wpAny_pyIter_tuple hL
        exact ⟨_, rfl, h⟩
      · wp_walk using AutoSeq1.wpAny_loadPart' hl, wpAny_pyIter_tuple hL
        exact ⟨_, rfl, h⟩
    · wp_walk using AutoSeq1.wpAny_loadPart' hl, wpAny_pyIter_tuple hL
      exact ⟨_, rfl, h⟩
section
variable {prog : Program} {w : World} {A : Around} {E : Value → Shared → Prop} {s : Shared}
theorem call_enum_tup {l : Addr} {items : Array Value} {Q : Value → Shared → Prop} (hL : s.heap.IsTuple l items)
    (h : ∀ h', IsEnum h' (s.heap.objs.size + 1) s.heap.objs.size 0 .none → h'.IsTupleIter s.heap.objs.size l 0 → h'.objs.size = s.heap.objs.size + 2 →
      (∀ b o, s.heap.get? b = some o → h'.get? b = some o) → Q (.ref (s.heap.objs.size + 1)) { s with heap := h' }) :
    wpAny (model prog w) A (call (.type "enumerate") [.ref l]) Q E s := by
  obtain ⟨⟨c, dct, dt, sl⟩, hl, hc, n, hd⟩ := hL
  replace hc : c = .type "tuple" := hc
  replace hd : dt = .seq items n := hd
  subst hc hd
  refine callType_new F.called_enumerate (by decide) (F.typeCall_enumerate_1 _) (F.newCall_enumerate_1 _) (fun obj => F.args_object_init_2 obj _) F.entry_enumerate_new
    (meets_enum_tup l items n dct sl) ⟨hl, ?_⟩
  have hz : (s.heap.push { cls := .type "tuple_iterator", data := .fields #[.ref l, .int 0 0] }).objs.size = s.heap.objs.size + 1 := Heap.size_push ..
  show _ ∧ _
  rw [hz]
  have he : IsEnum ((s.heap.push { cls := .type "tuple_iterator", data := .fields #[.ref l, .int 0 0] }).push
      { cls := .type "enumerate", data := .fields #[.none, .bool false, .ref s.heap.objs.size, rawInt 0, .none, .none] }) (s.heap.objs.size + 1) s.heap.objs.size 0 .none := by
    have := Heap.get?_push_size (s.heap.push { cls := .type "tuple_iterator", data := .fields #[.ref l, .int 0 0] })
      (o := { cls := .type "enumerate", data := .fields #[.none, .bool false, .ref s.heap.objs.size, rawInt 0, .none, .none] }) rfl
    rw [hz] at this; exact this
  refine ⟨⟨_, he, rfl⟩, h _ he ⟨_, Heap.get?_push_of_some _ (Heap.get?_push_size _ rfl), rfl, rfl⟩ (by rw [Heap.size_push, hz]) fun b o x => Heap.get?_push_of_some _ (Heap.get?_push_of_some _ x)⟩
end
/-- the tuple at a, each item in a new pair -/
def IteT (K : PySem.W.Frag) (a : Addr) : It :=
  ⟨fun i H => ∃ (xs : List V) (x : V), SqT K H a xs ∧ xs[i]? = some x, fun i H v H' => ∃ T x, v = .ref T ∧ H T = none ∧ H' = upd H T (.tup [.int (i : Nat), x]) ∧ ∀ xs, SqT K H a xs → xs[i]? = some x, fun i H => ∃ xs : List V, SqT K H a xs ∧ xs.length ≤ i⟩
theorem turn_enumT {P : Program} {w : World} {K : PySem.W.Frag} {elts : List Expr} {kk : Nat} {tpos : Pos} (a e it : Addr) :
    Turn P w K (.Tuple elts kk tpos) (IteT K a) [e, it] e (fun i h => (∃ old, IsEnum h e it ((i : Nat) : Int) old) ∧ h.IsTupleIter it a i ∧ e ≠ it ∧ a ≠ it ∧ a ≠ e) where
  mem := by simp
  obj := fun i h st b hb => by
    obtain ⟨⟨old, he⟩, ⟨o, ho, hc, hd⟩, _⟩ := st
    have e' : b = e ∨ b = it := by simpa using hb
    rcases e' with z | z
    · rw [z]; exact ⟨_, he, fun v q => nomatch q⟩
    · rw [z]; exact ⟨o, ho, fun v q => by rw [hd] at q; cases q⟩
  keep := fun i h h' st k => let ⟨⟨old, he⟩, hi, hne⟩ := st; ⟨⟨old, k e (by simp) _ he⟩, hi.at fun o q => k it (by simp) o q, hne⟩
  item := by
    intro X hP hw hK hc i pins s σ H E I hf st hg
    subst hP hw hK
    obtain ⟨⟨old, he⟩, hit, hne, hai, hae⟩ := st
    obtain ⟨xs, x, hq, hx⟩ := hg
    obtain ⟨its, rv, p, hz⟩ := I.tuple hq
    obtain ⟨u, hu, ru⟩ := rv.get hx
    have hel : e < s.heap.objs.size := Heap.lt_size he
    have hil : it < s.heap.objs.size := by obtain ⟨_, q, _⟩ := hit; exact Heap.lt_size q
    have hlt : i < its.toArray.size := by rw [List.size_toArray]; exact (List.getElem?_eq_some_iff.mp hu).1
    have D := draws_tuple (prog := X.prog) (w := X.w) (A := X.A.in1) (I.ok.hd hc) it a hai its.toArray
    refine wpAny_pyNext_enum_itemD D he ⟨hit, show s.heap.IsTuple a its.toArray from p⟩ hlt hne (by simp [hne, Ne.symm hae]) fun x' h' tk hx' ho hst' hT hsz hk => ?_
    have ex : x' = u := by
      have h2 : its.toArray[i]? = some u := by simpa using hu
      rw [h2] at hx'; exact (Option.some.inj hx').symm
    subst ex
    refine ⟨_, rfl, wpAny_letOwnedTupleGo_enum (s := { s with heap := h', toks := tk + 1 }) ho fun h'' he' sb => ?_⟩
    have hT2 : h''.get? s.heap.objs.size = some { cls := .type "tuple", data := .seq #[.int i tk, x'] } := (sb.2 _ (Nat.ne_of_gt hel)).trans hT
    have new : ObjOk X.prog X.w (upd H s.heap.objs.size (.tup [.int (i : Nat), x])) h'' s.heap.objs.size (.tup [.int (i : Nat), x]) :=
      ⟨by show 2 ≤ sizeLine; decide, [.int i tk, x'], .cons ⟨_, rfl⟩ (.cons ru .nil), ⟨_, hT2, rfl, _, rfl⟩⟩
    have I1 : Inv X pins σ (upd H s.heap.objs.size (.tup [.int (i : Nat), x])) { s with heap := h'', toks := tk + 1 } :=
      I.turnedNew (ch := [e, it]) (fun b ob hb q => (sb.2 b (fun z => hb (by simp [z]))).trans (hk b ob (fun z => hb (by simp [z])) (fun z => hb (by simp [z])) q)) hf (Nat.le_refl _) new
    refine ⟨.ref s.heap.objs.size, _, I1, rfl, ⟨_, x, rfl, I.hok.fresh (Nat.le_refl _), rfl, fun ys hy => by rw [I.tuple_inj hy hq]; exact hx⟩, ⟨⟨x', ?_⟩, hst'.1.at fun o q => (sb.2 it (Ne.symm hne)).trans q, hne, hai, hae⟩, fun b hb => ?_⟩
    · have e1 : ((i + 1 : Nat) : Int) = (i : Int) + 1 := by omega
      rw [e1]; exact he'
    · have hb' : b < s.heap.objs.size := by
        have e' : b = e ∨ b = it := by simpa using hb
        rcases e' with z | z
        · rw [z]; exact hel
        · rw [z]; exact hil
      rw [upd_ne (Nat.ne_of_lt hb')]
      exact (hf b hb).1
  done := by
    intro X hP hw hK hc i pins s σ H E I hf st hg
    subst hP hw hK
    obtain ⟨⟨old, he⟩, hit, hne, hai, hae⟩ := st
    obtain ⟨xs, hq, hx⟩ := hg
    obtain ⟨its, rv, p, hz⟩ := I.tuple hq
    obtain ⟨f0, f1, f2, f3, f4, f5⟩ := hf it (by simp)
    have hl := rv.length
    have hT : s.TypeIs (.ref e) "enumerate" := ⟨_, he, rfl⟩
    unfold pyNext
    refine wpAny_bind (wpAny_attempt (wpAny_callSpecial?_slot (name := Str.ofString "__next__") hT F.slot_enumerate_next
      (wpAny_call_entry F.slot_enumerate_next hT F.entry_enumerate_next ?_ (F.args_enumerate_next_1 _))))
    show wpAny _ _ (field (.ref e) 2 >>= _) _ _ _
    refine wpAny_bind (wpAny_field he rfl (x := .ref it) rfl ?_)
    refine wpAny_bind (RZ.nextOf_tuple_end (I.ok.hd hc) hit (show s.heap.IsTuple a its.toArray from p) (by simp; omega) fun h' x he' hx' => ?_)
    obtain ⟨o, ho, hc'⟩ := hx'
    refine wpAny_bind (wpAny_isInstance (T := "StopIteration") (b := true) ⟨o, ho, hc'⟩ isSubtype_stop ?_)
    exact wpAny_pure ⟨rfl, I.turned (t' := s.toks) (fun b o hb q => he' b o hb q) f0 f1 f3 f4 f5⟩
  self := fun A i s Q E st h => let ⟨⟨_, he⟩, _⟩ := st; wpAny_pyIter_enum he h
def iEnumA (K : PySem.W.Frag) (te : TE) : TI := fun σ H R => te σ H fun v H1 => ∃ a xs, v = .ref a ∧ ((SqL K H1 a xs ∧ R (Ite K a) H1) ∨ (SqT K H1 a xs ∧ R (IteT K a) H1))
theorem pi_enumA {X : Cx} {e : Expr} {te : TE} {p pos tpos : Pos} {elts : List Expr} {kk : Nat} (hg : Gl X "enumerate") (hm : X.mg "enumerate" = none) (he : PE X e te) (hs : starEach [e] X.env = (false, eval e X.env) :: starEach [] X.env := by rfl) :
    PI X (.Tuple elts kk tpos) (.Call (.Name "enumerate" p) [e] [] pos) (iEnumA X.K te) := by
  refine ⟨fun pins s σ H R I h => ?_⟩
  refine Call_ (ld_blt I hg hm boot_enumerate (PyProof.Rows.callWith_type1 (args_cons (thn (he.run pins s σ H _ I h) fun u s1 ⟨v, H1, I1, r1, q1⟩ => args_nil ?_) hs) hs rfl))
  obtain ⟨a, xs, ev, q⟩ := q1
  subst ev
  obtain rfl : u = Value.ref a := r1
  have fp : ∀ b ∈ [s1.heap.objs.size + 1, s1.heap.objs.size], FpOk X pins H1 b := fun b hb => by
    have e' : b = s1.heap.objs.size + 1 ∨ b = s1.heap.objs.size := by simpa using hb
    have hle : s1.heap.objs.size ≤ b := by
      rcases e' with z | z
      · rw [z]; exact Nat.le_add_right _ _
      · rw [z]; exact Nat.le_refl _
    exact I1.fpOk hle (I1.hok.fresh hle)
  rcases q with ⟨hq, q⟩ | ⟨hq, q⟩
  · obtain ⟨its, rv, p', hz⟩ := I1.list hq
    refine call_enumerate_list p'.isList fun h' he hit hsz hk => wpAny_pyIter_enum he ?_
    have I2 : Inv X pins σ H1 { s1 with heap := h' } := I1.kept (t' := s1.toks) hk
    exact ⟨s1.heap.objs.size + 1, [s1.heap.objs.size + 1, s1.heap.objs.size], _, _, H1, rfl, I2, turn_enum a (s1.heap.objs.size + 1) s1.heap.objs.size, ⟨⟨.none, he⟩, hit, Nat.succ_ne_self _⟩, fp, q⟩
  · obtain ⟨its, rv, p', hz⟩ := I1.tuple hq
    have hal : a < s1.heap.objs.size := by obtain ⟨_, w, _⟩ := id p'; exact Heap.lt_size w
    refine call_enum_tup (show s1.heap.IsTuple a its.toArray from p') fun h' he hit hsz hk => wpAny_pyIter_enum he ?_
    have I2 : Inv X pins σ H1 { s1 with heap := h' } := I1.kept (t' := s1.toks) hk
    exact ⟨s1.heap.objs.size + 1, [s1.heap.objs.size + 1, s1.heap.objs.size], _, _, H1, rfl, I2, turn_enumT a (s1.heap.objs.size + 1) s1.heap.objs.size, ⟨⟨.none, he⟩, hit, Nat.succ_ne_self _, Nat.ne_of_lt hal, Nat.ne_of_lt (Nat.lt_succ_of_lt hal)⟩, fp, q⟩
end DL
namespace DL
open PySem PySem.Spec PyProof.Rows L2
section
variable {K : PySem.W.Frag} {mg : Str → Option Value} {X : Cx} {G : Gm} {Wx : WX} {a b c e e2 : Expr} {es : List Expr} {fa fb fc fe : EV} {pos : Pos}
variable {P P' : Addr → Prop} {A A' A1 : List (Option Addr)} {σ σ' : L2.St} {L L' L1 : List Addr} {H H' H1 : Hp} {s s' : S}
/-! ### enumerate -/
def enumD (ds : List D) : List D := ds.zipIdx.map fun p => .tup [.int (p.2 : Int), p.1]
theorem enumD_len (ds : List D) : (enumD ds).length = ds.length := by unfold enumD; simp
theorem enumD_get {ds : List D} {i : Nat} {x : D} (h : (enumD ds)[i]? = some x) : ∃ d, ds[i]? = some d ∧ x = .tup [.int (i : Int), d] := by
  unfold enumD at h
  rw [List.getElem?_map, List.getElem?_zipIdx] at h
  cases q : ds[i]? with
  | none => rw [q] at h; simp at h
  | some d => rw [q] at h; simp at h; exact ⟨d, rfl, h.symm⟩
theorem reps2 {B : Addr → Prop} {H : Hp} {d1 d2 : D} {v1 v2 : V} (h1 : Rep K mg B H d1 v1) (h2 : Rep K mg B H d2 v2) : Reps K mg B H [d1, d2] [v1, v2] := Reps.cons h1 (Reps.one h2)
theorem ite_ok {p : Addr} {vs : List V} {ds : List D} (h : ScrOk K (Bd P A L) H p vs) (r : Reps K mg (Bd P A L) H ds vs) : ItOk K mg P A L H (Ite K p) (enumD ds) := by
  intro P' A' L' H' hP st hB
  have h' := (h.step st hP).sq
  have r' : Reps K mg (Bd P' A' L') H' ds vs := r.move (st.mvP hP)
  refine ⟨fun i hi => ?_, ⟨vs, h', by rw [enumD_len, r'.length]; exact Nat.le_refl _⟩, fun i d x H'' e y => ?_⟩
  · rw [enumD_len] at hi
    obtain ⟨v, e, _⟩ := r'.get (List.getElem?_eq_getElem hi)
    exact ⟨vs, v, h', e⟩
  · obtain ⟨T, v, rfl, nT, rfl, y⟩ := y
    obtain ⟨d', e2, rfl⟩ := enumD_get e
    obtain ⟨v', e3, rv⟩ := r'.get e2
    have := y vs h'
    rw [e3] at this
    cases this
    exact ResOk.tup hB nT (reps2 (by unfold Rep; rfl) rv)
theorem iteT_ok {p : Addr} {vs : List V} {ds : List D} (h : TupOk K (Bd P A L) H p vs) (r : Reps K mg (Bd P A L) H ds vs) : ItOk K mg P A L H (IteT K p) (enumD ds) := by
  intro P' A' L' H' hP st hB
  have h' := (h.step st hP).sq
  have r' : Reps K mg (Bd P' A' L') H' ds vs := r.move (st.mvP hP)
  refine ⟨fun i hi => ?_, ⟨vs, h', by rw [enumD_len, r'.length]; exact Nat.le_refl _⟩, fun i d x H'' e y => ?_⟩
  · rw [enumD_len] at hi
    obtain ⟨v, e, _⟩ := r'.get (List.getElem?_eq_getElem hi)
    exact ⟨vs, v, h', e⟩
  · obtain ⟨T, v, rfl, nT, rfl, y⟩ := y
    obtain ⟨d', e2, rfl⟩ := enumD_get e
    obtain ⟨v', e3, rv⟩ := r'.get e2
    have := y vs h'
    rw [e3] at this
    cases this
    exact ResOk.tup hB nT (reps2 (by unfold Rep; rfl) rv)
def iEnumD (fe : EV) : IV := fun s => (fe s).bind fun r s1 => match fz r s1 with
  | some (d, s2) => match itD d with
    | some ds => .ok (enumD ds) s2
    | none => .bad
  | none => .bad
theorem id_enum {p tpos : Pos} {elts : List Expr} {kk : Nat} (hg : Gl X "enumerate") (hm : X.mg "enumerate" = none) (he : ED X G Wx e fe) (hs : starEach [e] X.env = (false, eval e X.env) :: starEach [] X.env := by rfl) :
    ID X G Wx (.Tuple elts kk tpos) (.Call (.Name "enumerate" p) [e] [] pos) (iEnumD fe) := by
  refine ⟨PI.imp (pi_enumA hg hm he.pe hs) fun σ H R ⟨P, A, L, s, hs, h⟩ => (tE_one hs h).mono fun v H1 ⟨A1, L1, s1, r, a1, h1⟩ => ?_⟩
  split at h1
  · rename_i d s2 e1
    obtain ⟨A2, sr, rp, st⟩ := a1.frz e1
    split at h1
    · rename_i ds e2
      cases d with
      | tup xs => cases e2; unfold Rep at rp; obtain ⟨p, vs, rfl, t, r⟩ := rp; exact ⟨p, vs, rfl, .inr ⟨t.sq, h1 A2 L1 H1 _ sr (iteT_ok t r) st⟩⟩
      | lst xs => cases e2; unfold Rep at rp; obtain ⟨p, vs, rfl, t, nb, r⟩ := rp; exact ⟨p, vs, rfl, .inl ⟨SqL.of t, h1 A2 L1 H1 _ sr (ite_ok (.inl ⟨.inl t, nb⟩) r) st⟩⟩
      | scr xs => cases e2; unfold Rep at rp; obtain ⟨p, vs, rfl, t, r⟩ := rp; exact ⟨p, vs, rfl, .inl ⟨t.sq, h1 A2 L1 H1 _ sr (ite_ok t r) st⟩⟩
      | _ => cases e2
    · exact h1.elim
  · exact h1.elim
/-! ### reversed -/
theorem itv_ok {p : Addr} {vs : List V} {ds : List D} (h : ScrOk K (Bd P A L) H p vs) (r : Reps K mg (Bd P A L) H ds vs) : ItOk K mg P A L H (Itv K p vs.length) ds.reverse := by
  intro P' A' L' H' hP st hB
  have h' := (h.step st hP).sq
  have r' : Reps K mg (Bd P' A' L') H' ds vs := r.move (st.mvP hP)
  have ln := r'.length
  refine ⟨fun i hi => ?_, ?_, fun i d x H'' e y => ?_⟩
  · rw [List.length_reverse] at hi
    have hj : vs.length - 1 - i < ds.length := by omega
    obtain ⟨v, e, _⟩ := r'.get (List.getElem?_eq_getElem hj)
    exact ⟨by omega, vs, v, h', e⟩
  · show vs.length ≤ _
    rw [List.length_reverse]; omega
  · obtain ⟨e1, y⟩ := y
    subst e1
    have hi : i < ds.length := by
      have := (List.getElem?_eq_some_iff.mp e).1; rwa [List.length_reverse] at this
    rw [List.getElem?_reverse hi] at e
    obtain ⟨v, e2, rv⟩ := r'.get e
    have := y vs h'
    rw [← ln, e2] at this
    cases this
    exact ResOk.same rv
theorem itvT_ok {p : Addr} {vs : List V} {ds : List D} (h : TupOk K (Bd P A L) H p vs) (r : Reps K mg (Bd P A L) H ds vs) : ItOk K mg P A L H (RT.ItvT K p vs.length) ds.reverse := by
  intro P' A' L' H' hP st hB
  have h' := (h.step st hP).sq
  have r' : Reps K mg (Bd P' A' L') H' ds vs := r.move (st.mvP hP)
  have ln := r'.length
  refine ⟨fun i hi => ?_, ?_, fun i d x H'' e y => ?_⟩
  · rw [List.length_reverse] at hi
    have hj : vs.length - 1 - i < ds.length := by omega
    obtain ⟨v, e, _⟩ := r'.get (List.getElem?_eq_getElem hj)
    exact ⟨by omega, vs, v, h', e⟩
  · show vs.length ≤ _
    rw [List.length_reverse]; omega
  · obtain ⟨e1, y⟩ := y
    subst e1
    have hi : i < ds.length := by
      have := (List.getElem?_eq_some_iff.mp e).1; rwa [List.length_reverse] at this
    rw [List.getElem?_reverse hi] at e
    obtain ⟨v, e2, rv⟩ := r'.get e
    have := y vs h'
    rw [← ln, e2] at this
    cases this
    exact ResOk.same rv
def iRevD (fe : EV) : IV := fun s => (fe s).bind fun r s1 => match fz r s1 with
  | some (d, s2) => match itD d with
    | some ds => .ok ds.reverse s2
    | none => .bad
  | none => .bad
theorem id_rev {tg : Expr} {p : Pos} (hg : Gl X "reversed") (hm : X.mg "reversed" = none) (he : ED X G Wx e fe) (hs : starEach [e] X.env = (false, eval e X.env) :: starEach [] X.env := by rfl) :
    ID X G Wx tg (.Call (.Name "reversed" p) [e] [] pos) (iRevD fe) := by
  refine ⟨PI.imp (RT.pi_revA hg hm he.pe hs) fun σ H R ⟨P, A, L, s, hs, h⟩ => (tE_one hs h).mono fun v H1 ⟨A1, L1, s1, r, a1, h1⟩ => ?_⟩
  split at h1
  · rename_i d s2 e1
    obtain ⟨A2, sr, rp, st⟩ := a1.frz e1
    split at h1
    · rename_i ds e2
      cases d with
      | tup xs => cases e2; unfold Rep at rp; obtain ⟨p, vs, rfl, t, r⟩ := rp; exact ⟨p, vs, rfl, .inr ⟨t.sq, h1 A2 L1 H1 _ sr (itvT_ok t r) st⟩⟩
      | lst xs => cases e2; unfold Rep at rp; obtain ⟨p, vs, rfl, t, nb, r⟩ := rp; exact ⟨p, vs, rfl, .inl ⟨SqL.of t, h1 A2 L1 H1 _ sr (itv_ok (.inl ⟨.inl t, nb⟩) r) st⟩⟩
      | scr xs => cases e2; unfold Rep at rp; obtain ⟨p, vs, rfl, t, r⟩ := rp; exact ⟨p, vs, rfl, .inl ⟨t.sq, h1 A2 L1 H1 _ sr (itv_ok t r) st⟩⟩
      | _ => cases e2
    · exact h1.elim
  · exact h1.elim
/-! ### zip of two tuples or two lists -/
def zipD (xs ys : List D) : List D := (xs.zip ys).map fun p => .tup [p.1, p.2]
theorem zipD_len (xs ys : List D) : (zipD xs ys).length = min xs.length ys.length := by unfold zipD; simp
theorem zipD_get {xs ys : List D} {i : Nat} {x : D} (h : (zipD xs ys)[i]? = some x) : ∃ a b, xs[i]? = some a ∧ ys[i]? = some b ∧ x = .tup [a, b] := by
  unfold zipD at h
  rw [List.getElem?_map] at h
  obtain ⟨⟨a, b⟩, h1, h2⟩ := Option.map_eq_some_iff.mp h
  have h3 := List.getElem?_zip_eq_some.mp h1
  exact ⟨a, b, h3.1, h3.2, h2.symm⟩
theorem itz_ok {p q : Addr} {vs us : List V} {ds es : List D} (h : ScrOk K (Bd P A L) H p vs) (r : Reps K mg (Bd P A L) H ds vs) (h2 : ScrOk K (Bd P A L) H q us) (r2 : Reps K mg (Bd P A L) H es us) : ItOk K mg P A L H (Itz K p q) (zipD ds es) := by
  intro P' A' L' H' hP st hB
  have h' := (h.step st hP).sq
  have h2' := (h2.step st hP).sq
  have r' : Reps K mg (Bd P' A' L') H' ds vs := r.move (st.mvP hP)
  have r2' : Reps K mg (Bd P' A' L') H' es us := r2.move (st.mvP hP)
  have l1 := r'.length
  have l2 := r2'.length
  refine ⟨fun i hi => ?_, ⟨vs, us, h', h2', by rw [zipD_len]; omega⟩, fun i d x H'' e y => ?_⟩
  · rw [zipD_len] at hi
    obtain ⟨v, e, _⟩ := r'.get (List.getElem?_eq_getElem (show i < ds.length by omega))
    obtain ⟨u, e2, _⟩ := r2'.get (List.getElem?_eq_getElem (show i < es.length by omega))
    exact ⟨vs, us, v, u, h', h2', e, e2⟩
  · obtain ⟨T, v, u, rfl, nT, rfl, y1, y2⟩ := y
    obtain ⟨d1, d2, e2, e3, rfl⟩ := zipD_get e
    obtain ⟨v', f1, rv⟩ := r'.get e2
    obtain ⟨u', f2, ru⟩ := r2'.get e3
    have q1 := y1 vs h'
    have q2 := y2 us h2'
    rw [f1] at q1; rw [f2] at q2
    cases q1; cases q2
    exact ResOk.tup hB nT (reps2 rv ru)
theorem itzT_ok {p q : Addr} {vs us : List V} {ds es : List D} (h : TupOk K (Bd P A L) H p vs) (r : Reps K mg (Bd P A L) H ds vs) (h2 : TupOk K (Bd P A L) H q us) (r2 : Reps K mg (Bd P A L) H es us) : ItOk K mg P A L H (RZ.ItzT K p q) (zipD ds es) := by
  intro P' A' L' H' hP st hB
  have h' := (h.step st hP).sq
  have h2' := (h2.step st hP).sq
  have r' : Reps K mg (Bd P' A' L') H' ds vs := r.move (st.mvP hP)
  have r2' : Reps K mg (Bd P' A' L') H' es us := r2.move (st.mvP hP)
  have l1 := r'.length
  have l2 := r2'.length
  refine ⟨fun i hi => ?_, ⟨vs, us, h', h2', by rw [zipD_len]; omega⟩, fun i d x H'' e y => ?_⟩
  · rw [zipD_len] at hi
    obtain ⟨v, e, _⟩ := r'.get (List.getElem?_eq_getElem (show i < ds.length by omega))
    obtain ⟨u, e2, _⟩ := r2'.get (List.getElem?_eq_getElem (show i < es.length by omega))
    exact ⟨vs, us, v, u, h', h2', e, e2⟩
  · obtain ⟨T, v, u, rfl, nT, rfl, y1, y2⟩ := y
    obtain ⟨d1, d2, e2, e3, rfl⟩ := zipD_get e
    obtain ⟨v', f1, rv⟩ := r'.get e2
    obtain ⟨u', f2, ru⟩ := r2'.get e3
    have q1 := y1 vs h'
    have q2 := y2 us h2'
    rw [f1] at q1; rw [f2] at q2
    cases q1; cases q2
    exact ResOk.tup hB nT (reps2 rv ru)
def iZipD (f : AV) : IV := fun s => (f s).bind fun rs s1 => match rs with
  | [.pv (.tup xs), .pv (.tup ys)] => .ok (zipD xs ys) s1
  | [.pv (.lst xs), .pv (.lst ys)] => .ok (zipD xs ys) s1
  | _ => .bad
theorem id_zip {p tpos : Pos} {elts : List Expr} {kk : Nat} {f : AV} (hg : Gl X "zip") (hm : X.mg "zip" = none) (ha : AD X G Wx [e, e2] f)
    (hs : starEach [e, e2] X.env = (false, eval e X.env) :: starEach [e2] X.env := by rfl) (hpl : (backTo pos (starEach [e2] X.env)).any (·.1) = false := by rfl) :
    ID X G Wx (.Tuple elts kk tpos) (.Call (.Name "zip" p) [e, e2] [] pos) (iZipD f) := by
  refine ⟨PI.imp (RZ.pi_zipA hg hm ha.pa hs hpl) fun σ H R ⟨P, A, L, s, hs, h⟩ => ⟨P, A, L, s, hs, (Run.bind h).imp fun rs s1 _ h1 A1 L1 vs H1 sr ok st => ?_⟩⟩
  split at h1
  · unfold ArgsOk at ok
    obtain ⟨v, t, rfl, o1, ok⟩ := ok
    unfold ArgsOk at ok
    obtain ⟨u, t, rfl, o2, ok⟩ := ok
    unfold ArgsOk at ok
    subst ok
    unfold ArgOk Rep at o1 o2
    obtain ⟨p, vs, rfl, t1, r1⟩ := o1
    obtain ⟨q, us, rfl, t2, r2⟩ := o2
    exact ⟨p, q, vs, us, rfl, .inr ⟨t1.sq, t2.sq, h1 A1 L1 H1 _ sr (itzT_ok t1 r1 t2 r2) st⟩⟩
  · unfold ArgsOk at ok
    obtain ⟨v, t, rfl, o1, ok⟩ := ok
    unfold ArgsOk at ok
    obtain ⟨u, t, rfl, o2, ok⟩ := ok
    unfold ArgsOk at ok
    subst ok
    unfold ArgOk Rep at o1 o2
    obtain ⟨p, vs, rfl, t1, n1, r1⟩ := o1
    obtain ⟨q, us, rfl, t2, n2, r2⟩ := o2
    exact ⟨p, q, vs, us, rfl, .inl ⟨SqL.of t1, SqL.of t2, h1 A1 L1 H1 _ sr (itz_ok (.inl ⟨.inl t1, n1⟩) r1 (.inl ⟨.inl t2, n2⟩) r2) st⟩⟩
  · exact h1.elim
/-! ### range with a step -/
theorem rng3_ex (lo c : Int) (n : Nat) : ∃ l : List D, l = (List.range n).map fun (i : Nat) => .int (lo + (i : Int) * c) := ⟨_, rfl⟩
noncomputable def rng3D (lo c : Int) (n : Nat) : List D := Classical.choose (rng3_ex lo c n)
theorem rng3D_eq (lo c : Int) (n : Nat) : rng3D lo c n = (List.range n).map fun (i : Nat) => .int (lo + (i : Int) * c) := Classical.choose_spec (rng3_ex lo c n)
theorem itc_ok (lo c : Int) (n : Nat) : ItOk K mg P A L H (Itc lo c n) (rng3D lo c n) := by
  intro P' A' L' H' hP st hB
  have ln : (rng3D lo c n).length = n := by rw [rng3D_eq]; simp
  refine ⟨fun i hi => by rw [ln] at hi; exact hi, by rw [ln]; exact Nat.le_refl _, fun i d x H'' e y => ?_⟩
  obtain ⟨e1, e2⟩ := y
  subst e1; subst e2
  rw [rng3D_eq, List.getElem?_map] at e
  obtain ⟨j, e3, rfl⟩ := Option.map_eq_some_iff.mp e
  have : j = i := by
    rw [List.getElem?_eq_some_iff] at e3
    obtain ⟨h, e3⟩ := e3
    simpa using e3.symm
  subst this
  exact ResOk.same (by unfold Rep; rfl)
def r3Ok (i j c : Int) : Bool := decide (c ≠ 0) && decide (c.natAbs < 1073741824) && Builtin.Range.small i j c && decide (0 ≤ Builtin.Range.rangeSize i j c)
noncomputable def iR3 (f : AV) : IV := fun s => (f s).bind fun rs s1 => match rs with
  | [.pv (.int i), .pv (.int j), .pv (.int c)] => if r3Ok i j c = true then .ok (rng3D i c (Builtin.Range.rangeSize i j c).toNat) s1 else .bad
  | _ => .bad
theorem id_range3 {tg : Expr} {p : Pos} {f : AV} (hg : Gl X "range") (hm : X.mg "range" = none) (ha : AD X G Wx [a, b, c] f)
    (hs : starEach [a, b, c] X.env = (false, eval a X.env) :: starEach [b, c] X.env := by rfl) (hpl : (backTo pos (starEach [b, c] X.env)).any (·.1) = false := by rfl) :
    ID X G Wx tg (.Call (.Name "range" p) [a, b, c] [] pos) (iR3 f) := by
  refine ⟨PI.imp (pi_range3 hg hm ha.pa hs hpl) fun σ H R ⟨P, A, L, s, hs, h⟩ => ⟨P, A, L, s, hs, (Run.bind h).imp fun rs s1 _ h1 A1 L1 vs H1 sr ok st => ?_⟩⟩
  split at h1
  · rename_i i j c _
    split at h1
    · rename_i g
      unfold ArgsOk at ok
      obtain ⟨v, t, rfl, o1, ok⟩ := ok
      unfold ArgsOk at ok
      obtain ⟨u, t, rfl, o2, ok⟩ := ok
      unfold ArgsOk at ok
      obtain ⟨w, t, rfl, o3, ok⟩ := ok
      unfold ArgsOk at ok
      subst ok
      unfold ArgOk Rep at o1 o2 o3
      subst o1; subst o2; subst o3
      unfold r3Ok at g
      simp only [Bool.and_eq_true, decide_eq_true_eq] at g
      exact ⟨i, j, c, (Builtin.Range.rangeSize i j c).toNat, rfl, ⟨g.1.1.1, g.1.1.2, g.1.2, (Int.toNat_of_nonneg g.2).symm⟩, h1 A1 L1 H1 _ sr (itc_ok i c _) st⟩
    · exact h1.elim
  · exact h1.elim
/-! ### sum, max, min of a list of ints -/
def sumL : D → Option RV
  | .lst xs => (allI xs).bind fun ns => pI ns.sum
  | _ => none
theorem opv_sum : OpV1 K mg (fun v => rSum K [v]) sumL := by
  intro B H x a res Q hB ha e q
  unfold sumL at e
  split at e
  · rename_i xs
    obtain ⟨ns, e1, e2⟩ := Option.bind_eq_some_iff.mp e
    cases e2
    obtain ⟨p, vs, rfl, t, r⟩ := ha.lst
    have := allI_some e1
    subst this
    have := r.ints
    subst this
    exact ⟨p, ns, rfl, SqL.of t, q _ _ .int⟩
  · cases e
def maxL : D → Option RV
  | .lst xs => match allI xs with
    | some (n :: r) => pI (r.foldl max n)
    | _ => none
  | _ => none
def minL : D → Option RV
  | .lst xs => match allI xs with
    | some (n :: r) => pI (r.foldl min n)
    | _ => none
  | _ => none
theorem foldl_max : ∀ (r : List Int) (n : Int), r.foldl max n ∈ n :: r ∧ ∀ y ∈ n :: r, y ≤ r.foldl max n
  | [], n => by simp
  | m :: r, n => by
    obtain ⟨h1, h2⟩ := foldl_max r (max n m)
    simp only [List.foldl_cons]
    refine ⟨?_, fun y hy => ?_⟩
    · rcases List.mem_cons.mp h1 with h | h
      · rw [h]
        by_cases q : n ≤ m
        · rw [Int.max_eq_right q]; simp
        · rw [Int.max_eq_left (by omega)]; simp
      · exact List.mem_cons_of_mem _ (List.mem_cons_of_mem _ h)
    · have hm := h2 (max n m) List.mem_cons_self
      rcases List.mem_cons.mp hy with rfl | hy
      · omega
      · rcases List.mem_cons.mp hy with rfl | hy
        · omega
        · exact h2 y (List.mem_cons_of_mem _ hy)
theorem foldl_min : ∀ (r : List Int) (n : Int), r.foldl min n ∈ n :: r ∧ ∀ y ∈ n :: r, r.foldl min n ≤ y
  | [], n => by simp
  | m :: r, n => by
    obtain ⟨h1, h2⟩ := foldl_min r (min n m)
    simp only [List.foldl_cons]
    refine ⟨?_, fun y hy => ?_⟩
    · rcases List.mem_cons.mp h1 with h | h
      · rw [h]
        by_cases q : n ≤ m
        · rw [Int.min_eq_left q]; simp
        · rw [Int.min_eq_right (by omega)]; simp
      · exact List.mem_cons_of_mem _ (List.mem_cons_of_mem _ h)
    · have hm := h2 (min n m) List.mem_cons_self
      rcases List.mem_cons.mp hy with rfl | hy
      · omega
      · rcases List.mem_cons.mp hy with rfl | hy
        · omega
        · exact h2 y (List.mem_cons_of_mem _ hy)
theorem opv_maxL : OpV1 K mg (fun v => rMax K [v]) maxL := by
  intro B H x a res Q hB ha e q
  unfold maxL at e
  split at e
  · rename_i xs
    split at e
    · rename_i n r e1
      cases e
      obtain ⟨p, vs, rfl, t, rr⟩ := ha.lst
      have := allI_some e1
      subst this
      have := rr.ints
      subst this
      refine ⟨p, n :: r, rfl, SqL.of t, by simp, fun m hm hy => ?_⟩
      obtain ⟨f1, f2⟩ := foldl_max r n
      have : m = r.foldl max n := Int.le_antisymm (f2 m hm) (hy _ f1)
      subst this
      exact q _ _ .int
    · cases e
  · cases e
theorem opv_minL : OpV1 K mg (fun v => rMin K [v]) minL := by
  intro B H x a res Q hB ha e q
  unfold minL at e
  split at e
  · rename_i xs
    split at e
    · rename_i n r e1
      cases e
      obtain ⟨p, vs, rfl, t, rr⟩ := ha.lst
      have := allI_some e1
      subst this
      have := rr.ints
      subst this
      refine ⟨p, n :: r, rfl, SqL.of t, by simp, fun m hm hy => ?_⟩
      obtain ⟨f1, f2⟩ := foldl_min r n
      have : m = r.foldl min n := Int.le_antisymm (hy _ f1) (f2 m hm)
      subst this
      exact q _ _ .int
    · cases e
  · cases e
/-! ### name += e, name -= e, ints -/
def augAdd : Ob2
  | .int i, .int j => pI (i + j)
  | _, _ => none
def augSub : Ob2
  | .int i, .int j => pI (i - j)
  | _, _ => none
theorem opv_augAdd : OpV K mg (ipI fun i j => i + j) augAdd := by
  intro B H x y a b res Q hB ha hb e q
  unfold augAdd at e
  split at e
  · cases e; exact ⟨_, _, ha.int, hb.int, q _ _ .int⟩
  · cases e
theorem opv_augSub : OpV K mg (ipI fun i j => i - j) augSub := by
  intro B H x y a b res Q hB ha hb e q
  unfold augSub at e
  split at e
  · cases e; exact ⟨_, _, ha.int, hb.int, q _ _ .int⟩
  · cases e
theorem op_iadd : OpR X (inplaceOp .Add) (ipI fun i j => i + j) := ip_add
theorem op_isub : OpR X (inplaceOp .Sub) (ipI fun i j => i - j) := ip_sub
end
end DL
namespace DL
open PySem PySem.Spec PyProof.Rows L2
/-! ### slices with a step -/
def pickS {α : Type} (xs : List α) (lo hi : Option Int) (st : Int) : List α :=
  (List.range (Builtin.Slice.slicePlaces (Builtin.Slice.sliceAdjust lo hi st xs.length).1 (Builtin.Slice.sliceAdjust lo hi st xs.length).2 st)).filterMap fun (m : Nat) => xs[((Builtin.Slice.sliceAdjust lo hi st xs.length).1 + (m : Int) * st).toNat]?
def pickB {α : Type} (xs : List α) (lo hi : Option Int) (st : Int) : List α :=
  (sliceRange (sliceBounds lo hi (some st) xs.length).1 (sliceBounds lo hi (some st) xs.length).2.1 (sliceBounds lo hi (some st) xs.length).2.2).filterMap (xs[·]?)
section
variable {prog : Program} {w : World} {A : Around} {E : Value → Shared → Prop} {s : Shared}
theorem sliceApplied_st {sl : Addr} {vl vu vs : Value} {lo hi : Option Int} {st : Int} {n : Nat} {Q : Int × Int × Nat → Shared → Prop} (h0 : st ≠ 0) (hs : s.heap.IsSliceOf sl vl vu vs) (pl : IsPart vl lo) (pu : IsPart vu hi) (ps : IsPart vs (some st))
    (h : Q ((Builtin.Slice.sliceAdjust lo hi st n).1, st, Builtin.Slice.slicePlaces (Builtin.Slice.sliceAdjust lo hi st n).1 (Builtin.Slice.sliceAdjust lo hi st n).2 st) s) : wpAny (model prog w) A (Builtin.Slice.sliceApplied (.ref sl) (pure (n : Int))) Q E s := by
  obtain ⟨os, hos, hcs, hds⟩ := id hs
  unfold Builtin.Slice.sliceApplied Builtin.Slice.sliceFields
  refine wpAny_bind (wpAny_bind (wpAny_field hos hds (x := vl) rfl (wpAny_bind (wpAny_field hos hds (x := vu) rfl (wpAny_bind (wpAny_field hos hds (x := vs) rfl (wpAny_pure ?_)))))))
  refine wpAny_bind (HT.slicePart_ ps ?_)
  show wpAny _ _ (if (st == 0) = true then _ else _) _ _ s
  rw [if_neg (by simpa using h0)]
  refine wpAny_bind (HT.slicePart_ pl (wpAny_bind (HT.slicePart_ pu (wpAny_bind (wpAny_pure ?_)))))
  exact wpAny_pure h
theorem getItem_tuple_st {t sl : Addr} {items : Array Value} {vl vu vs : Value} {lo hi : Option Int} {st : Int} {Q : Value → Shared → Prop} (h0 : st ≠ 0) (h1 : st ≠ 1) (ht : IsTup s.heap t items) (hs : s.heap.IsSliceOf sl vl vu vs) (pl : IsPart vl lo) (pu : IsPart vu hi) (ps : IsPart vs (some st))
    (h : Q (.ref s.heap.objs.size) { s with heap := s.heap.push { cls := .type "tuple", data := .seq (pickS items.toList lo hi st).toArray } })
    (hsz : (pickS items.toList lo hi st).length ≤ sizeLine) : wpAny (model prog w) A (getItem (.ref t) (.ref sl)) Q E s := by
  have htake : sizeOk (.seq (pickS items.toList lo hi st).toArray) := by
    show (pickS items.toList lo hi st).toArray.size ≤ sizeLine
    rw [List.size_toArray]; exact hsz
  obtain ⟨os, hos, hcs, hds⟩ := id hs
  have hTs : s.TypeIs (.ref sl) "slice" := ⟨os, hos, hcs⟩
  unfold getItem
  try with_reducible refine wpAny_holding ?_
  first | refine wpAny_bind (wpAny_pure ?_) | skip
  refine wpAny_bind (wpAny_sequenceKey ht.typeIs (by decide) ?_)
  refine wpAny_bind (wpAny_callSpecial?_slot (name := Str.ofString "__getitem__") ht.typeIs PyProof.Rows.slot_tuple_getitem
    (wpAny_call_entry PyProof.Rows.slot_tuple_getitem ht.typeIs entry_tuple_getitem ?_ (args_tuple_getitem _ _)))
  show wpAny _ _ (Builtin.Tuple.tupleItemsOf (.ref t) >>= _) _ _ s
  refine wpAny_bind (tupleItemsOf_ ht ?_)
  refine wpAny_bind (wpAny_typeOf hTs ?_)
  rw [if_pos (by decide)]
  refine wpAny_bind (sliceApplied_st h0 hs pl pu ps ?_)
  generalize hg : Builtin.Slice.sliceAdjust lo hi st (items.size : Nat) = ab
  have e : (pickS items.toList lo hi st) = (List.range (Builtin.Slice.slicePlaces ab.1 ab.2 st)).filterMap fun (m : Nat) => items[(ab.1 + (m : Int) * st).toNat]? := by
    unfold pickS
    rw [Array.length_toList, hg]
    simp
  have hno : ¬ ((ab.1 == 0 && st == 1 && Builtin.Slice.slicePlaces ab.1 ab.2 st == items.size) = true) := by
    intro q
    rw [Bool.and_eq_true, Bool.and_eq_true] at q
    exact h1 (eq_of_beq q.1.2)
  show wpAny _ _ (if (ab.1 == 0 && st == 1 && Builtin.Slice.slicePlaces ab.1 ab.2 st == items.size) = true then _ else _) _ _ s
  rw [if_neg hno]
  rw [e] at h htake
  first
    | exact wpAny_bind (m := Builtin.Tuple.tupleExact _) (wpAny_newObj_type (wpAny_pure ⟨_, rfl, wpAny_pure h⟩) htake)
    | exact wpAny_bind (m := Builtin.Tuple.tupleExact _) (wpAny_newObj_type (wpAny_bind (wpAny_pure (wpAny_pure ⟨_, rfl, wpAny_pure h⟩))) htake)
    | exact wpAny_bind (wpAny_bind (m := Builtin.Tuple.tupleExact _) (wpAny_newObj_type (wpAny_pure (wpAny_pure ⟨_, rfl, wpAny_pure h⟩)) htake))
    | exact wpAny_bind (wpAny_bind (m := Builtin.Tuple.tupleExact _) (wpAny_newObj_type (wpAny_pure ⟨_, rfl, wpAny_pure h⟩) htake))
end
theorem vals_pick {ix : Nat → Nat} : ∀ (l : List Nat) {xs : List V} {us : List Value}, Vals xs us → Vals (l.filterMap fun m => xs[ix m]?) (l.filterMap fun m => us[ix m]?)
  | [], _, _, _ => .nil
  | m :: l, xs, us, r => by
    have ih := vals_pick (ix := ix) l r
    simp only [List.filterMap_cons]
    cases h : xs[ix m]? with
    | none =>
      have : us[ix m]? = none := by
        rw [List.getElem?_eq_none_iff] at h ⊢
        rw [← r.length]; exact h
      rw [this]; exact ih
    | some x =>
      obtain ⟨u, hu, ru⟩ := r.get h
      rw [hu]; exact .cons ru ih
section
variable {K : PySem.W.Frag} {mg : Str → Option Value}
theorem Reps.pick {B : Addr → Prop} {H : Hp} {ix : Nat → Nat} : ∀ (l : List Nat) {ds : List D} {vs : List V}, Reps K mg B H ds vs → Reps K mg B H (l.filterMap fun m => ds[ix m]?) (l.filterMap fun m => vs[ix m]?)
  | [], _, _, _ => Reps.nil
  | m :: l, ds, vs, r => by
    have ih := Reps.pick (ix := ix) l r
    simp only [List.filterMap_cons]
    cases h : ds[ix m]? with
    | none =>
      have : vs[ix m]? = none := by
        rw [List.getElem?_eq_none_iff] at h ⊢
        rw [← r.length]; exact h
      rw [this]; exact ih
    | some x =>
      obtain ⟨u, hu, ru⟩ := r.get h
      rw [hu]; exact Reps.cons ru ih
end
/-- the reading of a slice with a step -/
def rStep (K : PySem.W.Frag) : V → Option Int → Option Int → Int → Hp → VK → Prop := fun x lo hi st H Q => st ≠ 0 ∧ st ≠ 1 ∧ ∃ a xs, x = .ref a ∧
  ((SqT K H a xs ∧ (pickS xs lo hi st).length ≤ sizeLine ∧ ∀ p, H p = none → Q (.ref p) (upd H p (.tup (pickS xs lo hi st)))) ∨
    (SqL K H a xs ∧ (pickB xs lo hi st).length ≤ sizeLine ∧ ∀ p, H p = none → Q (.ref p) (upd H p (.lst (pickB xs lo hi st)))))
def tStep (K : PySem.W.Frag) (te : TE) (tl tu ts : TO) : TE := fun σ H Q => te σ H fun x H1 => tl σ H1 fun lo H2 => tu σ H2 fun hi H3 => ts σ H3 fun st H4 => ∃ c, st = some c ∧ rStep K x lo hi c H4 Q
theorem pe_step {X : Cx} {e : Expr} {lo hi : Option Expr} {st : Expr} {te : TE} {tl tu ts : TO} {p3 pos : Pos} (he : PE X e te) (hl : PO X lo tl) (hu : PO X hi tu) (hst : PO X (some st) ts) : PE X (.Subscript e (.Slice lo hi (some st) p3) pos) (tStep X.K te tl tu ts) := by
  refine ⟨fun pins s σ H Q I h => ?_⟩
  refine Subscript_ (thn (he.run pins s σ H _ I h) fun v s1 ⟨x, H1, I1, r1, q1⟩ => ?_)
  refine wpAny_Slice (thn (hl.run pins s1 σ H1 _ I1 q1) fun vl s2 ⟨l, H2, I2, pl, q2⟩ => ?_)
  refine thn (hu.run pins s2 σ H2 _ I2 q2) fun vu s3 ⟨u, H3, I3, pu, q3⟩ => ?_
  refine thn (hst.run pins s3 σ H3 _ I3 q3) fun vs s4 ⟨o, H4, I4, ps, c, eo, h0, h1, a, xs, ex, q⟩ => ?_
  subst eo ex
  obtain rfl : v = Value.ref a := r1
  have I5 : Inv X pins σ H4 { s4 with heap := s4.heap.push { cls := .type "slice", data := .fields #[vl, vu, vs] } } := I4.kept (t' := s4.toks) fun b ob q => Heap.get?_push_of_some _ q
  show wpAny (model X.prog X.w) X.A (subscriptTail e (.Slice lo hi (some st) p3) (.ref a) (.ref s4.heap.objs.size)) (EP X pins σ Q) X.xe { s4 with heap := s4.heap.push { cls := .type "slice", data := .fields #[vl, vu, vs] } }
  rcases q with ⟨hx, hz, q⟩ | ⟨hx, hz, q⟩
  · obtain ⟨its, r, ht, hz0⟩ := I5.tuple hx
    have hlen := r.length
    have rp : Vals (pickS xs l u c) (pickS its l u c) := by
      unfold pickS; rw [hlen]; exact vals_pick (ix := fun m => ((Builtin.Slice.sliceAdjust l u c its.length).1 + (m : Int) * c).toNat) _ r
    refine tail_any (ops := [.ref a, .ref s4.heap.objs.size]) ht.typeIs PyProof.Rows.slot_tuple_getitem.lookup ?_ (by with_unfolding_all rfl)
    refine getItem_tuple_st h0 h1 ht (Heap.IsSliceOf.new _ vl vu vs) pl pu ps ?_ (by simpa using (by rw [← rp.length]; exact hz))
    refine ⟨.ref _, _, I5.laid (t' := s4.toks) (o := .tup (pickS xs l u c)) (fun b ob q => Heap.get?_push_of_some _ q) (Nat.le_refl _) ?_, rfl, q _ (I5.hok.fresh (Nat.le_refl _))⟩
    exact ⟨hz, _, (by simpa using rp : Vals (pickS xs l u c) (pickS its.toArray.toList l u c)), IsTup.new _ _⟩
  · obtain ⟨its, r, ht, hz0⟩ := I5.list hx
    have hlen := r.length
    have rp : Vals (pickB xs l u c) (pickB its l u c) := by
      unfold pickB; rw [hlen]; exact vals_pick (ix := fun m => m) _ r
    refine tail_any (ops := [.ref a, .ref s4.heap.objs.size]) ht.isList.typeIs (PySem.slot_list_getitem.lookup) ?_ (by with_unfolding_all rfl)
    refine wpAny_getItem_list_slice ht.isList (Heap.IsSliceOf.new _ vl vu vs) pl pu ps (fun z => h0 (Option.some.inj z)) ?_ (by rw [List.size_toArray]; omega)
    have e : slicePick its.toArray l u (some c) = (pickB its l u c).toArray := by
      unfold slicePick pickB; simp
    rw [e]
    refine ⟨.ref _, _, I5.laid (t' := s4.toks) (o := .lst (pickB xs l u c)) (fun b ob q => Heap.get?_push_of_some _ q) (Nat.le_refl _) ?_, rfl, q _ (I5.hok.fresh (Nat.le_refl _))⟩
    exact ⟨hz, _, 0, rp, Heap.get?_push_size _ rfl⟩
section
variable {K : PySem.W.Frag} {mg : Str → Option Value} {X : Cx} {G : Gm} {Wx : WX} {a : Expr} {fa : EV} {pos : Pos}
def stD (d : D) (lo hi : Option Int) (st : Int) : Option RV := if st = 0 ∨ st = 1 then none else match d with
  | .tup xs => if (pickS xs lo hi st).length ≤ sizeLine then some (.pv (.tup (pickS xs lo hi st))) else none
  | .lst xs => if (pickB xs lo hi st).length ≤ sizeLine then some (.ow (pickB xs lo hi st)) else none
  | _ => none
theorem opv_st {B : Addr → Prop} {H : Hp} {x : V} {a : D} {lo hi : Option Int} {st : Int} {res : RV} {Q : VK} (hB : ∀ a, B a → ∃ o, H a = some o) (ha : PRep K mg B H a x) (e : stD a lo hi st = some res) (q : ∀ v H', ResOk K mg B H H' res v → Q v H') : rStep K x lo hi st H Q := by
  unfold stD at e
  split at e
  · cases e
  · rename_i h01
    refine ⟨fun z => h01 (.inl z), fun z => h01 (.inr z), ?_⟩
    split at e
    · rename_i xs
      split at e
      · rename_i hz
        cases e
        obtain ⟨p, vs, rfl, t, r⟩ := ha.tup
        have rp : Reps K mg B H (pickS xs lo hi st) (pickS vs lo hi st) := by
          unfold pickS; rw [r.length]; exact Reps.pick (ix := fun m => ((Builtin.Slice.sliceAdjust lo hi st vs.length).1 + (m : Int) * st).toNat) _ r
        exact ⟨p, vs, rfl, .inl ⟨t.sq, by rw [← rp.length]; exact hz, fun o ho => q _ _ (.tup hB ho rp)⟩⟩
      · cases e
    · rename_i xs
      split at e
      · rename_i hz
        cases e
        obtain ⟨p, vs, rfl, t, r⟩ := ha.lst
        have rp : Reps K mg B H (pickB xs lo hi st) (pickB vs lo hi st) := by
          unfold pickB; rw [r.length]; exact Reps.pick (ix := fun m => m) _ r
        exact ⟨p, vs, rfl, .inr ⟨SqL.of t, by rw [← rp.length]; exact hz, fun o ho => q _ _ (.lst ho rp)⟩⟩
      · cases e
    · cases e
def eSt (fa : EV) (lo hi st : OV) : EV := fun s => (fa s).bind fun r s1 => (lo s1).bind fun l s2 => (hi s2).bind fun u s3 => (st s3).bind fun c s4 => match c with
  | some c => fin1 (fun d => stD d l u c) r s4
  | none => .bad
theorem ed_st {lo hi : Option Expr} {st : Expr} {p2 : Pos} {fl fh fs : OV} (ha : ED X G Wx a fa) (hl : OD X G Wx lo fl) (hh : OD X G Wx hi fh) (hs : OD X G Wx (some st) fs) : ED X G Wx (.Subscript a (.Slice lo hi (some st) p2) pos) (eSt fa fl fh fs) := by
  refine ⟨PE.imp (pe_step ha.pe hl.po hh.po hs.po) fun σ H Q ⟨P, A, L, s, hs, h⟩ => (tE_one hs h).mono fun x H1 ⟨A1, L1, s1, r, a1, h1⟩ => ?_⟩
  refine ⟨Wi P r x, A1, L1, s1, a1.sr, ((Run.bind h1).on a1.st fun _ z => .inl z).imp fun l s2 _ q A2 L2 H2 sr2 st2 => ?_⟩
  refine ⟨Wi P r x, A2, L2, s2, sr2, ((Run.bind q).on (a1.st.trans st2) fun _ z => .inl z).imp fun u s3 _ q3 A3 L3 H3 sr3 st3 => ?_⟩
  refine ⟨Wi P r x, A3, L3, s3, sr3, ((Run.bind q3).on ((a1.st.trans st2).trans st3) fun _ z => .inl z).imp fun c s4 _ q4 A4 L4 H4 sr4 st4 => ?_⟩
  have st := ((a1.st.trans st2).trans st3).trans st4
  cases c with
  | none => exact q4.elim
  | some c =>
    exact ⟨c, rfl, run_fin1 (r := fun x => rStep X.K x l u c) (fun B H x a res Q hB ha e q => opv_st hB ha e q) (sr4.lessP fun _ z => .inl z) hs.p0 (a1.ok.step ((st2.trans st3).trans st4)) st q4⟩
end
end DL
namespace DL
open PySem PySem.Spec PyProof.Rows L2
/-! ### all(..), any(..) of a generator expression: the machine's side -/
/-- the context of a generator expression's own frame -/
abbrev Gx (X : Cx) (A' : Around) (s : Shared) (H : Hp) (cenv : Env) (fp : List Addr) (pn : List (Addr × Obj)) : Cx :=
  { X with A := A', s_0 := s, H_0 := H, env := cenv, outer := X.stack, stack := cenv :: X.stack, ex := fp, fn := fun _ => false, pn := pn, xe := fun _ _ => False }
section
variable {X : Cx} {pins : List (Addr × Obj)} {σ : L2.St} {H : Hp} {s : Shared}
theorem gx_start {scope : Scope} {own : List (Str × Nat)} {fp : List Addr} {A' : Around} {code : Value} {pn : List (Addr × Obj)} {h4 : Heap} {g4 : Array GenState} {t4 : Nat} {m : Str → Option Value} (cenv : Env)
    (hce : cenv = genEnv scope (cloFrom X.env.cells scope.names []) s.heap.objs.size code builtinsNs X.env) (I : Inv X pins σ H s) (ok : BlkOk X.N X.env.scope scope own) (hnc : ∀ y ∈ scope.names, y.2 ≠ .cell) (hN : X.N.Nodup)
    (hfp : ∀ b ∈ fp, FpOk X pins H b ∧ b < s.heap.objs.size) (hA : A'.handled = none) (hfr : A'.frames = some (cenv :: X.stack)) (hn : h4.Ns s.heap.objs.size m) (kp : ∀ b o, s.heap.get? b = some o → h4.get? b = some o) (hg : AllBare g4)
    (hpn : ∀ p ∈ pn, h4.get? p.1 = some p.2 ∧ H p.1 = none ∧ p.1 ≠ s.heap.objs.size ∧ p.1 ∉ frs X.stack ∧ ∀ v, p.2.data ≠ .cell v) :
    Inv (Gx X A' s H cenv fp pn) [] (wipe σ (own.map (·.2))) H { s with heap := h4, gens := g4, toks := t4 } := by
  have hfree : ∀ y ∈ scope.names, y.2 = .free → ∃ c, X.env.cells.lookup y.1 = some c := fun y hy e => by
    rcases ok.free y hy e with k | k
    · exact I.ok.has _ (.inl k)
    · exact I.ok.has _ (.inr k)
  have hL : cenv.locals = s.heap.objs.size := by rw [hce]; rfl
  have hcl : cenv.cells = cloFrom X.env.cells scope.names [] := by rw [hce]; rfl
  have hsc : cenv.scope = scope := by rw [hce]; rfl
  have hF : cenv.frame = some cenv.locals := by rw [hce]; rfl
  have mem : ∀ {y c}, cenv.cells.lookup y = some c → X.env.cells.lookup y = some c ∧ c < s.heap.objs.size ∧ (y, NameKind.free) ∈ scope.names := fun {y c} e => by
    rw [hcl] at e
    rcases cloFrom_mem (PySem.mem_of_lookup e) with hm | ⟨h1, rfl⟩
    · cases hm
    · obtain ⟨c, hc⟩ := hfree _ h1 rfl
      rw [hc]
      obtain ⟨w, z⟩ := I.cell _ _ hc
      exact ⟨rfl, z.lt, h1⟩
  have look : ∀ {y}, scope.names.lookup y = some .free → ∃ c, cenv.cells.lookup y = some c ∧ X.env.cells.lookup y = some c := fun {y} hl => by
    obtain ⟨c', e'⟩ := mem_lookup (cloFrom_has (cells := X.env.cells) (acc := []) (PySem.mem_of_lookup hl))
    rw [← hcl] at e'
    exact ⟨c', e', (mem e').1⟩
  have nocell : ∀ {y}, scope.names.lookup y ≠ some .cell := fun {y} e => hnc _ (PySem.mem_of_lookup e) rfl
  have okB : (Gx X A' s H cenv fp pn).Ok := by
    refine ⟨I.ok.mod, by show cenv.scope.kind = _; rw [hsc]; exact ok.kind, by show cenv.globals = _; rw [hce]; exact I.ok.glob, by show cenv.builtins = _; rw [hce]; rfl, by show s.heap.objs.size ≤ cenv.locals; rw [hL]; exact Nat.le_refl _,
      fun y z c e1 e2 => ?_, fun y hy => ?_, fun y c z e => (Bool.noConfusion z), fun _ => hA, hfr, .inr ⟨rfl, hF⟩, fun b hb => ⟨?_, fun y c e z => ?_⟩, I.bs, Nat.le_trans I.ok.bsz I.sz, fun b o e hb => ?_, fun b hb z => ?_, I.stack, I.stkFree⟩
    · exact I.ok.inj y z c (mem e1).1 (mem e2).1
    · show ∃ c, cenv.cells.lookup y = some c
      rcases hy with hy | hy
      · have hy : cenv.scope.names.lookup y = some .cell := hy
        rw [hsc] at hy
        exact absurd hy nocell
      · have hy : cenv.scope.names.lookup y = some .free := hy
        rw [hsc] at hy
        obtain ⟨c, h1, _⟩ := look hy
        exact ⟨c, h1⟩
    · show b ≠ cenv.locals
      rw [hL]; exact Nat.ne_of_lt (hfp b hb).2
    · exact (hfp b hb).1.2.2.2.2.1 y c (mem e).1 z
    · rcases (hfp b hb).1.2.2.2.1 with z | z
      · exact I.ok.noex b o e z
      · exact absurd (Nat.lt_of_lt_of_le (Heap.lt_size e) (Nat.le_trans I.ok.bsz z)) (Nat.lt_irrefl _)
    · rcases List.mem_cons.mp (I.stkSub b z) with z | z
      · exact (hfp b hb).1.2.1 z
      · exact (hfp b hb).1.2.2.1 z
  refine ⟨okB, rfl, hg, Un.kept kp, ⟨m, ?_, fun i y av e1 e2 e3 => ?_⟩, fun y c e => ?_, ?_, fun y c e => ?_, fun p hp => ?_, I.hok.kept kp, by rw [wipe_length]; exact I.len⟩
  · show Heap.Ns _ cenv.locals _
    rw [hL]; exact hn
  · obtain ⟨e2, hne⟩ := wipe_some e2
    have no : ∀ k, scope.names.lookup y = some k → ¬ (k = .local ∨ k = .cell) := fun k e hh => by
      rcases ok.own _ (PySem.mem_of_lookup e) hh with e' | e'
      · obtain ⟨p, hp, hpy⟩ := List.mem_map.mp e'
        have e3 := ok.ix p hp
        have : p.1 = y := hpy
        rw [this] at e3
        exact hne (List.mem_map.mpr ⟨p, hp, nodup_ix hN e3 e1⟩)
      · exact e' (List.mem_of_getElem? e1)
    have e3 : Vis cenv.scope y := e3
    rw [hsc] at e3
    have hfr : scope.names.lookup y = some .free := by
      rcases e3 with e3 | e3 | e3
      · exact absurd (.inl rfl) (no _ e3)
      · exact absurd (.inr rfl) (no _ e3)
      · exact e3
    obtain ⟨m', hn', hl⟩ := I.loc
    have hvis : Vis X.env.scope y := (ok.free _ (PySem.mem_of_lookup hfr) rfl).elim (fun k => .inr (.inl k)) (fun k => .inr (.inr k))
    obtain ⟨w, r, q⟩ := hl i y av e1 e2 hvis
    have kf : cenv.kindOf y = some .free := by show cenv.scope.names.lookup y = _; rw [hsc]; exact hfr
    refine ⟨w, r, .inr ⟨.inr kf, ?_⟩⟩
    obtain ⟨c, h1, h2⟩ := look hfr
    rcases q with ⟨k, _⟩ | ⟨_, c', e', z⟩
    · have k : X.env.scope.names.lookup y = some .local := k
      rcases ok.free _ (PySem.mem_of_lookup hfr) rfl with k' | k' <;> rw [show X.env.scope.names.lookup y = _ from k'] at k <;> cases k
    · rw [h2] at e'; cases e'
      exact ⟨c, h1, z.keeps kp⟩
  · obtain ⟨h1, _, _⟩ := mem e
    obtain ⟨w, z⟩ := I.cell y c h1
    exact ⟨w, z.keeps kp⟩
  · show H cenv.locals = none
    rw [hL]; exact I.hok.fresh (Nat.le_refl _)
  · exact I.freeC y c (mem e).1
  · have hp : p ∈ pn ++ [] := hp
    rw [List.append_nil] at hp
    obtain ⟨p1, p2, p3, p4, p5⟩ := hpn p hp
    exact ⟨p1, p2, by show p.1 ≠ cenv.locals; rw [hL]; exact p3, p4, p5⟩
end
end DL
namespace DL
open PySem PySem.Spec PyProof.Rows L2
section
variable {X : Cx} {pins : List (Addr × Obj)} {σ : L2.St} {s : Shared}
/-- what stays between the wakings -/
structure GInv (X : Cx) (s3 : Shared) (H3 : Hp) (fp : List Addr) (H' : Hp) (s : Shared) : Prop where
  os : s.os = s3.os
  bare : AllBare s.gens
  un : Un (frs X.stack) fp H3 H' s3.heap s.heap
  hok : HOk X.prog X.w H' s.heap
theorem GInv.later {s3 : Shared} {H3 H' : Hp} {fp : List Addr} {s s' : Shared} (h : GInv X s3 H3 fp H' s) (ho : s'.os = s.os) (hb : AllBare s'.gens) (k : ∀ b o, s.heap.get? b = some o → s'.heap.get? b = some o) : GInv X s3 H3 fp H' s' :=
  ⟨ho.trans h.os, hb, h.un.trans (Un.kept k), h.hok.kept k⟩
/-- handed out -/
def YG (X : Cx) (s3 : Shared) (H3 : Hp) (fp : List Addr) (a : Addr) (gg : Nat) (st : Bool) (Q : VK) : Protocol := fun n s₀ v s kap =>
  ∃ c : Bool, v = .bool c ∧ ∃ H', GInv X s3 H3 fp H' s ∧ s.heap.IsGen a gg ∧ s.heap.NoLimit ∧ if c = st then Q (.bl st) H' else ∀ s'', s''.heap = s.heap → s''.os = s.os → AllBare s''.gens → kap (.send .none) s''
/-- at the end -/
def RG (X : Cx) (s3 : Shared) (H3 : Hp) (fp : List Addr) (st : Bool) (Q : VK) : Nat → Shared → Shared → Prop := fun n s₀ s => ∃ H', GInv X s3 H3 fp H' s ∧ Q (.bl (!st)) H'
section
variable {elt tg iter : Expr} {ifs : List Expr} {scope : Scope} {pos : Pos} {own : List (Str × Nat)} {g : TG} {tt : TT} {te : TE} {st : Bool} {Q : VK} {W : Nat → Nat → Hp → Prop} {J : It} {fp : List Addr} {it a : Addr} {tn : Nat → Heap → Prop} {gg : Nat} {s3 : Shared} {H3 : Hp} {cenv : Env} {B : Around} {go : Obj}
theorem seg_gx (hc : X.calm = true) (hco : cenv.scope.isCoroutine = false) (T : Turn X.prog X.w X.K tg J fp it tn) (hgo : ∀ h : Heap, h.get? a = some go → h.IsGen a gg)
    (pg : PG (Gx X (B.over (.compLoop (.GeneratorExp elt [⟨tg, iter, ifs, 0⟩] scope pos) 0 (.ref it) .none cenv) []) s3 H3 cenv fp [(a, go)]) tg g)
    (pt : PTs (Gx X (B.over (.compLoop (.GeneratorExp elt [⟨tg, iter, ifs, 0⟩] scope pos) 0 (.ref it) .none cenv) []) s3 H3 cenv fp [(a, go)]) ifs tt)
    (pe : PE (Gx X (B.over (.compLoop (.GeneratorExp elt [⟨tg, iter, ifs, 0⟩] scope pos) 0 (.ref it) .none cenv) []) s3 H3 cenv fp [(a, go)]) elt te)
    (hpn : ∀ b ∈ fp, b ≠ a)
    (turn : ∀ i m H, W i m H → (J.stop i H ∧ Q (.bl (!st)) H) ∨ (J.go i H ∧ ∃ Nx : Hp → Prop, (∀ H', Nx H' → ∃ m', m' < m ∧ W (i + 1) m' H') ∧ ∀ x H', J.yld i H x H' → g x (wipe σ (own.map (·.2))) H' fun σ2 H2 => wipe σ2 (own.map (·.2)) = wipe σ (own.map (·.2)) ∧ tt σ2 H2 fun b H3 =>
      if b = true then te σ2 H3 fun y H4 => ∃ c : Bool, y = .bl c ∧ (if c = st then Q (.bl st) H4 else Nx H4) else Nx H3)) :
    ∀ (n i : Nat) (s₀ s : Shared) (H : Hp), Inv (Gx X (B.over (.compLoop (.GeneratorExp elt [⟨tg, iter, ifs, 0⟩] scope pos) 0 (.ref it) .none cenv) []) s3 H3 cenv fp [(a, go)]) [] (wipe σ (own.map (·.2))) H s → tn i s.heap → (∀ b ∈ fp, H b = none) → W i n H → ∀ N, n < N →
      Seg (model X.prog X.w) B (fun n s₀ r s₁ => r = .ok .next ∧ RG X s3 H3 fp st Q n s₀ s₁) (YG X s3 H3 fp a gg st Q) N s₀ (.compLoop (.GeneratorExp elt [⟨tg, iter, ifs, 0⟩] scope pos) 0 (.ref it) .none cenv)
        ((model X.prog X.w).den (.compLoop (.GeneratorExp elt [⟨tg, iter, ifs, 0⟩] scope pos) 0 (.ref it) .none cenv)) [] s := by
  generalize hY : Gx X (B.over (.compLoop (.GeneratorExp elt [⟨tg, iter, ifs, 0⟩] scope pos) 0 (.ref it) .none cenv) []) s3 H3 cenv fp [(a, go)] = Y at pg pt pe ⊢
  have stat : ∀ {ps : List (Addr × Obj)} {σ' : L2.St} {H' : Hp} {s' : Shared}, Inv Y [] σ' H' s' → (∀ b ∈ fp, H' b = none) → ∀ b ∈ fp, FpOk Y [] H' b := fun {ps σ' H' s'} I' hn b hb => by
    subst hY
    exact ⟨hn b hb, (I'.ok.exf b hb).1, I'.ok.exfs b hb, .inl hb, fun x c e => (I'.ok.exf b hb).2 x c e, fun p hp => by
      have hp : p ∈ [(a, go)] ++ [] := hp
      simp only [List.append_nil, List.mem_singleton] at hp
      rw [hp]; exact (hpn b hb).symm⟩
  have ginv : ∀ {ps : List (Addr × Obj)} {σ' : L2.St} {H' : Hp} {s' : Shared}, Inv Y ps σ' H' s' → GInv X s3 H3 fp H' s' ∧ s'.heap.IsGen a gg := fun {ps σ' H' s'} I' => by
    subst hY
    exact ⟨⟨I'.os, I'.bare, I'.base, I'.hok⟩, hgo _ (I'.pin (a, go) (List.mem_append_left _ (List.mem_singleton.mpr rfl))).1⟩
  intro n
  induction n using Nat.strongRecOn with
  | ind n ih =>
  intro i s₀ s H I stn nf w N hN
  have hPr : Y.prog = X.prog := by subst hY; rfl
  have hWr : Y.w = X.w := by subst hY; rfl
  have hKr : Y.K = X.K := by subst hY; rfl
  have hAr : Y.A = B.over (.compLoop (.GeneratorExp elt [⟨tg, iter, ifs, 0⟩] scope pos) 0 (.ref it) .none cenv) [] := by subst hY; rfl
  have hEr : Y.env = cenv := by subst hY; rfl
  have hXe : Y.xe = fun _ _ => False := by subst hY; rfl
  have hcY : Y.calm = true := by subst hY; exact hc
  show Seg _ B _ _ _ s₀ _ ((compTurn (.GeneratorExp elt [⟨tg, iter, ifs, 0⟩] scope pos) 0 (.ref it) .none cenv).onRaise (leaving cenv)) [] s
  rw [compTurn_gen, Sem.onRaise_eq_wrap]
  refine seg_bind_wrap (wpAny_standAt ?_)
  rcases turn i n H w with ⟨stop, qq⟩ | ⟨go', Nx, hNx, step⟩
  · have td := T.done Y hPr hWr hKr hcY i [] s _ H (fun _ _ => False) I (stat (ps := []) I nf) stn stop
    rw [hAr] at td
    refine seg_bind_wrap (thnF td fun r s6 ⟨hr, I6⟩ => ?_)
    subst hr
    exact seg_end (.ok .next) ⟨rfl, H, (ginv I6).1, qq⟩
  · have ti := T.item Y hPr hWr hKr hcY i [] s _ H (fun _ _ => False) I (stat (ps := []) I nf) stn go'
    rw [hAr] at ti
    refine seg_bind_wrap (thnF ti fun r s6 ⟨u, hr, h6⟩ => ?_)
    subst hr
    refine seg_bind_wrap (thnF h6 fun _ s7 ⟨x, H7, I7, r7, y7, st7, n7⟩ => ?_)
    have I7' := I7.pinned (stat (ps := []) I7 n7) (T.obj _ _ st7)
    have pgr := pg.run _ s7 _ H7 x u _ I7' r7 (step x H7 y7)
    rw [hPr, hWr, hAr, hEr, hXe] at pgr
    refine seg_bind_wrap (thnF pgr fun _ s8 ⟨σ8, H8, I8, hw8, q8⟩ => ?_)
    have ptr := pt.run _ s8 σ8 H8 _ I8 q8
    rw [hPr, hWr, hAr, hEr, hXe] at ptr
    refine seg_bind_wrap (thnF ptr fun b s9 ⟨H9, I9, q9⟩ => ?_)
    -- the turn's end
    have fin : ∀ {s' s'' : Shared} {H' : Hp}, Inv Y ([] ++ pinsAt fp s7.heap) σ8 H' s' → Nx H' → s''.heap = s'.heap → s''.os = s'.os → AllBare s''.gens → ∃ m, m < n ∧ Inv Y [] (wipe σ (own.map (·.2))) H' s'' ∧ tn (i + 1) s''.heap ∧ (∀ b ∈ fp, H' b = none) ∧ W (i + 1) m H' := fun {s' s'' H'} I' nx e1 e2 e3 => by
      obtain ⟨m', hm, w'⟩ := hNx H' nx
      have pin' : ∀ b ∈ fp, ∀ o, s7.heap.get? b = some o → s'.heap.get? b = some o ∧ H' b = none := fun b hb o e =>
        let z := I'.pin (b, o) (List.mem_append_right _ (List.mem_append_right _ (mem_pinsAt hb e)))
        ⟨z.1, z.2.1⟩
      have hl : (wipe σ (own.map (·.2))).length = σ8.length := by rw [← hw8, wipe_length]
      have kk : ∀ b o, s'.heap.get? b = some o → s''.heap.get? b = some o := fun b o e => by rw [e1]; exact e
      have I2 := (I'.unpinned (pins := [])).call' (ch := []) e2 (Un.kept kk) (I'.hok.kept kk) e3 (fun b z => by simp at z)
      refine ⟨m', hm, I2.weak hl (fun j v e => ?_), T.keep _ _ _ st7 fun b hb o e => kk b o (pin' b hb o e).1, fun b hb => ?_, w'⟩
      · rw [← hw8] at e
        exact (wipe_some e).1
      · obtain ⟨o, e, _⟩ := T.obj _ _ st7 b hb
        exact (pin' b hb o e).2
    cases b with
    | false =>
      simp only [Bool.false_eq_true, if_false] at q9 ⊢
      obtain ⟨m, hm, I2, st2, nf2, w2⟩ := fin I9 q9 rfl rfl I9.bare
      exact seg_again rfl (ih m hm (i + 1) _ _ _ I2 st2 nf2 w2 N (by omega))
    | true =>
      simp only [if_true] at q9 ⊢
      have hy : ∀ v, yieldOut cenv v = yieldValue v := fun v => by simp only [yieldOut, hco, Bool.false_eq_true, if_false]
      simp only [hy]
      rw [Sem.bind_eq_wrap', Sem.bind_eq_wrap', Sem.wrap_wrap, Sem.wrap_wrap]
      have per := pe.run _ s9 σ8 H9 _ I9 q9
      rw [hPr, hWr, hAr, hEr, hXe] at per
      refine seg_wrap (thnF per fun z s10 ⟨yv, H10, I10, r10, c, ec, q10⟩ => ?_)
      subst ec
      have ez : z = .bool c := r10
      subst ez
      obtain ⟨N', rfl⟩ : ∃ N', N = N' + 1 := ⟨N - 1, by omega⟩
      refine seg_at (seg_yield rfl rfl rfl ⟨c, rfl, H10, (ginv I10).1, (ginv I10).2, I10.nolimit, ?_⟩)
      by_cases hcs : c = st
      · rw [if_pos hcs] at q10 ⊢
        exact q10
      · rw [if_neg hcs] at q10 ⊢
        intro s'' e1 e2 e3
        obtain ⟨m, hm, I2, st2, nf2, w2⟩ := fin I10 q10 e1 e2 e3
        exact seg_again rfl (ih m hm (i + 1) _ _ _ I2 st2 nf2 w2 N' (by omega))
end
end
end DL
namespace DL
open PySem PySem.Spec PyProof.Rows L2 GenW
section
variable {prog : Program} {w : World}
theorem seg_gxStart {R : GenEnd} {Y : Protocol} {B : Around} {N : Nat} {s₀ s : Shared} {elt tg iter : Expr} {ifs : List Expr} {scope : Scope} {pos : Pos} {it : Addr} {cenv : Env}
    (self : ∀ (A : Around) (Q : Value → Shared → Prop) (E : Value → Shared → Prop), Q (.ref it) s → wpAny (model prog w) A (pyIter (.ref it)) Q E s)
    (loop : Seg (model prog w) B R Y N s₀ (.compLoop (.GeneratorExp elt [⟨tg, iter, ifs, 0⟩] scope pos) 0 (.ref it) .none cenv) ((model prog w).den (.compLoop (.GeneratorExp elt [⟨tg, iter, ifs, 0⟩] scope pos) 0 (.ref it) .none cenv)) [] s) :
    Seg (model prog w) B R Y N s₀ (.compStart (.GeneratorExp elt [⟨tg, iter, ifs, 0⟩] scope pos) 0 (.ref it) .none cenv) ((model prog w).den (.compStart (.GeneratorExp elt [⟨tg, iter, ifs, 0⟩] scope pos) 0 (.ref it) .none cenv)) [] s := by
  show Seg _ B _ _ _ s₀ _ ((compStart (.GeneratorExp elt [⟨tg, iter, ifs, 0⟩] scope pos) 0 (.ref it) .none cenv).onRaise (leaving cenv)) [] s
  unfold compStart
  rw [Sem.onRaise_eq_wrap]
  show Seg _ B _ _ _ s₀ _ ((ask >>= _).wrap _ _ _ _) [] s
  refine seg_bind_wrap (wpAny_askSetting ?_)
  split
  · exact seg_again rfl loop
  · first
      | exact seg_bind_wrap (wpAny_rule (seg_bind_wrap (wpAny_standAt (seg_bind_wrap (self _ _ _ (seg_again rfl loop))))))
      | (refine seg_bind_wrap (wpAny_rule ?_); show Seg _ B _ _ _ s₀ _ ((standAt iter.pos >>= _).wrap _ _ _ _) [] s; exact seg_bind_wrap (wpAny_standAt (seg_bind_wrap (self _ _ _ (seg_again rfl loop)))))
end
section
variable {X : Cx} {s3 : Shared} {H3 : Hp} {fp : List Addr} {a : Addr} {gg : Nat} {st : Bool} {Q : VK} {A : Around}
/-- ready to be woken -/
def Rdy (X : Cx) (s3 : Shared) (H3 : Hp) (fp : List Addr) (a : Addr) (gg : Nat) (st : Bool) (Q : VK) (A : Around) (N : Nat) (s : Shared) : Prop :=
  s.heap.IsGen a gg ∧ s.heap.NoLimit ∧ ∃ gs, s.gens[gg]? = some gs ∧ gs.Goes (model X.prog X.w) A.in1.in1 (fun n s₀ r s₁ => r = .ok .next ∧ RG X s3 H3 fp st Q n s₀ s₁) (YG X s3 H3 fp a gg st Q) N (.send .none) (s.setGen gg .running)
theorem gx_next (hh : A.handled = none) (hd : A.depth < recursionLimit) {E : Value → Shared → Prop} {Q' : Option Value → Shared → Prop} {N : Nat} {s : Shared} (h : Rdy X s3 H3 fp a gg st Q A N s)
    (hn : ∀ s' H', GInv X s3 H3 fp H' s' → Q (.bl (!st)) H' → Q' none s') (hs : ∀ s' H', GInv X s3 H3 fp H' s' → Q (.bl st) H' → Q' (some (.bool st)) s')
    (hr : ∀ s' N', N = N' + 1 → Rdy X s3 H3 fp a gg st Q A N' s' → Q' (some (.bool (!st))) s') : wpAny (model X.prog X.w) A.in1 (pyNext (.ref a)) Q' E s := by
  obtain ⟨hg, hl, gs, hgs, hgo⟩ := h
  have hgl : gg < s.gens.size := (Array.getElem?_eq_some_iff.mp hgs).1
  refine wpAny_gsz (n := gg + 1) hgl (wpAny_pyNext_genexpQ (A := A.in1) hh hl hd hg hgs hgo (fun v s₁ gs' hb hv => ?_) (fun s₁ hp h' hk => ?_))
  · intro hsz
    obtain ⟨c, rfl, H', gi, hg1, hl1, hk⟩ := hv
    have bb : AllBare (s₁.setGen gg gs').gens := allBare_setGen gi.bare hb
    by_cases hc : c = st
    · rw [if_pos hc] at hk
      subst hc
      exact hs _ H' (gi.later rfl bb fun _ _ e => e) hk
    · rw [if_neg hc] at hk
      have ec : c = !st := by cases c <;> cases st <;> simp_all
      subst ec
      have hsz1 : gg < s₁.gens.size := by
        have q : (s₁.setGen gg gs').gens.size = s₁.gens.size := setGen_size _ _ _
        have hsz' : gg + 1 ≤ (s₁.setGen gg gs').gens.size := hsz
        omega
      have hk' := hk ((s₁.setGen gg gs').setGen gg .running) rfl rfl (allBare_setGen bb rfl)
      cases N with
      | zero => exact False.elim hk'
      | succ N' => exact hr _ N' rfl ⟨hg1, hl1, gs', setGen_at hsz1, hk'⟩
  · intro _
    obtain ⟨H', gi, hq⟩ := hp
    exact hn _ H' (gi.later rfl (allBare_setGen gi.bare rfl) hk) hq
theorem gx_all (hst : st = false) (hh : A.handled = none) (hd : A.depth < recursionLimit) {R : Result → Shared → Prop} (hR : ∀ s' b H', GInv X s3 H3 fp H' s' → Q (.bl b) H' → R (.ok (.ret (.bool b))) s') : ∀ (N : Nat) (s : Shared), Rdy X s3 H3 fp a gg st Q A N s → codeAny (model X.prog X.w) A (.builtin "all.loop" ⟨[.ref a], []⟩) R s := by
  subst hst
  intro N
  induction N using Nat.strongRecOn with
  | ind N ih =>
  intro s h
  refine codeAny_builtin F.entry_all_loop ?_
  rw [Around.under_plainId F.plain_all_loop _]
  show wpAny _ A.in1 (pyNext (.ref a) >>= _) _ _ s
  refine wpAny_bind (gx_next hh hd h (fun s' H' gi q => ?_) (fun s' H' gi q => ?_) fun s' N' e h' => ?_)
  · refine wpAny_bind (wpAny_rule (wpAny_pure ?_))
    exact hR _ _ H' gi q
  · refine wpAny_bind (wpAny_holding (wpAny_truthy_bool ?_))
    refine wpAny_bind (wpAny_letGo ?_)
    simp only [Bool.false_eq_true, if_false]
    refine wpAny_bind (wpAny_rule (wpAny_pure ?_))
    exact hR _ _ H' gi q
  · refine wpAny_bind (wpAny_holding (wpAny_truthy_bool ?_))
    refine wpAny_bind (wpAny_letGo ?_)
    simp only [Bool.not_false, if_true]
    exact wpAny_pure ⟨plainId_quiet F.plain_all_loop _, ih N' (by omega) _ h'⟩
theorem gx_any (hst : st = true) (hh : A.handled = none) (hd : A.depth < recursionLimit) {R : Result → Shared → Prop} (hR : ∀ s' b H', GInv X s3 H3 fp H' s' → Q (.bl b) H' → R (.ok (.ret (.bool b))) s') : ∀ (N : Nat) (s : Shared), Rdy X s3 H3 fp a gg st Q A N s → codeAny (model X.prog X.w) A (.builtin "any.loop" ⟨[.ref a], []⟩) R s := by
  subst hst
  intro N
  induction N using Nat.strongRecOn with
  | ind N ih =>
  intro s h
  refine codeAny_builtin F.entry_any_loop ?_
  rw [Around.under_plainId F.plain_any_loop _]
  show wpAny _ A.in1 (pyNext (.ref a) >>= _) _ _ s
  refine wpAny_bind (gx_next hh hd h (fun s' H' gi q => ?_) (fun s' H' gi q => ?_) fun s' N' e h' => ?_)
  · refine wpAny_bind (wpAny_rule (wpAny_pure ?_))
    exact hR _ _ H' gi q
  · refine wpAny_bind (wpAny_holding (wpAny_truthy_bool ?_))
    refine wpAny_bind (wpAny_letGo ?_)
    simp only [if_true]
    refine wpAny_bind (wpAny_rule (wpAny_pure ?_))
    exact hR _ _ H' gi q
  · refine wpAny_bind (wpAny_holding (wpAny_truthy_bool ?_))
    refine wpAny_bind (wpAny_letGo ?_)
    simp only [Bool.not_true, Bool.false_eq_true, if_false]
    exact wpAny_pure ⟨plainId_quiet F.plain_any_loop _, ih N' (by omega) _ h'⟩
theorem call_all_gx {prog : Program} {w : World} {s : Shared} {Q' : Value → Shared → Prop} {E : Value → Shared → Prop} (hg : s.heap.IsGen a gg) (h : ∀ R : Result → Shared → Prop, (∀ b s', Q' (.bool b) s' → R (.ok (.ret (.bool b))) s') → codeAny (model prog w) A (.builtin "all.loop" ⟨[.ref a], []⟩) R s) :
    wpAny (model prog w) A (call (.builtin "all") [.ref a]) Q' E s := by
  refine call_function_tree F.kind_all F.plain_all F.entry_all (F.args_all1 _) ?_
  unfold Builtin.«all»
  refine wpAny_bind (m := oneArg "all" _) (wpAny_pure ?_)
  refine wpAny_bind (wpAny_pyIter_gen hg ?_)
  exact wpAny_pure ⟨plainId_quiet F.plain_all_loop _, h _ fun b s' q => q⟩
theorem call_any_gx {prog : Program} {w : World} {s : Shared} {Q' : Value → Shared → Prop} {E : Value → Shared → Prop} (hg : s.heap.IsGen a gg) (h : ∀ R : Result → Shared → Prop, (∀ b s', Q' (.bool b) s' → R (.ok (.ret (.bool b))) s') → codeAny (model prog w) A (.builtin "any.loop" ⟨[.ref a], []⟩) R s) :
    wpAny (model prog w) A (call (.builtin "any") [.ref a]) Q' E s := by
  refine call_function_tree F.kind_any F.plain_any F.entry_any (F.args_any1 _) ?_
  unfold Builtin.«any»
  refine wpAny_bind (m := oneArg "any" _) (wpAny_pure ?_)
  refine wpAny_bind (wpAny_pyIter_gen hg ?_)
  exact wpAny_pure ⟨plainId_quiet F.plain_any_loop _, h _ fun b s' q => q⟩
end
end DL
namespace DL
open PySem PySem.Spec PyProof.Rows L2 GenW
/-- all(..) (st = false), any(..) (st = true) -/
def tAg (st : Bool) (P : Addr) (wi : TI) (g : TG) (tt : TT) (te : TE) (vs : List Nat) : TE := fun σ H Q => wi σ H fun J H1 => GxR.TabG H1 P ∧ ∀ H2, GxR.Tabbed P H1 H2 → ∃ W : Nat → Nat → Hp → Prop, (∃ m, W 0 m H2) ∧ ∀ i m H, W i m H →
  (J.stop i H ∧ Q (.bl (!st)) H) ∨ (J.go i H ∧ ∃ Nx : Hp → Prop, (∀ H', Nx H' → ∃ m', m' < m ∧ W (i + 1) m' H') ∧ ∀ x H', J.yld i H x H' → g x (wipe σ vs) H' fun σ2 H2 => wipe σ2 vs = wipe σ vs ∧ tt σ2 H2 fun b H3 =>
    if b = true then te σ2 H3 fun y H4 => ∃ c : Bool, y = .bl c ∧ (if c = st then Q (.bl st) H4 else Nx H4) else Nx H3)
section
variable {X : Cx} {pins : List (Addr × Obj)} {σ : L2.St} {H : Hp} {s : Shared} {k : Nat} {c P : Addr} {elt tg iter : Expr} {ifs : List Expr} {scope : Scope} {gpos : Pos} {own : List (Str × Nat)} {wi : TI} {g : TG} {tt : TT} {te : TE} {st : Bool} {Q : VK} {Q' : Value → Shared → Prop}
theorem room_gx {A : Around} {cd : Code} (hr : Room (k + 1) A) (hw : cd.weight = 1) (hu : cd.cUnits = 3) : Room k (A.in1.in1.over cd []) := by
  refine ⟨hr.hd, ?_, ?_⟩
  · have := hr.dp
    show A.depth + frameCount [] + cd.weight + 3 * k + 5 < _
    rw [hw]
    show A.depth + 0 + 1 + 3 * k + 5 < _
    omega
  · have := hr.un
    show A.units + 1 + 1 + unitsOf [] + cd.cUnits + 16 * k + 200 < _
    rw [hu]
    show A.units + 1 + 1 + 0 + 3 + 16 * k + 200 < _
    omega
theorem gx_make (hr : Room (k + 1) X.A) (hc : X.calm = true) (hN : X.N.Nodup) (TB : GxR.TabB X.base X.mg c P) (hcode : X.env.code = .ref c) (hco : scope.isCoroutine = false) (h0 : scope.names.lookup (".0" : Str) = some .local) (hnc : ∀ y ∈ scope.names, y.2 ≠ .cell)
    (hi : PI X tg iter wi) (ok : BlkOk X.N X.env.scope scope own)
    (hg : ∀ (A' : Around) (s : Shared) (H : Hp) (C : Addr) (cl : List (Str × Addr)) (cd : Value) (fp : List Addr) (pn : List (Addr × Obj)), Room k A' → PG (Gx X A' s H (genEnv scope cl C cd builtinsNs X.env) fp pn) tg g)
    (ht : ∀ (A' : Around) (s : Shared) (H : Hp) (C : Addr) (cl : List (Str × Addr)) (cd : Value) (fp : List Addr) (pn : List (Addr × Obj)), Room k A' → PTs (Gx X A' s H (genEnv scope cl C cd builtinsNs X.env) fp pn) ifs tt)
    (he : ∀ (A' : Around) (s : Shared) (H : Hp) (C : Addr) (cl : List (Str × Addr)) (cd : Value) (fp : List Addr) (pn : List (Addr × Obj)), Room k A' → PE (Gx X A' s H (genEnv scope cl C cd builtinsNs X.env) fp pn) elt te)
    (hs : ∀ x, genFold iter X.env x = pure x) (I : Inv X pins σ H s) (h : tAg st P wi g tt te (own.map (·.2)) σ H Q)
    (hQ : ∀ s3 H3 fp a gg N s5, (∀ s' H', GInv X s3 H3 fp H' s' → Inv X pins σ H' s') → Rdy X s3 H3 fp a gg st Q X.A N s5 → Q' (.ref a) s5) :
    wpAny (model X.prog X.w) X.A (eval (.GeneratorExp elt [⟨tg, iter, ifs, 0⟩] scope gpos) X.env) Q' X.xe s := by
  have hfree : ∀ y ∈ scope.names, y.2 = .free → ∃ c, X.env.cells.lookup y.1 = some c := fun y hy e => by
    rcases ok.free y hy e with k | k
    · exact I.ok.has _ (.inl k)
    · exact I.ok.has _ (.inr k)
  refine wpAny_GeneratorExp_make hco (closure_ok hfree) hnc h0 ok.kind hr.depth ?_ hs
  refine thn (hi.run pins s σ H _ I h) fun xv s1 hx => thn hx fun itv s2 h2 => ?_
  obtain ⟨it, fp, tn, J, H2, e, I2, T, st2, f2, ⟨ps, hP, htr⟩, q⟩ := h2
  subst e
  have hPs : s2.heap.get? P = some { cls := .none, data := .fields ps } := I2.hok P _ hP
  have cd : PySem.W.CodeHd s2.heap c P := TB.code.keeps fun b u e => I2.bk b u e
  have cont : ∀ (code : Value) (h3 : Heap) (tk : Nat) (ps' : Array Value), Heap.ExtBut P s2.heap h3 → s2.heap.objs.size ≤ h3.objs.size → h3.get? P = some { cls := .none, data := .fields ps' } → (∃ more, ps' = ps ++ more) → TriplesOk ps'.toList →
      wpAny (model X.prog X.w) X.A (builtinsFor X.env.globals X.env.builtins) (fun bi s₄ =>
        ∀ h', h'.Ns s₄.heap.objs.size (fun y => if y = ".0" then some (Value.ref it) else none) → Heap.SameBut s₄.heap.objs.size (s₄.heap.push { cls := .type "frame", data := .dict #[] }) h' →
          Q' (.ref h'.objs.size) { s₄ with
            gens := s₄.gens.push (.fresh (.compStart (.GeneratorExp elt [⟨tg, iter, ifs, 0⟩] scope gpos) 0 (.ref it) .none (genEnv scope (cloFrom X.env.cells scope.names []) s₄.heap.objs.size code bi X.env))),
            toks := s₄.toks + 1 + 1 + 1,
            heap := h'.push { cls := .type "generator", data := .fields #[.int s₄.gens.size 0, .str "<genexpr>" (s₄.toks + 1), .str (X.env.qual ++ "<genexpr>") (s₄.toks + 1 + 1)] } }) X.xe { s2 with heap := h3, toks := tk } := by
    intro code h3 tk ps' hx hsz hP3 hmore ht3
    obtain ⟨bm, ob, e1, e2, e3, e4, e5, e6, e7, e8⟩ := TB.bm
    obtain ⟨more, rfl⟩ := hmore
    have keep3 : ∀ b u, b ≠ P → s2.heap.get? b = some u → h3.get? b = some u := fun b u hb e => hx b u hb e
    have I3 : Inv X pins σ (upd H2 P (.tbl (ps ++ more))) { s2 with heap := h3, toks := tk } :=
      GxR.inv_tab (more := more) (h' := h3) (g' := s2.gens) (d' := s2.drawn) (t' := tk) I2 hP (fun b o hb e => hx b o hb e) hP3 I2.bare
    refine wpAny_builtinsFor (m := X.mg) (by rw [I2.ok.glob]; exact (I2.mod.glob.keeps I2.bk).extBut hx TB.gP) e1 e2 (keep3 _ _ e4 (I2.bk _ _ e5)) e6 e7 e8 ?_
    intro h' hn' hs'
    have hsz' : h'.objs.size = h3.objs.size + 1 := by rw [hs'.1, Heap.size_push]
    have kp4 : ∀ b o, h3.get? b = some o → h'.get? b = some o := fun b o e => hs'.extBut b o (Nat.ne_of_lt (Heap.lt_size e)) (Heap.get?_push_of_some _ e)
    generalize hce : genEnv scope (cloFrom X.env.cells scope.names []) h3.objs.size code builtinsNs X.env = cenv at hn' hs' ⊢
    generalize hgob : ({ cls := .type "generator", data := .fields #[.int s2.gens.size 0, .str "<genexpr>" (tk + 1), .str (X.env.qual ++ "<genexpr>") (tk + 1 + 1)] } : Obj) = go
    have hgo : ∀ h : Heap, h.get? h'.objs.size = some go → h.IsGen h'.objs.size s2.gens.size := fun h e => ⟨go, _, _, e, by rw [← hgob], by rw [← hgob], by rw [← hgob]⟩
    have hga : (h'.push go).get? h'.objs.size = some go := by rw [← hgob]; exact Heap.get?_push_size _ rfl
    have kp5 : ∀ b o, h3.get? b = some o → (h'.push go).get? b = some o := fun b o e => Heap.get?_push_of_some _ (kp4 b o e)
    have hPfp : P ∉ fp := fun z => by
      have := (f2 P z).1
      rw [hP] at this; cases this
    have fsz : ∀ b ∈ fp, b < s2.heap.objs.size := fun b hb => by
      obtain ⟨o, e, _⟩ := T.obj _ _ st2 b hb
      exact Heap.lt_size e
    have f3 : ∀ b ∈ fp, FpOk X pins (upd H2 P (.tbl (ps ++ more))) b ∧ b < h3.objs.size := fun b hb => ⟨⟨by rw [upd_ne (show b ≠ P from fun z => hPfp (by rw [← z]; exact hb))]; exact (f2 b hb).1, (f2 b hb).2⟩, Nat.lt_of_lt_of_le (fsz b hb) hsz⟩
    have nfp : ∀ b ∈ fp, (upd H2 P (.tbl (ps ++ more))) b = none := fun b hb => (f3 b hb).1.1
    obtain ⟨W, ⟨m0, w0⟩, turn⟩ := q (upd H2 P (.tbl (ps ++ more))) ⟨⟨ps ++ more, upd_same, ht3⟩, fun b hb => upd_ne hb⟩
    have hn5 : (h'.push go).Ns h3.objs.size (fun y => if y = ".0" then some (Value.ref it) else none) := hn'.push _
    have fr3 : ∀ b, h3.objs.size ≤ b → (upd H2 P (.tbl (ps ++ more))) b = none := fun b hb => I3.hok.fresh hb
    have aC : h'.objs.size ≠ h3.objs.size := by rw [hsz']; exact Nat.succ_ne_self _
    have aS : h'.objs.size ∉ frs X.stack := fun z => by
      rcases List.mem_cons.mp (I3.stkSub _ z) with z | z
      · have := I3.lt
        have h9 : X.env.locals < h3.objs.size := this
        rw [← z, hsz'] at h9
        exact absurd (Nat.lt_of_succ_lt h9) (Nat.lt_irrefl _)
      · have hb : h3.objs.size ≤ h'.objs.size := by rw [hsz']; exact Nat.le_succ _
        exact I3.nofs hb z
    have hAr : Room k (X.A.in1.in1.over (.compLoop (.GeneratorExp elt [⟨tg, iter, ifs, 0⟩] scope gpos) 0 (.ref it) .none cenv) []) := room_gx hr rfl rfl
    have hfr : (X.A.in1.in1.over (.compLoop (.GeneratorExp elt [⟨tg, iter, ifs, 0⟩] scope gpos) 0 (.ref it) .none cenv) []).frames = some (cenv :: X.stack) := by
      show X.A.frames.map ([cenv] ++ ·) = _
      rw [I.ok.frames]; rfl
    have inv0 : ∀ (g4 : Array GenState) (t4 : Nat), AllBare g4 → Inv (Gx X (X.A.in1.in1.over (.compLoop (.GeneratorExp elt [⟨tg, iter, ifs, 0⟩] scope gpos) 0 (.ref it) .none cenv) []) { s2 with heap := h3, toks := tk } (upd H2 P (.tbl (ps ++ more))) cenv fp [(h'.objs.size, go)]) [] (wipe σ (own.map (·.2))) (upd H2 P (.tbl (ps ++ more))) { s2 with heap := h'.push go, gens := g4, toks := t4 } := fun g4 t4 hb4 =>
      gx_start (s := { s2 with heap := h3, toks := tk }) cenv hce.symm I3 ok hnc hN f3 hAr.hd hfr hn5 kp5 hb4 (fun p hp => by
        rw [List.mem_singleton.mp hp]
        exact ⟨hga, fr3 _ (by rw [hsz']; exact Nat.le_succ _), aC, aS, fun v z => by rw [← hgob] at z; cases z⟩)
    have hcoE : cenv.scope.isCoroutine = false := by rw [← hce]; exact hco
    have pg := hg _ { s2 with heap := h3, toks := tk } (upd H2 P (.tbl (ps ++ more))) h3.objs.size (cloFrom X.env.cells scope.names []) code fp [(h'.objs.size, go)] hAr
    have pt := ht _ { s2 with heap := h3, toks := tk } (upd H2 P (.tbl (ps ++ more))) h3.objs.size (cloFrom X.env.cells scope.names []) code fp [(h'.objs.size, go)] hAr
    have pe := he _ { s2 with heap := h3, toks := tk } (upd H2 P (.tbl (ps ++ more))) h3.objs.size (cloFrom X.env.cells scope.names []) code fp [(h'.objs.size, go)] hAr
    rw [hce] at pg pt pe
    have st5 : tn 0 (h'.push go) := T.keep _ _ _ st2 fun b hb o e => kp5 b o (keep3 b o (fun z => hPfp (by rw [← z]; exact hb)) e)
    have hba : AllBare (s2.gens.push (.fresh (.compStart (.GeneratorExp elt [⟨tg, iter, ifs, 0⟩] scope gpos) 0 (.ref it) .none cenv))) := I2.bare.push rfl
    refine hQ { s2 with heap := h3, toks := tk } (upd H2 P (.tbl (ps ++ more))) fp h'.objs.size s2.gens.size (m0 + 1) _ (fun s' H' gi => I3.call' (ch := fp) gi.os gi.un gi.hok gi.bare fun b hb => ⟨(f3 b hb).1.2.2.2.1, (f3 b hb).1.2.1, (f3 b hb).1.2.2.2.2.1, (f3 b hb).1.2.2.2.2.2⟩) ?_
    have hb9 : AllBare (Shared.setGen { s2 with gens := s2.gens.push (.fresh (.compStart (.GeneratorExp elt [⟨tg, iter, ifs, 0⟩] scope gpos) 0 (.ref it) .none cenv)), toks := tk + 1 + 1 + 1, heap := h'.push go } s2.gens.size .running).gens := allBare_setGen (s := { s2 with gens := _, toks := _, heap := _ }) hba rfl
    refine ⟨hgo _ hga, I3.nolimit.keeps kp5, _, Array.getElem?_push_size .., rfl, ?_⟩
    refine seg_gxStart (fun A Q E hq => T.self A 0 _ Q E st5 hq) ?_
    exact seg_gx hc hcoE T hgo pg pt pe (fun b hb z => by
      have h1 := (f3 b hb).2
      rw [z, hsz'] at h1
      exact absurd (Nat.lt_of_succ_lt h1) (Nat.lt_irrefl _)) turn m0 0 _ _ _ (inv0 _ _ hb9) st5 nfp w0 (m0 + 1) (Nat.lt_succ_self _)
  refine ⟨I2.nolimit, ?_⟩
  cases hf : codeAmong gpos ps.toList with
  | none =>
    refine wpAny_genexprCodeX hcode (cd.code hPs htr) (cd.tab hPs) hf fun c' h' tk hx hge hlt hco' _ htab' _ => ?_
    obtain ⟨o1, vs, f1, tf, fl, tg, inF, tx, tt, op, _, _, _, _, _, _, _, _, _, htr', _⟩ := hco'
    exact cont _ h' tk _ hx (Nat.le_trans hge (Nat.le_of_lt hlt)) htab'.2 ⟨_, rfl⟩ htr'
  | some cv =>
    refine wpAny_genexprCode_hit hcode (cd.code hPs htr) hf ?_
    exact cont cv s2.heap s2.toks ps (Heap.ExtBut.refl _ _) (Nat.le_refl _) hPs ⟨#[], by simp⟩ htr
end
end DL
namespace DL
open PySem PySem.Spec PyProof.Rows L2 GenW
section
variable {K : PySem.W.Frag} {mg : Str → Option Value} {G : Gm} {Wx : WX} {P P' : Addr → Prop} {A A' : List (Option Addr)} {L L' : List Addr} {H H' H1 : Hp} {σ : L2.St} {s s' : S} {T : Addr}
theorem tab_mv (t : GxR.Tabbed T H H') (ht : GxR.TabG H T) : ∀ a o, H a = some o → Plain o → H' a = some o := fun a o e p => by
  have n : a ≠ T := fun z => by
    obtain ⟨ps, q, _⟩ := ht
    rw [z, q] at e
    cases e
    exact p ps rfl
  rw [t.2 a n]; exact e
theorem tab_there (t : GxR.Tabbed T H H') : ∀ a o, H a = some o → ∃ o', H' a = some o' := fun a o e => by
  by_cases n : a = T
  · obtain ⟨ps, q, _⟩ := t.1
    exact ⟨_, by rw [n]; exact q⟩
  · exact ⟨o, by rw [t.2 a n]; exact e⟩
theorem tab_tab (t : GxR.Tabbed T H H') : ∀ a, GxR.TabG H a → GxR.TabG H' a := fun a ⟨ps, e, q⟩ => by
  by_cases n : a = T
  · rw [n]; exact t.1
  · exact ⟨ps, by rw [t.2 a n]; exact e, q⟩
theorem SR.tabbed (hs : SR K mg G P A L s σ H) (t : GxR.Tabbed T H H') (ht : GxR.TabG H T) : SR K mg G P A L s σ H' ∧ Step A L H A L H' := by
  have mv := tab_mv t ht
  have st : Step A L H A L H' := ⟨fun a o e _ _ p => mv a o e p, fun a h => h.elim .inl fun h => .inr (.inl h), ⟨[], by simp⟩, tab_there t, tab_tab t⟩
  have mvB : ∀ a o, H a = some o → ¬ Bd P A L a → Plain o → H' a = some o ∧ ¬ Bd P A L a := fun a o e n p => ⟨mv a o e p, n⟩
  refine ⟨{ hs with
    slot := fun i x e => let ⟨ov, oa, e1, e2, q⟩ := hs.slot i x e; ⟨ov, oa, e1, e2, q.move mvB (fun a o _ m h => mv a _ h m.plain) fun _ _ h => h⟩
    loc := fun n ds e => let ⟨a, vs, e1, e2, r⟩ := hs.loc n ds e; ⟨a, vs, e1, mv a _ e2 fun _ => nofun, r.move mvB⟩
    own := fun a z => let ⟨o, e, m⟩ := hs.own a z; ⟨o, mv a _ e m.plain, m⟩
    tab := fun a z => tab_tab t a (hs.tab a z)
    ent := ⟨fun a o e hA hL p => mv a o (hs.ent.frm a o e hA hL p) p, hs.ent.new, hs.ent.pre, fun a o e => let ⟨o', e'⟩ := hs.ent.there a o e; tab_there t a o' e', fun a h => tab_tab t a (hs.ent.tab a h)⟩
    pOk := fun a z => let w := hs.pOk a z; ⟨let ⟨o, e⟩ := w.1; tab_there t a o e, w.2⟩ }, st⟩
theorem iteYes {c : Prop} [Decidable c] {a b : Prop} (h : c) (x : a) : if c then a else b := by rw [if_pos h]; exact x
theorem iteNo {c : Prop} [Decidable c] {a b : Prop} (h : ¬ c) (x : b) : if c then a else b := by rw [if_neg h]; exact x
def loopA (st : Bool) (vs : List Nat) (g : GV) (t : TV) (fe : EV) : List D → S → Rs Bool
  | [], s => .ok (!st) s
  | d :: ds, s => (g (.pv d) s).bind fun _ s1 => (t s1).bind fun b s2 => if b = true then (fe s2).bind fun r s3 => (toB r s3).bind fun c s4 => if c = st then .ok st { s4 with η := wipeN s4.η vs } else loopA st vs g t fe ds { s4 with η := wipeN s4.η vs }
    else loopA st vs g t fe ds { s2 with η := wipeN s2.η vs }
/-- all(..), any(..) of a generator expression -/
def eAgg (st : Bool) (vs : List Nat) (it : IV) (g : GV) (t : TV) (fe : EV) : EV := fun s => (it s).bind fun ds s1 => if noOwn s1.η vs = true then (noErr (loopA st vs g t fe ds { s1 with η := wipeN s1.η vs })).bind fun b s2 => .ok (.pv (.bl b)) { s2 with η := restN s1.η s2.η vs } else .bad
theorem ed_aggQ {st : Bool} {it : IV} {g : GV} {t : TV} {fe : EV} {tt : TT} {te : TE} {Q : VK} {vs : List Nat} (hT : T ∈ G.tb)
    (ht : ∀ {σ H Q}, tT K mg G W0 t σ H Q → tt σ H Q) (hte : ∀ {σ H Q}, tE K mg G W0 fe σ H Q → te σ H Q)
    (h : tE K mg G Wx (eAgg st vs it g t fe) σ H Q) : tAg st T (tI K mg G Wx it) (tGv K mg G vs g) tt te vs σ H Q := by
  obtain ⟨P, A, L, s, hs, h⟩ := h
  refine ⟨P, A, L, s, hs, (Run.bind h).imp fun ds s1 _ h1 A1 L1 H1 J sr1 ok1 st1 => ?_⟩
  refine ⟨sr1.tab T hT, fun H2 tb => ?_⟩
  obtain ⟨sr2, stT⟩ := sr1.tabbed tb (sr1.tab T hT)
  by_cases nO : noOwn s1.η vs = true
  · rw [if_pos nO] at h1
    cases e : loopA st vs g t fe ds { s1 with η := wipeN s1.η vs } with
    | bad => rw [e] at h1; exact h1.elim
    | err _ _ => rw [e] at h1; exact h1.elim
    | ok acc sf =>
      rw [e] at h1
      have h1 : PostE K mg G P A L H σ Q (.pv (.bl acc)) { sf with η := restN s1.η sf.η vs } := h1
      have srw := sr2.wiped nO
      refine ⟨fun i m H' => i + m = ds.length ∧ ∃ A' L' s', SR K mg G P A' L' s' (wipe σ vs) H' ∧ Step A1 L1 H1 A' L' H' ∧ s'.η.length = s1.η.length ∧ wipeN s'.η vs = s'.η ∧ loopA st vs g t fe (ds.drop i) s' = .ok acc sf,
        ⟨ds.length, by omega, A1, L1, _, srw, stT, by rw [wipeN_len], wipeN_idem _ _, e⟩, ?_⟩
      -- the answer
      have fin : ∀ {A' : List (Option Addr)} {L' : List Addr} {H' : Hp}, SR K mg G P A' L' { sf with η := wipeN sf.η vs } (wipe σ vs) H' → Step A1 L1 H1 A' L' H' → sf.η.length = s1.η.length → Q (.bl acc) H' := fun {A' L' H'} sr' st' hl => by
        have sr9 := SR.rest sr1 nO st' (fun a z => .inl z) sr' hl
        exact h1 A' L' (.bl acc) H' ⟨sr9.lessP (Wi.pv nofun), by show Rep _ _ _ _ _ _; unfold Rep; rfl, OwNew.of nofun, st1.trans st', hs.p0⟩
      rintro i m H2 ⟨em, A2, L2, s2, sr2, st2, hlen, hw, e2⟩
      obtain ⟨go, stop, yld⟩ := ok1 P A2 L2 H2 (fun a z => .inl z) st2 sr2.there
      by_cases hi : i < ds.length
      · refine .inr ⟨go i hi, fun H' => ∃ A' L' s', SR K mg G P A' L' s' (wipe σ vs) H' ∧ Step A1 L1 H1 A' L' H' ∧ s'.η.length = s1.η.length ∧ wipeN s'.η vs = s'.η ∧
          loopA st vs g t fe (ds.drop (i + 1)) s' = .ok acc sf, fun H' n => ⟨m - 1, by omega, by omega, n⟩, fun x H3 y => ?_⟩
        have ro := yld i _ x H3 (List.getElem?_eq_getElem hi) y
        rw [Reps.nth hi] at e2
        unfold loopA at e2
        obtain ⟨_, s3, eg, e2⟩ := bind_ok e2
        obtain ⟨b, s4, et, e2⟩ := bind_ok e2
        have a2 : At K mg G P A2 L2 H2 (wipe σ vs) A2 L2 s2 H3 (.pv ds[i]) x := At.mk' sr2 (Step.refl _ _ _) sr2.p0 ro
        refine ⟨P, A2, L2, H2, A2, L2, s2, _, s3, a2, eg, fun A3 L3 σ3 H4 sr3 st3 w3 => ?_⟩
        have w3 : wipe σ3 vs = wipe σ vs := w3.trans (wipe_ext (wipe_length _ _) fun j hj => wipe_out hj)
        have l3 : s3.η.length = s1.η.length := by rw [← sr3.lenσ, ← wipe_length σ3 vs, w3, sr2.lenσ]; exact hlen
        refine ⟨w3, ht ⟨P, A3, L3, s3, sr3, Run.ok0 ⟨b, s4, et, fun A4 L4 H5 sr4 st4 => ?_⟩⟩⟩
        have l4 : s4.η.length = s1.η.length := by rw [← sr4.lenσ, sr3.lenσ]; exact l3
        cases b with
        | true =>
          rw [if_pos rfl] at e2
          obtain ⟨r, s5, ef, e5⟩ := bind_ok e2
          obtain ⟨c, s6, ez, e6⟩ := bind_ok e5
          refine iteT (hte ⟨P, A4, L4, s4, sr4, Run.ok0 ⟨r, s5, ef, fun A5 L5 v H6 a5 => ?_⟩⟩)
          have ez : r = .pv (.bl c) ∧ s6 = s5 := by
            unfold toB at ez
            split at ez
            · cases ez; exact ⟨rfl, rfl⟩
            · cases ez
          obtain ⟨rfl, rfl⟩ := ez
          have ev : v = .bl c := by have := a5.ok; unfold RVOk Rep at this; exact this
          refine ⟨c, ev, ?_⟩
          have sr5 := a5.sr.lessP (P := P) fun _ z => .inl z
          obtain ⟨A7, sr7, st7, m7⟩ := sr5.wipeA vs
          rw [w3] at sr7
          have S' := st2.trans (st3.trans (st4.trans (a5.st.trans st7)))
          have l6 : s6.η.length = s1.η.length := by rw [← sr5.lenσ, sr4.lenσ]; exact l4
          by_cases hc : c = st
          · rw [if_pos hc] at e6
            refine iteYes hc ?_
            cases e6
            have hR : SR K mg G P A7 L5 { s6 with η := wipeN (wipeN s6.η vs) vs } (wipe σ vs) H6 := by rw [wipeN_idem]; exact sr7
            exact fin hR (S') (by show (wipeN s6.η vs).length = _; rw [wipeN_len]; exact l6)
          · rw [if_neg hc] at e6
            refine iteNo hc ?_
            exact ⟨A7, L5, _, sr7, S', by show (wipeN s6.η vs).length = _; rw [wipeN_len]; exact l6, wipeN_idem _ _, e6⟩
        | false =>
          rw [if_neg (by decide)] at e2
          refine iteF ?_
          obtain ⟨A7, sr7, st7, m7⟩ := sr4.wipeA vs
          rw [w3] at sr7
          exact ⟨A7, L4, _, sr7, st2.trans (st3.trans (st4.trans st7)), by show (wipeN s4.η vs).length = _; rw [wipeN_len]; exact l4, wipeN_idem _ _, e2⟩
      · have e3 : i = ds.length := by omega
        subst e3
        rw [List.drop_length] at e2
        unfold loopA at e2
        cases e2
        exact .inl ⟨stop, fin (by rw [hw]; exact sr2) st2 hlen⟩
  · rw [if_neg nO] at h1; exact h1.elim
end
/-- a generator expression's scope, checked -/
structure GxSc (scope : Scope) : Prop where
  co : scope.isCoroutine = false
  z : scope.names.lookup (".0" : Str) = some .local
  nc : ∀ y ∈ scope.names, y.2 ≠ .cell
def gxB (scope : Scope) : Bool := !scope.isCoroutine && scope.names.lookup (".0" : Str) == some .local && scope.names.all fun y => !(y.2 == .cell)
theorem gx_ok {scope : Scope} (h : gxB scope = true) : GxSc scope := by
  unfold gxB at h
  simp only [Bool.and_eq_true, List.all_eq_true] at h
  obtain ⟨⟨h1, h2⟩, h3⟩ := h
  exact ⟨by simpa using h1, by simpa using h2, fun y hy e => by have := h3 y hy; rw [e] at this; simp at this⟩
/-- the generator expression's frame -/
abbrev GB (X : Cx) (scope : Scope) (A' : Around) (s : Shared) (H : Hp) (C : Addr) (cl : List (Str × Addr)) (cd : Value) (fp : List Addr) (pn : List (Addr × Obj)) : Cx := Gx X A' s H (genEnv scope cl C cd builtinsNs X.env) fp pn
section
variable {X : Cx} {G : Gm} {Wx : WX} {k : Nat} {c T : Addr} {elt tg iter cnd : Expr} {ifs : List Expr} {scope : Scope} {gpos pos p : Pos} {it : IV} {g : GV} {t : TV} {fe : EV} {tt : TT}
theorem ed_agg (st : Bool) (nm : String) (own : List (Str × Nat)) (hc : X.calm = true) (hN : X.N.Nodup) (hr : Room (k + 1) X.A) (TB : GxR.TabB X.base X.mg c T) (hT : T ∈ G.tb) (hcode : X.env.code = .ref c) (sc : GxSc scope)
    (hi : ID X G Wx tg iter it) (ok : BlkOk X.N X.env.scope scope own)
    (hg : ∀ (A' : Around) (s : Shared) (H : Hp) (C : Addr) (cl : List (Str × Addr)) (cd : Value) (fp : List Addr) (pn : List (Addr × Obj)), Room k A' → GDv (GB X scope A' s H C cl cd fp pn) G (own.map (·.2)) tg g)
    (ht : ∀ (A' : Around) (s : Shared) (H : Hp) (C : Addr) (cl : List (Str × Addr)) (cd : Value) (fp : List Addr) (pn : List (Addr × Obj)), Room k A' → CD (GB X scope A' s H C cl cd fp pn) G ifs t tt)
    (he : ∀ (A' : Around) (s : Shared) (H : Hp) (C : Addr) (cl : List (Str × Addr)) (cd : Value) (fp : List Addr) (pn : List (Addr × Obj)), Room k A' → ED (GB X scope A' s H C cl cd fp pn) G W0 elt fe)
    (hs : ∀ x, genFold iter X.env x = pure x) (hgl : Gl X (Str.ofString nm)) (hm : X.mg (Str.ofString nm) = none)
    (hb : (st = false ∧ nm = "all") ∨ (st = true ∧ nm = "any"))
    (hsp : starEach [.GeneratorExp elt [⟨tg, iter, ifs, 0⟩] scope gpos] X.env = (false, eval (.GeneratorExp elt [⟨tg, iter, ifs, 0⟩] scope gpos) X.env) :: starEach [] X.env) :
    ED X G Wx (.Call (.Name (Str.ofString nm) p) [.GeneratorExp elt [⟨tg, iter, ifs, 0⟩] scope gpos] [] pos) (eAgg st (own.map (·.2)) it g t fe) := by
  refine ⟨⟨fun pins s σ H Q I h => ?_⟩⟩
  have hA0 : X.A.handled = none := hr.hd
  have A' : Around := X.A
  have tag : tAg st T (tI X.K X.mg G Wx it) (tGv X.K X.mg G (own.map (·.2)) g) tt (tE X.K X.mg G W0 fe) (own.map (·.2)) σ H Q :=
    ed_aggQ (tt := tt) hT (fun {σ H Q} z => ((ht ⟨X.A.handled, X.A.depth, X.A.frames, X.A.guards, X.A.units⟩ s H 0 [] .none [] [] ⟨hr.hd, by have := hr.dp; show X.A.depth + 3 * k + 5 < _; omega, by have := hr.un; show X.A.units + 16 * k + 200 < _; omega⟩).of z)) (fun z => z) h
  have key := fun (Q' : Value → Shared → Prop) hQ => gx_make (Q' := Q') (gpos := gpos) hr hc hN TB hcode sc.co sc.z sc.nc hi.pi ok (fun A' s H C cl cd fp pn r => (hg A' s H C cl cd fp pn r).pg) (fun A' s H C cl cd fp pn r => (ht A' s H C cl cd fp pn r).pts) (fun A' s H C cl cd fp pn r => (he A' s H C cl cd fp pn r).pe) hs I tag hQ
  rcases hb with ⟨rfl, rfl⟩ | ⟨rfl, rfl⟩
  · refine wpAny_Call_Name_kw (ld_blt I hgl hm bt_all ?_)
    refine PyProof.Rows.callWith_builtin1 ?_ hsp (by rfl)
    rw [hsp]
    show wpAny _ _ (spliced ((false, eval (.GeneratorExp elt [⟨tg, iter, ifs, 0⟩] scope gpos) X.env) :: backTo pos (starEach [] X.env))) _ _ s
    refine Calls.spliced_cons (key _ fun s3 H3 fp a gg N s5 back rdy => ?_)
    refine Calls.spliced_nil ?_
    exact call_all_gx rdy.1 fun R hR => gx_all rfl hr.hd hr.depth (fun s' b H' gi q => hR b s' ⟨.bl b, H', back s' H' gi, rfl, q⟩) N s5 rdy
  · refine wpAny_Call_Name_kw (ld_blt I hgl hm bt_any ?_)
    refine PyProof.Rows.callWith_builtin1 ?_ hsp (by rfl)
    rw [hsp]
    show wpAny _ _ (spliced ((false, eval (.GeneratorExp elt [⟨tg, iter, ifs, 0⟩] scope gpos) X.env) :: backTo pos (starEach [] X.env))) _ _ s
    refine Calls.spliced_cons (key _ fun s3 H3 fp a gg N s5 back rdy => ?_)
    refine Calls.spliced_nil ?_
    exact call_any_gx rdy.1 fun R hR => gx_any rfl hr.hd hr.depth (fun s' b H' gi q => hR b s' ⟨.bl b, H', back s' H' gi, rfl, q⟩) N s5 rdy
end
end DL
namespace DL
open PySem PySem.Spec PyProof.Rows L2 GenW
section
variable {X : Cx} {G : Gm} {Wx : WX} {k : Nat} {c T : Addr} {elt tg iter cnd : Expr} {scope : Scope} {gpos pos p : Pos} {it : IV} {g : GV} {t : TV} {fe : EV}
theorem ed_agg0 (st : Bool) (nm : String) (own : List (Str × Nat)) (hc : X.calm = true) (hN : X.N.Nodup) (hr : Room (k + 1) X.A) (TB : GxR.TabB X.base X.mg c T) (hT : T ∈ G.tb) (hcode : X.env.code = .ref c) (sc : GxSc scope)
    (hi : ID X G Wx tg iter it) (ok : BlkOk X.N X.env.scope scope own)
    (hg : ∀ (A' : Around) (s : Shared) (H : Hp) (C : Addr) (cl : List (Str × Addr)) (cd : Value) (fp : List Addr) (pn : List (Addr × Obj)), Room k A' → GDv (GB X scope A' s H C cl cd fp pn) G (own.map (·.2)) tg g)
    (he : ∀ (A' : Around) (s : Shared) (H : Hp) (C : Addr) (cl : List (Str × Addr)) (cd : Value) (fp : List Addr) (pn : List (Addr × Obj)), Room k A' → ED (GB X scope A' s H C cl cd fp pn) G W0 elt fe)
    (hs : ∀ x, genFold iter X.env x = pure x) (hgl : Gl X (Str.ofString nm)) (hm : X.mg (Str.ofString nm) = none)
    (hb : (st = false ∧ nm = "all") ∨ (st = true ∧ nm = "any"))
    (hsp : starEach [.GeneratorExp elt [⟨tg, iter, [], 0⟩] scope gpos] X.env = (false, eval (.GeneratorExp elt [⟨tg, iter, [], 0⟩] scope gpos) X.env) :: starEach [] X.env) :
    ED X G Wx (.Call (.Name (Str.ofString nm) p) [.GeneratorExp elt [⟨tg, iter, [], 0⟩] scope gpos] [] pos) (eAgg st (own.map (·.2)) it g tTrue fe) :=
  ed_agg (tt := tYes) st nm own hc hN hr TB hT hcode sc hi ok hg (fun _ _ _ _ _ _ _ _ _ => cd_nil) he hs hgl hm hb hsp
theorem ed_agg1 (st : Bool) (nm : String) (own : List (Str × Nat)) (hc : X.calm = true) (hN : X.N.Nodup) (hr : Room (k + 1) X.A) (TB : GxR.TabB X.base X.mg c T) (hT : T ∈ G.tb) (hcode : X.env.code = .ref c) (sc : GxSc scope)
    (hi : ID X G Wx tg iter it) (ok : BlkOk X.N X.env.scope scope own)
    (hg : ∀ (A' : Around) (s : Shared) (H : Hp) (C : Addr) (cl : List (Str × Addr)) (cd : Value) (fp : List Addr) (pn : List (Addr × Obj)), Room k A' → GDv (GB X scope A' s H C cl cd fp pn) G (own.map (·.2)) tg g)
    (ht : ∀ (A' : Around) (s : Shared) (H : Hp) (C : Addr) (cl : List (Str × Addr)) (cd : Value) (fp : List Addr) (pn : List (Addr × Obj)), Room k A' → TD (GB X scope A' s H C cl cd fp pn) G W0 cnd t)
    (he : ∀ (A' : Around) (s : Shared) (H : Hp) (C : Addr) (cl : List (Str × Addr)) (cd : Value) (fp : List Addr) (pn : List (Addr × Obj)), Room k A' → ED (GB X scope A' s H C cl cd fp pn) G W0 elt fe)
    (hs : ∀ x, genFold iter X.env x = pure x) (hgl : Gl X (Str.ofString nm)) (hm : X.mg (Str.ofString nm) = none)
    (hb : (st = false ∧ nm = "all") ∨ (st = true ∧ nm = "any"))
    (hsp : starEach [.GeneratorExp elt [⟨tg, iter, [cnd], 0⟩] scope gpos] X.env = (false, eval (.GeneratorExp elt [⟨tg, iter, [cnd], 0⟩] scope gpos) X.env) :: starEach [] X.env) :
    ED X G Wx (.Call (.Name (Str.ofString nm) p) [.GeneratorExp elt [⟨tg, iter, [cnd], 0⟩] scope gpos] [] pos) (eAgg st (own.map (·.2)) it g t fe) :=
  ed_agg (tt := tT X.K X.mg G W0 t) st nm own hc hN hr TB hT hcode sc hi ok hg (fun A' s H C cl cd fp pn r => cd_one (ht A' s H C cl cd fp pn r)) he hs hgl hm hb hsp
end
/-- a def that stands in the module, with its code's table -/
structure RowG (K : PySem.W.Frag) (mg : Str → Option Value) (base : Heap) (tb : List Addr) (st : Stmt) (x : Str) (ps : List Str) : Prop where
  ex : ∃ (f : Addr) (fd : FuncData) (oc : Value) (od : Option Addr) (kV doc pm : Value) (an : Option Addr) (c : Addr) (ct : Value) (osl : Array (Option Value)) (T : Addr),
    mg x = some (.ref f) ∧ fd = PySem.W.fnOf x x (defArgs st) (defBody st) (defScope st) .none kV doc pm an (.ref c) ct ∧ K.lookup f = some ⟨oc, od, .func fd, osl⟩ ∧ PySem.W.codeIn K (.ref c) x = true ∧ PySem.W.keepIn K (.ref f) = true ∧
    (∀ us : List Value, us.length = ps.length → bindArgs fd ⟨us, []⟩ = pure (ps.zip us)) ∧ GxR.TabB base mg c T ∧ T ∈ tb
section
variable {Pg : Program} {w : World} {K : PySem.W.Frag} {mg : Str → Option Value} {base : Heap} {tb : List Addr} {k j : Nat} {x : Str} {ps N : List Str} {m : Fn} {st : Stmt} {body : SV}
theorem RowG.row (R : RowG K mg base tb st x ps) : Row K mg st x ps := by
  obtain ⟨f, fd, oc, od, kV, doc, pm, an, c, ct, osl, T, h1, rfl, h3, h4, h5, h6, _⟩ := R.ex
  exact ⟨f, _, h1, fun_mk h3 h4 h5, h6⟩
theorem Has.ofG (R : RowG K mg base tb st x ps) (Sc : FnScope N ps (defScope st))
    (hb : ∀ (f c T : Addr) (A : Around) (outer : List Env) (s : Shared) (H : Hp) (E : XK) (G : Gm), GxR.TabB base mg c T → T ∈ tb → G.tb = tb → Room k (A.deeper (envOfC x (defScope st) s.heap.objs.size f (.ref c))) →
      SsD (cxOf (L2N.CX Pg w) Pg w K mg base N x (defScope st) f (.ref c) A outer s H E) G (fun cls d _ H' => E cls d H') (defBody st) body) :
    Has Pg w K mg base tb (k + 1) x ps (defF ps.length N.length body) := by
  obtain ⟨f, fd, oc, od, kV, doc, pm, an, c, ct, osl, T, h1, rfl, h3, h4, h5, h6, TB, hT⟩ := R.ex
  refine ⟨f, _, h1, h5, .all h6, fn_of h3 h4 Sc (fun vs H Q E h => ?_) fun A outer s H vs Q E hr h => ?_, oc, od, osl, h3⟩
  · obtain ⟨P, L, args, W, sr, ok, h⟩ := h
    by_cases hl : args.length = ps.length
    · rw [← ok.length]; exact hl
    · unfold defF at h
      rw [if_neg hl] at h
      exact h.elim
  · obtain ⟨P, L, args, W, sr, ok, h⟩ := h
    unfold defF at h
    by_cases hl : args.length = ps.length
    · rw [if_pos hl] at h
      exact ⟨_, (hb f c T A outer s H E ⟨H, L, tb, 0⟩ TB hT rfl hr).pss, run_body sr ok rfl h⟩
    · rw [if_neg hl] at h
      exact h.elim
/-! ### the head's facts, by the Hook -/
theorem row_of {f : Addr} {fd : FuncData} (F : FunD K x x (defArgs st) (defBody st) (defScope st) [] [] f fd) (hm : mg x = some (.ref f))
    (hb : ∀ (kV doc pm : Value) (an : Option Addr) (cdv ct : Value) (us : List Value), us.length = ps.length → bindArgs (PySem.W.fnOf x x (defArgs st) (defBody st) (defScope st) .none kV doc pm an cdv ct) ⟨us, []⟩ = pure (ps.zip us)) : Row K mg st x ps := by
  obtain ⟨oc, od, dV, kV, doc, pm, an, cdv, ct, osl, rfl, lk, hcd, hD, hK⟩ := F.ex
  rcases hD with ⟨_, rfl⟩ | ⟨e, _⟩
  · exact ⟨f, _, hm, fun_mk lk hcd F.kp, hb kV doc pm an cdv ct⟩
  · exact absurd rfl e
theorem rowG_of {fd : FuncData} (F : FunD K x x (defArgs st) (defBody st) (defScope st) [] [] (He.fAd K (x, none)) fd) (hm : mg x = some (.ref (He.ga K x)))
    (hb : ∀ (kV doc pm : Value) (an : Option Addr) (cdv ct : Value) (us : List Value), us.length = ps.length → bindArgs (PySem.W.fnOf x x (defArgs st) (defBody st) (defScope st) .none kV doc pm an cdv ct) ⟨us, []⟩ = pure (ps.zip us))
    (TB : GxR.TabB base mg (He.cT K (x, none)).1 (He.cT K (x, none)).2) (hT : (He.cT K (x, none)).2 ∈ tb) : RowG K mg base tb st x ps := by
  obtain ⟨oc, od, dV, kV, doc, pm, an, cdv, ct, osl, rfl, lk, hcd, hD, hK⟩ := F.ex
  rcases hD with ⟨_, rfl⟩ | ⟨e, _⟩
  · obtain ⟨c, rfl⟩ := He.codeIn_ref hcd
    have ec : He.codeOf K (x, none) = c := He.codeOf_eq lk rfl
    have TB' : GxR.TabB base mg c (He.tabOf K c) := by
      have z := TB
      unfold He.cT at z
      rw [ec] at z
      exact z
    have hT' : He.tabOf K c ∈ tb := by
      have z := hT
      unfold He.cT at z
      rw [ec] at z
      exact z
    exact ⟨_, _, oc, od, kV, doc, pm, an, c, ct, osl, _, hm, rfl, lk, hcd, F.kp, hb kV doc pm an _ ct, TB', hT'⟩
  · exact absurd rfl e
/-- the law at a heap, by the Hook's facts -/
theorem lawAtX {l : PySem.W.OpenLaw} {n : Nat} {fa : Addr} {h : Heap} {fas : List He.Fa} {fn : List He.DefD} {ts : List He.Tab} {tf : List He.Defn} {ex : PySem.W.Frag → Bool} (X : K.In h) (c : He.SaysX fas fn ts tf ex w h K) (R : Row K mg st x ["script"]) (hfa : mg x = some (.ref fa))
    (F : ∀ (base : Heap), (∀ p ∈ tf, GxR.TabB base mg (He.cT K p).1 (He.cT K p).2) → Has l.prog w K mg base (tf.map fun p => (He.cT K p).2) k x ["script"] m)
    (hm : ∀ ns : List Int, ns.length ≤ n → (∀ z ∈ ns, Builtin.Int.intBits z ≤ 1048576) → ∃ W', m [.pv (.scr (ns.map D.int))] [] = .ok (.pv (.bl true)) W') : LamX.LawAtS l w K (L2N.CX l.prog w) k n "script" mg fa h := by
  obtain ⟨f, fd, h1, Fn, b⟩ := R.ex
  have e := hfa.symm.trans h1
  cases e
  refine ⟨fd, tf.map (He.cT K), spD K mg (tf.map fun p => (He.cT K p).2) m, fun p hp => ?_, fun p hp => ?_, fun p hp => ?_, fun s u => .of_eq (b [u] rfl), fun H a ns hl hb hH hS => law_sp hS (fun a z => ?_) (hm ns hl hb), fun base _ _ hT => ?_⟩
  · obtain ⟨q, hq, rfl⟩ := List.mem_map.mp hp
    exact c.empty q hq
  · obtain ⟨q, hq, rfl⟩ := List.mem_map.mp hp
    exact c.out q hq
  · obtain ⟨q, hq, rfl⟩ := List.mem_map.mp hp
    exact PySem.W.codeHd_of_K X (c.hd q hq)
  · obtain ⟨q, hq, rfl⟩ := List.mem_map.mp z
    exact ⟨#[], hH _ (List.mem_map.mpr ⟨q, hq, rfl⟩), by unfold TriplesOk; first | trivial | simp⟩
  · obtain ⟨f', fd', q1, _, _, q4, oc, od, osl, q5⟩ := (F base (fun p hp => let z := hT _ (List.mem_map.mpr ⟨p, hp, rfl⟩); ⟨z.code, z.bm, z.gP⟩)).ex
    have e := hfa.symm.trans q1
    cases e
    obtain ⟨oc2, od2, kV, doc, pm, an, cdv, ct, osl2, _, lk, _⟩ := Fn.ex
    rw [q5] at lk
    cases lk
    exact q4
end
end DL
namespace DL
open PySem PySem.Spec PyProof.Rows L2
/-! ### exceptions of the program's own classes -/
/-- T nm y: is the class nm one of y's -/
structure XF (K : PySem.W.Frag) (mg : Str → Option Value) (T : Str → Str → Option Bool) : Prop where
  is : ∀ (nm y : Str) (b : Bool) (D C : Addr), T nm y = some b → mg nm = some (.ref D) → mg y = some (.ref C) → PySem.W.kitOne K (.ref D) (.ref C) = some b ∧ PySem.W.exmOne K (.ref D) (.ref C) = some b
  ve : ∀ (nm : Str) (b : Bool) (D : Addr), T nm "ValueError" = some b → mg nm = some (.ref D) → PySem.W.kitOne K (.ref D) (.type "ValueError") = some b
  ec : ∀ (nm y : Str) (b : Bool) (D : Addr), T nm y = some b → mg nm = some (.ref D) → ExcC K D
  rz : ∀ (nm y : Str) (b : Bool), T nm y = some b → ∃ D, mg nm = some (.ref D) ∧ PySem.W.excIn K D He.veBase "ValueError.__new__" = true ∧ PySem.W.keepIn K (.ref D) = true ∧ PySem.W.subIn K (.ref D) (.type "BaseException") = some true ∧
    PySem.W.typeIn K (.ref D) = some (.type "type")
theorem SR.reG {K : PySem.W.Frag} {mg : Str → Option Value} {G : Gm} {P : Addr → Prop} {A : List (Option Addr)} {L : List Addr} {s : S} {σ : L2.St} {H : Hp} (a : Addr) (hs : SR K mg G P A L s σ H) (h : ∀ i : Nat, s.η[i]? = some .ex → σ[i]? = some (some (.ref a))) :
    SR K mg { G with xa := a } P A L s σ H := { hs with tab := hs.tab, ent := hs.ent, ownNew := hs.ownNew, exn := h }
theorem RVOk.reG {K : PySem.W.Frag} {mg : Str → Option Value} {G G' : Gm} {P : Addr → Prop} {A : List (Option Addr)} {L : List Addr} {σ : L2.St} {H : Hp} {r : RV} {v : V} (e : G'.H0 = G.H0) (h : RVOk K mg G P A L σ H r v) : RVOk K mg G' P A L σ H r v := by
  cases r with
  | pv d => exact h
  | vr i => exact h
  | lc n => exact h
  | ow ds => obtain ⟨a, vs, e1, h1, h2, h3, h4, h5⟩ := h; exact ⟨a, vs, e1, h1, h2, h3, h4, by rw [e]; exact h5⟩
theorem RVOk.re {K : PySem.W.Frag} {mg : Str → Option Value} {G G' : Gm} {P : Addr → Prop} {A A' : List (Option Addr)} {L L' : List Addr} {σ σ' : L2.St} {H H' : Hp} {r : RV} {v : V} (n : ∀ i, r ≠ .vr i) (e : G'.H0 = G.H0) (h : RVOk K mg G P A L σ H r v) (st : Step A L H A' L' H') : RVOk K mg G' P A' L' σ' H' r v := by
  have h2 := h.step st
  cases r with
  | pv d => exact h2
  | vr i => exact absurd rfl (n i)
  | lc n => exact h2
  | ow ds => obtain ⟨a, vs, e1, h1, h2, h3, h4, h5⟩ := h2; exact ⟨a, vs, e1, h1, h2, h3, h4, by rw [e]; exact h5⟩
/-- nothing of the handled exception stays -/
def clr : Slot → Slot
  | .ex => .no
  | x => x
@[simp] theorem clr_no : clr .no = .no := rfl
@[simp] theorem clr_ex : clr .ex = .no := rfl
@[simp] theorem clr_pv (d : D) : clr (.pv d) = .pv d := rfl
@[simp] theorem clr_ow (d : List D) : clr (.ow d) = .ow d := rfl
@[simp] theorem clr_od (d : List (Key × D)) : clr (.od d) = .od d := rfl
@[simp] theorem clr_lc (d : Nat) : clr (.lc d) = .lc d := rfl
theorem clr_ne (x : Slot) : clr x ≠ .ex := by cases x <;> nofun
section
variable {K : PySem.W.Frag} {mg : Str → Option Value} {X : Cx} {G : Gm} {Wx : WX} {e : Expr} {es : List Expr} {fe : EV} {pos : Pos} {T : Str → Str → Option Bool}
variable {P P' : Addr → Prop} {A A' A1 : List (Option Addr)} {σ σ' : L2.St} {L L' L1 : List Addr} {H H' H1 : Hp} {s s' : S}
theorem SR.clr {a : Addr} (hs : SR K mg { G with xa := a } P A L s σ H) : SR K mg G P A L { s with η := s.η.map clr } σ H := by
  have no : ∀ i : Nat, (s.η.map DL.clr)[i]? ≠ some .ex := fun i e => by
    rw [List.getElem?_map] at e
    obtain ⟨x, _, h⟩ := Option.map_eq_some_iff.mp e
    exact clr_ne x h
  exact { hs with
    lenσ := by show _ = (s.η.map DL.clr).length; rw [List.length_map]; exact hs.lenσ
    lenA := by show _ = (s.η.map DL.clr).length; rw [List.length_map]; exact hs.lenA
    slot := fun i x e => by
      have e : (s.η.map DL.clr)[i]? = some x := e
      rw [List.getElem?_map] at e
      obtain ⟨y, h1, h2⟩ := Option.map_eq_some_iff.mp e
      obtain ⟨ov, oa, e1, e2, q⟩ := hs.slot i y h1
      refine ⟨ov, oa, e1, e2, ?_⟩
      subst h2
      cases y <;> exact q
    tab := hs.tab
    ent := hs.ent
    ownNew := hs.ownNew
    exn := fun i e => absurd e (no i) }
/-- slot i is unbound -/
theorem SR.unset (hs : SR K mg G P A L s σ H) (i : Nat) : ∃ A', SR K mg G P A' L { s with η := s.η.set i .no } (σ.set i none) H ∧ Step A L H A' L H := by
  by_cases hi : i < s.η.length
  · exact ⟨A.set i none, hs.set (x := .no) (ov := none) (oa := none) hi (fun _ z => z) (fun _ z => nomatch z) ⟨by simp, List.getElem?_set_self (by rw [hs.lenσ]; exact hi), fun j hj => List.getElem?_set_ne (Ne.symm hj)⟩ rfl, Step.drop⟩
  · refine ⟨A, ?_, Step.refl _ _ _⟩
    rw [show s.η.set i .no = s.η from List.set_eq_of_length_le (by omega), show σ.set i none = σ from List.set_eq_of_length_le (by rw [hs.lenσ]; omega)]
    exact hs
def sRaise (nm : Str) : SV := fun s => .err nm s
theorem sd_raise (F : XF X.K X.mg T) {nm m : Str} {j : Nat} {p p2 pos' : Pos} (hc : X.calm = true) (tk : L2N.Takes X Wx) (h : T nm nm = some true) (hg : Gl X nm) (hdb : (nm == ("__debug__" : Str)) = false) :
    SD X G Wx (.Raise (some (.Call (.Name nm p) [.Constant (.str m) j p2] [] pos)) none pos') (sRaise nm) := by
  obtain ⟨D, g, q, k, h1, h2⟩ := F.rz nm nm true h
  exact ⟨PS.imp (L2N.ps_raise hc tk (L2N.pmk_own PySem.F.excBase_ValueError q g k (raises_own h1 h2) hg hdb)) fun D σ H ⟨P, A, L, s, hs, h⟩ => h A L σ H _ hs (Step.refl _ _ _) g⟩
/-! try -/
def sTry (kt : Str → Option Bool) (i : Nat) (f : SV) (g : Str → SV) : SV := fun s => match f s with
  | .ok fl s' => .ok fl s'
  | .err nm s' => match kt nm with
    | some true => if i < s'.η.length then match g nm { s' with η := (s'.η.map clr).set i .ex } with
      | .ok fl s2 => .ok fl { s2 with η := (s2.η.map clr).set i .no }
      | _ => .bad else .bad
    | some false => .err nm s'
    | none => .bad
  | .bad => .bad
theorem sd_try {i : Nat} {n x : Str} {np pos' : Pos} {body suite : List Stmt} {b0 : Stmt} (kt : Str → Option Bool) {f : SV} {g : Str → SV} {c : Value} (hs : X.stack = X.env :: X.outer) (hf : X.env.frame = some X.env.locals) (hN : X.N.Nodup) (hi : X.N[i]? = some n)
    (hln : X.env.kindOf n = some .local) (hc : Names X x c) (tk : L2N.Takes X Wx) (hk : ∀ nm b C, kt nm = some b → X.mg nm = some (.ref C) → PySem.W.exmOne X.K (.ref C) c = some b)
    (hb : ∀ (W : WX) (pn : List (Addr × Obj)) (xe : Value → Shared → Prop), L2N.Takes (X.tr pn xe) W → PassesOwn (model X.prog X.w) X.A X.env xe → SsD (X.tr pn xe) G W body f)
    (hsu : ∀ (nm : Str) (a : Addr) (oe : Obj) (C : Addr) (pn : List (Addr × Obj)), kt nm = some true → X.mg nm = some (.ref C) → L2N.Zn (.ref C) none oe → (∃ vs, oe.data = .fields vs) → SsD (X.suite a ((a, oe) :: pn)) { G with xa := a } W0 (b0 :: suite) (g nm)) :
    SD X G Wx (.Try body [.ExceptHandler (some (.Name x np)) (some n) (b0 :: suite) pos'] [] [] pos) (sTry kt i f g) := by
  refine ⟨PS.imp (L2N.ps_try_as (tb := fun W => tS X.K X.mg G W f) (ts := fun a cls d D σ H => (∃ nm C, kt nm = some true ∧ cls = .ref C ∧ d = none ∧ X.mg nm = some (.ref C) ∧ tS X.K X.mg { G with xa := a } W0 (g nm) D σ H))
    hs hf hN hi hln hc tk (fun W pn xe tk' po => (hb W pn xe tk' po).pss) (fun a oe cls d pn hz hv => ?_)) fun D σ H ⟨P, A, L, s, hs, h⟩ => ?_⟩
  · refine ⟨fun pins sh σ H D I hw => ?_⟩
    obtain ⟨nm, C, k1, rfl, rfl, k2, k3⟩ := hw
    exact (hsu nm a oe C pn k1 k2 hz hv).pss.run pins sh σ H D I k3
  · refine ⟨P, A, L, s, hs, ?_⟩
    unfold sTry at h
    cases q : f s with
    | bad => rw [q] at h; exact h
    | ok fl s' => rw [q] at h; exact h
    | err nm s' =>
      rw [q] at h
      intro A2 L2 σ2 H2 C hs2 st2 hC
      have h : RunS X.K X.mg G Wx P A L H (match kt nm with
        | some true => if i < s'.η.length then match g nm { s' with η := (s'.η.map clr).set i .ex } with
          | .ok fl s2 => .ok fl { s2 with η := (s2.η.map clr).set i .no }
          | _ => .bad else .bad
        | some false => .err nm s'
        | none => .bad) (PostS X.K X.mg G P A L H D) := h
      cases k : kt nm with
      | none => rw [k] at h; exact h.elim
      | some b =>
        rw [k] at h
        refine ⟨b, hk nm b C k hC, fun eb a na => ?_, fun eb => ?_⟩
        · subst eb
          have h : RunS X.K X.mg G Wx P A L H (if i < s'.η.length then match g nm { s' with η := (s'.η.map clr).set i .ex } with
            | .ok fl s2 => .ok fl { s2 with η := (s2.η.map clr).set i .no }
            | _ => .bad else .bad) (PostS X.K X.mg G P A L H D) := h
          -- the state in which the suite begins
          by_cases hil : i < s'.η.length
          · rw [if_pos hil] at h
            have hsX : SR X.K X.mg { G with xa := a } P (A2.set i none) L2 { s' with η := (s'.η.map clr).set i .ex } (σ2.set i (some (.ref a))) H2 := by
              have h0 : SR X.K X.mg { G with xa := a } P A2 L2 { s' with η := s'.η.map clr } σ2 H2 := by
                have := SR.clr (a := G.xa) hs2
                refine this.reG a fun j e => ?_
                rw [List.getElem?_map] at e
                obtain ⟨x, _, hx⟩ := Option.map_eq_some_iff.mp e
                exact absurd hx (clr_ne x)
              exact h0.set (x := .ex) (ov := some (.ref a)) (oa := none) (by show i < (s'.η.map clr).length; rw [List.length_map]; exact hil) (fun _ z => z) (fun _ z => nomatch z) ⟨by simp, List.getElem?_set_self (by rw [hs2.lenσ]; exact hil), fun j hj => List.getElem?_set_ne (Ne.symm hj)⟩ rfl (fun _ => rfl)
            refine ⟨nm, C, k, rfl, rfl, hC, P, _, L2, _, hsX, ?_⟩
            have fin : ∀ {P0 : Addr → Prop} {A' : List (Option Addr)} {L' : List Addr} {σ' : List (Option V)} {H' : Hp} {s2 : S}, SR X.K X.mg { G with xa := a } P0 A' L' s2 σ' H' → Step (A2.set i none) L2 H2 A' L' H' →
                ∃ A'', SR X.K X.mg G P0 A'' L' { s2 with η := (s2.η.map clr).set i .no } (σ'.set i none) H' ∧ Step A L H A'' L' H' ∧ Step A' L' H' A'' L' H' := fun {P0 A' L' σ' H' s2} sr st => by
              obtain ⟨A'', sr', st'⟩ := (SR.clr sr).unset i
              exact ⟨A'', sr', (st2.trans (Step.drop.trans st)).trans st', st'⟩
            cases q2 : g nm { s' with η := (s'.η.map clr).set i .ex } with
            | bad => rw [q2] at h; exact h.elim
            | err _ _ => rw [q2] at h; exact h.elim
            | ok fl s2 =>
              rw [q2] at h
              cases fl with
              | nx => exact fun A' L' σ' H' sr st => let ⟨A'', sr', st', _⟩ := fin sr st; h A'' L' _ H' sr' st'
              | bk => exact fun A' L' σ' H' sr st => let ⟨A'', sr', st', _⟩ := fin sr st; h A'' L' _ H' sr' st'
              | ct => exact fun A' L' σ' H' sr st => let ⟨A'', sr', st', _⟩ := fin sr st; h A'' L' _ H' sr' st'
              | rt r => exact ⟨h.1, fun A' L' σ' v H' sr ok st => let ⟨A'', sr', st', stA⟩ := fin sr st; h.2 A'' L' _ v H' sr' (RVOk.re h.1 rfl ok stA) st'⟩
          · rw [if_neg hil] at h
            exact h.elim
        · subst eb
          exact h A2 L2 σ2 H2 C hs2 st2 hC
end
end DL
namespace DL
open PySem PySem.Spec PyProof.Rows L2
/-- the handled exception stands among the context's pins; its class is nm -/
structure HotX (X : Cx) (G : Gm) (nm : Str) : Prop where
  ex : ∃ (oe : Obj) (C : Addr), X.A.handled = some (.ref G.xa) ∧ (G.xa, oe) ∈ X.pn ∧ X.mg nm = some (.ref C) ∧ L2N.Zn (.ref C) none oe ∧ ∃ vs, oe.data = .fields vs
theorem HotX.hot {X : Cx} {G : Gm} {nm : Str} (h : HotX X G nm) : L2H.HotC X := by
  obtain ⟨oe, C, h1, h2, h3, h4, vs, h5⟩ := h.ex
  exact ⟨(G.xa, oe), ⟨h1, vs, h5, h4.2.2 vs h5⟩, h2⟩
theorem HotX.suite {X : Cx} {G : Gm} {nm : Str} {a : Addr} {oe : Obj} {C : Addr} {pn : List (Addr × Obj)} (h3 : X.mg nm = some (.ref C)) (h4 : L2N.Zn (.ref C) none oe) (h5 : ∃ vs, oe.data = .fields vs) : HotX (X.suite a ((a, oe) :: pn)) { G with xa := a } nm :=
  ⟨oe, C, rfl, List.mem_cons_self, h3, h4, h5⟩
section
variable {K : PySem.W.Frag} {mg : Str → Option Value} {X : Cx} {G : Gm} {Wx : WX} {e : Expr} {es : List Expr} {fe : EV} {pos p p2 p3 : Pos} {T : Str → Str → Option Bool} {nm : Str}
variable {P P' : Addr → Prop} {A A' A1 : List (Option Addr)} {σ σ' : L2.St} {L L' L1 : List Addr} {H H' H1 : Hp} {s s' : S}
theorem call_isX {a D : Addr} {oe : Obj} (hp : (a, oe) ∈ X.pn) (C : ExcC X.K D) (hz : L2N.Zn (.ref D) none oe) (hf : ∃ vs, oe.data = .fields vs) : CallR X (.builtin "isinstance") (rIsE X.K D a) := by
  intro pins s σ H xs us Q I r h
  obtain ⟨c, cv, b, rfl, hcv, e, q⟩ := h
  cases r with
  | cons rx rr =>
    cases rr with
    | cons rt rr =>
      cases rr
      cases rx
      have ec := hcv _ rt
      subst ec
      have hget := (I.pin (a, oe) (List.mem_append.mpr (.inl hp))).1
      have J : PySem.W.InstAt s.heap a oe D none := by
        obtain ⟨h1, h2, _⟩ := hz
        obtain ⟨oc, od, oda, osl⟩ := oe
        dsimp only at h1 h2 hget
        subst h1 h2
        obtain ⟨vs, hv⟩ := hf
        subst hv
        exact ⟨hget, rfl, rfl, trivial⟩
      exact PySem.W.kia_one (PySem.W.handS_kitx_exc C.hg C.hk C.hs C.hd C.ha C.hn C.ht C.hm) I.kIn J e (fun z => nomatch z) fun tk => ⟨.bl b, H, I.kept (t' := tk) fun _ _ z => z, rfl, q⟩
/-- isinstance(e, y), e in the slot i -/
def eIsX (T : Str → Str → Option Bool) (i : Nat) (nm y : Str) : EV := fun s => match s.η[i]? with
  | some .ex => match T nm y with
    | some b => .ok (.pv (.bl b)) s
    | none => .bad
  | _ => .bad
theorem ed_isX (F : XF X.K X.mg T) (hx : HotX X G nm) (i : Nat) {n y : Str} (hg : Gl X "isinstance") (hm : X.mg "isinstance" = none) (hN : X.N[i]? = some n) (hv : Vis X.env.scope n) (hgy : Gl X y)
    (hd : (n == ("__debug__" : Str)) = false) (hcd : (n == ("__classdict__" : Str)) = false) (hdy : (y == ("__debug__" : Str)) = false) (hy : (∃ C, X.mg y = some (.ref C)) ∨ (X.mg y = none ∧ y = "ValueError"))
    (he : starEach [.Name n p2, .Name y p3] X.env = (false, eval (.Name n p2) X.env) :: starEach [.Name y p3] X.env) (he2 : starEach [.Name y p3] X.env = (false, eval (.Name y p3) X.env) :: starEach [] X.env) (hpl : (backTo pos (starEach [.Name y p3] X.env)).any (·.1) = false) :
    ED X G Wx (.Call (.Name "isinstance" p) [.Name n p2, .Name y p3] [] pos) (eIsX T i nm y) := by
  obtain ⟨oe, D, h1, h2, h3, h4, h5⟩ := hx.ex
  -- the class as a value
  have cls : ∀ b, T nm y = some b → ∃ (c : V) (cv : Value), PE X (.Name y p3) (tC c) ∧ (∀ u, RelV c u → u = cv) ∧ PySem.W.kitOne X.K (.ref D) cv = some b := fun b hb => by
    rcases hy with ⟨C, hC⟩ | ⟨hn, rfl⟩
    · exact ⟨.ref C, .ref C, pe_glob hgy hC rfl hdy, fun u r => r, (F.is nm y b D C hb h3 hC).1⟩
    · exact ⟨.ty "ValueError", .type "ValueError", pe_bltn hgy hn (by decide +kernel) rfl (by decide) hdy, fun u r => r, F.ve nm b D hb h3⟩
  refine ⟨⟨fun pins sh σ H Q I ⟨P, A, L, s, hs, h⟩ => ?_⟩⟩
  unfold eIsX at h
  cases q : s.η[i]? with
  | none => rw [q] at h; exact h.elim
  | some x =>
    rw [q] at h
    cases x with
    | ex =>
      cases t : T nm y with
      | none => rw [t] at h; exact h.elim
      | some b =>
        rw [t] at h
        have h : Run X.K X.mg G Wx P A L H σ (.ok (.pv (.bl b)) s) (PostE X.K X.mg G P A L H σ Q) := h
        obtain ⟨c, cv, pc, hc, kb⟩ := cls b t
        refine (pe_callB (call_isX h2 (F.ec nm y b D t h3) h4 h5) hg hm bt_isinstance (pa_cons (pe_var hN hv hd hcd) (pa_cons pc pa_nil he2) he) (by decide) (by decide) he hpl).run pins sh σ H Q I ?_
        exact ⟨.ref G.xa, hs.exn i q, c, cv, b, rfl, hc, kb, tE_pure hs h (by unfold Rep; rfl)⟩
    | no => exact h.elim
    | pv _ => exact h.elim
    | ow _ => exact h.elim
    | od _ => exact h.elim
    | lc _ => exact h.elim
/-! ### a def of one parameter, called with the handled exception -/
/-- F nm W: what it hands out for an exception of the class nm -/
structure HasX (Pg : Program) (w : World) (K : PySem.W.Frag) (mg : Str → Option Value) (base : Heap) (tb : List Addr) (k : Nat) (x pn : Str) (F : Str → List (List D) → Rf) : Prop where
  ex : ∃ f fd, mg x = some (.ref f) ∧ PySem.W.keepIn K (.ref f) = true ∧ Binds K fd [pn] [] ∧
    ∀ (A : Around) (outer : List Env) (s : Shared) (H : Hp) (args : Args) (Q : VK) (E : XK) (p : Addr × Obj) (nm : Str) (C : Addr), L2H.RoomH k A → L2H.Hot1 A p → L2H.PinOk outer H s p → Env0 Pg w K mg base A outer s H → BindsTo s fd args ([pn].zip [.ref p.1]) →
      mg nm = some (.ref C) → L2N.Zn (.ref C) none p.2 → spD K mg tb (fun _ W => F nm W) [] H Q E → codeAny (model Pg w) A (.call (.ref f) args) (CR (L2N.CX Pg w) outer Pg w H s Q E) s
theorem no_ex1 {m : Nat} (i : Nat) (h : (Slot.ex :: List.replicate m .no)[i]? = some .ex) : i = 0 := by
  cases i with
  | zero => rfl
  | succ i =>
    rw [List.getElem?_cons_succ, List.getElem?_replicate] at h
    split at h <;> cases h
theorem run_bodyX {body : SV} {W : List (List D)} {n : Nat} {Q : VK} {E : XK} {tb : List Addr} {a : Addr} (sr : SR K mg ⟨H, L, tb, 0⟩ P [] L ⟨[], W⟩ [] H) {N : List Str} (hn : N.length = n + 1)
    (h : match outF (body ⟨.ex :: List.replicate n .no, W⟩) with
      | .ok r W' => ∀ L' v H', SR K mg ⟨H, L, tb, 0⟩ (Wi P r v) [] L' ⟨[], W'⟩ [] H' → RVOk K mg ⟨H, L, tb, 0⟩ P [] L' [] H' r v → Q v H'
      | .err c W' => ∀ L' H' C, SR K mg ⟨H, L, tb, 0⟩ P [] L' ⟨[], W'⟩ [] H' → mg c = some (.ref C) → E (.ref C) none H'
      | .bad => False) : tS K mg ⟨H, L, tb, a⟩ (fun cls d _ H' => E cls d H') body { nx := fun _ H' => Q .non H', rt := Q } (L2.start N [.ref a]) H := by
  let η : List Slot := .ex :: List.replicate n .no
  have lη : η.length = n + 1 := by simp [η]
  have lσ : (L2.start N [.ref a]).length = η.length := by unfold L2.start; rw [lη, hn]; simp
  have sr2 : SR K mg ⟨H, L, tb, a⟩ P (List.replicate η.length none) L ⟨η, W⟩ (L2.start N [.ref a]) H := by
    have noA : ∀ b, some b ∉ List.replicate η.length (none : Option Addr) := fun b z => by have := List.eq_of_mem_replicate z; cases this
    have sub : ∀ b, Bd P (List.replicate η.length none) L b → Bd P [] L b := Bd.sub (fun b z => absurd z (noA b)) fun _ z => z
    refine ⟨lσ, by simp, fun i x e => ?_, fun i j b e => ?_, fun b z => absurd z (noA b), sr.nd, sr.lenL, fun n ds e => ?_, fun b z => absurd z (noA b), sr.tab, sr.ent, fun b z => absurd z (noA b), fun b z => ?_, fun i e => ?_⟩
    · have hi := (List.getElem?_eq_some_iff.mp e).1
      refine ⟨(L2.start N [.ref a])[i]'(by rw [lσ]; exact hi), none, List.getElem?_eq_getElem _, by rw [List.getElem?_replicate, if_pos hi], ?_⟩
      have hx : x = .ex ∨ x = .no := by
        rcases List.mem_cons.mp (List.mem_of_getElem? e) with h | h
        · exact .inl h
        · exact .inr (List.eq_of_mem_replicate h)
      rcases hx with rfl | rfl <;> rfl
    · exact absurd (List.mem_of_getElem? e) (noA b)
    · obtain ⟨b, vs, e1, e2, r⟩ := sr.loc n ds e; exact ⟨b, vs, e1, e2, r.less sub⟩
    · have w := sr.pOk b z; exact ⟨w.1, noA b, w.2.2⟩
    · have := no_ex1 i e
      subst this
      unfold L2.start; rfl
  refine ⟨P, _, L, ⟨η, W⟩, sr2, ?_⟩
  have back : ∀ {P0 : Addr → Prop} {A2 : List (Option Addr)} {L2' : List Addr} {s2 : S} {σ2 : List (Option V)} {H2 : Hp}, SR K mg ⟨H, L, tb, a⟩ P0 A2 L2' s2 σ2 H2 → SR K mg ⟨H, L, tb, 0⟩ P0 [] L2' ⟨[], s2.W⟩ [] H2 := fun sr => sr.strip.reG (G := ⟨H, L, tb, a⟩) 0 fun i e => by simp at e
  cases q : body ⟨η, W⟩ with
  | bad => rw [q] at h; exact h
  | err c s2 =>
    rw [q] at h
    exact fun A2 L2 σ2 H2 C sr3 st3 hc => h L2 H2 C (back sr3) hc
  | ok fl s2 =>
    rw [q] at h
    cases fl with
    | bk => exact h.elim
    | ct => exact h.elim
    | nx => exact fun A2 L2 σ2 H2 sr3 st3 => h L2 .non H2 ((back sr3).lessP (Wi.pv nofun)) (by show Rep _ _ _ _ _ _; unfold Rep; rfl)
    | rt r =>
      have fin : (∀ i, r ≠ .vr i) → (∀ L' v H', SR K mg ⟨H, L, tb, 0⟩ (Wi P r v) [] L' ⟨[], s2.W⟩ [] H' → RVOk K mg ⟨H, L, tb, 0⟩ P [] L' [] H' r v → Q v H') →
          PostS K mg ⟨H, L, tb, a⟩ P (List.replicate η.length none) L H { nx := fun _ H' => Q .non H', rt := Q } (.rt r) s2 := fun nv h => ⟨nv, fun A2 L2 σ2 v H2 sr3 ok3 st3 => h L2 v H2 (back sr3) ((ok3.strip nv).reG rfl)⟩
      cases r with
      | vr i => exact h.elim
      | pv d => exact fin nofun h
      | ow d => exact fin nofun h
      | lc d => exact fin nofun h
end
/-- THE RULE for such a def -/
theorem HasX.of {Pg : Program} {w : World} {K : PySem.W.Frag} {mg : Str → Option Value} {base : Heap} {tb : List Addr} {k : Nat} {x pn : Str} {N : List Str} {n : Nat} {st : Stmt} {body : Str → SV} (R : Row K mg st x [pn]) (Sc : FnScope N [pn] (defScope st)) (hn : N.length = n + 1)
    (hb : ∀ (f : Addr) (cdv : Value) (A : Around) (outer : List Env) (s : Shared) (H : Hp) (E : XK) (p : Addr × Obj) (nm : Str) (G : Gm), G.tb = tb → L2H.RoomH k (A.deeper (envOfC x (defScope st) s.heap.objs.size f cdv)) →
      HotX (L2H.cxH (L2N.CX Pg w) Pg w K mg base N x (defScope st) f cdv A outer s H E p) G nm →
      SsD (L2H.cxH (L2N.CX Pg w) Pg w K mg base N x (defScope st) f cdv A outer s H E p) G (fun cls d _ H' => E cls d H') (defBody st) (body nm)) :
    HasX Pg w K mg base tb (k + 1) x pn (fun nm W => outF (body nm ⟨.ex :: List.replicate n .no, W⟩)) := by
  obtain ⟨f, fd, h1, F, b⟩ := R.ex
  obtain ⟨oc, od, kV, doc, pm, an, cdv, ct, osl, e0, lk, hcd⟩ := F.ex
  refine ⟨f, fd, h1, F.kp, .all b, fun A outer s H args Q E p nm C hr hot hpin env0 hbd hnm hz hsp => ?_⟩
  subst e0
  obtain ⟨C', L, args', W, sr, _, h⟩ := hsp
  have KX : K.In s.heap := env0.mod.kin.keeps fun b o e => (env0.bs b o e).1
  have lim : s.heap.NoLimit := env0.mod.nolimit.keeps fun b o e => (env0.bs b o e).1
  have hkind : ∀ y ∈ [pn].zip [Value.ref p.1], (defScope st).names.lookup y.1 = some .local ∨ ((defScope st).names.lookup y.1 = some .cell ∧ ((cellsFrom (s.heap.objs.size + 1) (defScope st).names []).lookup y.1).isSome = true) := fun ⟨n, v⟩ hy => by
    rcases Sc.par n (List.of_mem_zip hy).1 with q | q
    · exact .inl q
    · exact .inr ⟨q, PySem.W.cellsFrom_some _ _ _ (.inl q)⟩
  refine codeAny_call_function hr.depth (KX _ _ lk) rfl Sc.co Sc.gen rfl (PySem.W.codeRec_of KX hcd) (hbd _ _ _ _ ?_)
  refine wpAny_newFunctionEnv_cells Sc.kind hkind fun env he s1 xc => ?_
  subst he
  refine ⟨lim.keeps xc.toInCall.keep, codeAny_func ?_⟩
  have I : Inv (L2H.cxH (L2N.CX Pg w) Pg w K mg base N x (defScope st) f cdv A outer s H E p) [] (L2.start N [.ref p.1]) H s1 := L2H.inv_startH Sc hpin env0 rfl (.cons rfl .nil) xc
  have hx : HotX (L2H.cxH (L2N.CX Pg w) Pg w K mg base N x (defScope st) f cdv A outer s H E p) ⟨H, L, tb, p.1⟩ nm := by
    obtain ⟨a, oe⟩ := p
    obtain ⟨h1, vs, h2, _⟩ := hot
    exact ⟨oe, C, h1, List.mem_singleton.mpr rfl, hnm, hz, vs, h2⟩
  have pb := (hb f cdv A outer s H E p nm ⟨H, L, tb, p.1⟩ rfl (hr.deeper _) hx).pss
  refine wpAny_mono (pb.run [] s1 (L2.start N [.ref p.1]) H _ I (run_bodyX sr hn h)) (fun fl s' hs => ?_) fun e s' hs => hs
  have fin : ∀ {σ' : L2.St} {H' : Hp} {v : V} {u : Value}, Inv (L2H.cxH (L2N.CX Pg w) Pg w K mg base N x (defScope st) f cdv A outer s H E p) [] σ' H' s' → RelV v u → Q v H' → CE outer Pg w H s Q u s' :=
    fun {σ' H' v u} J rv q => ⟨v, H', J.os, J.bare, J.base, J.hok, rv, q⟩
  cases fl with
  | ret u =>
    obtain ⟨v, σ', H', J, rv, q⟩ := hs
    exact fin J rv q
  | next =>
    obtain ⟨σ', H', J, q⟩ := hs
    exact fin (v := V.non) (u := Value.none) J rfl q
  | brk =>
    obtain ⟨_, _, _, q⟩ := hs
    exact False.elim q
  | cont =>
    obtain ⟨_, _, _, q⟩ := hs
    exact False.elim q
end DL
namespace DL
open PySem PySem.Spec PyProof.Rows L2
/-! ### walks' ends while an exception is handled -/
section
variable {prog : Program} {w : World} {A : Around} {E : Value → Shared → Prop} {s : Shared}
theorem hot_ne {x1 it : Addr} {o : Obj} {a b : Value} (hot : HotX.HotAt A x1 s.heap) (ho : s.heap.get? it = some o) (hd : o.data = .fields #[a, b]) : x1 ≠ it := by
  obtain ⟨_, o1, vs1, h1, d1, c1⟩ := hot
  rintro rfl
  rw [ho] at h1
  cases h1
  rw [hd] at d1
  cases d1
  simp at c1
theorem list_end_hot {it l x1 : Addr} {i : Nat} {items} {Q : Option Value → Shared → Prop} (hot : HotX.HotAt A x1 s.heap) (hit : s.heap.IsListIter it l i) (hl : s.heap.IsList l items) (hx : items[i]? = none)
    (hQ : ∀ h', Heap.ExtBut it s.heap h' → Q none { s with heap := h' }) : wpAny (model prog w) A (pyNext (.ref it)) Q E s := by
  obtain ⟨o, ho, hc, hd⟩ := id hit
  obtain ⟨ol, hol, _, nl, hdl⟩ := hl
  have hne := hot_ne hot ho hd
  obtain ⟨hh, o1, vs1, h1, d1, c1⟩ := hot
  unfold pyNext
  refine wpAny_bind (wpAny_attempt (wpAny_callSpecial?_slot (name := Str.ofString "__next__") hit.typeIs slot_listiter_next
    (wpAny_call_entry slot_listiter_next hit.typeIs entry_listiter_next ?_ (args_listiter_next _))))
  show wpAny _ _ (field (.ref it) 0 >>= _) _ _ s
  refine wpAny_bind (wpAny_field ho hd (x := .ref l) rfl ?_)
  show wpAny _ _ (if (Value.ref l == Value.none) = true then _ else _) _ _ s
  rw [if_neg (show ¬ ((Value.ref l == Value.none) = true) from Bool.false_ne_true)]
  show wpAny _ _ (field (.ref it) 1 >>= _) _ _ s
  refine wpAny_bind (wpAny_field ho hd (x := .int i 0) rfl ?_)
  show wpAny _ _ (seqItems? (.ref l) >>= _) _ _ s
  refine wpAny_bind (wpAny_seqItems hol hdl ?_)
  simp only [Int.toNat_natCast, hx]
  refine wpAny_bind (wpAny_rule (wpAny_bind (wpAny_setField ho hd (by simp) ?_)))
  show wpAny _ _ (newExc (.type "StopIteration") [] >>= _) _ _ _
  refine wpAny_bind ?_
  simp only [newExc, newTuple]
  refine wpAny_bind (wpAny_newObj_type ?_ (by size_fits))
  refine wpAny_bind (m := firstArgMember _ _) (wpAny_of_eq (a := Value.none) (by first | rfl | (simp only [firstArgMember]; rfl)) ?_)
  refine wpAny_newObj_type ?_ (by size_fits)
  have g1 := (Heap.get?_update_other s.heap (Obj.mapFields (·.setIfInBounds 0 Value.none)) hne.symm).trans h1
  have g2 := Heap.get?_push_of_some { cls := .type "tuple", data := .seq #[] } g1
  refine HotX.raiseNew_hot ⟨hh, o1, vs1, Heap.get?_push_of_some _ g2, d1, c1⟩ (Nat.ne_of_lt (Heap.lt_size g2)) (Heap.get?_push_size _ rfl) rfl (by first | (simp; done) | (simp; omega) | (simp only [Array.size_append]; simp; omega)) ?_
  refine wpAny_bind (wpAny_isInstance (T := "StopIteration") (b := true) ⟨_, Heap.get?_update_self _ (Heap.get?_push_size _ rfl) rfl, rfl⟩ isSubtype_stop ?_)
  refine wpAny_pure (hQ _ fun b o hb e => ?_)
  have e1 := (Heap.get?_update_other s.heap (Obj.mapFields (·.setIfInBounds 0 Value.none)) (Ne.symm hb)).trans e
  have e2 := Heap.get?_push_of_some { cls := .type "tuple", data := .seq #[] } e1
  rw [Heap.get?_update_other _ _ (Nat.ne_of_gt (Heap.lt_size e2))]
  exact Heap.get?_push_of_some _ e2
theorem tuple_end_hot {it t x1 : Addr} {i : Nat} {items} {Q : Option Value → Shared → Prop} (hot : HotX.HotAt A x1 s.heap) (hit : IsTupIter s.heap it t i) (ht : IsTup s.heap t items) (hx : items[i]? = none)
    (hQ : ∀ h', Heap.ExtBut it s.heap h' → Q none { s with heap := h' }) : wpAny (model prog w) A (pyNext (.ref it)) Q E s := by
  obtain ⟨o, ho, hc, hd⟩ := id hit
  obtain ⟨ol, hol, _, nl, hdl⟩ := ht
  have hne := hot_ne hot ho hd
  obtain ⟨hh, o1, vs1, h1, d1, c1⟩ := hot
  unfold pyNext
  refine wpAny_bind (wpAny_attempt (wpAny_callSpecial?_slot (name := Str.ofString "__next__") hit.typeIs slot_tupleiter_next
    (wpAny_call_entry slot_tupleiter_next hit.typeIs entry_tupleiter_next ?_ (args_tupleiter_next _))))
  show wpAny _ _ (field (.ref it) 0 >>= _) _ _ s
  refine wpAny_bind (wpAny_field ho hd (x := .ref t) rfl ?_)
  show wpAny _ _ (if (Value.ref t == Value.none) = true then _ else _) _ _ s
  rw [if_neg (show ¬ ((Value.ref t == Value.none) = true) from Bool.false_ne_true)]
  show wpAny _ _ (field (.ref it) 1 >>= _) _ _ s
  refine wpAny_bind (wpAny_field ho hd (x := .int i 0) rfl ?_)
  show wpAny _ _ (seqItems? (.ref t) >>= _) _ _ s
  refine wpAny_bind (wpAny_seqItems hol hdl ?_)
  simp only [Int.toNat_natCast, hx]
  refine wpAny_bind (wpAny_rule (wpAny_bind (wpAny_setField ho hd (by simp) ?_)))
  show wpAny _ _ (newExc (.type "StopIteration") [] >>= _) _ _ _
  refine wpAny_bind ?_
  simp only [newExc, newTuple]
  refine wpAny_bind (wpAny_newObj_type ?_ (by size_fits))
  refine wpAny_bind (m := firstArgMember _ _) (wpAny_of_eq (a := Value.none) (by first | rfl | (simp only [firstArgMember]; rfl)) ?_)
  refine wpAny_newObj_type ?_ (by size_fits)
  have g1 := (Heap.get?_update_other s.heap (Obj.mapFields (·.setIfInBounds 0 Value.none)) hne.symm).trans h1
  have g2 := Heap.get?_push_of_some { cls := .type "tuple", data := .seq #[] } g1
  refine HotX.raiseNew_hot ⟨hh, o1, vs1, Heap.get?_push_of_some _ g2, d1, c1⟩ (Nat.ne_of_lt (Heap.lt_size g2)) (Heap.get?_push_size _ rfl) rfl (by first | (simp; done) | (simp; omega) | (simp only [Array.size_append]; simp; omega)) ?_
  refine wpAny_bind (wpAny_isInstance (T := "StopIteration") (b := true) ⟨_, Heap.get?_update_self _ (Heap.get?_push_size _ rfl) rfl, rfl⟩ isSubtype_stop ?_)
  refine wpAny_pure (hQ _ fun b o hb e => ?_)
  have e1 := (Heap.get?_update_other s.heap (Obj.mapFields (·.setIfInBounds 0 Value.none)) (Ne.symm hb)).trans e
  have e2 := Heap.get?_push_of_some { cls := .type "tuple", data := .seq #[] } e1
  rw [Heap.get?_update_other _ _ (Nat.ne_of_gt (Heap.lt_size e2))]
  exact Heap.get?_push_of_some _ e2
theorem assign_tup_hot {env : Env} {elts : List Expr} {k : Nat} {pos : Pos} {t x1 : Addr} {items : Array Value} {Q : Unit → Shared → Prop} (hot : HotX.HotAt A x1 s.heap) (ht : IsTup s.heap t items) (hn : (assignEach elts env).length = items.size)
    (hstar : (assignEach elts env).findIdx? (·.1) = none) (h : ∀ h', Heap.ExtBut s.heap.objs.size s.heap h' → wpAny (model prog w) A (assignInOrder ((assignEach elts env).map (·.2)) items.toList) Q E { s with heap := h' }) :
    wpAny (model prog w) A (assign (.Tuple elts k pos) env (.ref t)) Q E s := by
  rw [assign_Tuple]
  refine wpAny_bind (wpAny_standAt ?_)
  unfold unpack
  rw [hn, hstar]
  refine wpAny_bind (wpAny_holding ?_)
  have hlt : t ≠ s.heap.objs.size := by obtain ⟨o, ho, _⟩ := ht; exact Nat.ne_of_lt (Heap.lt_size ho)
  unfold unpackItems
  refine wpAny_bind ?_
  unfold notIterableAtAll
  refine wpAny_bind (wpAny_specialOf ht.typeIs slot_tuple_iter.lookup ?_)
  refine wpAny_pure ?_
  simp only [Bool.false_eq_true, if_false]
  refine wpAny_bind (wpAny_holding (iter_tuple ht ?_))
  refine wpAny_bind (wpAny_holding (draw_tuple hlt items.size 0 _ _ ⟨_, Heap.get?_push_size _ rfl, rfl, rfl⟩ (ht.push _) (by omega) fun h₁ hit₁ hs₁ => ?_))
  rw [show List.take items.size (List.drop 0 items.toList) = items.toList by rw [List.drop_zero]; exact List.take_of_length_le (by simp)]
  rw [if_neg (by simp)]
  have ht₁ : IsTup h₁ t items := (ht.push _).extBut hs₁.extBut hlt
  have hot₁ : HotX.HotAt A x1 h₁ := by
    obtain ⟨hh, o1, vs1, e1, d1, c1⟩ := hot
    exact ⟨hh, o1, vs1, hs₁.extBut _ _ (Nat.ne_of_lt (Heap.lt_size e1)) (Heap.get?_push_of_some _ e1), d1, c1⟩
  refine wpAny_bind (wpAny_holding (tuple_end_hot hot₁ hit₁ ht₁ (by simp) fun h₂ he₂ => ?_))
  simp only [Option.isSome_none, Bool.false_eq_true, if_false]
  exact wpAny_pure (h h₂ fun b o hb e => he₂ b o hb (hs₁.extBut b o hb (Heap.get?_push_of_some _ e)))
end
section
variable {K : PySem.W.Frag} {mg : Str → Option Value} {X : Cx} {G : Gm} {Wx : WX} {e : Expr} {fe : EV} {pos : Pos}
/-- its walk -/
theorem turnH_list {P : Program} {w : World} {K : PySem.W.Frag} {tg : Expr} (a it : Addr) : L2H.TurnH P w K tg (Itl K a) [it] it (fun i h => h.IsListIter it a i) where
  mem := by simp
  obj := (turn_list (P := P) (w := w) (K := K) (tg := tg) a it).obj
  keep := (turn_list (P := P) (w := w) (K := K) (tg := tg) a it).keep
  item := by
    intro X hP hw hK hc i pins s σ H E I hf st hg
    subst hP hw hK
    obtain ⟨xs, x, hq, hx⟩ := hg
    obtain ⟨its, rv, p, hz⟩ := I.list hq
    obtain ⟨u, hu, ru⟩ := rv.get hx
    obtain ⟨f0, f1, f2, f3, f4, f5⟩ := hf it (by simp)
    refine wpAny_pyNext_list_item st p.isList (x := u) (by simpa using hu) fun h' st' sb => ?_
    have I1 : Inv X pins σ H { s with heap := h' } := I.turned (t' := s.toks) (fun b o hb e => (sb.2 b hb).trans e) f0 f1 f3 f4 f5
    obtain ⟨o, e, c, d⟩ := id st'
    exact ⟨u, rfl, go_of (s := { s with heap := h' }) e c d (by decide) ⟨x, H, I1, ru, ⟨rfl, fun ys hy => by rw [I.list_inj hy hq]; exact hx⟩, st', fun b hb => (hf b hb).1⟩⟩
  done := by
    intro X hP hw hK hc i pins s σ H E I hf st hg
    subst hP hw hK
    obtain ⟨xs, hq, hx⟩ := hg
    obtain ⟨its, rv, p, hz⟩ := I.list hq
    obtain ⟨f0, f1, f2, f3, f4, f5⟩ := hf it (by simp)
    obtain ⟨x1, hot⟩ := hc.at I
    have hl := rv.length
    exact list_end_hot hot st p.isList (by simp; omega) fun h' eb => ⟨rfl, I.turned (t' := s.toks) (fun b o hb e => eb b o hb e) f0 f1 f3 f4 f5⟩
  self := fun _ _ _ _ _ st h => wpAny_pyIter_listiter st h
theorem pi_listH {tg l : Expr} {tl : TE} (hl : PE X l tl) : L2H.PIH X tg l (iList X.K tl) := by
  refine ⟨fun pins s σ H R I h => ?_⟩
  refine thn (hl.run pins s σ H _ I h) fun v s1 ⟨x, H1, I1, r1, q1⟩ => ?_
  obtain ⟨a, e, ⟨xs, hq⟩, q⟩ := q1
  subst e
  cases r1
  obtain ⟨its, rv, p, hz⟩ := I1.list hq
  refine wpAny_pyIter_list p.isList ?_
  refine ⟨s1.heap.objs.size, [s1.heap.objs.size], _, _, H1, rfl, I1.kept (t' := s1.toks) fun b o e => Heap.get?_push_of_some _ e, turnH_list a _, ⟨_, Heap.get?_push_size _ rfl, rfl, rfl⟩, fun b hb => ?_, q⟩
  have e : b = s1.heap.objs.size := by simpa using hb
  subst e
  exact I1.fpOk (Nat.le_refl _) (I1.hok.fresh (Nat.le_refl _))
theorem pg_tupH {es : List Expr} {k : Nat} {t : TGs} {n : Nat} (hc : L2H.HotC X) (h : PGs X es t) (hn : (assignEach es X.env).length = n := by rfl) (hst : (assignEach es X.env).findIdx? (·.1) = none := by rfl) : PG X (.Tuple es k pos) (gTup X.K n t) := by
  refine ⟨fun pins s σ H v u Q I r hw => ?_⟩
  obtain ⟨a, xs, e1, hq, hl, hw⟩ := hw
  subst e1
  cases r
  obtain ⟨its, rv, ht, hz⟩ := I.tuple hq
  obtain ⟨x1, hot⟩ := hc.at I
  refine assign_tup_hot hot ht (by simp [hn, ← hl, rv.length]) hst fun h' hx => ?_
  have I1 : Inv X pins σ H { s with heap := h' } := I.kept (t' := s.toks) fun b o e => hx b o (Nat.ne_of_lt (Heap.lt_size e)) e
  exact h.run pins _ σ H xs _ Q I1 (by simpa using rv) hw
end
end DL
namespace DL
open PySem PySem.Spec PyProof.Rows L2
/-! ### list comprehensions while an exception is handled: lc_core turned to the walks of TurnH -/
section
variable {X : Cx}
/-- the block's context; the handled exception is pinned -/
abbrev BlkH (X : Cx) (p : Addr × Obj) (scope : Scope) (s : Shared) (H : Hp) (ce : Env) (fp : List Addr) : Cx := { X.blk s H scope ce fp with pn := [p] }
theorem hotBlk {p : Addr × Obj} {s : Shared} {H : Hp} {scope : Scope} {ce : Env} {fp : List Addr} (h : L2H.Hot1 X.A p) : L2H.HotC (BlkH X p scope s H ce fp) := ⟨p, h, List.mem_singleton.mpr rfl⟩
theorem inv_blkH {p : Addr × Obj} {s s1 : Shared} {H H1 : Hp} {scope : Scope} {ce : Env} {fp : List Addr} {σ : L2.St} (I : Inv (X.blk s H scope ce fp) [] σ H1 s1)
    (h : s1.heap.get? p.1 = some p.2 ∧ H1 p.1 = none ∧ p.1 ≠ ce.locals ∧ p.1 ∉ frs X.stack ∧ ∀ v, p.2.data ≠ .cell v) : Inv (BlkH X p scope s H ce fp) [] σ H1 s1 :=
  ⟨⟨I.ok.mod, I.ok.kind, I.ok.glob, I.ok.blt, I.ok.above, I.ok.inj, I.ok.has, I.ok.cab, I.ok.hd, I.ok.frames, I.ok.stk, I.ok.exf, I.ok.bs, I.ok.bsz, I.ok.noex, I.ok.exfs, I.ok.funs, I.ok.frf⟩, I.os, I.bare, I.base, I.loc, I.cell, I.free, I.freeC,
    fun q hq => by
      have e : q = p := by simpa using hq
      subst e; exact h, I.hok, I.len⟩
theorem lc_coreH {pins : List (Addr × Obj)} {s : Shared} {σ : L2.St} {H : Hp} {Q : VK} {elt tg iter : Expr} {ifs : List Expr} {scope : Scope} {own : List (Str × Nat)} {pos pos' : Pos} {wi : TI} {g : TG} {tt : TT} {te : TE} {use : Option (Value → Sem Unit)} {Qf : Value → Shared → Prop}
    {p : Addr × Obj} (hp1 : L2H.Hot1 X.A p) (hp2 : p ∈ X.pn) (hN : X.N.Nodup) (I : Inv X pins σ H s) (hi : L2H.PIH X tg iter wi) (ok : BlkOk X.N X.env.scope scope own)
    (hg : ∀ (s : Shared) (H : Hp) (C : Addr) (cl : List (Str × Addr)) (fp : List Addr), PG (BlkH X p scope s H (compEnvC scope cl C X.env) fp) tg g) (ht : ∀ (s : Shared) (H : Hp) (C : Addr) (cl : List (Str × Addr)) (fp : List Addr), PTs (BlkH X p scope s H (compEnvC scope cl C X.env) fp) ifs tt)
    (he : ∀ (s : Shared) (H : Hp) (C : Addr) (cl : List (Str × Addr)) (fp : List Addr), PE (BlkH X p scope s H (compEnvC scope cl C X.env) fp) elt te) (hs : ∀ x, foldedSetIterable iter X.env x = pure x)
    (h : tLc wi g tt te (own.map (·.2)) σ H Q)
    (hRR : ∀ D C s' m H', Inv X pins σ H' s' → Q (.ref D) H' → s'.heap.Ns C m → FpOk X pins H' C → compPost (model X.prog X.w) X.A X.xe use Qf (.ref D) C (.ok .next) s') :
    wpAny (model X.prog X.w) X.A (comprehension (.ListComp elt [⟨tg, iter, ifs, 0⟩] scope pos) scope X.env pos' (newList []) false (eval iter X.env) use) Qf X.xe s := by
  have hfree : ∀ y ∈ scope.names, y.2 = .free → ∃ c, X.env.cells.lookup y.1 = some c := fun y hy e => by
    rcases ok.free y hy e with k | k
    · exact I.ok.has _ (.inl k)
    · exact I.ok.has _ (.inr k)
  refine wpAny_comprehension_free (use := use) rfl hs (closure_ok hfree) ok.kind (fun y hy e => by rw [ok.uniq y hy, e])
    (thn (hi.run pins s σ H _ I h) fun xv s1 hx => thn hx fun itv s2 h2 => ?_)
  obtain ⟨it, fp, tn, J, H2, e, I2, T, st2, f2, q⟩ := h2
  subst e
  refine wpAny_newObj_type (newEnv_comp ?_) (by show 0 ≤ sizeLine; decide)
  generalize hD : s2.heap.objs.size = D
  have hDn : H2 D = none := I2.hok.fresh (Nat.le_of_eq hD)
  obtain ⟨W, ⟨m0, w0⟩, turn⟩ := q D hDn
  generalize hs3 : ({ s2 with heap := s2.heap.push { cls := .type "list", data := .seq ([] : List Value).toArray } } : Shared) = s3
  have I3 : Inv X pins σ (upd H2 D (.lst [])) s3 := by
    rw [← hs3]
    refine I2.laid (t' := s2.toks) (fun b o e => Heap.get?_push_of_some _ e) (Nat.le_of_eq hD) ⟨Nat.zero_le _, [], 0, .nil, ?_⟩
    rw [← hD]
    exact Heap.get?_push_size _ rfl
  have h3 : s3.heap = s2.heap.push { cls := .type "list", data := .seq ([] : List Value).toArray } := by rw [← hs3]
  have f3 : ∀ b ∈ fp, FpOk X pins (upd H2 D (.lst [])) b ∧ b < s3.heap.objs.size := fun b hb => by
    obtain ⟨o, e, _⟩ := T.obj _ _ st2 b hb
    have hlt := Heap.lt_size e
    refine ⟨⟨?_, (f2 b hb).2⟩, by rw [h3, Heap.size_push]; exact Nat.lt_succ_of_lt hlt⟩
    rw [upd_ne (by rw [← hD]; exact Nat.ne_of_lt hlt)]
    exact (f2 b hb).1
  have st3 : tn 0 s3.heap := T.keep _ _ _ st2 fun b _ o e => by rw [h3]; exact Heap.get?_push_of_some _ e
  have I4 := block_start I3 ok hN f3
  have pg := hg s3 (upd H2 D (.lst [])) s3.heap.objs.size (cellsFrom (s3.heap.objs.size + 1) scope.names (cloFrom X.env.cells scope.names [])) fp
  have pt := ht s3 (upd H2 D (.lst [])) s3.heap.objs.size (cellsFrom (s3.heap.objs.size + 1) scope.names (cloFrom X.env.cells scope.names [])) fp
  have pe := he s3 (upd H2 D (.lst [])) s3.heap.objs.size (cellsFrom (s3.heap.objs.size + 1) scope.names (cloFrom X.env.cells scope.names [])) fp
  show codeAny _ _ (.compStart (.ListComp elt [⟨tg, iter, ifs, 0⟩] scope pos) 0 (.ref it) (.ref D) (compEnvC scope (cellsFrom (s3.heap.objs.size + 1) scope.names (cloFrom X.env.cells scope.names [])) s3.heap.objs.size X.env)) (compPost (model X.prog X.w) X.A X.xe use Qf (.ref D) s3.heap.objs.size) { s3 with heap := pushCells (s3.heap.push { cls := .type "dict", data := .dict #[] }) scope.names }
  have nfp : ∀ b ∈ fp, (upd H2 D (.lst [])) b = none := fun b hb => (f3 b hb).1.1
  generalize hce : compEnvC scope (cellsFrom (s3.heap.objs.size + 1) scope.names (cloFrom X.env.cells scope.names [])) s3.heap.objs.size X.env = ce at I4 pg pt pe ⊢
  have cL : ce.locals = s3.heap.objs.size := by subst hce; rfl
  generalize hH3 : upd H2 D (.lst []) = H3 at I3 I4 pg pt pe w0 nfp f3
  generalize hs4 : ({ s3 with heap := pushCells (s3.heap.push { cls := .type "dict", data := .dict #[] }) scope.names } : Shared) = s4 at I4 ⊢
  have st4 : tn 0 s4.heap := T.keep _ _ _ st3 fun b _ o e => by rw [← hs4]; exact pushCells_keeps _ _ _ _ (Heap.get?_push_of_some _ e)
  have hcB : L2H.HotC (BlkH X p scope s3 H3 ce fp) := hotBlk hp1
  have P3 := I3.pin p (List.mem_append_left _ hp2)
  have I4 := inv_blkH (p := p) I4 ⟨by rw [← hs4]; exact pushCells_keeps _ _ _ _ (Heap.get?_push_of_some _ P3.1), P3.2.1, by rw [cL]; exact Nat.ne_of_lt (Heap.lt_size P3.1), fun hm => (List.mem_cons.mp (I3.stkSub p.1 hm)).elim P3.2.2.1 P3.2.2.2.1, P3.2.2.2.2⟩
  have stat : ∀ {σ' : L2.St} {H' : Hp} {s' : Shared}, Inv (BlkH X p scope s3 H3 ce fp) [] σ' H' s' → (∀ b ∈ fp, H' b = none) → ∀ b ∈ fp, FpOk (BlkH X p scope s3 H3 ce fp) [] H' b := fun {σ' H' s'} I' hn b hb =>
    ⟨hn b hb, (I'.ok.exf b hb).1, I'.ok.exfs b hb, .inl hb, fun x c e => (I'.ok.exf b hb).2 x c e, fun q hq => by
      have e : q = p := by simpa using hq
      subst e
      exact (f3 b hb).1.2.2.2.2.2 q (List.mem_append_left _ hp2)⟩
  have loop : codeAny (model X.prog X.w) X.A (.compLoop (.ListComp elt [⟨tg, iter, ifs, 0⟩] scope pos) 0 (.ref it) (.ref D) ce) (compPost (model X.prog X.w) X.A X.xe use Qf (.ref D) s3.heap.objs.size) s4 := by
    refine compLoop_any (fun n s' => ∃ i H', Inv (BlkH X p scope s3 H3 ce fp) [] (wipe σ (own.map (·.2))) H' s' ∧ tn i s'.heap ∧ (∀ b ∈ fp, H' b = none) ∧ W i n H') ?_ m0 ⟨0, H3, I4, st4, nfp, w0⟩
    rintro n s5 ⟨i, H5, I5, st5, n5, w5⟩
    rcases turn i n H5 w5 with ⟨stop, qq⟩ | ⟨go, Nx, hNx, step⟩
    · have td := T.done (BlkH X p scope s3 H3 ce fp) rfl rfl rfl hcB i [] s5 _ H5 (fun _ _ => False) I5 (stat I5 n5) st5 stop
      refine thnF td fun r s6 ⟨hr, I6⟩ => ?_
      subst hr
      have I7 : Inv X pins σ H5 s6 := I3.call' (ch := fp) I6.os I6.base I6.hok I6.bare fun b hb => ⟨(f3 b hb).1.2.2.2.1, (f3 b hb).1.2.1, (f3 b hb).1.2.2.2.2.1, (f3 b hb).1.2.2.2.2.2⟩
      have nC : H5 s3.heap.objs.size = none := by
        have z : H5 ce.locals = none := I6.free
        rw [cL] at z
        exact z
      obtain ⟨m, hn, _⟩ := I6.loc
      have hn : s6.heap.Ns ce.locals m := hn
      rw [cL] at hn
      exact hRR D s3.heap.objs.size s6 m H5 I7 qq hn (I3.fpOk (Nat.le_refl _) nC)
    · have ti := T.item (BlkH X p scope s3 H3 ce fp) rfl rfl rfl hcB i [] s5 _ H5 (fun _ _ => False) I5 (stat I5 n5) st5 go
      refine thnF ti fun r s6 ⟨u, hr, h6⟩ => ?_
      subst hr
      refine thnF h6 fun _ s7 ⟨x, H7, I7, r7, y7, st7, n7⟩ => ?_
      have I7' := I7.pinned (stat I7 n7) (T.obj _ _ st7)
      refine thnF (pg.run _ s7 _ H7 x u _ I7' r7 (step x H7 y7)) fun _ s8 ⟨σ8, H8, I8, hw8, q8⟩ => ?_
      refine thnF (pt.run _ s8 σ8 H8 _ I8 q8) fun b s9 ⟨H9, I9, q9⟩ => ?_
      have fin : ∀ {s' : Shared} {H' : Hp}, Inv (BlkH X p scope s3 H3 ce fp) ([] ++ pinsAt fp s7.heap) σ8 H' s' → Nx H' → ∃ m, m < n ∧ ∃ i H', Inv (BlkH X p scope s3 H3 ce fp) [] (wipe σ (own.map (·.2))) H' s' ∧ tn i s'.heap ∧ (∀ b ∈ fp, H' b = none) ∧ W i m H' := fun {s' H'} I' nx => by
        obtain ⟨m', hm, w'⟩ := hNx H' nx
        have pin' : ∀ b ∈ fp, ∀ o, s7.heap.get? b = some o → s'.heap.get? b = some o ∧ H' b = none := fun b hb o e =>
          let z := I'.pin (b, o) (List.mem_append_right _ (List.mem_append_right _ (mem_pinsAt hb e)))
          ⟨z.1, z.2.1⟩
        have hl : (wipe σ (own.map (·.2))).length = σ8.length := by rw [← hw8, wipe_length]
        refine ⟨m', hm, i + 1, H', (I'.unpinned (pins := [])).weak hl (fun j v e => ?_), T.keep _ _ _ st7 fun b hb o e => (pin' b hb o e).1, fun b hb => ?_, w'⟩
        · rw [← hw8] at e
          exact (wipe_some e).1
        · obtain ⟨o, e, _⟩ := T.obj _ _ st7 b hb
          exact (pin' b hb o e).2
      cases b with
      | false =>
        simp only [Bool.false_eq_true, if_false] at q9 ⊢
        exact fin I9 q9
      | true =>
        simp only [if_true] at q9 ⊢
        refine thnF (pe.run _ s9 σ8 H9 _ I9 q9) fun z s10 ⟨yv, H10, I10, r10, acc, hD10, hz10, nx⟩ => ?_
        exact app_ok (X := BlkH X p scope s3 H3 ce fp) I10 hD10 hz10 r10 fun s11 I11 => fin I11 nx
  exact codeAny_compStart_list loop (T.self X.A 0 _ _ _ st4 loop)
end
end DL
namespace DL
open PySem PySem.Spec PyProof.Rows L2
section
variable {K : PySem.W.Frag} {mg : Str → Option Value} {X : Cx} {G : Gm} {Wx : WX} {e : Expr} {fe : EV} {pos : Pos} {nm : Str}
variable {elt tg iter c : Expr} {ifs : List Expr} {scope : Scope} {it : IV} {g : GV} {t : TV} {tt : TT}
theorem pe_lcH {p : Addr × Obj} {own : List (Str × Nat)} {wi : TI} {g : TG} {te : TE} (hp1 : L2H.Hot1 X.A p) (hp2 : p ∈ X.pn) (hN : X.N.Nodup) (hi : L2H.PIH X tg iter wi) (ok : BlkOk X.N X.env.scope scope own)
    (hg : ∀ (s : Shared) (H : Hp) (C : Addr) (cl : List (Str × Addr)) (fp : List Addr), PG (BlkH X p scope s H (compEnvC scope cl C X.env) fp) tg g) (ht : ∀ (s : Shared) (H : Hp) (C : Addr) (cl : List (Str × Addr)) (fp : List Addr), PTs (BlkH X p scope s H (compEnvC scope cl C X.env) fp) ifs tt)
    (he : ∀ (s : Shared) (H : Hp) (C : Addr) (cl : List (Str × Addr)) (fp : List Addr), PE (BlkH X p scope s H (compEnvC scope cl C X.env) fp) elt te) (hs : ∀ x, foldedSetIterable iter X.env x = pure x := by intro _; rfl) :
    PE X (.ListComp elt [⟨tg, iter, ifs, 0⟩] scope pos) (tLc wi g tt te (own.map (·.2))) := by
  refine ⟨fun pins s σ H Q I h => ?_⟩
  rw [eval_ListComp]
  refine lc_coreH hp1 hp2 hN I hi ok hg ht he hs h fun D C s' m H' I' q hn f => ⟨m, hn, fun h'' sb => ?_⟩
  obtain ⟨f0, f1, f2, f3, f4, f5⟩ := f
  exact ⟨.ref D, H', I'.turned (t' := s'.toks) (fun b o hb e => (sb.2 b hb).trans e) f0 f1 f3 f4 f5, rfl, q⟩
theorem ps_setLcH {p : Addr × Obj} {own : List (Str × Nat)} {i : Nat} {y : Str} {py spos : Pos} {wi : TI} {g : TG} {te : TE} (hp1 : L2H.Hot1 X.A p) (hp2 : p ∈ X.pn) (hN : X.N.Nodup) (hy : X.N[i]? = some y) (hyl : X.env.scope.names.lookup y = some .local)
    (hsw : swapsWith (.ListComp elt [⟨tg, iter, ifs, 0⟩] scope pos) (some (.Name y py)) spos.line X.env = pure true) (hi : L2H.PIH X tg iter wi) (ok : BlkOk X.N X.env.scope scope own)
    (hg : ∀ (s : Shared) (H : Hp) (C : Addr) (cl : List (Str × Addr)) (fp : List Addr), PG (BlkH X p scope s H (compEnvC scope cl C X.env) fp) tg g) (ht : ∀ (s : Shared) (H : Hp) (C : Addr) (cl : List (Str × Addr)) (fp : List Addr), PTs (BlkH X p scope s H (compEnvC scope cl C X.env) fp) ifs tt)
    (he : ∀ (s : Shared) (H : Hp) (C : Addr) (cl : List (Str × Addr)) (fp : List Addr), PE (BlkH X p scope s H (compEnvC scope cl C X.env) fp) elt te) (hs : ∀ x, foldedSetIterable iter X.env x = pure x := by intro _; rfl) :
    PS X (.Assign [.Name y py] (.ListComp elt [⟨tg, iter, ifs, 0⟩] scope pos) spos) (tAsg (tLc wi g tt te (own.map (·.2))) (gName i)) := by
  refine ⟨fun pins s σ H D I h => ?_⟩
  rw [exec_Assign_Name_used _ _ _ _ hsw]
  refine wpAny_bind (wpAny_standAt (wpAny_bind ?_))
  show wpAny _ X.A (do let _ ← comprehension (.ListComp elt [⟨tg, iter, ifs, 0⟩] scope pos) scope X.env (firstIterPos [⟨tg, iter, ifs, 0⟩] pos) (newList []) false (eval iter X.env) (some (assign (.Name y py) X.env))) _ _ s
  have h : tLc wi g tt te (own.map (·.2)) σ H (fun x H1 => gName i x σ H1 D.nx) := h
  refine wpAny_bind (thn (lc_coreH (Qf := fun _ s' => SP X pins D .next s') hp1 hp2 hN I hi ok hg ht he hs h fun L C s' m H' I' q hn f => ?_) fun _ s' hq => wpAny_pure (wpAny_pure hq))
  show wpAny _ _ (assign (.Name y py) X.env (.ref L)) _ _ _
  refine wpAny_assign_Name (store_ok2 (v := V.ref L) I' hN hy (.inl hyl) rfl (fun s2 I2 ⟨a, sb, ha⟩ => ?_) (.inr hyl))
  obtain ⟨f0, f1, f2, f3, f4, f5⟩ := f
  have haC : C ≠ a := by
    rcases ha with z | z
    · rw [z]; exact f1
    · exact fun e => f4 y a z e.symm
  refine ⟨m, hn.sameBut sb haC, fun h3 sb3 => ?_⟩
  exact ⟨_, H', I2.turned (t' := s2.toks) (fun b o hb e => (sb3.2 b hb).trans e) f0 f1 f3 f4 f5, q⟩
/-! walked lists -/
structure IDH (X : Cx) (G : Gm) (Wx : WX) (tg e : Expr) (f : IV) : Prop where
  pi : L2H.PIH X tg e (tI X.K X.mg G Wx f)
def iOfL (fe : EV) : IV := fun s => (fe s).bind fun r s1 => match fz r s1 with
  | some (.lst xs, s2) => .ok xs s2
  | some (.scr xs, s2) => .ok xs s2
  | _ => .bad
theorem id_listH (he : ED X G Wx e fe) : IDH X G Wx tg e (iOfL fe) := by
  refine ⟨⟨fun pins sh σ H R I ⟨P, A, L, s, hs, h⟩ => (pi_listH (tg := tg) he.pe).run pins sh σ H R I ⟨P, A, L, s, hs, ?_⟩⟩⟩
  unfold iOfL at h
  cases q : fe s with
  | bad => rw [q] at h; exact h.elim
  | err c s1 => rw [q] at h; exact h
  | ok r s1 =>
    rw [q] at h
    have h : Run X.K X.mg G Wx P A L H σ (match fz r s1 with
      | some (.lst xs, s2) => .ok xs s2
      | some (.scr xs, s2) => .ok xs s2
      | _ => .bad) (PostI X.K X.mg G P A L H σ R) := h
    intro A1 L1 v H1 a1
    split at h
    · rename_i xs s2 e1
      obtain ⟨A2, sr, rp, st⟩ := a1.frz e1
      unfold Rep at rp
      obtain ⟨p, vs, rfl, t, nb, r⟩ := rp
      exact ⟨p, rfl, ⟨vs, SqL.of t⟩, h A2 L1 H1 _ sr (itl_ok (.inl ⟨.inl t, nb⟩) r) st⟩
    · rename_i xs s2 e1
      obtain ⟨A2, sr, rp, st⟩ := a1.frz e1
      unfold Rep at rp
      obtain ⟨p, vs, rfl, t, r⟩ := rp
      exact ⟨p, rfl, ⟨vs, t.sq⟩, h A2 L1 H1 _ sr (itl_ok t r) st⟩
    · exact h.elim
/-! a tuple, taken apart -/
def gTupH (n : Nat) (gs : GVs) : GV := fun r s => match rd r s with
  | some (.tup ds) => if ds.length = n then gs ds s else .bad
  | _ => .bad
theorem gv_tupH {vs : List Nat} {es : List Expr} {k : Nat} {gs : GVs} {n : Nat} (hc : L2H.HotC X) (h : GsDv X G vs es gs) (hn : (assignEach es X.env).length = n := by rfl) (hst : (assignEach es X.env).findIdx? (·.1) = none := by rfl) : GDv X G vs (.Tuple es k pos) (gTupH n gs) := by
  refine ⟨PG.imp (pg_tupH hc h.pgs hn hst) fun v σ H Q ⟨P, A0, L0, H0, A, L, s, r, s', a, h, q⟩ => ?_⟩
  unfold gTupH at h
  have w := a.weak
  cases e1 : rd r s with
  | none => rw [e1] at h; cases h
  | some d =>
    rw [e1] at h
    have pr := rd_ok w a.ok e1
    cases d with
    | tup ds =>
      have h : (if ds.length = n then gs ds s else .bad) = .ok () s' := h
      split at h
      · rename_i hl
        obtain ⟨p, vs', rfl, t, r⟩ := pr.tup
        exact ⟨p, vs', rfl, t.sq, by rw [← r.length]; exact hl, P, A, L, s, ds, s', w, r, h, fun A3 L3 σ3 H3 sr3 st3 w3 => q A3 L3 σ3 H3 sr3 (a.st.trans st3) w3⟩
      · cases h
    | _ => cases h
/-! the comprehension -/
variable {i : Nat}
theorem ed_compH (own : List (Str × Nat)) (hx : HotX X G nm) (hN : X.N.Nodup) (hi : IDH X G Wx tg iter it) (ok : BlkOk X.N X.env.scope scope own)
    (hg : ∀ (p : Addr × Obj) (s : Shared) (H : Hp) (C : Addr) (cl : List (Str × Addr)) (fp : List Addr), L2H.HotC (BlkH X p scope s H (compEnvC scope cl C X.env) fp) → GDv (BlkH X p scope s H (compEnvC scope cl C X.env) fp) G (own.map (·.2)) tg g)
    (ht : ∀ (p : Addr × Obj) (s : Shared) (H : Hp) (C : Addr) (cl : List (Str × Addr)) (fp : List Addr), CD (BlkH X p scope s H (compEnvC scope cl C X.env) fp) G ifs t tt)
    (he : ∀ (p : Addr × Obj) (s : Shared) (H : Hp) (C : Addr) (cl : List (Str × Addr)) (fp : List Addr), ED (BlkH X p scope s H (compEnvC scope cl C X.env) fp) G W0 elt fe) (hs : ∀ x, foldedSetIterable iter X.env x = pure x := by intro _; rfl) :
    ED X G Wx (.ListComp elt [⟨tg, iter, ifs, 0⟩] scope pos) (eComp (own.map (·.2)) it g t fe) := by
  obtain ⟨p, hp1, hp2⟩ := hx.hot
  refine ⟨⟨fun pins sh σ H Q I h => ?_⟩⟩
  exact (pe_lcH (te := tE X.K X.mg G W0 fe) (g := tGv X.K X.mg G (own.map (·.2)) g) hp1 hp2 hN hi.pi ok (fun s H C cl fp => (hg p s H C cl fp (hotBlk hp1)).pg) (fun s H C cl fp => (ht p s H C cl fp).pts) (fun s H C cl fp => (he p s H C cl fp).pe) hs).run pins sh σ H Q I
    (ed_compQ (elt := elt) (tg := tg) (iter := iter) (ifs := ifs) (scope := scope) (own := own) (ht p sh H 0 [] []).of (fun h => h) h)
theorem sd_setCompH {y : Str} {py spos : Pos} (own : List (Str × Nat)) (hx : HotX X G nm) (hN : X.N.Nodup) (hy : X.N[i]? = some y) (hyl : X.env.scope.names.lookup y = some .local)
    (hsw : swapsWith (.ListComp elt [⟨tg, iter, ifs, 0⟩] scope pos) (some (.Name y py)) spos.line X.env = pure true) (hi : IDH X G Wx tg iter it) (ok : BlkOk X.N X.env.scope scope own)
    (hg : ∀ (p : Addr × Obj) (s : Shared) (H : Hp) (C : Addr) (cl : List (Str × Addr)) (fp : List Addr), L2H.HotC (BlkH X p scope s H (compEnvC scope cl C X.env) fp) → GDv (BlkH X p scope s H (compEnvC scope cl C X.env) fp) G (own.map (·.2)) tg g)
    (ht : ∀ (p : Addr × Obj) (s : Shared) (H : Hp) (C : Addr) (cl : List (Str × Addr)) (fp : List Addr), CD (BlkH X p scope s H (compEnvC scope cl C X.env) fp) G ifs t tt)
    (he : ∀ (p : Addr × Obj) (s : Shared) (H : Hp) (C : Addr) (cl : List (Str × Addr)) (fp : List Addr), ED (BlkH X p scope s H (compEnvC scope cl C X.env) fp) G W0 elt fe) (hs : ∀ x, foldedSetIterable iter X.env x = pure x := by intro _; rfl) :
    SD X G Wx (.Assign [.Name y py] (.ListComp elt [⟨tg, iter, ifs, 0⟩] scope pos) spos) (sAsg (eComp (own.map (·.2)) it g t fe) (gSet i)) := by
  obtain ⟨p, hp1, hp2⟩ := hx.hot
  refine ⟨⟨fun pins sh σ H Dn I h => ?_⟩⟩
  refine (ps_setLcH (te := tE X.K X.mg G W0 fe) (g := tGv X.K X.mg G (own.map (·.2)) g) hp1 hp2 hN hy hyl hsw hi.pi ok (fun s H C cl fp => (hg p s H C cl fp (hotBlk hp1)).pg) (fun s H C cl fp => (ht p s H C cl fp).pts) (fun s H C cl fp => (he p s H C cl fp).pe) hs).run pins sh σ H Dn I ?_
  refine ed_compQ (Wx := Wx) (elt := elt) (tg := tg) (iter := iter) (ifs := ifs) (scope := scope) (own := own) (ht p sh H 0 [] []).of (fun h => h) ?_
  exact tE.mono (tS_asg h) fun v H1 ⟨P, A0, L0, H0, A, L, s, r, a, h⟩ => run_gSet a h
/-! ### a def called with the handled exception -/
def eCallX (i : Nat) (F : Str → List (List D) → Rf) (nm : Str) : EV := fun s => match s.η[i]? with
  | some .ex => eCall (fun _ W => F nm W) aNil s
  | _ => .bad
theorem ed_callX {k j : Nat} {tb : List Addr} {F : Str → List (List D) → Rf} {x pn n : Str} {p p2 : Pos} (Fk : HasX X.prog X.w X.K X.mg X.base tb j x pn F) (hr : L2H.RoomH k X.A) (htb : G.tb = tb) (tk : L2N.Takes X Wx) (hx : HotX X G nm) (i : Nat)
    (hjk : j ≤ k) (hg : Gl X x) (hN : X.N[i]? = some n) (hv : Vis X.env.scope n) (hd : (n == ("__debug__" : Str)) = false) (hcd : (n == ("__classdict__" : Str)) = false)
    (hdb : (x == ("__debug__" : Str)) = false) (he : starEach [.Name n p2] X.env = (false, eval (.Name n p2) X.env) :: starEach [] X.env) (hpl : (backTo pos (starEach [] X.env)).any (·.1) = false) :
    ED X G Wx (.Call (.Name x p) [.Name n p2] [] pos) (eCallX i F nm) := by
  obtain ⟨f, fd, hm, hk, hb, hF⟩ := Fk.ex
  obtain ⟨oe, C, h1, h2, h3, h4, vs, h5⟩ := hx.ex
  refine ⟨⟨fun pins sh σ H Q I ⟨P, A, L, s, hs, h⟩ => ?_⟩⟩
  unfold eCallX at h
  have hex : s.η[i]? = some .ex := by
    cases q : s.η[i]? with
    | none => rw [q] at h; exact h.elim
    | some x => rw [q] at h; cases x <;> first | rfl | exact h.elim
  rw [hex] at h
  obtain ⟨P2, A2, L2', s2, hs2, h7⟩ := tE_call htb (⟨P, A, L, s, hs, h⟩ : tE X.K X.mg G Wx (eCall (fun _ W => F nm W) aNil) σ H Q)
  have hsp : spD X.K X.mg tb (fun _ W => F nm W) [] H Q fun cls d H' => Wx cls d σ H' := h7 A2 L2' [] H hs2 (by unfold ArgsOk; rfl) (Step.refl _ _ _)
  refine wpAny_Call_Name_kw (ld_glob I hg hm ?_ hdb)
  refine PySem.W.callWith_K (h₀ := X.base) I.ok.mod.kin hk (thn ((pa_cons (pe_var hN hv hd hcd) pa_nil he).run pos pins sh σ H (fun vs H1 => H1 = H ∧ vs = [.ref G.xa]) I ⟨.ref G.xa, hs.exn i hex, rfl, rfl⟩) fun us s1 ⟨vs', H1, I1, r, e1, e2⟩ => ⟨I1.kIn, ?_⟩) he hpl
  subst e1 e2
  obtain rfl : us = [Value.ref G.xa] := by
    cases r with
    | cons r rr => cases rr; cases r; rfl
  have P1 := I1.pin (G.xa, oe) (List.mem_append_left _ h2)
  have hpin : L2H.PinOk X.stack H1 s1 (G.xa, oe) := ⟨P1.1, P1.2.1, fun hm => (List.mem_cons.mp (I1.stkSub G.xa hm)).elim P1.2.2.1 P1.2.2.2.1, P1.2.2.2.2⟩
  have b := hb s1 [Value.ref G.xa] I1.kIn rfl
  rw [List.append_nil] at b
  refine wpAny_call (codeAny_mono (hF X.A X.stack s1 H1 ⟨[.ref G.xa], []⟩ Q _ (G.xa, oe) nm C (hr.mono hjk) ⟨h1, vs, h5, h4.2.2 vs h5⟩ hpin I1.env0 b h3 h4 hsp) fun r s' hq => ?_)
  cases r with
  | error e => exact L2N.passAt tk σ pins H1 s1 e s' I1 hq
  | ok fl =>
    cases fl with
    | ret u => exact I1.after hq
    | next => exact False.elim hq
    | brk => exact False.elim hq
    | cont => exact False.elim hq
end
theorem takesX {X : Cx} : L2N.Takes X (fun _ _ _ _ => False) := fun _ _ x => by
  obtain ⟨_, _, _, _, _, _, _, _, _, _, _, _, _, _, _, _, z⟩ := x
  exact z.elim
end DL
namespace DL
open PySem PySem.Spec PyProof.Rows L2
section
variable {K : PySem.W.Frag} {mg : Str → Option Value} {X : Cx} {G : Gm} {Wx : WX} {o e : Expr} {es : List Expr} {fa fb : EV} {pos : Pos}
/-! ### l.index(x), flat values -/
def flD : D → Option V
  | .non => some .non
  | .bl b => some (.bl b)
  | .int i => some (.int i)
  | .str s => some (.str s)
  | _ => none
def flDs : List D → Option (List V)
  | [] => some []
  | d :: ds => match flD d, flDs ds with
    | some v, some vs => some (v :: vs)
    | _, _ => none
def lsD : D → Option (List D)
  | .lst xs => some xs
  | .scr xs => some xs
  | _ => none
def idxOf (ds : List D) (y : D) : Option Nat := match flDs ds, flD y with
  | some vs, some w => vs.findIdx? fun z => eqV z w
  | _, _ => none
def idxD : Ob2 := fun a y => match lsD a with
  | some xs => match idxOf xs y with
    | some j => some (.pv (.int j))
    | none => none
  | none => none
theorem flD_ok {B : Addr → Prop} {H : Hp} {d : D} {v w : V} (h : Rep K mg B H d v) (e : flD d = some w) : v = w ∧ flatV w = true := by
  cases d <;> cases e <;> unfold Rep at h <;> exact ⟨h, rfl⟩
theorem flDs_ok {B : Addr → Prop} {H : Hp} : ∀ {ds : List D} {vs ws : List V}, Reps K mg B H ds vs → flDs ds = some ws → vs = ws ∧ ws.all flatV = true
  | [], vs, ws, h, e => by unfold Reps at h; cases e; exact ⟨h, rfl⟩
  | d :: ds, vs, ws, h, e => by
    unfold Reps at h
    obtain ⟨v, vs, rfl, h1, h2⟩ := h
    unfold flDs at e
    split at e
    · rename_i w ws' e1 e2
      cases e
      obtain ⟨rfl, f1⟩ := flD_ok h1 e1
      obtain ⟨rfl, f2⟩ := flDs_ok h2 e2
      exact ⟨rfl, by simp [f1, f2]⟩
    · cases e
theorem lsD_ok {B : Addr → Prop} {H : Hp} {a : D} {xs : List D} {x : V} (h : PRep K mg B H a x) (e : lsD a = some xs) : ∃ p vs, x = .ref p ∧ SqL K H p vs ∧ Reps K mg B H xs vs := by
  cases a with
  | lst ys => cases e; obtain ⟨p, vs, rfl, t, r⟩ := h.lst; exact ⟨p, vs, rfl, SqL.of t, r⟩
  | scr ys => cases e; obtain ⟨p, vs, rfl, t, r⟩ := h.scr; exact ⟨p, vs, rfl, t.sq, r⟩
  | _ => cases e
theorem opv_idx : OpV K mg (fun x y H Q => rIndex K x [y] H Q) idxD := by
  intro B H x y a b res Q hB ha hb e q
  unfold idxD at e
  split at e
  · rename_i xs e1
    split at e
    · rename_i j e2
      cases e
      obtain ⟨p, vs, rfl, sq, r⟩ := lsD_ok ha e1
      unfold idxOf at e2
      split at e2
      · rename_i ws w f1 f2
        obtain ⟨rfl, g1⟩ := flDs_ok r f1
        have hb' : y = w ∧ flatV w = true := by
          rcases hb with hb | ⟨ds, _, _, z, _⟩
          · exact flD_ok hb f2
          · subst z; cases f2
        obtain ⟨rfl, g2⟩ := hb'
        rw [List.findIdx?_eq_some_iff_getElem] at e2
        obtain ⟨hl, h1, h2⟩ := e2
        refine ⟨p, vs, y, j, vs[j], rfl, rfl, sq, g2, g1, List.getElem?_eq_getElem hl, h1, fun m z' hm hz => ?_, q _ _ .int⟩
        obtain ⟨hml, rfl⟩ := List.getElem?_eq_some_iff.mp hz
        simpa using h2 m hm
      · cases e2
    · cases e
  · cases e
/-- o.m(e), o a list -/
def eM1 (f : Ob2) (fa fb : EV) : EV := fun s => (fa s).bind fun ra s1 => match (rd ra s1).bind lsD with
  | some _ => (fb s1).bind fun rb s2 => fin2 f ra rb s2
  | none => .bad
theorem ed_m1 {m : Str} {id : String} {r : V → List V → Hp → VK → Prop} {f : Ob2} {apos cpos : Pos} (pa : PlainAttrs "list") (slot : PySem.Slot "list" m id) (hty : typeOf (.builtin id) = pure (.type "method_descriptor")) (hm : MtR X id r) (hv : OpV X.K X.mg (fun x y H Q => r x [y] H Q) f)
    (ho : ED X G Wx o fa) (he : ED X G Wx e fb)
    (hbase : attributeBase o m X.env (eval o X.env) = eval o X.env)
    (hfew : ((backTo cpos (starEach [e] X.env)).all (fun x => !x.1) && (backToKw cpos (keywordEach [] X.env)).all (fun x => x.1.isSome) && decide ([e].length + ([] : List Keyword).length + (if ([] : List Keyword).isEmpty then 0 else 1) < 30)) = true)
    (hline : (apos.endLine == cpos.line) = true) (hs : starEach [e] X.env = (false, eval e X.env) :: starEach [] X.env) : ED X G Wx (.Call (.Attribute o m apos) [e] [] cpos) (eM1 f fa fb) := by
  refine ⟨PE.imp (pe_bm pa slot hty hm ho.pe (pa_cons he.pe pa_nil hs) hbase hfew hline hs rfl) fun σ H Q ⟨P, A, L, s, hs, h⟩ => ?_⟩
  unfold eM1 at h
  refine (tE_one hs h).mono fun x H1 ⟨A1, L1, s1, ra, a1, h1⟩ => ?_
  split at h1
  · rename_i xs e1
    obtain ⟨d, e2, e3⟩ := Option.bind_eq_some_iff.mp e1
    have pr := rd_ok a1.weak a1.ok e2
    obtain ⟨q, vs, rfl, sq, _⟩ := lsD_ok pr e3
    refine ⟨.inl ⟨rfl, _, sq⟩, ?_⟩
    exact ⟨Wi P ra _, A1, L1, s1, a1.sr, ((Run.bind h1).on a1.st fun a z => .inl z).imp fun rb s2 _ hk2 A2 L2 y H2 a2 => run_fin2 hv (a2.sr.lessP fun a z => .inl (.inl z)) hs.p0 (a1.ok.step a2.st) (a2.ok.lessP fun a z => .inl z) (a1.st.trans a2.st) hk2⟩
  · exact h1.elim
theorem ed_index {apos cpos : Pos} (ho : ED X G Wx o fa) (he : ED X G Wx e fb)
    (hbase : attributeBase o "index" X.env (eval o X.env) = eval o X.env := by rfl)
    (hfew : ((backTo cpos (starEach [e] X.env)).all (fun x => !x.1) && (backToKw cpos (keywordEach [] X.env)).all (fun x => x.1.isSome) && decide ([e].length + ([] : List Keyword).length + (if ([] : List Keyword).isEmpty then 0 else 1) < 30)) = true := by rfl)
    (hline : (apos.endLine == cpos.line) = true := by rfl) (hs : starEach [e] X.env = (false, eval e X.env) :: starEach [] X.env := by rfl) : ED X G Wx (.Call (.Attribute o "index" apos) [e] [] cpos) (eM1 idxD fa fb) :=
  ed_m1 PySem.F.plainAttrs_list PySem.F.slot_list_index PySem.F.type_list_index mt_index opv_idx ho he hbase hfew hline hs
end
end DL
namespace DL
open PySem PySem.Spec PyProof.Rows L2
/-! ### the classes of a program, by a table -/
abbrev CT := List (Str × Str × Bool)
def xT (tb : CT) (x y : Str) : Option Bool := (tb.find? fun p => p.1 == x && p.2.1 == y).map (·.2.2)
def excB (K : PySem.W.Frag) (D : Addr) : Bool :=
  decide (PySem.W.findIn K (.ref D) "__getattribute__" = some (some (.builtin "BaseException.__getattribute__"))) && decide (PySem.W.findIn K (.ref D) "__getattr__" = some none) && decide (PySem.W.subIn K (.ref D) (.type "BaseException") = some true) &&
  PySem.W.hasDictIn K D && decide (PySem.W.findIn K (.ref D) "__class__" = some (some (.builtin "object.__class__"))) && decide (PySem.W.specialIn K (.builtin "object.__class__") "__get__" = some (some (.builtin "getset_descriptor.__get__"))) &&
  decide (PySem.W.takesIn K (.builtin "object.__class__") = some true) && decide (PySem.W.mroIn K D (.type "object") = some true)
theorem excB_ok {K : PySem.W.Frag} {D : Addr} (h : excB K D = true) : ExcC K D := by
  unfold excB at h
  simp only [Bool.and_eq_true, decide_eq_true_eq] at h
  obtain ⟨⟨⟨⟨⟨⟨⟨h1, h2⟩, h3⟩, h4⟩, h5⟩, h6⟩, h7⟩, h8⟩ := h
  exact ⟨h1, h2, h3, h4, h5, h6, h7, h8⟩
def exB (ns : List Str) (tb : CT) (K : PySem.W.Frag) : Bool :=
  (ns.all fun x => excB K (He.ga K x) && (He.Fa.exc x).ok K) &&
  tb.all fun p => if p.2.1 == "ValueError" then decide (PySem.W.kitOne K (.ref (He.ga K p.1)) (.type "ValueError") = some p.2.2)
    else decide (PySem.W.kitOne K (.ref (He.ga K p.1)) (.ref (He.ga K p.2.1)) = some p.2.2) && decide (PySem.W.exmOne K (.ref (He.ga K p.1)) (.ref (He.ga K p.2.1)) = some p.2.2)
theorem xT_mem {tb : CT} {x y : Str} {b : Bool} (h : xT tb x y = some b) : (x, y, b) ∈ tb := by
  unfold xT at h
  obtain ⟨p, e, rfl⟩ := Option.map_eq_some_iff.mp h
  have m := List.mem_of_find?_eq_some e
  have q := List.find?_some e
  simp only [Bool.and_eq_true, beq_iff_eq] at q
  obtain ⟨rfl, rfl⟩ := q
  exact m
theorem xf_of {ns : List Str} {tb : CT} {K : PySem.W.Frag} {mg : Str → Option Value} (hE : exB ns tb K = true) (hm : ∀ x ∈ ns, mg x = some (.ref (He.ga K x))) (hv : mg "ValueError" = none)
    (hc : (tb.all fun p => ns.contains p.1 && (p.2.1 == "ValueError" || ns.contains p.2.1)) = true) : XF K mg (xT tb) := by
  unfold exB at hE
  obtain ⟨h1, h2⟩ := (Bool.and_eq_true _ _).mp hE
  have n1 : ∀ x y b, xT tb x y = some b → x ∈ ns ∧ (y = "ValueError" ∨ y ∈ ns) := fun x y b e => by
    have q := List.all_eq_true.mp hc _ (xT_mem e)
    simp only [Bool.and_eq_true, Bool.or_eq_true, beq_iff_eq, List.contains_iff_mem] at q
    exact q
  have one : ∀ x ∈ ns, excB K (He.ga K x) = true ∧ (He.Fa.exc x).ok K = true := fun x hx => by
    have q := List.all_eq_true.mp h1 _ hx
    exact (Bool.and_eq_true _ _).mp q
  have at_ : ∀ x D, x ∈ ns → mg x = some (.ref D) → D = He.ga K x := fun x D hx e => by
    rw [hm x hx] at e; cases e; rfl
  refine ⟨fun nm y b D C e eD eC => ?_, fun nm b D e eD => ?_, fun nm y b D e eD => ?_, fun nm y b e => ?_⟩
  · obtain ⟨hx, hy⟩ := n1 _ _ _ e
    have ny : y ≠ "ValueError" := fun z => by subst z; rw [hv] at eC; cases eC
    have hy := hy.resolve_left ny
    obtain rfl := at_ _ _ hx eD
    obtain rfl := at_ _ _ hy eC
    have q := List.all_eq_true.mp h2 _ (xT_mem e)
    simp only at q
    rw [if_neg (by simpa using ny)] at q
    obtain ⟨q1, q2⟩ := (Bool.and_eq_true _ _).mp q
    exact ⟨of_decide_eq_true q1, of_decide_eq_true q2⟩
  · obtain ⟨hx, _⟩ := n1 _ _ _ e
    obtain rfl := at_ _ _ hx eD
    have q := List.all_eq_true.mp h2 _ (xT_mem e)
    simp only at q
    rw [if_pos (by decide +kernel)] at q
    exact of_decide_eq_true q
  · obtain ⟨hx, _⟩ := n1 _ _ _ e
    obtain rfl := at_ _ _ hx eD
    exact excB_ok (one _ hx).1
  · obtain ⟨hx, _⟩ := n1 _ _ _ e
    exact ⟨_, hm _ hx, He.exc_ok (one _ hx).2⟩
section
variable {X : Cx} {G : Gm} {Wx : WX} {e : Expr} {es : List Expr} {st : Stmt} {pos : Pos} {T : Str → Str → Option Bool}
theorem ed_bad : ED X G Wx e fun _ => .bad := ⟨⟨fun pins s σ H Q I ⟨_, _, _, _, _, h⟩ => h.elim⟩⟩
theorem sd_bad : SD X G Wx st fun _ => .bad := ⟨⟨fun pins s σ H Q I ⟨_, _, _, _, _, h⟩ => h.elim⟩⟩
def sBad : SV := fun _ => .bad
theorem sd_bad' : SD X G Wx st sBad := sd_bad
theorem sd_tryP {i : Nat} {n y : Str} {np pos' : Pos} {body suite : List Stmt} {b0 : Stmt} {f : SV} {g : Str → SV} (F : XF X.K X.mg T) (hT : T y y = some true) (hs : X.stack = X.env :: X.outer) (hf : X.env.frame = some X.env.locals) (hN : X.N.Nodup) (hi : X.N[i]? = some n)
    (hln : X.env.kindOf n = some .local) (hg : Gl X y) (hdb : (y == ("__debug__" : Str)) = false) (tk : L2N.Takes X Wx)
    (hb : ∀ (W : WX) (pn : List (Addr × Obj)) (xe : Value → Shared → Prop), L2N.Takes (X.tr pn xe) W → PassesOwn (model X.prog X.w) X.A X.env xe → SsD (X.tr pn xe) G W body f)
    (hsu : ∀ (nm : Str) (a : Addr) (oe : Obj) (pn : List (Addr × Obj)), T nm y = some true → HotX (X.suite a ((a, oe) :: pn)) { G with xa := a } nm → SsD (X.suite a ((a, oe) :: pn)) { G with xa := a } W0 (b0 :: suite) (g nm)) :
    SD X G Wx (.Try body [.ExceptHandler (some (.Name y np)) (some n) (b0 :: suite) pos'] [] [] pos) (sTry (fun nm => T nm y) i f g) := by
  obtain ⟨P, hP, _⟩ := F.rz y y true hT
  refine sd_try (c := .ref P) (fun nm => T nm y) hs hf hN hi hln ?_ tk (fun nm b C e eC => (F.is nm y b C P e eC hP).2) hb fun nm a oe C pn e eC hz hv => hsu nm a oe pn e (HotX.suite eC hz hv)
  exact ⟨hg, hdb, .inl hP⟩
end
end DL
namespace DL
open PySem PySem.Spec PyProof.Rows L2
/-! ### the rules of exceptions with their side conditions found -/
theorem XF.cls {K : PySem.W.Frag} {mg : Str → Option Value} {T : Str → Str → Option Bool} (F : XF K mg T) {y : Str} (h : T y y = some true) : ∃ C, mg y = some (.ref C) := let ⟨D, e, _⟩ := F.rz y y true h; ⟨D, e⟩
theorem roomS {k : Nat} {A A' : Around} (r : Room k A) (h1 : A'.depth = A.depth) (h2 : A'.units = A.units) : L2H.RoomH k A' := ⟨by rw [h1]; exact r.dp, by rw [h2]; exact r.un⟩
theorem u64H {k : Nat} {A : Around} (r : L2H.RoomH k A) : A.units + 64 < cLine := by have := r.un; omega
theorem u65H {k : Nat} {A : Around} (r : L2H.RoomH k A) : A.units + 65 < cLine := by have := r.un; omega
section
variable {X : Cx} {G : Gm} {Wx : WX} {e c : Expr} {es : List Expr} {st : Stmt} {pos p p2 p3 : Pos} {T : Str → Str → Option Bool} {nm : Str}
theorem ed_isC (F : XF X.K X.mg T) (hx : HotX X G nm) (i : Nat) {n y : Str} (hm : X.mg "isinstance" = none) (hT : T y y = some true) (hg : Gl X "isinstance" := by rfl) (hN : X.N[i]? = some n := by rfl)
    (hv : Vis X.env.scope n := by first | exact Or.inl rfl | exact Or.inr (Or.inl rfl) | exact Or.inr (Or.inr rfl)) (hgy : Gl X y := by rfl)
    (hd : (n == ("__debug__" : Str)) = false := by decide) (hcd : (n == ("__classdict__" : Str)) = false := by decide) (hdy : (y == ("__debug__" : Str)) = false := by decide)
    (he : starEach [.Name n p2, .Name y p3] X.env = (false, eval (.Name n p2) X.env) :: starEach [.Name y p3] X.env := by rfl) (he2 : starEach [.Name y p3] X.env = (false, eval (.Name y p3) X.env) :: starEach [] X.env := by rfl) (hpl : (backTo pos (starEach [.Name y p3] X.env)).any (·.1) = false := by rfl) :
    ED X G Wx (.Call (.Name "isinstance" p) [.Name n p2, .Name y p3] [] pos) (eIsX T i nm y) := ed_isX F hx i hg hm hN hv hgy hd hcd hdy (.inl (F.cls hT)) he he2 hpl
theorem ed_isV (F : XF X.K X.mg T) (hx : HotX X G nm) (i : Nat) {n : Str} (hm : X.mg "isinstance" = none) (hV : X.mg "ValueError" = none) (hg : Gl X "isinstance" := by rfl) (hN : X.N[i]? = some n := by rfl)
    (hv : Vis X.env.scope n := by first | exact Or.inl rfl | exact Or.inr (Or.inl rfl) | exact Or.inr (Or.inr rfl)) (hgy : Gl X "ValueError" := by rfl)
    (hd : (n == ("__debug__" : Str)) = false := by decide) (hcd : (n == ("__classdict__" : Str)) = false := by decide)
    (he : starEach [.Name n p2, .Name "ValueError" p3] X.env = (false, eval (.Name n p2) X.env) :: starEach [.Name "ValueError" p3] X.env := by rfl) (he2 : starEach [.Name "ValueError" p3] X.env = (false, eval (.Name "ValueError" p3) X.env) :: starEach [] X.env := by rfl) (hpl : (backTo pos (starEach [.Name "ValueError" p3] X.env)).any (·.1) = false := by rfl) :
    ED X G Wx (.Call (.Name "isinstance" p) [.Name n p2, .Name "ValueError" p3] [] pos) (eIsX T i nm "ValueError") := ed_isX F hx i hg hm hN hv hgy hd hcd (by decide) (.inr ⟨hV, rfl⟩) he he2 hpl
theorem ed_callW {k j : Nat} {tb : List Addr} {F : Str → List (List D) → Rf} {x pn n : Str} (Fk : HasX X.prog X.w X.K X.mg X.base tb j x pn F) (hr : L2H.RoomH k X.A) (htb : G.tb = tb) (tk : L2N.Takes X Wx) (hx : HotX X G nm) (i : Nat)
    (hjk : j ≤ k) (hg : Gl X x := by rfl) (hN : X.N[i]? = some n := by rfl) (hv : Vis X.env.scope n := by first | exact Or.inl rfl | exact Or.inr (Or.inl rfl) | exact Or.inr (Or.inr rfl)) (hd : (n == ("__debug__" : Str)) = false := by decide) (hcd : (n == ("__classdict__" : Str)) = false := by decide)
    (hdb : (x == ("__debug__" : Str)) = false := by decide) (he : starEach [.Name n p2] X.env = (false, eval (.Name n p2) X.env) :: starEach [] X.env := by rfl) (hpl : (backTo pos (starEach [] X.env)).any (·.1) = false := by rfl) :
    ED X G Wx (.Call (.Name x p) [.Name n p2] [] pos) (eCallX i F nm) := ed_callX Fk hr htb tk hx i hjk hg hN hv hd hcd hdb he hpl
theorem sd_raiseD {F : XF X.K X.mg T} {nm m : Str} {j : Nat} {pos' : Pos} (hc : X.calm = true) (tk : L2N.Takes X Wx) (h : T nm nm = some true) (hg : Gl X nm := by rfl) (hdb : (nm == ("__debug__" : Str)) = false := by decide) :
    SD X G Wx (.Raise (some (.Call (.Name nm p) [.Constant (.str m) j p2] [] pos)) none pos') (sRaise nm) := sd_raise F hc tk h hg hdb
variable {elt tg iter : Expr} {scope : Scope} {it : IV} {g : GV} {t : TV} {fe : EV}
theorem ed_compH0 (own : List (Str × Nat)) (hx : HotX X G nm) (hN : X.N.Nodup) (hi : IDH X G Wx tg iter it) (ok : BlkOk X.N X.env.scope scope own)
    (hg : ∀ (p : Addr × Obj) (s : Shared) (H : Hp) (C : Addr) (cl : List (Str × Addr)) (fp : List Addr), L2H.HotC (BlkH X p scope s H (compEnvC scope cl C X.env) fp) → GDv (BlkH X p scope s H (compEnvC scope cl C X.env) fp) G (own.map (·.2)) tg g)
    (he : ∀ (p : Addr × Obj) (s : Shared) (H : Hp) (C : Addr) (cl : List (Str × Addr)) (fp : List Addr), ED (BlkH X p scope s H (compEnvC scope cl C X.env) fp) G W0 elt fe) (hs : ∀ x, foldedSetIterable iter X.env x = pure x := by intro _; rfl) :
    ED X G Wx (.ListComp elt [⟨tg, iter, [], 0⟩] scope pos) (eComp (own.map (·.2)) it g tTrue fe) := ed_compH (tt := tYes) own hx hN hi ok hg (fun _ _ _ _ _ _ => cd_nil) he hs
theorem ed_compH1 (own : List (Str × Nat)) (hx : HotX X G nm) (hN : X.N.Nodup) (hi : IDH X G Wx tg iter it) (ok : BlkOk X.N X.env.scope scope own)
    (hg : ∀ (p : Addr × Obj) (s : Shared) (H : Hp) (C : Addr) (cl : List (Str × Addr)) (fp : List Addr), L2H.HotC (BlkH X p scope s H (compEnvC scope cl C X.env) fp) → GDv (BlkH X p scope s H (compEnvC scope cl C X.env) fp) G (own.map (·.2)) tg g)
    (ht : ∀ (p : Addr × Obj) (s : Shared) (H : Hp) (C : Addr) (cl : List (Str × Addr)) (fp : List Addr), TD (BlkH X p scope s H (compEnvC scope cl C X.env) fp) G W0 c t)
    (he : ∀ (p : Addr × Obj) (s : Shared) (H : Hp) (C : Addr) (cl : List (Str × Addr)) (fp : List Addr), ED (BlkH X p scope s H (compEnvC scope cl C X.env) fp) G W0 elt fe) (hs : ∀ x, foldedSetIterable iter X.env x = pure x := by intro _; rfl) :
    ED X G Wx (.ListComp elt [⟨tg, iter, [c], 0⟩] scope pos) (eComp (own.map (·.2)) it g t fe) := ed_compH (tt := tT X.K X.mg G W0 t) own hx hN hi ok hg (fun p s H C cl fp => cd_one (ht p s H C cl fp)) he hs
theorem sd_setCompH1 {i : Nat} {y : Str} {py spos : Pos} (own : List (Str × Nat)) (hx : HotX X G nm) (hN : X.N.Nodup) (hy : X.N[i]? = some y) (hyl : X.env.scope.names.lookup y = some .local)
    (hsw : swapsWith (.ListComp elt [⟨tg, iter, [c], 0⟩] scope pos) (some (.Name y py)) spos.line X.env = pure true) (hi : IDH X G Wx tg iter it) (ok : BlkOk X.N X.env.scope scope own)
    (hg : ∀ (p : Addr × Obj) (s : Shared) (H : Hp) (C : Addr) (cl : List (Str × Addr)) (fp : List Addr), L2H.HotC (BlkH X p scope s H (compEnvC scope cl C X.env) fp) → GDv (BlkH X p scope s H (compEnvC scope cl C X.env) fp) G (own.map (·.2)) tg g)
    (ht : ∀ (p : Addr × Obj) (s : Shared) (H : Hp) (C : Addr) (cl : List (Str × Addr)) (fp : List Addr), TD (BlkH X p scope s H (compEnvC scope cl C X.env) fp) G W0 c t)
    (he : ∀ (p : Addr × Obj) (s : Shared) (H : Hp) (C : Addr) (cl : List (Str × Addr)) (fp : List Addr), ED (BlkH X p scope s H (compEnvC scope cl C X.env) fp) G W0 elt fe) (hs : ∀ x, foldedSetIterable iter X.env x = pure x := by intro _; rfl) :
    SD X G Wx (.Assign [.Name y py] (.ListComp elt [⟨tg, iter, [c], 0⟩] scope pos) spos) (sAsg (eComp (own.map (·.2)) it g t fe) (gSet i)) := sd_setCompH (tt := tT X.K X.mg G W0 t) own hx hN hy hyl hsw hi ok hg (fun p s H C cl fp => cd_one (ht p s H C cl fp)) he hs
end
end DL
namespace DL
open PySem PySem.Spec PyProof.Rows
/-! ### zip of a list and a tuple: the proofs of two tuples, turned -/
section
variable {prog : Program} {w : World} {A : Around} {E : Value → Shared → Prop} {s : Shared}
theorem zipM_next_item {z TI TO i1 i2 l1 l2 : Addr} {k1 k2 : Nat} {xs ys : Array Value} {x y a b : Value} {Q : Value → Shared → Prop} (D : ZipApart z TI TO i1 i2 l1 l2)
    (hz : IsZip s.heap z TI TO .none) (hTI : IsPair s.heap TI (.ref i1) (.ref i2)) (hTO : IsPair s.heap TO a b)
    (h1 : s.heap.IsListIter i1 l1 k1) (h2 : s.heap.IsTupleIter i2 l2 k2) (hl1 : s.heap.IsList l1 xs) (hl2 : s.heap.IsTuple l2 ys) (hx : xs[k1]? = some x) (hy : ys[k2]? = some y)
    (hQ : ∀ h', IsZip h' z TI TO (rawInt s.heap.objs.size) → IsPair h' TO x y → h'.IsListIter i1 l1 (k1 + 1) → h'.IsTupleIter i2 l2 (k2 + 1) → IsPair h' s.heap.objs.size x y → h'.objs.size = s.heap.objs.size + 1 →
      (∀ c o, c ≠ z → c ≠ TO → c ≠ i1 → c ≠ i2 → s.heap.get? c = some o → h'.get? c = some o) → Q (.ref s.heap.objs.size) { s with heap := h' }) :
    wpAny (model prog w) A (Builtin.«zip.__next__» ⟨[.ref z], []⟩) (fun fin s' => ∃ v, fin = .done (.ret v) ∧ Q v s') E s := by
  show wpAny _ _ (field (.ref z) 2 >>= _) _ _ _
  refine wpAny_bind (wpAny_field hz rfl (x := .bool false) rfl ?_)
  show wpAny _ _ (field (.ref z) 3 >>= _) _ _ _
  refine wpAny_bind (wpAny_field hz rfl (x := .ref TI) rfl ?_)
  refine wpAny_bind (wpAny_seqItems hTI rfl ?_)
  show wpAny _ _ (Builtin.SmallTypes.ownedTupleIsFree (.ref z) >>= _) _ _ _
  refine wpAny_bind ?_
  unfold Builtin.SmallTypes.ownedTupleIsFree
  refine wpAny_bind (wpAny_field hz rfl (x := .none) rfl (wpAny_pure ?_))
  simp only [if_true]
  refine wpAny_bind (wpAny_rule ?_)
  refine wpAny_bind (wpAny_field hz rfl (x := .ref TO) rfl ?_)
  refine wpAny_bind (wpAny_setField_rec hz (by simp) fun h₁ hz₁ hs₁ => ?_)
  replace hz₁ : IsZip h₁ z TI TO .ellipsis := hz₁
  refine wpAny_bind ?_
  simp only [List.zipIdx_cons, List.zipIdx_nil, List.forIn_cons, List.forIn_nil]
  refine wpAny_bind (wpAny_bind (wpAny_onRaise ?_))
  show wpAny _ _ (Builtin.SmallTypes.nextOf (.ref i1) >>= _) _ _ _
  refine wpAny_bind (wpAny_nextOf_list_item (h1.extBut hs₁.extBut D.i1z) (hl1.extBut hs₁.extBut D.l1z) hx fun h₂ h1₂ hs₂ => wpAny_pure ?_)
  have hTO₂ : IsPair h₂ TO a b := hs₂.extBut _ _ D.TOi1 (hs₁.extBut _ _ D.TOz hTO)
  refine wpAny_bind (wpAny_seqItems hTO₂ rfl ?_)
  refine wpAny_bind (wpAny_updateSeq_pair hTO₂ fun h₃ hTO₃ hs₃ => ?_)
  replace hTO₃ : IsPair h₃ TO x b := hTO₃
  refine wpAny_bind (wpAny_letGo (wpAny_pure ?_))
  refine wpAny_bind (wpAny_bind (wpAny_onRaise ?_))
  show wpAny _ _ (Builtin.SmallTypes.nextOf (.ref i2) >>= _) _ _ _
  refine wpAny_bind (RZ.nextOf_tuple_item (((h2.extBut hs₁.extBut D.i2z).extBut hs₂.extBut D.i12.symm).extBut hs₃.extBut D.TOi2.symm)
    (((hl2.extBut hs₁.extBut D.l2z).extBut hs₂.extBut D.l2i1).extBut hs₃.extBut D.l2TO) hy fun h₄ h2₄ hs₄ => wpAny_pure ?_)
  have hTO₄ : IsPair h₄ TO x b := hs₄.extBut _ _ D.TOi2 hTO₃
  refine wpAny_bind (wpAny_seqItems hTO₄ rfl ?_)
  refine wpAny_bind (wpAny_updateSeq_pair hTO₄ fun h₅ hTO₅ hs₅ => ?_)
  replace hTO₅ : IsPair h₅ TO x y := hTO₅
  refine wpAny_bind (wpAny_letGo (wpAny_pure (wpAny_pure ?_)))
  refine wpAny_bind (wpAny_seqItems hTO₅ rfl ?_)
  refine wpAny_bind (wpAny_newTuple ?_)
  have hsz : h₅.objs.size = s.heap.objs.size := by rw [hs₅.1, hs₄.1, hs₃.1, hs₂.1, hs₁.1]
  have hz₅ : IsZip h₅ z TI TO .ellipsis := hs₅.extBut _ _ D.TOz.symm (hs₄.extBut _ _ D.i2z.symm (hs₃.extBut _ _ D.TOz.symm (hs₂.extBut _ _ D.i1z.symm hz₁)))
  have hk₅ : ∀ c o, c ≠ z → c ≠ TO → c ≠ i1 → c ≠ i2 → s.heap.get? c = some o → h₅.get? c = some o := fun c o c1 c2 c3 c4 e =>
    hs₅.extBut _ _ c2 (hs₄.extBut _ _ c4 (hs₃.extBut _ _ c2 (hs₂.extBut _ _ c3 (hs₁.extBut _ _ c1 e))))
  have h1₅ : h₅.IsListIter i1 l1 (k1 + 1) := ((h1₂.extBut hs₃.extBut D.TOi1.symm).extBut hs₄.extBut D.i12).extBut hs₅.extBut D.TOi1.symm
  have h2₅ : h₅.IsTupleIter i2 l2 (k2 + 1) := h2₄.extBut hs₅.extBut D.TOi2.symm
  have hzlt : z < h₅.objs.size := Heap.lt_size hz₅
  have hTOlt : TO < h₅.objs.size := Heap.lt_size hTO₅
  have hi1lt : i1 < h₅.objs.size := by obtain ⟨_, e, _⟩ := h1₅; exact Heap.lt_size e
  have hi2lt : i2 < h₅.objs.size := by obtain ⟨_, e, _⟩ := h2₅; exact Heap.lt_size e
  show wpAny _ _ (Builtin.SmallTypes.ownedTupleHandOut (.ref z) (.ref h₅.objs.size) >>= _) _ _ _
  refine wpAny_bind ?_
  unfold Builtin.SmallTypes.ownedTupleHandOut
  have hz₆ : IsZip (h₅.push { cls := .type "tuple", data := .seq #[x, y] }) z TI TO .ellipsis := Heap.get?_push_of_some _ hz₅
  refine wpAny_bind (wpAny_setField_rec hz₆ (by simp) fun h₇ hz₇ hs₇ => ?_)
  replace hz₇ : IsZip h₇ z TI TO (rawInt h₅.objs.size) := hz₇
  refine wpAny_setField_rec hz₇ (by simp) fun h₈ hz₈ hs₈ => ?_
  replace hz₈ : IsZip h₈ z TI TO (rawInt h₅.objs.size) := hz₈
  have up : ∀ c o, c ≠ z → h₅.get? c = some o → h₈.get? c = some o := fun c o c1 e => hs₈.extBut _ _ c1 (hs₇.extBut _ _ c1 (Heap.get?_push_of_some _ e))
  have hT₈ : IsPair h₈ h₅.objs.size x y := hs₈.extBut _ _ (Nat.ne_of_gt hzlt) (hs₇.extBut _ _ (Nat.ne_of_gt hzlt) (Heap.get?_push_size _ rfl))
  have hz8 : h₈.objs.size = h₅.objs.size + 1 := by rw [hs₈.1, hs₇.1, Heap.size_push]
  rw [hsz] at hz₈ hT₈ hz8
  refine wpAny_pure ⟨_, rfl, ?_⟩
  show Q (.ref h₅.objs.size) _
  rw [hsz]
  exact hQ h₈ hz₈ (up _ _ D.TOz hTO₅) (h1₅.at fun o e => up _ o D.i1z e) (h2₅.at fun o e => up _ o D.i2z e) hT₈ hz8 fun c o c1 c2 c3 c4 e => up c o c1 (hk₅ c o c1 c2 c3 c4 e)
theorem zipM_next_end {z TI TO i1 i2 l1 l2 : Addr} {k1 k2 : Nat} {xs ys : Array Value} {a b : Value} {Q : Fin → Shared → Prop} (hh : A.handled = none) (D : ZipApart z TI TO i1 i2 l1 l2)
    (hz : IsZip s.heap z TI TO .none) (hTI : IsPair s.heap TI (.ref i1) (.ref i2)) (hTO : IsPair s.heap TO a b)
    (h1 : s.heap.IsListIter i1 l1 k1) (h2 : s.heap.IsTupleIter i2 l2 k2) (hl1 : s.heap.IsList l1 xs) (hl2 : s.heap.IsTuple l2 ys) (hend : xs[k1]? = none ∨ ys[k2]? = none)
    (hE : ∀ h' e, (∀ c o, c ≠ z → c ≠ TO → c ≠ i1 → c ≠ i2 → s.heap.get? c = some o → h'.get? c = some o) → (∃ o, h'.get? e = some o ∧ o.cls = .type "StopIteration") → E (.ref e) { s with heap := h' }) :
    wpAny (model prog w) A (Builtin.«zip.__next__» ⟨[.ref z], []⟩) Q E s := by
  show wpAny _ _ (field (.ref z) 2 >>= _) _ _ _
  refine wpAny_bind (wpAny_field hz rfl (x := .bool false) rfl ?_)
  show wpAny _ _ (field (.ref z) 3 >>= _) _ _ _
  refine wpAny_bind (wpAny_field hz rfl (x := .ref TI) rfl ?_)
  refine wpAny_bind (wpAny_seqItems hTI rfl ?_)
  show wpAny _ _ (Builtin.SmallTypes.ownedTupleIsFree (.ref z) >>= _) _ _ _
  refine wpAny_bind ?_
  unfold Builtin.SmallTypes.ownedTupleIsFree
  refine wpAny_bind (wpAny_field hz rfl (x := .none) rfl (wpAny_pure ?_))
  simp only [if_true]
  refine wpAny_bind (wpAny_rule ?_)
  refine wpAny_bind (wpAny_field hz rfl (x := .ref TO) rfl ?_)
  refine wpAny_bind (wpAny_setField_rec hz (by simp) fun h₁ hz₁ hs₁ => ?_)
  replace hz₁ : IsZip h₁ z TI TO .ellipsis := hz₁
  refine wpAny_bind ?_
  simp only [List.zipIdx_cons, List.zipIdx_nil, List.forIn_cons, List.forIn_nil]
  refine wpAny_bind (wpAny_bind (wpAny_onRaise ?_))
  show wpAny _ _ (Builtin.SmallTypes.nextOf (.ref i1) >>= _) _ _ _
  cases hx : xs[k1]? with
  | none =>
    refine wpAny_bind (wpAny_nextOf_list_end hh (h1.extBut hs₁.extBut D.i1z) (hl1.extBut hs₁.extBut D.l1z) hx fun h₂ e hs₂ he => ?_)
    obtain ⟨oe, hoe, hce⟩ := he
    have hz₂ : IsZip h₂ z TI TO .ellipsis := hs₂ _ _ D.i1z.symm hz₁
    have hez : e ≠ z := fun x => by subst x; rw [hz₂] at hoe; cases hoe; simp at hce
    refine wpAny_setField_rec hz₂ (by simp) fun h₃ _ hs₃ => hE h₃ e (fun c o c1 _ c3 _ x => hs₃.extBut _ _ c1 (hs₂ _ _ c3 (hs₁.extBut _ _ c1 x))) ⟨oe, hs₃.extBut _ _ hez hoe, hce⟩
  | some x =>
    have hy : ys[k2]? = none := by rcases hend with h | h; rw [hx] at h; cases h; exact h
    refine wpAny_bind (wpAny_nextOf_list_item (h1.extBut hs₁.extBut D.i1z) (hl1.extBut hs₁.extBut D.l1z) hx fun h₂ h1₂ hs₂ => wpAny_pure ?_)
    have hTO₂ : IsPair h₂ TO a b := hs₂.extBut _ _ D.TOi1 (hs₁.extBut _ _ D.TOz hTO)
    refine wpAny_bind (wpAny_seqItems hTO₂ rfl ?_)
    refine wpAny_bind (wpAny_updateSeq_pair hTO₂ fun h₃ hTO₃ hs₃ => ?_)
    refine wpAny_bind (wpAny_letGo (wpAny_pure ?_))
    refine wpAny_bind (wpAny_bind (wpAny_onRaise ?_))
    show wpAny _ _ (Builtin.SmallTypes.nextOf (.ref i2) >>= _) _ _ _
    refine wpAny_bind (RZ.nextOf_tuple_end hh (((h2.extBut hs₁.extBut D.i2z).extBut hs₂.extBut D.i12.symm).extBut hs₃.extBut D.TOi2.symm)
      (((hl2.extBut hs₁.extBut D.l2z).extBut hs₂.extBut D.l2i1).extBut hs₃.extBut D.l2TO) hy fun h₄ e hs₄ he => ?_)
    obtain ⟨oe, hoe, hce⟩ := he
    have hz₄ : IsZip h₄ z TI TO .ellipsis := hs₄ _ _ D.i2z.symm (hs₃.extBut _ _ D.TOz.symm (hs₂.extBut _ _ D.i1z.symm hz₁))
    have hez : e ≠ z := fun x => by subst x; rw [hz₄] at hoe; cases hoe; simp at hce
    refine wpAny_setField_rec hz₄ (by simp) fun h₅ _ hs₅ => hE h₅ e (fun c o c1 c2 c3 c4 x => hs₅.extBut _ _ c1 (hs₄ _ _ c4 (hs₃.extBut _ _ c2 (hs₂.extBut _ _ c3 (hs₁.extBut _ _ c1 x))))) ⟨oe, hs₅.extBut _ _ hez hoe, hce⟩
theorem pyNext_zipM_item {z TI TO i1 i2 l1 l2 : Addr} {k1 k2 : Nat} {xs ys : Array Value} {x y a b : Value} {Q : Option Value → Shared → Prop} (D : ZipApart z TI TO i1 i2 l1 l2)
    (hz : IsZip s.heap z TI TO .none) (hTI : IsPair s.heap TI (.ref i1) (.ref i2)) (hTO : IsPair s.heap TO a b)
    (h1 : s.heap.IsListIter i1 l1 k1) (h2 : s.heap.IsTupleIter i2 l2 k2) (hl1 : s.heap.IsList l1 xs) (hl2 : s.heap.IsTuple l2 ys) (hx : xs[k1]? = some x) (hy : ys[k2]? = some y)
    (hQ : ∀ h', IsZip h' z TI TO (rawInt s.heap.objs.size) → IsPair h' TO x y → h'.IsListIter i1 l1 (k1 + 1) → h'.IsTupleIter i2 l2 (k2 + 1) → IsPair h' s.heap.objs.size x y → h'.objs.size = s.heap.objs.size + 1 →
      (∀ c o, c ≠ z → c ≠ TO → c ≠ i1 → c ≠ i2 → s.heap.get? c = some o → h'.get? c = some o) → Q (some (.ref s.heap.objs.size)) { s with heap := h' }) :
    wpAny (model prog w) A (pyNext (.ref z)) Q E s := by
  have hT : s.TypeIs (.ref z) "zip" := ⟨_, hz, rfl⟩
  unfold pyNext
  exact wpAny_bind (wpAny_attempt (wpAny_callSpecial?_slot (name := Str.ofString "__next__") hT F.slot_zip_next
    (wpAny_call_entry F.slot_zip_next hT F.entry_zip_next
      (zipM_next_item D hz hTI hTO h1 h2 hl1 hl2 hx hy fun h' a1 a2 a3 a4 a5 a6 a7 => wpAny_pure (hQ h' a1 a2 a3 a4 a5 a6 a7)) (F.args_zip_next_1 _))))
theorem pyNext_zipM_end {z TI TO i1 i2 l1 l2 : Addr} {k1 k2 : Nat} {xs ys : Array Value} {a b : Value} {Q : Option Value → Shared → Prop} (hh : A.handled = none) (D : ZipApart z TI TO i1 i2 l1 l2)
    (hz : IsZip s.heap z TI TO .none) (hTI : IsPair s.heap TI (.ref i1) (.ref i2)) (hTO : IsPair s.heap TO a b)
    (h1 : s.heap.IsListIter i1 l1 k1) (h2 : s.heap.IsTupleIter i2 l2 k2) (hl1 : s.heap.IsList l1 xs) (hl2 : s.heap.IsTuple l2 ys) (hend : xs[k1]? = none ∨ ys[k2]? = none)
    (hQ : ∀ h', (∀ c o, c ≠ z → c ≠ TO → c ≠ i1 → c ≠ i2 → s.heap.get? c = some o → h'.get? c = some o) → Q none { s with heap := h' }) : wpAny (model prog w) A (pyNext (.ref z)) Q E s := by
  have hT : s.TypeIs (.ref z) "zip" := ⟨_, hz, rfl⟩
  unfold pyNext
  refine wpAny_bind (wpAny_attempt (wpAny_callSpecial?_slot (name := Str.ofString "__next__") hT F.slot_zip_next
    (wpAny_call_entry F.slot_zip_next hT F.entry_zip_next (zipM_next_end hh D hz hTI hTO h1 h2 hl1 hl2 hend fun h' e hk he => ?_) (F.args_zip_next_1 _))))
  obtain ⟨o, ho, hc⟩ := he
  refine wpAny_bind (wpAny_isInstance (T := "StopIteration") (b := true) ⟨o, ho, hc⟩ isSubtype_stop ?_)
  exact wpAny_pure (hQ _ hk)
end
abbrev zipMH1 (h : Heap) (l1 : Addr) : Heap := h.push { cls := .type "list_iterator", data := .fields #[.ref l1, .int 0 0] }
abbrev zipMH2 (h : Heap) (l1 l2 : Addr) : Heap := (zipMH1 h l1).push { cls := .type "tuple_iterator", data := .fields #[.ref l2, .int 0 0] }
abbrev zipMH3 (h : Heap) (l1 l2 : Addr) : Heap := (zipMH2 h l1 l2).push { cls := .type "tuple", data := .seq #[.ref h.objs.size, .ref (zipMH1 h l1).objs.size] }
abbrev zipMH4 (h : Heap) (l1 l2 : Addr) : Heap := (zipMH3 h l1 l2).push { cls := .type "tuple", data := .seq #[.none, .none] }
abbrev zipMH5 (h : Heap) (l1 l2 : Addr) : Heap := (zipMH4 h l1 l2).push { cls := .type "zip", data := .fields #[.none, .bool false, .bool false, .ref (zipMH2 h l1 l2).objs.size, .ref (zipMH3 h l1 l2).objs.size] }
theorem meets_zipM_new (l1 l2 : Addr) (xs ys : Array Value) :
    Meets (Builtin.«zip.__new__» ⟨[.type "zip", .ref l1, .ref l2], []⟩) (fun _ R s => s.heap.IsList l1 xs ∧ s.heap.IsTuple l2 ys ∧
      R (.ok (.ret (.ref (zipMH4 s.heap l1 l2).objs.size))) { s with heap := zipMH5 s.heap l1 l2 }) :=
  .of_wp fun prog w A R s h => by
    obtain ⟨hp, g, d, tk, os⟩ := s; obtain ⟨hl1, hl2, h⟩ := h
    have hsub := sub_zip
    have hL1 : Heap.IsList (Shared.heap ⟨hp, g, d, tk, os⟩) l1 xs := hl1
    have hL2 : Heap.IsTuple (Shared.heap ⟨hp.push { cls := .type "list_iterator", data := .fields #[.ref l1, .int 0 0] }, g, d, tk, os⟩) l2 ys := Heap.IsTuple.push hl2 _
    wp_walk using wpAny_pyIter_list hL1, wpAny_pyIter_tuple hL2
    exact ⟨_, rfl, h⟩
section
variable {prog : Program} {w : World} {A : Around} {E : Value → Shared → Prop} {s : Shared}
theorem call_zipM {l1 l2 : Addr} {xs ys : Array Value} {Q : Value → Shared → Prop} (hl1 : s.heap.IsList l1 xs) (hl2 : s.heap.IsTuple l2 ys)
    (h : ∀ h', IsZip h' (s.heap.objs.size + 4) (s.heap.objs.size + 2) (s.heap.objs.size + 3) .none → IsPair h' (s.heap.objs.size + 2) (.ref s.heap.objs.size) (.ref (s.heap.objs.size + 1)) →
      IsPair h' (s.heap.objs.size + 3) .none .none → h'.IsListIter s.heap.objs.size l1 0 → h'.IsTupleIter (s.heap.objs.size + 1) l2 0 → h'.objs.size = s.heap.objs.size + 5 →
      (∀ c o, s.heap.get? c = some o → h'.get? c = some o) → Q (.ref (s.heap.objs.size + 4)) { s with heap := h' }) :
    wpAny (model prog w) A (call (.type "zip") [.ref l1, .ref l2]) Q E s := by
  refine callType_new F.called_zip (by decide) (F.typeCall_zip_2 _ _) (F.newCall_zip_2 _ _) (fun obj => F.args_object_init_3 obj _ _) F.entry_zip_new
    (meets_zipM_new l1 l2 xs ys) ⟨hl1, hl2, ?_⟩
  have z1 : (zipMH1 s.heap l1).objs.size = s.heap.objs.size + 1 := Heap.size_push ..
  have z2 : (zipMH2 s.heap l1 l2).objs.size = s.heap.objs.size + 2 := by rw [Heap.size_push, z1]
  have z3 : (zipMH3 s.heap l1 l2).objs.size = s.heap.objs.size + 3 := by rw [Heap.size_push, z2]
  have z4 : (zipMH4 s.heap l1 l2).objs.size = s.heap.objs.size + 4 := by rw [Heap.size_push, z3]
  have z5 : (zipMH5 s.heap l1 l2).objs.size = s.heap.objs.size + 5 := by rw [Heap.size_push, z4]
  have g5 : (zipMH5 s.heap l1 l2).get? (zipMH4 s.heap l1 l2).objs.size = some _ := Heap.get?_push_size _ rfl
  have g4 : (zipMH5 s.heap l1 l2).get? (zipMH3 s.heap l1 l2).objs.size = some _ := Heap.get?_push_of_some _ (Heap.get?_push_size _ rfl)
  have g3 : (zipMH5 s.heap l1 l2).get? (zipMH2 s.heap l1 l2).objs.size = some _ := Heap.get?_push_of_some _ (Heap.get?_push_of_some _ (Heap.get?_push_size _ rfl))
  have g2 : (zipMH5 s.heap l1 l2).get? (zipMH1 s.heap l1).objs.size = some _ := Heap.get?_push_of_some _ (Heap.get?_push_of_some _ (Heap.get?_push_of_some _ (Heap.get?_push_size _ rfl)))
  have g1 : (zipMH5 s.heap l1 l2).get? s.heap.objs.size = some _ := Heap.get?_push_of_some _ (Heap.get?_push_of_some _ (Heap.get?_push_of_some _ (Heap.get?_push_of_some _ (Heap.get?_push_size _ rfl))))
  show _ ∧ _
  rw [z2, z3, z4] at g5
  rw [z1, z2] at g3
  rw [z3] at g4
  rw [z1] at g2
  rw [z4]
  exact ⟨⟨_, g5, rfl⟩, h _ g5 g3 g4 ⟨_, g1, rfl, rfl⟩ ⟨_, g2, rfl, rfl⟩ z5 fun c o x =>
    Heap.get?_push_of_some _ (Heap.get?_push_of_some _ (Heap.get?_push_of_some _ (Heap.get?_push_of_some _ (Heap.get?_push_of_some _ x))))⟩
end
section
open L2
def ItzM (K : PySem.W.Frag) (a b : Addr) : It :=
  ⟨fun i H => ∃ (xs ys : List V) (x y : V), SqL K H a xs ∧ SqT K H b ys ∧ xs[i]? = some x ∧ ys[i]? = some y,
    fun i H v H' => ∃ T x y, v = .ref T ∧ H T = none ∧ H' = upd H T (.tup [x, y]) ∧ (∀ xs, SqL K H a xs → xs[i]? = some x) ∧ ∀ ys, SqT K H b ys → ys[i]? = some y,
    fun i H => ∃ xs ys : List V, SqL K H a xs ∧ SqT K H b ys ∧ (xs.length ≤ i ∨ ys.length ≤ i)⟩
theorem turn_zipM {P : Program} {w : World} {K : PySem.W.Frag} {elts : List Expr} {kk : Nat} {tpos : Pos} {a b z TI TO i1 i2 : Addr} (D : ZipApart z TI TO i1 i2 a b) :
    Turn P w K (.Tuple elts kk tpos) (ItzM K a b) [z, TI, TO, i1, i2] z (fun i h => IsZip h z TI TO .none ∧ IsPair h TI (.ref i1) (.ref i2) ∧ (∃ x y, IsPair h TO x y) ∧ h.IsListIter i1 a i ∧ h.IsTupleIter i2 b i) where
  mem := by simp
  obj := fun i h st c hc => by
    obtain ⟨hz, hTI, ⟨x, y, hTO⟩, ⟨o1, e1, _, d1⟩, ⟨o2, e2, _, d2⟩⟩ := st
    have e' : c = z ∨ c = TI ∨ c = TO ∨ c = i1 ∨ c = i2 := by simpa using hc
    rcases e' with q | q | q | q | q
    · rw [q]; exact ⟨_, hz, fun v q => nomatch q⟩
    · rw [q]; exact ⟨_, hTI, fun v q => nomatch q⟩
    · rw [q]; exact ⟨_, hTO, fun v q => nomatch q⟩
    · rw [q]; exact ⟨o1, e1, fun v q => by rw [d1] at q; cases q⟩
    · rw [q]; exact ⟨o2, e2, fun v q => by rw [d2] at q; cases q⟩
  keep := fun i h h' st k => by
    obtain ⟨hz, hTI, ⟨x, y, hTO⟩, h1, h2⟩ := st
    exact ⟨k z (by simp) _ hz, k TI (by simp) _ hTI, ⟨x, y, k TO (by simp) _ hTO⟩, h1.at fun o q => k i1 (by simp) o q, h2.at fun o q => k i2 (by simp) o q⟩
  item := by
    intro X hP hw hK hc i pins s σ H E I hf st hg
    subst hP hw hK
    obtain ⟨hz, hTI, ⟨x0, y0, hTO⟩, h1, h2⟩ := st
    obtain ⟨xs, ys, x, y, hqx, hqy, hx, hy⟩ := hg
    obtain ⟨its, rv, p, _⟩ := I.list hqx
    obtain ⟨its2, rv2, p2, _⟩ := I.tuple hqy
    obtain ⟨u, hu, ru⟩ := rv.get hx
    obtain ⟨u2, hu2, ru2⟩ := rv2.get hy
    have hzl : z < s.heap.objs.size := Heap.lt_size hz
    refine pyNext_zipM_item D hz hTI hTO h1 h2 p.isList p2 (x := u) (y := u2) (by simpa using hu) (by simpa using hu2) fun h' z' TO' h1' h2' hT hsz hk => ?_
    refine ⟨_, rfl, wpAny_letOwnedTupleGo_zip (s := { s with heap := h' }) z' fun h'' z'' sb => ?_⟩
    have hT2 : h''.get? s.heap.objs.size = some { cls := .type "tuple", data := .seq #[u, u2] } := (sb.2 _ (Nat.ne_of_gt hzl)).trans hT
    have new : ObjOk X.prog X.w (upd H s.heap.objs.size (.tup [x, y])) h'' s.heap.objs.size (.tup [x, y]) :=
      ⟨by show 2 ≤ sizeLine; decide, [u, u2], .cons ru (.cons ru2 .nil), ⟨_, hT2, rfl, _, rfl⟩⟩
    have I1 : Inv X pins σ (upd H s.heap.objs.size (.tup [x, y])) { s with heap := h'' } :=
      I.turnedNew (t' := s.toks) (ch := [z, TI, TO, i1, i2]) (fun c o hb q => (sb.2 c (fun q' => hb (by simp [q']))).trans (hk c o (fun q' => hb (by simp [q'])) (fun q' => hb (by simp [q'])) (fun q' => hb (by simp [q'])) (fun q' => hb (by simp [q'])) q)) hf (Nat.le_refl _) new
    refine ⟨.ref s.heap.objs.size, _, I1, rfl, ⟨_, x, y, rfl, I.hok.fresh (Nat.le_refl _), rfl, fun l hl => by rw [I.list_inj hl hqx]; exact hx, fun l hl => by rw [I.tuple_inj hl hqy]; exact hy⟩, ⟨z'', ?_, ⟨u, u2, ?_⟩, ?_, ?_⟩, fun c hcm => ?_⟩
    · exact (sb.2 _ D.TIz).trans (hk _ _ D.TIz D.TITO D.TIi1 D.TIi2 hTI)
    · exact (sb.2 _ D.TOz).trans TO'
    · exact h1'.at fun o q => (sb.2 _ D.i1z).trans q
    · exact h2'.at fun o q => (sb.2 _ D.i2z).trans q
    · have hlt : c < s.heap.objs.size := by
        have e' : c = z ∨ c = TI ∨ c = TO ∨ c = i1 ∨ c = i2 := by simpa using hcm
        rcases e' with q | q | q | q | q
        · rw [q]; exact hzl
        · rw [q]; exact Heap.lt_size hTI
        · rw [q]; exact Heap.lt_size hTO
        · rw [q]; obtain ⟨_, e1, _⟩ := h1; exact Heap.lt_size e1
        · rw [q]; obtain ⟨_, e2, _⟩ := h2; exact Heap.lt_size e2
      rw [upd_ne (Nat.ne_of_lt hlt)]
      exact (hf c hcm).1
  done := by
    intro X hP hw hK hc i pins s σ H E I hf st hg
    subst hP hw hK
    obtain ⟨hz, hTI, ⟨x0, y0, hTO⟩, h1, h2⟩ := st
    obtain ⟨xs, ys, hqx, hqy, hend⟩ := hg
    obtain ⟨its, rv, p, _⟩ := I.list hqx
    obtain ⟨its2, rv2, p2, _⟩ := I.tuple hqy
    have l1 := rv.length
    have l2 := rv2.length
    have he : its.toArray[i]? = none ∨ its2.toArray[i]? = none := by
      rcases hend with q | q
      · exact .inl (by simp; omega)
      · exact .inr (by simp; omega)
    exact pyNext_zipM_end (I.ok.hd hc) D hz hTI hTO h1 h2 p.isList p2 he fun h' hk => ⟨rfl, I.turnedL (t' := s.toks) (ch := [z, TI, TO, i1, i2]) (fun c o hb q =>
      hk c o (fun q' => hb (by simp [q'])) (fun q' => hb (by simp [q'])) (fun q' => hb (by simp [q'])) (fun q' => hb (by simp [q'])) q) hf⟩
  self := fun A i s Q E st h => wpAny_pyIter_zip st.1 h
end
end DL
namespace DL
open PySem PySem.Spec PyProof.Rows L2
section
variable {K : PySem.W.Frag} {mg : Str → Option Value} {X : Cx} {G : Gm} {Wx : WX} {e e2 : Expr} {pos : Pos}
variable {P P' : Addr → Prop} {A A' A1 : List (Option Addr)} {σ σ' : L2.St} {L L' L1 : List Addr} {H H' H1 : Hp} {s s' : S}
def iZipB (K : PySem.W.Frag) (ta : TA) : TI := fun σ H R => ta σ H fun vs H1 => ∃ a b xs ys, vs = [.ref a, .ref b] ∧ ((SqL K H1 a xs ∧ SqL K H1 b ys ∧ R (Itz K a b) H1) ∨ (SqT K H1 a xs ∧ SqT K H1 b ys ∧ R (RZ.ItzT K a b) H1) ∨ (SqL K H1 a xs ∧ SqT K H1 b ys ∧ R (ItzM K a b) H1))
theorem pi_zipB {ta : TA} {p pos tpos : Pos} {elts : List Expr} {kk : Nat} (hg : Gl X "zip") (hm : X.mg "zip" = none) (ha : PA X [e, e2] ta)
    (hs : starEach [e, e2] X.env = (false, eval e X.env) :: starEach [e2] X.env := by rfl) (hpl : (backTo pos (starEach [e2] X.env)).any (·.1) = false := by rfl) :
    PI X (.Tuple elts kk tpos) (.Call (.Name "zip" p) [e, e2] [] pos) (iZipB X.K ta) := by
  refine ⟨fun pins s σ H R I h => ?_⟩
  refine Call_ (ld_blt I hg hm PyProof.Rows.boot_zip (PyProof.Rows.callWith_type1 (thn (ha.run pos pins s σ H _ I h) fun us s1 ⟨vs, H1, I1, r1, q1⟩ => ?_) hs hpl))
  obtain ⟨a, b, xs, ys, ex, q1⟩ := q1
  subst ex
  cases r1 with
  | cons r rr =>
    cases rr with
    | cons r' rr =>
      cases rr
      cases r
      cases r'
      have fresh5 : ∀ c, c ∈ [s1.heap.objs.size + 4, s1.heap.objs.size + 2, s1.heap.objs.size + 3, s1.heap.objs.size, s1.heap.objs.size + 1] → FpOk X pins H1 c := fun c hcm => by
        have hle : s1.heap.objs.size ≤ c := by
          have e' : c = s1.heap.objs.size + 4 ∨ c = s1.heap.objs.size + 2 ∨ c = s1.heap.objs.size + 3 ∨ c = s1.heap.objs.size ∨ c = s1.heap.objs.size + 1 := by simpa using hcm
          rcases e' with z | z | z | z | z
          · rw [z]; exact Nat.le_add_right _ _
          · rw [z]; exact Nat.le_add_right _ _
          · rw [z]; exact Nat.le_add_right _ _
          · rw [z]; exact Nat.le_refl _
          · rw [z]; exact Nat.le_add_right _ _
        exact I1.fpOk hle (I1.hok.fresh hle)
      rcases q1 with ⟨hqx, hqy, q⟩ | ⟨hqx, hqy, q⟩ | ⟨hqx, hqy, q⟩
      · obtain ⟨its, rv, p1, _⟩ := I1.list hqx
        obtain ⟨its2, rv2, p2, _⟩ := I1.list hqy
        refine call_zip_2 p1.isList p2.isList fun h' hz hTI hTO h1 h2 hsz hk => wpAny_pyIter_zip hz ?_
        exact ⟨s1.heap.objs.size + 4, [s1.heap.objs.size + 4, s1.heap.objs.size + 2, s1.heap.objs.size + 3, s1.heap.objs.size, s1.heap.objs.size + 1], _, _, H1, rfl, I1.kept (t' := s1.toks) hk, turn_zip (PySem.W.ktu_apart s1.heap.objs.size a b p1.lt p2.lt), ⟨hz, hTI, ⟨_, _, hTO⟩, h1, h2⟩, fresh5, q⟩
      · obtain ⟨its, rv, p1, _⟩ := I1.tuple hqx
        obtain ⟨its2, rv2, p2, _⟩ := I1.tuple hqy
        obtain ⟨o1, ho1, _⟩ := id p1
        obtain ⟨o2, ho2, _⟩ := id p2
        refine RZ.call_zipT (show s1.heap.IsTuple a its.toArray from p1) (show s1.heap.IsTuple b its2.toArray from p2) fun h' hz hTI hTO h1 h2 hsz hk => wpAny_pyIter_zip hz ?_
        exact ⟨s1.heap.objs.size + 4, [s1.heap.objs.size + 4, s1.heap.objs.size + 2, s1.heap.objs.size + 3, s1.heap.objs.size, s1.heap.objs.size + 1], _, _, H1, rfl, I1.kept (t' := s1.toks) hk, RZ.turn_zipT (PySem.W.ktu_apart s1.heap.objs.size a b (Heap.lt_size ho1) (Heap.lt_size ho2)), ⟨hz, hTI, ⟨_, _, hTO⟩, h1, h2⟩, fresh5, q⟩
      · obtain ⟨its, rv, p1, _⟩ := I1.list hqx
        obtain ⟨its2, rv2, p2, _⟩ := I1.tuple hqy
        obtain ⟨o2, ho2, _⟩ := id p2
        refine call_zipM p1.isList (show s1.heap.IsTuple b its2.toArray from p2) fun h' hz hTI hTO h1 h2 hsz hk => wpAny_pyIter_zip hz ?_
        exact ⟨s1.heap.objs.size + 4, [s1.heap.objs.size + 4, s1.heap.objs.size + 2, s1.heap.objs.size + 3, s1.heap.objs.size, s1.heap.objs.size + 1], _, _, H1, rfl, I1.kept (t' := s1.toks) hk, turn_zipM (PySem.W.ktu_apart s1.heap.objs.size a b p1.lt (Heap.lt_size ho2)), ⟨hz, hTI, ⟨_, _, hTO⟩, h1, h2⟩, fresh5, q⟩
theorem itzM_ok {p q : Addr} {vs us : List V} {ds es : List D} (h : ScrOk K (Bd P A L) H p vs) (r : Reps K mg (Bd P A L) H ds vs) (h2 : TupOk K (Bd P A L) H q us) (r2 : Reps K mg (Bd P A L) H es us) : ItOk K mg P A L H (ItzM K p q) (zipD ds es) := by
  intro P' A' L' H' hP st hB
  have h' := (h.step st hP).sq
  have h2' := (h2.step st hP).sq
  have r' : Reps K mg (Bd P' A' L') H' ds vs := r.move (st.mvP hP)
  have r2' : Reps K mg (Bd P' A' L') H' es us := r2.move (st.mvP hP)
  have l1 := r'.length
  have l2 := r2'.length
  refine ⟨fun i hi => ?_, ⟨vs, us, h', h2', by rw [zipD_len]; omega⟩, fun i d x H'' e y => ?_⟩
  · rw [zipD_len] at hi
    obtain ⟨v, e, _⟩ := r'.get (List.getElem?_eq_getElem (show i < ds.length by omega))
    obtain ⟨u, e2, _⟩ := r2'.get (List.getElem?_eq_getElem (show i < es.length by omega))
    exact ⟨vs, us, v, u, h', h2', e, e2⟩
  · obtain ⟨T, v, u, rfl, nT, rfl, y1, y2⟩ := y
    obtain ⟨d1, d2, e2, e3, rfl⟩ := zipD_get e
    obtain ⟨v', f1, rv⟩ := r'.get e2
    obtain ⟨u', f2, ru⟩ := r2'.get e3
    have q1 := y1 vs h'
    have q2 := y2 us h2'
    rw [f1] at q1; rw [f2] at q2
    cases q1; cases q2
    exact ResOk.tup hB nT (reps2 rv ru)
def iZipE (f : AV) : IV := fun s => (f s).bind fun rs s1 => match rs with
  | [.pv (.tup xs), .pv (.tup ys)] => .ok (zipD xs ys) s1
  | [.pv (.lst xs), .pv (.lst ys)] => .ok (zipD xs ys) s1
  | [.pv (.lst xs), .pv (.tup ys)] => .ok (zipD xs ys) s1
  | _ => .bad
theorem id_zipE {p tpos : Pos} {elts : List Expr} {kk : Nat} {f : AV} (hg : Gl X "zip") (hm : X.mg "zip" = none) (ha : AD X G Wx [e, e2] f)
    (hs : starEach [e, e2] X.env = (false, eval e X.env) :: starEach [e2] X.env := by rfl) (hpl : (backTo pos (starEach [e2] X.env)).any (·.1) = false := by rfl) :
    ID X G Wx (.Tuple elts kk tpos) (.Call (.Name "zip" p) [e, e2] [] pos) (iZipE f) := by
  refine ⟨PI.imp (pi_zipB hg hm ha.pa hs hpl) fun σ H R ⟨P, A, L, s, hs, h⟩ => ⟨P, A, L, s, hs, (Run.bind h).imp fun rs s1 _ h1 A1 L1 vs H1 sr ok st => ?_⟩⟩
  split at h1
  · unfold ArgsOk at ok
    obtain ⟨v, t, rfl, o1, ok⟩ := ok
    unfold ArgsOk at ok
    obtain ⟨u, t, rfl, o2, ok⟩ := ok
    unfold ArgsOk at ok
    subst ok
    unfold ArgOk Rep at o1 o2
    obtain ⟨p, vs, rfl, t1, r1⟩ := o1
    obtain ⟨q, us, rfl, t2, r2⟩ := o2
    exact ⟨p, q, vs, us, rfl, .inr (.inl ⟨t1.sq, t2.sq, h1 A1 L1 H1 _ sr (itzT_ok t1 r1 t2 r2) st⟩)⟩
  · unfold ArgsOk at ok
    obtain ⟨v, t, rfl, o1, ok⟩ := ok
    unfold ArgsOk at ok
    obtain ⟨u, t, rfl, o2, ok⟩ := ok
    unfold ArgsOk at ok
    subst ok
    unfold ArgOk Rep at o1 o2
    obtain ⟨p, vs, rfl, t1, n1, r1⟩ := o1
    obtain ⟨q, us, rfl, t2, n2, r2⟩ := o2
    exact ⟨p, q, vs, us, rfl, .inl ⟨SqL.of t1, SqL.of t2, h1 A1 L1 H1 _ sr (itz_ok (.inl ⟨.inl t1, n1⟩) r1 (.inl ⟨.inl t2, n2⟩) r2) st⟩⟩
  · unfold ArgsOk at ok
    obtain ⟨v, t, rfl, o1, ok⟩ := ok
    unfold ArgsOk at ok
    obtain ⟨u, t, rfl, o2, ok⟩ := ok
    unfold ArgsOk at ok
    subst ok
    unfold ArgOk Rep at o1 o2
    obtain ⟨p, vs, rfl, t1, n1, r1⟩ := o1
    obtain ⟨q, us, rfl, t2, r2⟩ := o2
    exact ⟨p, q, vs, us, rfl, .inr (.inr ⟨SqL.of t1, t2.sq, h1 A1 L1 H1 _ sr (itzM_ok (.inl ⟨.inl t1, n1⟩) r1 t2 r2) st⟩)⟩
  · exact h1.elim
end
end DL
namespace DL
open PySem PySem.Spec PyProof.Rows L2
/-! ### a chain of three comparisons, of ints -/
section
variable {K : PySem.W.Frag} {mg : Str → Option Value} {X : Cx} {G : Gm} {Wx : WX} {a b c d : Expr} {ta tb tc td : TE} {fa fb fc fd : EV} {pos : Pos} {r1 r2 r3 : R2} {f1 f2 f3 : Ob2} {o1 o2 o3 : CmpOp}
variable {P P' : Addr → Prop} {A A' A1 : List (Option Addr)} {σ σ' : L2.St} {L L' L1 : List Addr} {H H' H1 : Hp} {s s' : S}
def tChain3 (r r' r'' : R2) (ta tb tc td : TE) : TE := fun σ H Q => ta σ H fun x H1 => tb σ H1 fun y H2 => r x y H2 fun z H3 => ∃ k, z = .bl k ∧
  (if k = true then tc σ H3 fun w H4 => r' y w H4 fun z' H5 => ∃ k', z' = .bl k' ∧ (if k' = true then td σ H5 fun u H6 => r'' w u H6 Q else Q (.bl false) H5) else Q (.bl false) H3)
theorem pe_chain3 (h1 : OpR X (compareOp o1) r1) (h2 : OpR X (compareOp o2) r2) (h3 : OpR X (compareOp o3) r3) (ha : PE X a ta) (hb : PE X b tb) (hc : PE X c tc) (hd : PE X d td)
    (hm : lastMarks [o1, o2, o3] [b, c, d] = false := by with_unfolding_all rfl) : PE X (.Compare a [o1, o2, o3] [b, c, d] pos) (tChain3 r1 r2 r3 ta tb tc td) := by
  refine ⟨fun pins s σ H Q I h => ?_⟩
  refine Compare_chain (thn (ha.run pins s σ H _ I h) fun v s1 ⟨x, H1, I1, q1, w1⟩ => chain_link (thn (hb.run pins s1 σ H1 _ I1 w1) fun u s2 ⟨y, H2, I2, q2, w2⟩ =>
    thn (h1 pins s2 σ H2 x y v u _ I2 q1 q2 w2) fun e s3 ⟨z, H3, I3, q3, k, ek, w3⟩ => ?_)) hm
  subst ek
  cases q3
  refine wpAny_truthy_bool ?_
  cases k with
  | false => exact ite_ff ⟨.bl false, H3, I3, rfl, w3⟩
  | true =>
    refine ite_tt (chain_link (thn (hc.run pins s3 σ H3 _ I3 w3) fun u2 s4 ⟨y2, H4, I4, q4, w4⟩ => thn (h2 pins s4 σ H4 y y2 u u2 _ I4 q2 q4 w4) fun e2 s5 ⟨z2, H5, I5, q5, k2, ek2, w5⟩ => ?_))
    subst ek2
    cases q5
    refine wpAny_truthy_bool ?_
    cases k2 with
    | false => exact ite_ff ⟨.bl false, H5, I5, rfl, w5⟩
    | true => exact ite_tt (chain_last (thn (hd.run pins s5 σ H5 _ I5 w5) fun u3 s6 ⟨y3, H6, I6, q6, w6⟩ => h3 pins s6 σ H6 y2 y3 u2 u3 Q I6 q4 q6 w6))
theorem pt_chain3 (h1 : OpR X (compareOp o1) r1) (h2 : OpR X (compareOp o2) r2) (h3 : OpR X (compareOp o3) r3) (ha : PE X a ta) (hb : PE X b tb) (hc : PE X c tc) (hd : PE X d td)
    (hm : lastMarks [o1, o2, o3] [b, c, d] = false := by with_unfolding_all rfl) : PT X (.Compare a [o1, o2, o3] [b, c, d] pos) (tTest (tChain3 r1 r2 r3 ta tb tc td)) := by
  refine ⟨fun pins s σ H Q I h => ?_⟩
  refine isTrue_chain (thn (ha.run pins s σ H _ I h) fun v s1 ⟨x, H1, I1, q1, w1⟩ => test_link (thn (hb.run pins s1 σ H1 _ I1 w1) fun u s2 ⟨y, H2, I2, q2, w2⟩ =>
    thn (h1 pins s2 σ H2 x y v u _ I2 q1 q2 w2) fun e s3 ⟨z, H3, I3, q3, k, ek, w3⟩ => ?_)) hm
  subst ek
  cases q3
  refine wpAny_truthy_bool ?_
  cases k with
  | false =>
    obtain ⟨k', e', q'⟩ := w3
    cases e'
    exact ite_ff ⟨H3, I3, q'⟩
  | true =>
    refine ite_tt (test_link (thn (hc.run pins s3 σ H3 _ I3 w3) fun u2 s4 ⟨y2, H4, I4, q4, w4⟩ => thn (h2 pins s4 σ H4 y y2 u u2 _ I4 q2 q4 w4) fun e2 s5 ⟨z2, H5, I5, q5, k2, ek2, w5⟩ => ?_))
    subst ek2
    cases q5
    refine wpAny_truthy_bool ?_
    cases k2 with
    | false =>
      obtain ⟨k', e', q'⟩ := w5
      cases e'
      exact ite_ff ⟨H5, I5, q'⟩
    | true =>
      refine ite_tt (test_last (thn (hd.run pins s5 σ H5 _ I5 w5) fun u3 s6 ⟨y3, H6, I6, q6, w6⟩ => thn (h3 pins s6 σ H6 y2 y3 u2 u3 _ I6 q4 q6 w6) fun e3 s7 ⟨z3, H7, I7, q7, k3, ek3, w7⟩ => ?_))
      subst ek3
      cases q7
      exact wpAny_truthy_bool ⟨H7, I7, w7⟩
def lk (f : Ob2) (ra rb : RV) (s : S) (next : Int → S → Rs RV) : Rs RV := match ra, rb with
  | .pv (.int x), .pv (.int y) => match f (.int x) (.int y) with
    | some (.pv (.bl true)) => next y s
    | some (.pv (.bl false)) => .ok (.pv (.bl false)) s
    | _ => .bad
  | _, _ => .bad
def eChain3 (f1 f2 f3 : Ob2) (fa fb fc fd : EV) : EV := fun s => (fa s).bind fun ra s1 => (fb s1).bind fun rb s2 => lk f1 ra rb s2 fun y s3 => (fc s3).bind fun rc s4 => lk f2 (.pv (.int y)) rc s4 fun w s5 => (fd s5).bind fun rd s6 => fin2 f3 (.pv (.int w)) rd s6
theorem lk_ok {f : Ob2} {r : R2} (hv : OpV K mg r f) {ra rb : RV} {x y : V} {A2 : List (Option Addr)} {L2 : List Addr} {H2 : Hp} {s2 : S} {next : Int → S → Rs RV} {Qf : RV → S → Prop} {k : V → Hp → Prop} (hs2 : SR K mg G P A2 L2 s2 σ H2)
    (oa : RVOk K mg G P A2 L2 σ H2 ra x) (ob : RVOk K mg G P A2 L2 σ H2 rb y) (st : Step A L H A2 L2 H2) (h : Run K mg G Wx P A L H σ (lk f ra rb s2 next) Qf)
    (q : ∀ (m : Int) (H3 : Hp), y = .int m → SR K mg G P A2 L2 s2 σ H3 → Step A L H A2 L2 H3 → Run K mg G Wx P A L H σ (next m s2) Qf → k (.bl true) H3)
    (n : ∀ H3 : Hp, SR K mg G P A2 L2 s2 σ H3 → Step A L H A2 L2 H3 → Qf (.pv (.bl false)) s2 → k (.bl false) H3) : r x y H2 k := by
  unfold lk at h
  split at h
  · rename_i i j
    have ex : x = .int i := by have := oa; unfold RVOk Rep at this; exact this
    have ey : y = .int j := by have := ob; unfold RVOk Rep at this; exact this
    subst ex ey
    split at h
    · rename_i e
      refine hv _ _ _ _ _ _ _ _ hs2.there (rd_ok hs2 oa rfl) (rd_ok hs2 ob rfl) e fun z H3 ro => ?_
      have ez : z = .bl true := by have := ro.rep; simpa [Rep] using this
      subst ez
      exact q j H3 rfl (hs2.keep ro.keep fun a z => .inl z) (st.trans (Step.keep ro.keep)) h
    · rename_i e
      refine hv _ _ _ _ _ _ _ _ hs2.there (rd_ok hs2 oa rfl) (rd_ok hs2 ob rfl) e fun z H3 ro => ?_
      have ez : z = .bl false := by have := ro.rep; simpa [Rep] using this
      subst ez
      exact n H3 (hs2.keep ro.keep fun a z => .inl z) (st.trans (Step.keep ro.keep)) h
    · exact h.elim
  · exact h.elim
theorem tE_chain3 (hv1 : OpV K mg r1 f1) (hv2 : OpV K mg r2 f2) (hv3 : OpV K mg r3 f3) {Q : VK} (h : tE K mg G Wx (eChain3 f1 f2 f3 fa fb fc fd) σ H Q) :
    tChain3 r1 r2 r3 (tE K mg G Wx fa) (tE K mg G Wx fb) (tE K mg G Wx fc) (tE K mg G Wx fd) σ H Q := by
  obtain ⟨P, A, L, s, hs, h⟩ := h
  unfold tChain3
  refine (tE_two hs h).mono fun x H1 h1 => h1.mono fun y H2 ⟨A2, L2', s2, ra, rb, hs2, oa, ob, st, h2⟩ => ?_
  have no : ∀ {A3 : List (Option Addr)} {L3 : List Addr} {s3 : S} {H3 : Hp}, SR K mg G P A3 L3 s3 σ H3 → Step A L H A3 L3 H3 → PostE K mg G P A L H σ Q (.pv (.bl false)) s3 → Q (.bl false) H3 := fun {A3 L3 s3 H3} hs3 st3 q =>
    q A3 L3 _ H3 ⟨hs3.lessP (Wi.pv nofun), by show Rep _ _ _ _ _ _; unfold Rep; rfl, OwNew.of nofun, st3, hs.p0⟩
  refine lk_ok hv1 hs2 oa ob st h2 (fun m H3 ey hs3 st3 h3 => ⟨true, rfl, ?_⟩) fun H3 hs3 st3 q => ⟨false, rfl, ?_⟩
  · rw [if_pos rfl]
    subst ey
    refine ⟨P, A2, L2', s2, hs3, ((Run.bind h3).on st3 fun a z => z).imp fun rc s4 _ q A4 L4 w H4 a4 => ?_⟩
    refine lk_ok hv2 a4.weak (by unfold RVOk Rep; rfl) a4.ok (st3.trans a4.st) q (fun m2 H5 ey2 hs5 st5 h5 => ⟨true, rfl, ?_⟩) fun H5 hs5 st5 q => ⟨false, rfl, ?_⟩
    · rw [if_pos rfl]
      subst ey2
      refine ⟨P, A4, L4, s4, hs5, ((Run.bind h5).on st5 fun a z => z).imp fun rd s6 _ q6 A6 L6 u H6 a6 => ?_⟩
      exact run_fin2 hv3 a6.weak hs.p0 (by unfold RVOk Rep; rfl) a6.ok (st5.trans a6.st) q6
    · rw [if_neg (by decide)]
      exact no hs5 st5 q
  · rw [if_neg (by decide)]
    exact no hs3 st3 q
theorem ed_chain3 (h1 : OpR X (compareOp o1) r1) (v1 : OpV X.K X.mg r1 f1) (h2 : OpR X (compareOp o2) r2) (v2 : OpV X.K X.mg r2 f2) (h3 : OpR X (compareOp o3) r3) (v3 : OpV X.K X.mg r3 f3) (ha : ED X G Wx a fa) (hb : ED X G Wx b fb) (hc : ED X G Wx c fc) (hd : ED X G Wx d fd)
    (hm : lastMarks [o1, o2, o3] [b, c, d] = false := by with_unfolding_all rfl) : ED X G Wx (.Compare a [o1, o2, o3] [b, c, d] pos) (eChain3 f1 f2 f3 fa fb fc fd) :=
  ⟨PE.imp (pe_chain3 h1 h2 h3 ha.pe hb.pe hc.pe hd.pe hm) fun σ H Q h => tE_chain3 v1 v2 v3 h⟩
theorem td_chain3 (h1 : OpR X (compareOp o1) r1) (v1 : OpV X.K X.mg r1 f1) (h2 : OpR X (compareOp o2) r2) (v2 : OpV X.K X.mg r2 f2) (h3 : OpR X (compareOp o3) r3) (v3 : OpV X.K X.mg r3 f3) (ha : ED X G Wx a fa) (hb : ED X G Wx b fb) (hc : ED X G Wx c fc) (hd : ED X G Wx d fd)
    (hm : lastMarks [o1, o2, o3] [b, c, d] = false := by with_unfolding_all rfl) : TD X G Wx (.Compare a [o1, o2, o3] [b, c, d] pos) (tOfB (eChain3 f1 f2 f3 fa fb fc fd)) := by
  refine ⟨PT.imp (pt_chain3 h1 h2 h3 ha.pe hb.pe hc.pe hd.pe hm) fun σ H Q ⟨P, A, L, s, hs, h⟩ => ?_⟩
  refine tE_chain3 v1 v2 v3 ⟨P, A, L, s, hs, (Run.bind h).imp fun r s' _ p A' L' v H' at' => ?_⟩
  unfold toB at p
  split at p
  · rename_i b0 _
    have e : v = .bl b0 := by have := at'.ok; unfold RVOk Rep at this; exact this
    exact ⟨b0, e, p A' L' H' (at'.sr.lessP fun _ z => .inl z) at'.st⟩
  · exact p.elim
end
end DL
namespace DL
open PySem PySem.Spec PyProof.Rows L2
/-! ### a dict that a variable owns: keys ints and texts -/
def keyD : D → Option Key
  | .int i => some (.inl i)
  | .str x => some (.inr x)
  | _ => none
def valD (kvs : List (Key × D)) (k : Key) : Option D := (kvs.find? fun kv => decide (kv.1 = k)).map (·.2)
def putD (kvs : List (Key × D)) (k : Key) (d : D) : List (Key × D) :=
  if (kvs.any fun kv => decide (kv.1 = k)) = true then kvs.map (fun kv => if kv.1 = k then (kv.1, d) else kv) else kvs ++ [(k, d)]
section
variable {K : PySem.W.Frag} {mg : Str → Option Value} {X : Cx} {G : Gm} {Wx : WX} {e e2 : Expr} {fe fk fv : EV} {pos : Pos}
variable {P P' : Addr → Prop} {A A' A1 : List (Option Addr)} {σ σ' : L2.St} {L L' L1 : List Addr} {H H' H1 : Hp} {s s' : S} {B : Addr → Prop}
theorem RepK.val (k : Key) : ∀ {kvs : List (Key × D)} {ws : List (Key × V)}, RepK K mg B H kvs ws → match valD kvs k with
    | some d => ∃ v, valV ws k = some v ∧ Rep K mg B H d v
    | none => valV ws k = none
  | [], ws, h => by unfold RepK at h; subst h; rfl
  | (j, d) :: kvs, ws, h => by
    unfold RepK at h
    obtain ⟨v, r, rfl, h1, h2⟩ := h
    by_cases e : j = k
    · have e1 : valD ((j, d) :: kvs) k = some d := by simp [valD, List.find?_cons, e]
      rw [e1, valV_pos e]
      exact ⟨v, rfl, h1⟩
    · have e1 : valD ((j, d) :: kvs) k = valD kvs k := by simp [valD, List.find?_cons, e]
      rw [e1, valV_neg e]
      exact RepK.val k h2
theorem RepK.app : ∀ {a : List (Key × D)} {a' : List (Key × V)} {b : List (Key × D)} {b' : List (Key × V)}, RepK K mg B H a a' → RepK K mg B H b b' → RepK K mg B H (a ++ b) (a' ++ b')
  | [], a', b, b', h, q => by unfold RepK at h; subst h; exact q
  | (j, d) :: a, a', b, b', h, q => by
    unfold RepK at h
    obtain ⟨v, r, rfl, h1, h2⟩ := h
    show RepK K mg B H ((j, d) :: (a ++ b)) ((j, v) :: (r ++ b'))
    unfold RepK
    exact ⟨v, r ++ b', rfl, h1, RepK.app h2 q⟩
theorem RepK.mapK (k : Key) {d : D} {v : V} (hd : Rep K mg B H d v) : ∀ {a : List (Key × D)} {a' : List (Key × V)}, RepK K mg B H a a' → RepK K mg B H (a.map fun kv => if kv.1 = k then (kv.1, d) else kv) (a'.map fun kv => if kv.1 = k then (kv.1, v) else kv)
  | [], a', h => by unfold RepK at h; subst h; unfold RepK; rfl
  | (j, d0) :: a, a', h => by
    unfold RepK at h
    obtain ⟨v0, r, rfl, h1, h2⟩ := h
    have ih := RepK.mapK k hd h2
    by_cases e : j = k
    · simp only [List.map_cons, e, if_true]
      unfold RepK
      exact ⟨v, _, rfl, hd, ih⟩
    · simp only [List.map_cons, e, if_false]
      unfold RepK
      exact ⟨v0, _, rfl, h1, ih⟩
theorem RepK.anyK (k : Key) : ∀ {a : List (Key × D)} {a' : List (Key × V)}, RepK K mg B H a a' → (a.any fun kv => decide (kv.1 = k)) = a'.any fun kv => decide (kv.1 = k)
  | [], a', h => by unfold RepK at h; subst h; rfl
  | (j, d0) :: a, a', h => by
    unfold RepK at h
    obtain ⟨v0, r, rfl, h1, h2⟩ := h
    rw [List.any_cons, List.any_cons, RepK.anyK k h2]
theorem RepK.put (k : Key) {d : D} {v : V} (hd : Rep K mg B H d v) {a : List (Key × D)} {a' : List (Key × V)} (h : RepK K mg B H a a') : RepK K mg B H (putD a k d) (putK a' k v) := by
  unfold putD putK
  rw [RepK.anyK k h]
  split
  · exact h.mapK k hd
  · refine h.app ?_
    unfold RepK
    exact ⟨v, [], rfl, hd, by unfold RepK; rfl⟩
theorem keyD_ok {d : D} {v : V} {k : Key} (h : Rep K mg B H d v) (e : keyD d = some k) : v = kV k := by
  cases d <;> cases e <;> unfold Rep at h <;> exact h
/-! the owner's dict -/
def odAt (i : Nat) (s : S) : Option (List (Key × D)) := match s.η[i]? with
  | some (.od kvs) => some kvs
  | _ => none
theorem updMv {p : Addr} {o : HO} (hp : some p ∈ A) : ∀ a u, H a = some u → ¬ Bd P A L a → Plain u → upd H p o a = some u ∧ ¬ Bd P A L a := fun a u h n _ => ⟨by rw [upd_ne (fun z => by subst z; exact n (.inl hp))]; exact h, n⟩
theorem Step.updA {p : Addr} {u o : HO} (hp : some p ∈ A) (hH : H p = some u) (pl : Plain u) : Step A L H A L (upd H p o) := by
  refine ⟨fun a v h hA hL q => ?_, fun a h => h.elim .inl fun h => .inr (.inl h), ⟨[], by simp⟩, fun a v h => ?_, fun a ⟨ps, h, t⟩ => ⟨ps, ?_, t⟩⟩
  · rw [upd_ne (fun z => by subst z; exact hA hp)]; exact h
  · by_cases e : a = p
    · subst e; exact ⟨_, upd_same⟩
    · exact ⟨v, by rw [upd_ne e]; exact h⟩
  · rw [upd_ne (fun z => by subst z; rw [hH] at h; cases h; exact pl _ rfl)]; exact h
theorem SR.odict {i : Nat} {kvs : List (Key × D)} (hs : SR K mg G P A L s σ H) (e : odAt i s = some kvs) : ∃ p ws, σ[i]? = some (some (.ref p)) ∧ H p = some (.dK ws) ∧ RepK K mg (Bd P A L) H kvs ws ∧
    ∀ kvs' ws', RepK K mg (Bd P A L) H kvs' ws' → SR K mg G P A L { s with η := s.η.set i (.od kvs') } σ (upd H p (.dK ws')) ∧ Step A L H A L (upd H p (.dK ws')) := by
  unfold odAt at e
  split at e
  · rename_i kvs0 q
    cases e
    obtain ⟨hi, ov, oa, e1, e2, p, ws, rfl, rfl, e3, r⟩ := hs.slot' q
    have up : some p ∈ A := List.mem_of_getElem? e2
    have pl : Plain (.dK ws) := fun ps z => nomatch z
    refine ⟨p, ws, e1, e3, r, fun kvs' ws' r' => ⟨?_, Step.updA up e3 pl⟩⟩
    have mv := updMv (P := P) (H := H) (A := A) (L := L) (p := p) (o := .dK ws') up
    have st := Step.updA (A := A) (L := L) (H := H) (o := .dK ws') up e3 pl
    exact { hs with
      lenσ := by show σ.length = (s.η.set i _).length; rw [List.length_set]; exact hs.lenσ
      lenA := by show A.length = (s.η.set i _).length; rw [List.length_set]; exact hs.lenA
      slot := fun j x ej => by
        have ej : (s.η.set i (.od kvs'))[j]? = some x := ej
        by_cases hj : j = i
        · subst hj
          rw [List.getElem?_set_self hi] at ej
          cases ej
          exact ⟨_, _, e1, e2, p, ws', rfl, rfl, upd_same, r'.move mv⟩
        · rw [List.getElem?_set_ne (Ne.symm hj)] at ej
          obtain ⟨ov', oa', f1, f2, so⟩ := hs.slot j x ej
          exact ⟨ov', oa', f1, f2, so.move mv (fun a o z _ h => by rw [upd_ne (fun w => by subst w; rw [z] at f2; exact hj (hs.uniq j i a f2 e2))]; exact h) fun _ _ h => h⟩
      exn := fun j ej => by
        have ej : (s.η.set i (.od kvs'))[j]? = some .ex := ej
        by_cases hj : j = i
        · subst hj
          rw [List.getElem?_set_self hi] at ej
          cases ej
        · rw [List.getElem?_set_ne (Ne.symm hj)] at ej
          exact hs.exn j ej
      loc := fun n ds e => by
        obtain ⟨a, vs, f1, f2, f3⟩ := hs.loc n ds e
        exact ⟨a, vs, f1, by rw [upd_ne (fun w => by subst w; exact hs.apart a up (List.mem_of_getElem? f1))]; exact f2, f3.move mv⟩
      own := fun a z => by
        by_cases h : a = p
        · subst h; exact ⟨_, upd_same, .inr ⟨ws', rfl⟩⟩
        · obtain ⟨o, e, m⟩ := hs.own a z; exact ⟨o, by rw [upd_ne h]; exact e, m⟩
      tab := fun a z => st.tab a (hs.tab a z)
      ent := by
        refine ⟨fun a o h hA hL q => ?_, hs.ent.new, hs.ent.pre, fun a o h => ?_, fun a h => st.tab a (hs.ent.tab a h)⟩
        · rw [upd_ne (fun z => by subst z; have := hs.ownNew a up; rw [this] at h; cases h)]; exact hs.ent.frm a o h hA hL q
        · obtain ⟨o', h'⟩ := hs.ent.there a o h; exact st.there a o' h'
      pOk := fun a z => let w := hs.pOk a z; ⟨let ⟨o, e⟩ := w.1; st.there a o e, w.2⟩ }
  · cases e
/-! name = {} -/
def sNewD (i : Nat) : SV := fun s => if i < s.η.length then .ok .nx { s with η := s.η.set i (.od []) } else .bad
theorem sd_newD {i : Nat} {x : Str} {p pos2 : Pos} (hN : X.N.Nodup) (hi : X.N[i]? = some x) (hx : Loc X.env.scope x) (hf : X.fn x = true ∨ X.env.scope.names.lookup x = some .local := by first | exact .inl rfl | exact .inr rfl | assumption)
    (hs : swapsWithSole [.Name x p] (.Dict [] [] pos2) pos.line X.env = pure false := by rfl) (hw : swappedStores [.Name x p] (.Dict [] [] pos2) X.env = pure none := by rfl)
    (h1 : (assignEach [.Name x p] X.env).map (·.2) = [assign (.Name x p) X.env] := by rfl) : SD X G Wx (.Assign [.Name x p] (.Dict [] [] pos2) pos) (sNewD i) := by
  refine ⟨PS.imp (ps_asg pe_dnewK (pg_name hN hi hx hf) hs hw h1) fun D σ H ⟨P, A, L, s, hs, h⟩ => ?_⟩
  unfold sNewD at h
  split at h
  · rename_i hil
    intro q hq
    have h : PostN X.K X.mg G P A L H D.nx { s with η := s.η.set i (.od []) } := h
    let P1 : Addr → Prop := fun a => P a ∨ a = q
    have sr1 : SR X.K X.mg G P1 A L s σ (upd H q (.dK [])) := hs.keep (keep_upd hq) fun a z => z.imp id fun z => by subst z; exact ⟨⟨_, upd_same⟩, hq⟩
    have nP : ¬ P q := fun z => by obtain ⟨o, e⟩ := (hs.pOk q z).1; rw [hq] at e; cases e
    have n0 : G.H0 q = none := by
      cases e : G.H0 q with
      | none => rfl
      | some o => obtain ⟨o', e'⟩ := hs.ent.there q o e; rw [hq] at e'; cases e'
    have hiσ : i < σ.length := by rw [hs.lenσ]; exact hil
    have sr2 := sr1.set (P := P) (i := i) (σ' := σ.set i (some (.ref q))) (ov := some (.ref q)) (oa := some q) (x := .od []) hil (fun _ z => .inl z)
      (fun a z => by cases z; exact ⟨.inr rfl, nP, ⟨_, upd_same, .inr ⟨[], rfl⟩⟩, n0⟩) ⟨by simp, List.getElem?_set_self hiσ, fun j hj => List.getElem?_set_ne (Ne.symm hj)⟩ ⟨q, [], rfl, rfl, upd_same, by unfold RepK; rfl⟩
    refine h _ _ _ _ sr2 ?_
    refine ⟨fun a o e hA hL pl => keep_upd hq a o e, fun a z => ?_, ⟨[], by simp⟩, fun a o e => ⟨o, keep_upd hq a o e⟩, fun a ⟨ps, e, t⟩ => ⟨ps, keep_upd hq a _ e, t⟩⟩
    rcases z with z | z
    · rcases mem_set z with z | z
      · exact .inl z
      · cases z; exact .inr (.inr hq)
    · exact .inr (.inl z)
  · exact h.elim
/-! x in name -/
def eDin (neg : Bool) (i : Nat) (fe : EV) : EV := fun s => (fe s).bind fun r s1 => match odAt i s1, (rd r s1).bind keyD with
  | some kvs, some k => .ok (.pv (.bl ((valD kvs k).isSome != neg))) s1
  | _, _ => .bad
theorem tE_din {neg : Bool} {i : Nat} {Q : VK} (h : tE K mg G Wx (eDin neg i fe) σ H Q) : tE K mg G Wx fe σ H fun y H1 => ∃ v, σ[i]? = some (some v) ∧ ∃ a o, v = .ref a ∧ DGet H1 a y o ∧ Q (.bl (o.isSome != neg)) H1 := by
  obtain ⟨P, A, L, s, hs, h⟩ := h
  refine (tE_one hs h).mono fun y H1 ⟨A1, L1, s1, r, a1, h1⟩ => ?_
  split at h1
  · rename_i kvs k e1 e2
    obtain ⟨p, ws, f1, f2, f3, _⟩ := a1.weak.odict e1
    obtain ⟨d, g1, g2⟩ := Option.bind_eq_some_iff.mp e2
    have pr := rd_ok a1.weak a1.ok g1
    have ey : y = kV k := by
      rcases pr with q | ⟨ds, _, _, z, _⟩
      · exact keyD_ok q g2
      · subst z; cases g2
    subst ey
    refine ⟨_, f1, p, valV ws k, rfl, DGet.k f2, ?_⟩
    have rv := f3.val k
    have es : (valV ws k).isSome = (valD kvs k).isSome := by
      cases q : valD kvs k with
      | none => rw [q] at rv; rw [rv]; rfl
      | some d => rw [q] at rv; obtain ⟨v, e, _⟩ := rv; rw [e]; rfl
    rw [es]
    exact h1 A1 L1 _ H1 (At.mk' a1.weak a1.st hs.p0 (ResOk.same (by unfold Rep; rfl)))
  · exact h1.elim
theorem ed_din {i : Nat} {x : Str} {p : Pos} (hu : X.A.units + 1 < cLine) (he : ED X G Wx e fe) (ho : PE X (.Name x p) (tVar i)) : ED X G Wx (.Compare e [.In] [.Name x p] pos) (eDin false i fe) :=
  ⟨PE.imp (pe_cmp (pc_din hu he.pe ho) rfl) fun σ H Q h => (tE_din h).mono fun y H1 ⟨v, e, a, o, q1, q2, q3⟩ => ⟨v, e, a, o, q1, q2, by cases o <;> exact q3⟩⟩
theorem ed_dni {i : Nat} {x : Str} {p : Pos} (hu : X.A.units + 1 < cLine) (he : ED X G Wx e fe) (ho : PE X (.Name x p) (tVar i)) : ED X G Wx (.Compare e [.NotIn] [.Name x p] pos) (eDin true i fe) :=
  ⟨PE.imp (pe_cmp (pc_dnotin hu he.pe ho) rfl) fun σ H Q h => (tE_din h).mono fun y H1 ⟨v, e, a, o, q1, q2, q3⟩ => ⟨v, e, a, o, q1, q2, by cases o <;> exact q3⟩⟩
/-! name[x] -/
def eDget (i : Nat) (fe : EV) : EV := fun s => match odAt i s with
  | some _ => (fe s).bind fun r s1 => match odAt i s1, (rd r s1).bind keyD with
    | some kvs, some k => match valD kvs k with
      | some d => .ok (.pv d) s1
      | none => .bad
    | _, _ => .bad
  | none => .bad
theorem ed_dget {i : Nat} {x : Str} {p : Pos} (hu : X.A.units + 1 < cLine) (ho : PE X (.Name x p) (tVar i)) (he : ED X G Wx e fe) (hs : NoSl e) : ED X G Wx (.Subscript (.Name x p) e pos) (eDget i fe) := by
  refine ⟨PE.imp (pe_dget hu ho he.pe hs) fun σ H Q ⟨P, A, L, s, hs, h⟩ => ?_⟩
  unfold eDget at h
  split at h
  · rename_i kvs0 e0
    obtain ⟨p0, ws0, f0, _, _, _⟩ := hs.odict e0
    refine ⟨_, f0, (tE_one hs h).mono fun y H1 ⟨A1, L1, s1, r, a1, h1⟩ => ?_⟩
    split at h1
    · rename_i kvs k e1 e2
      obtain ⟨p, ws, f1, f2, f3, _⟩ := a1.weak.odict e1
      rw [f0] at f1; cases f1
      obtain ⟨d, g1, g2⟩ := Option.bind_eq_some_iff.mp e2
      have pr := rd_ok a1.weak a1.ok g1
      have ey : y = kV k := by
        rcases pr with q | ⟨ds, _, _, z, _⟩
        · exact keyD_ok q g2
        · subst z; cases g2
      subst ey
      have rv := f3.val k
      split at h1
      · rename_i d2 e3
        rw [e3] at rv
        obtain ⟨v, ev, rp⟩ := rv
        exact ⟨p0, v, rfl, by rw [← ev]; exact DGet.k f2, h1 A1 L1 v H1 (At.mk' a1.weak a1.st hs.p0 (ResOk.same rp))⟩
      · exact h1.elim
    · exact h1.elim
  · exact h.elim
/-! name[x] = v -/
def sDput (i : Nat) (fk fv : EV) : SV := fun s => (fv s).bind fun rv s1 => (fzR rv s1).bind fun y s2 => match odAt i s2 with
  | some _ => (fk s2).bind fun rk s3 => match odAt i s3, (rd rk s3).bind keyD with
    | some kvs, some k => if kvs.length < sizeLine then .ok .nx { s3 with η := s3.η.set i (.od (putD kvs k y)) } else .bad
    | _, _ => .bad
  | none => .bad
theorem sd_dput {i : Nat} {x : Str} {p pos' : Pos} (hu : X.A.units + 1 < cLine) (ho : PE X (.Name x p) (tVar i)) (hk : ED X G Wx e fk) (hv : ED X G Wx e2 fv) (hs : swapsWith e2 (some (.Subscript (.Name x p) e pos')) pos.line X.env = pure false := by rfl) :
    SD X G Wx (.Assign [.Subscript (.Name x p) e pos'] e2 pos) (sDput i fk fv) := by
  refine ⟨PS.imp (ps_dput hu ho hk.pe hv.pe hs) fun D σ H ⟨P, A, L, s, hs, h⟩ => ?_⟩
  refine (tE_oneS hs h).mono fun v H1 ⟨A1, L1, s1, rv, a1, h1⟩ => ?_
  obtain ⟨A2, s2, y, sr2, rp, st2, h2⟩ := run_fzRS a1 h1
  split at h2
  · rename_i kvs0 e0
    obtain ⟨p0, ws0, f0, _, _, _⟩ := sr2.odict e0
    refine ⟨_, f0, P, A2, L1, s2, sr2, ((RunS.bind h2).on st2 fun _ z => z).run.imp fun rk s3 _ h3 A3 L3 v3 H3 a3 => ?_⟩
    split at h3
    · rename_i kvs k e1 e2
      split at h3
      · rename_i hz
        obtain ⟨p, ws, f1, f2, f3, f4⟩ := a3.weak.odict e1
        rw [f0] at f1; cases f1
        obtain ⟨d, g1, g2⟩ := Option.bind_eq_some_iff.mp e2
        have pr := rd_ok a3.weak a3.ok g1
        have ey : v3 = kV k := by
          rcases pr with q | ⟨ds, _, _, z, _⟩
          · exact keyD_ok q g2
          · subst z; cases g2
        subst ey
        obtain ⟨sr4, st4⟩ := f4 (putD kvs k y) (putK ws k v) (f3.put k (rp.step a3.st))
        exact ⟨p0, _, rfl, DPut.k f2 (by rw [← f3.length]; exact hz), h3 A3 L3 σ _ sr4 ((st2.trans a3.st).trans st4)⟩
      · exact h3.elim
    · exact h3.elim
  · exact h2.elim
theorem td_din {i : Nat} {x : Str} {p : Pos} (hu : X.A.units + 1 < cLine) (he : ED X G Wx e fe) (ho : PE X (.Name x p) (tVar i)) : TD X G Wx (.Compare e [.In] [.Name x p] pos) (tOfB (eDin false i fe)) := by
  refine ⟨PT.imp (pt_cmp (pc_din hu he.pe ho) rfl) fun σ H Q ⟨P, A, L, s, hs, h⟩ => ?_⟩
  refine (tE_din (Q := fun v H' => ∃ b, v = .bl b ∧ Q b H') ⟨P, A, L, s, hs, (Run.bind h).imp fun r s' _ p A' L' v H' at' => ?_⟩).mono fun y H1 ⟨v, e, a, o, q1, q2, q3⟩ => ⟨v, e, a, o, q1, q2, by cases o <;> exact q3⟩
  unfold toB at p
  split at p
  · rename_i b0 _
    have e : v = .bl b0 := by have := at'.ok; unfold RVOk Rep at this; exact this
    exact ⟨b0, e, p A' L' H' (at'.sr.lessP fun _ z => .inl z) at'.st⟩
  · exact p.elim
theorem td_dni {i : Nat} {x : Str} {p : Pos} (hu : X.A.units + 1 < cLine) (he : ED X G Wx e fe) (ho : PE X (.Name x p) (tVar i)) : TD X G Wx (.Compare e [.NotIn] [.Name x p] pos) (tOfB (eDin true i fe)) := by
  refine ⟨PT.imp (pt_cmp (pc_dnotin hu he.pe ho) rfl) fun σ H Q ⟨P, A, L, s, hs, h⟩ => ?_⟩
  refine (tE_din (Q := fun v H' => ∃ b, v = .bl b ∧ Q b H') ⟨P, A, L, s, hs, (Run.bind h).imp fun r s' _ p A' L' v H' at' => ?_⟩).mono fun y H1 ⟨v, e, a, o, q1, q2, q3⟩ => ⟨v, e, a, o, q1, q2, by cases o <;> exact q3⟩
  unfold toB at p
  split at p
  · rename_i b0 _
    have e : v = .bl b0 := by have := at'.ok; unfold RVOk Rep at this; exact this
    exact ⟨b0, e, p A' L' H' (at'.sr.lessP fun _ z => .inl z) at'.st⟩
  · exact p.elim
end
theorem u1 {k : Nat} {A : Around} (r : Room k A) : A.units + 1 < cLine := by have := r.un; omega
end DL
namespace DL
open PySem PySem.Spec PyProof.Rows L2
/-! ### sum, max, min of a tuple of ints -/
section
variable {prog : Program} {w : World} {A : Around} {E : Value → Shared → Prop} {s : Shared} {l : Addr} {its : List Value} {ns : List Int} {Q : Value → Shared → Prop}
abbrev itT (s : Shared) (l : Addr) : Shared := { s with heap := s.heap.push { cls := .type "tuple_iterator", data := .fields #[.ref l, .int 0 0] } }
theorem itT_new {xs : Array Value} (hl : s.heap.IsTuple l xs) : ((itT s l).heap.IsTupleIter s.heap.objs.size l 0 ∧ (itT s l).heap.IsTuple l xs) ∧ (∀ b ∈ [s.heap.objs.size, l], b < (itT s l).heap.objs.size) ∧ l ≠ s.heap.objs.size := by
  have hlt : l < s.heap.objs.size := by obtain ⟨_, e, _⟩ := hl; exact Heap.lt_size e
  refine ⟨⟨⟨_, Heap.get?_push_size _ rfl, rfl, rfl⟩, hl.push _⟩, fun b hb => ?_, Nat.ne_of_lt hlt⟩
  show b < (s.heap.push _).objs.size
  rw [Heap.size_push]
  rcases List.mem_cons.mp hb with rfl | hb
  · exact Nat.lt_succ_self _
  · rw [List.mem_singleton.mp hb]; exact Nat.lt_succ_of_lt hlt
theorem itT_old {h' : Heap} (hk : ∀ b o, b ∉ [s.heap.objs.size] → (itT s l).heap.get? b = some o → h'.get? b = some o) : ∀ b o, s.heap.get? b = some o → h'.get? b = some o := fun b o e =>
  hk b o (fun hm => absurd (List.mem_singleton.mp hm ▸ Heap.lt_size e) (Nat.lt_irrefl _)) (Heap.get?_push_of_some _ e)
theorem sumT_raw (hh : A.handled = none) (hl : s.heap.IsTuple l its.toArray) (hi : IntsAre its ns)
    (h : ∀ h' tk t', (∀ b o, s.heap.get? b = some o → h'.get? b = some o) → Q (.int ns.sum t') { s with heap := h', toks := tk }) : wpAny (model prog w) A (call (.builtin "sum") [.ref l]) Q E s := by
  obtain ⟨xs, e⟩ := hi.allInts.items
  have hn : numsOf (intItems xs).toList = ns := by rw [← e]; exact hi.numsOf
  rw [nums_intItems] at hn
  rw [e] at hl
  obtain ⟨st, hfp, hne⟩ := itT_new hl
  refine call_sum_walkG (wpAny_pyIter_tuple hl ?_)
  refine ⟨_, _, _, _, _, _, numAt xs, rfl, Walks.tuple (A := A.in1) hh _ l hne (intItems xs), st, hfp, (fun _ _ => intItems_at), fun h' tk t' hk => ?_⟩
  have q := h h' tk t' (itT_old hk)
  have e1 : preSum (numAt xs) (intItems xs).size = ns.sum := by
    rw [show (intItems xs).size = xs.size by simp [intItems], preSum_eq, List.take_of_length_le (by simp), hn]
  rw [e1]; exact q
theorem maxT_raw (hh : A.handled = none) (hl : s.heap.IsTuple l its.toArray) (hi : IntsAre its ns) (hne : 0 < ns.length)
    (h : ∀ h' tk M t', (∀ b o, s.heap.get? b = some o → h'.get? b = some o) → M ∈ ns → (∀ a, a ∈ ns → a ≤ M) → Q (.int M t') { s with heap := h', toks := tk }) : wpAny (model prog w) A (call (.builtin "max") [.ref l]) Q E s := by
  obtain ⟨xs, e⟩ := hi.allInts.items
  have hn : numsOf (intItems xs).toList = ns := by rw [← e]; exact hi.numsOf
  rw [nums_intItems] at hn
  subst hn
  rw [e] at hl
  have hsz : 0 < xs.size := by simpa using hne
  obtain ⟨st, hfp, hne⟩ := itT_new hl
  refine call_max_walk (wpAny_pyIter_tuple hl ?_)
  refine ⟨_, _, _, _, _, _, _, rfl, Walks.tuple (A := A.in1) hh _ l hne (intItems xs), st, hfp, by simpa [intItems] using hsz, CmpOf.ints_gt (numAt xs) (fun _ _ => intItems_at), fun v h' tk hP hk => ?_⟩
  have hv : (intItems xs)[argBest (fun i j => decide (numAt xs i > numAt xs j)) (xs.size - 1)]? = some v := by simpa [intItems] using hP
  obtain ⟨t, rfl⟩ := intItems_at hv
  obtain ⟨h1, h2⟩ := argBest_gt (numAt xs) (xs.size - 1)
  refine h h' tk _ t (itT_old hk) ?_ fun a ha => ?_
  · rw [numAt_eq]; exact PySem.getD_mem (by rw [List.length_map, Array.length_toList]; omega)
  · obtain ⟨j, hj, rfl⟩ := mem_getD ha
    rw [List.length_map, Array.length_toList] at hj
    rw [← numAt_eq]; exact h2 j (by omega)
theorem minT_raw (hh : A.handled = none) (hl : s.heap.IsTuple l its.toArray) (hi : IntsAre its ns) (hne : 0 < ns.length)
    (h : ∀ h' tk M t', (∀ b o, s.heap.get? b = some o → h'.get? b = some o) → M ∈ ns → (∀ a, a ∈ ns → M ≤ a) → Q (.int M t') { s with heap := h', toks := tk }) : wpAny (model prog w) A (call (.builtin "min") [.ref l]) Q E s := by
  obtain ⟨xs, e⟩ := hi.allInts.items
  have hn : numsOf (intItems xs).toList = ns := by rw [← e]; exact hi.numsOf
  rw [nums_intItems] at hn
  subst hn
  rw [e] at hl
  have hsz : 0 < xs.size := by simpa using hne
  obtain ⟨st, hfp, hne⟩ := itT_new hl
  refine call_min_walk (wpAny_pyIter_tuple hl ?_)
  refine ⟨_, _, _, _, _, _, _, rfl, Walks.tuple (A := A.in1) hh _ l hne (intItems xs), st, hfp, by simpa [intItems] using hsz, CmpOf.ints_lt (numAt xs) (fun _ _ => intItems_at), fun v h' tk hP hk => ?_⟩
  have hv : (intItems xs)[argBest (fun i j => decide (numAt xs i < numAt xs j)) (xs.size - 1)]? = some v := by simpa [intItems] using hP
  obtain ⟨t, rfl⟩ := intItems_at hv
  obtain ⟨h1, h2⟩ := argBest_lt (numAt xs) (xs.size - 1)
  refine h h' tk _ t (itT_old hk) ?_ fun a ha => ?_
  · rw [numAt_eq]; exact PySem.getD_mem (by rw [List.length_map, Array.length_toList]; omega)
  · obtain ⟨j, hj, rfl⟩ := mem_getD ha
    rw [List.length_map, Array.length_toList] at hj
    rw [← numAt_eq]; exact h2 j (by omega)
end
section
variable {K : PySem.W.Frag} {mg : Str → Option Value} {X : Cx}
def SqA (K : PySem.W.Frag) (H : Hp) (a : Addr) (xs : List V) : Prop := SqL K H a xs ∨ SqT K H a xs
def rSumA (K : PySem.W.Frag) : List V → Hp → VK → Prop := fun vs H Q => ∃ (a : Addr) (ns : List Int), vs = [V.ref a] ∧ SqA K H a (ns.map V.int) ∧ Q (.int ns.sum) H
def rMaxA (K : PySem.W.Frag) : List V → Hp → VK → Prop := fun vs H Q => ∃ (a : Addr) (ns : List Int), vs = [V.ref a] ∧ SqA K H a (ns.map V.int) ∧ 0 < ns.length ∧ ∀ m, m ∈ ns → (∀ y, y ∈ ns → y ≤ m) → Q (.int m) H
def rMinA (K : PySem.W.Frag) : List V → Hp → VK → Prop := fun vs H Q => ∃ (a : Addr) (ns : List Int), vs = [V.ref a] ∧ SqA K H a (ns.map V.int) ∧ 0 < ns.length ∧ ∀ m, m ∈ ns → (∀ y, y ∈ ns → m ≤ y) → Q (.int m) H
theorem cr_sumA (hc : X.calm = true) : CallR X (.builtin "sum") (rSumA X.K) := by
  intro pins s σ H vs us Q I r ⟨a, ns, e, h, q⟩
  rcases h with h | h
  · exact cr_sum hc pins s σ H vs us Q I r ⟨a, ns, e, h, q⟩
  · subst e
    obtain ⟨its, rv, hl, _⟩ := I.tuple h
    rw [Vals.ref1 r]
    exact sumT_raw (I.ok.hd hc) hl rv.ints fun h' tk t' hk => ⟨.int _, H, I.kept hk, ⟨_, rfl⟩, q⟩
theorem cr_maxA (hc : X.calm = true) : CallR X (.builtin "max") (rMaxA X.K) := by
  intro pins s σ H vs us Q I r ⟨a, ns, e, h, hne, q⟩
  rcases h with h | h
  · exact cr_max hc pins s σ H vs us Q I r ⟨a, ns, e, h, hne, q⟩
  · subst e
    obtain ⟨its, rv, hl, _⟩ := I.tuple h
    rw [Vals.ref1 r]
    exact maxT_raw (I.ok.hd hc) hl rv.ints hne fun h' tk m t' hk h1 h2 => ⟨.int _, H, I.kept hk, ⟨_, rfl⟩, q m h1 h2⟩
theorem cr_minA (hc : X.calm = true) : CallR X (.builtin "min") (rMinA X.K) := by
  intro pins s σ H vs us Q I r ⟨a, ns, e, h, hne, q⟩
  rcases h with h | h
  · exact cr_min hc pins s σ H vs us Q I r ⟨a, ns, e, h, hne, q⟩
  · subst e
    obtain ⟨its, rv, hl, _⟩ := I.tuple h
    rw [Vals.ref1 r]
    exact minT_raw (I.ok.hd hc) hl rv.ints hne fun h' tk m t' hk h1 h2 => ⟨.int _, H, I.kept hk, ⟨_, rfl⟩, q m h1 h2⟩
def sumA : D → Option RV
  | .lst xs => (allI xs).bind fun ns => pI ns.sum
  | .tup xs => (allI xs).bind fun ns => pI ns.sum
  | _ => none
def bestA (f : Int → Int → Int) : D → Option RV
  | .lst xs => match allI xs with
    | some (n :: r) => pI (r.foldl f n)
    | _ => none
  | .tup xs => match allI xs with
    | some (n :: r) => pI (r.foldl f n)
    | _ => none
  | _ => none
abbrev maxA : D → Option RV := bestA max
abbrev minA : D → Option RV := bestA min
theorem Rep.sqA {B : Addr → Prop} {H : Hp} {xs : List D} {x : V} : (PRep K mg B H (.lst xs) x ∨ PRep K mg B H (.tup xs) x) → ∃ p vs, x = .ref p ∧ SqA K H p vs ∧ Reps K mg B H xs vs := by
  rintro (h | h)
  · obtain ⟨p, vs, rfl, t, r⟩ := h.lst; exact ⟨p, vs, rfl, .inl (SqL.of t), r⟩
  · obtain ⟨p, vs, rfl, t, r⟩ := h.tup; exact ⟨p, vs, rfl, .inr t.sq, r⟩
theorem opv_sumA : OpV1 K mg (fun v => rSumA K [v]) sumA := by
  intro B H x a res Q hB ha e q
  have key : ∀ xs : List D, (PRep K mg B H (.lst xs) x ∨ PRep K mg B H (.tup xs) x) → (allI xs).bind (fun ns => pI ns.sum) = some res → rSumA K [x] H Q := fun xs hx e => by
    obtain ⟨ns, e1, e2⟩ := Option.bind_eq_some_iff.mp e
    cases e2
    obtain ⟨p, vs, rfl, t, r⟩ := Rep.sqA hx
    have := allI_some e1
    subst this
    have := r.ints
    subst this
    exact ⟨p, ns, rfl, t, q _ _ .int⟩
  unfold sumA at e
  split at e
  · exact key _ (.inl ha) e
  · exact key _ (.inr ha) e
  · cases e
theorem opv_bestA {r : List V → Hp → VK → Prop} {f : Int → Int → Int} (hr : ∀ {p : Addr} {n : Int} {ns : List Int} {H : Hp} {Q : VK}, SqA K H p ((n :: ns).map V.int) → Q (.int (ns.foldl f n)) H → r [.ref p] H Q) : OpV1 K mg (fun v => r [v]) (bestA f) := by
  intro B H x a res Q hB ha e q
  have key : ∀ xs : List D, (PRep K mg B H (.lst xs) x ∨ PRep K mg B H (.tup xs) x) → ∀ n ns, allI xs = some (n :: ns) → pI (ns.foldl f n) = some res → r [x] H Q := fun xs hx n ns e1 e => by
    cases e
    obtain ⟨p, vs, rfl, t, rr⟩ := Rep.sqA hx
    have := allI_some e1
    subst this
    have := rr.ints
    subst this
    exact hr t (q _ _ .int)
  unfold bestA at e
  split at e
  · split at e
    · rename_i e1; exact key _ (.inl ha) _ _ e1 e
    · cases e
  · split at e
    · rename_i e1; exact key _ (.inr ha) _ _ e1 e
    · cases e
  · cases e
theorem opv_maxA : OpV1 K mg (fun v => rMaxA K [v]) maxA := opv_bestA fun {p n ns H Q} t q => ⟨p, n :: ns, rfl, t, by simp, fun m hm hy => by
  obtain ⟨f1, f2⟩ := foldl_max ns n
  have : m = ns.foldl max n := Int.le_antisymm (f2 m hm) (hy _ f1)
  subst this
  exact q⟩
theorem opv_minA : OpV1 K mg (fun v => rMinA K [v]) minA := opv_bestA fun {p n ns H Q} t q => ⟨p, n :: ns, rfl, t, by simp, fun m hm hy => by
  obtain ⟨f1, f2⟩ := foldl_min ns n
  have : m = ns.foldl min n := Int.le_antisymm (hy _ f1) (f2 m hm)
  subst this
  exact q⟩
end
end DL
namespace DL
open PySem PySem.Spec PyProof.Rows L2
/-! ### tuple(reversed(a tuple)) -/
theorem nolen_rt : typeLookup (.type "reversed") "__len__" = pure none := by rw [typeLookup_type, builtinLookup_eq_fast]; kernel_rfl
theorem hint_rt : typeLookup (.type "reversed") "__length_hint__" = pure (some (.builtin "reversed.__length_hint__")) := by rw [typeLookup_type, builtinLookup_eq_fast]; kernel_rfl
theorem slot_rt_hint : PySem.Slot "reversed" "__length_hint__" "reversed.__length_hint__" :=
  .of (owner := "reversed") (n := "__length_hint__") (by rw [typeLookup_type, builtinLookup_eq_fast]; kernel_rfl) (by decide +kernel) (by decide +kernel) (by decide +kernel)
    (by first | exact .inl (by decide +kernel) | exact .inr (by decide +kernel)) (by rw [isSubtype_type]; kernel_rfl)
theorem entry_rt_hint : entryFor table "reversed.__length_hint__" = some Builtin.«reversed.__length_hint__» := entryFor_of_tree (by kernel_rfl)
theorem args_rt_hint (a : Value) : argsOk "reversed.__length_hint__" ⟨[a], []⟩ := by
  unfold argsOk; rw [signature?_of (id := "reversed.__length_hint__") (n := ['_', '_', 't', 'n', 'i', 'h', '_', 'h', 't', 'g', 'n', 'e', 'l', '_', '_']) (o := ['d', 'e', 's', 'r', 'e', 'v', 'e', 'r']) (by kernel_rfl) RT.owner_rt]; kernel_rfl
theorem bind_rt_hint (self : Value) : bindSpecial (.builtin "reversed.__length_hint__") self = pure (.builtin "reversed.__length_hint__", [self]) := by
  have hop : withoutEnding? "reversed.__length_hint__" "#opaque" = none := by decide +kernel
  have hdat : withoutEnding? "reversed.__length_hint__" "#data" = none := by decide +kernel
  have bk : builtinKind "reversed.__length_hint__" = some .method := by decide +kernel
  simp only [bindSpecial, typeOf, builtinType, hop, hdat, bk]; rfl
section
variable {prog : Program} {w : World} {A : Around} {E : Value → Shared → Prop} {s : Shared}
theorem Walks.rt (hh : A.handled = none) (I t : Addr) (hne : t ≠ I) (items : Array Value) (hz : items.size ≤ sizeLine) :
    Walks prog w A I [I, t] [I] items.size (fun i v => items[items.size - 1 - i]? = some v) (fun i h => i ≤ items.size ∧ RT.IsRt h I t ((items.size : Int) - 1 - (i : Int)) ∧ IsTup h t items) where
  sub := fun b hb => by simp at hb; simp [hb]
  frame := fun _ _ _ x hk => ⟨x.1, x.2.1.at fun o e => hk I (by simp) o e, by obtain ⟨o, e, r⟩ := x.2.2; exact ⟨o, hk t (by simp) o e, r⟩⟩
  item := fun i s Q E hi x hQ => by
    have e : (items.size : Int) - 1 - (i : Int) = ((items.size - 1 - i : Nat) : Int) := by omega
    have hit := x.2.1
    rw [e] at hit
    have hx : items[items.size - 1 - i]? = some (items[items.size - 1 - i]'(by omega)) := Array.getElem?_eq_getElem (by omega)
    refine RT.next_rt_item hit x.2.2 hx hz fun h' hit' hs' => ?_
    have e2 : ((items.size - 1 - i : Nat) : Int) - 1 = (items.size : Int) - 1 - ((i + 1 : Nat) : Int) := by omega
    rw [e2] at hit'
    exact hQ _ h' _ hx ⟨hi, hit', by obtain ⟨o, e, r⟩ := x.2.2; exact ⟨o, (hs'.2 t hne).trans e, r⟩⟩ fun b o hb eo => hs'.extBut b o (fun h => hb (by simp [h])) eo
  done := fun s Q E x hQ => by
    have e : (items.size : Int) - 1 - (items.size : Int) = -1 := by omega
    have hit := x.2.1
    rw [e] at hit
    exact RT.next_rt_end hh hit fun h' he' => hQ h' s.toks fun b o hb e => he' b o (fun h => hb (by simp [h])) e
  self := fun _ _ _ _ x hQ => RT.iter_rt x.2.1 hQ
theorem hint_raw {it t : Addr} {items : Array Value} {Q : Bool → Shared → Prop} (hit : RT.IsRt s.heap it t ((items.size : Int) - 1)) (ht : IsTup s.heap t items) (hz : items.size ≤ sizeLine)
    (h : ∀ tk, Q (decide (items.size ≠ 0)) { s with toks := tk }) : wpAny (model prog w) A (Builtin.List.listLengthHint (.ref it)) Q E s := by
  obtain ⟨o, ho, hc, hd⟩ := id hit
  have hsz := hz
  rw [sizeLine_eq] at hsz
  unfold Builtin.List.listLengthHint
  refine wpAny_bind (wpAny_specialOf hit.typeIs nolen_rt ?_)
  show wpAny _ _ (specialOf (Value.ref it) (Str.ofString "__length_hint__") >>= _) _ _ _
  refine wpAny_bind (wpAny_specialOf hit.typeIs hint_rt ?_)
  generalize hid : ("reversed.__length_hint__" : String) = id0
  wp_delta
  rw [show splitId id0 = some ("reversed", "__length_hint__") from by subst hid; decide +kernel]
  subst hid
  refine wpAny_bind (wpAny_isInstance (b := true) hit.typeIs (by rw [isSubtype_type]; kernel_rfl) ?_)
  rw [if_neg (by decide)]
  refine wpAny_bind (wpAny_rule ?_)
  refine wpAny_bind (wpAny_of_eq (bind_rt_hint _) ?_)
  refine wpAny_bind (wpAny_attempt (wpAny_call_entry slot_rt_hint hit.typeIs entry_rt_hint ?_ (args_rt_hint _)))
  unfold Builtin.«reversed.__length_hint__»
  refine wpAny_bind (wpAny_of_eq (a := Value.ref it) rfl ?_)
  refine wpAny_bind (wpAny_field ho hd (x := .ref t) rfl ?_)
  rw [if_neg (show ¬ ((Value.ref t == Value.none) = true) from Bool.false_ne_true)]
  refine wpAny_bind (PyProof.Rows.len_tuple ht (by omega) ?_)
  refine wpAny_bind (wpAny_of_eq (a := some ((items.size : Nat) : Int)) rfl ?_)
  try dsimp only
  refine wpAny_bind (wpAny_field (s := { s with toks := s.toks + 1 + 1 }) ho hd (x := rawInt ((items.size : Int) - 1)) rfl ?_)
  have es : (items.size : Int) - 1 + 1 = (items.size : Int) := by omega
  show wpAny _ _ (if (items.size : Int) < (items.size : Int) - 1 + 1 then _ else retInt ((items.size : Int) - 1 + 1)) _ _ _
  rw [es, if_neg (by omega)]
  show wpAny _ _ (mkInt _ >>= fun v => ret v) _ _ _
  refine wpAny_bind (wpAny_mkInt (wpAny_pure ⟨_, rfl, ?_⟩))
  show wpAny _ _ (asInt? (Value.int ((items.size : Nat) : Int) _) >>= _) _ _ _
  simp only [asInt?, pure_bind]
  have fitI : ¬ ((!Builtin.List.listFitsIndex ((items.size : Nat) : Int)) = true) := by
    have a1 : (-(2 ^ 63 : Int)) ≤ ((items.size : Nat) : Int) := by omega
    have a2 : ((items.size : Nat) : Int) < 2 ^ 63 := by omega
    rw [show Builtin.List.listFitsIndex ((items.size : Nat) : Int) = true from by rw [Builtin.List.listFitsIndex, decide_eq_true a1, decide_eq_true a2]; rfl]
    decide
  rw [if_neg fitI, if_neg (by omega), if_neg (by unfold Builtin.List.listTooLong; rw [Int.toNat_natCast, sizeLine_eq]; simp only [decide_eq_true_eq]; omega)]
  refine wpAny_pure ?_
  have eb : (((items.size : Nat) : Int) != 0) = decide (items.size ≠ 0) := by
    by_cases h0 : items.size = 0
    · simp [h0]
    · have : ((items.size : Nat) : Int) ≠ 0 := by omega
      simp [h0]
  rw [eb]
  exact h _
theorem collect_rt {it t : Addr} {items : Array Value} {Q : List Value → Shared → Prop} (hh : A.handled = none) (hit : RT.IsRt s.heap it t ((items.size : Int) - 1)) (ht : IsTup s.heap t items) (hne : t ≠ it) (hz : items.size ≤ sizeLine)
    (hQ : ∀ (h' : Heap) (tk : Nat) (acc : Array Value), (∀ b o, b ≠ it → s.heap.get? b = some o → h'.get? b = some o) → ItemsOf (fun i v => items[items.size - 1 - i]? = some v) acc items.size → Q acc.toList { s with heap := h', toks := tk }) :
    wpAny (model prog w) A (collect (.ref it)) Q E s := by
  have W := (Walks.rt (prog := prog) (w := w) (A := A.in1) hh it t hne items hz).toS
  obtain ⟨oi, hoi, _⟩ := id hit
  obtain ⟨ot, hot, hot2⟩ := id ht
  have hSi : s.heap.objs.size ≠ it := Nat.ne_of_gt (Heap.lt_size hoi)
  have hSl : s.heap.objs.size ≠ t := Nat.ne_of_gt (Heap.lt_size hot)
  have hSf : s.heap.objs.size ∉ [it, t] := by simp only [List.mem_cons, List.not_mem_nil, or_false, not_or]; exact ⟨hSi, hSl⟩
  unfold collect
  refine wpAny_bind (wpAny_runValue (codeAny_builtin F.entry_proto_collect ?_))
  rw [Around.under_plainId F.plain_proto_collect _]
  show wpAny _ A.in1 (newList [] >>= fun l' => again (.builtin "list.__iadd__" ⟨[l', .ref it], []⟩)) _ _ s
  refine wpAny_bind (wpAny_newObj_type ?_)
  refine wpAny_pure ⟨plainId_quiet F.plain_list_iadd _, codeAny_builtin F.entry_list_iadd ?_⟩
  rw [Around.under_plainId F.plain_list_iadd _]
  have hS₁ : (s.heap.push { cls := .type "list", data := .seq ([] : List Value).toArray }).get? s.heap.objs.size = some { cls := .type "list", data := .seq ([] : List Value).toArray } := Heap.get?_push_size _ rfl
  have hit1 : RT.IsRt (s.heap.push { cls := .type "list", data := .seq ([] : List Value).toArray }) it t ((items.size : Int) - 1) := hit.at fun o e => Heap.get?_push_of_some _ e
  have ht1 : IsTup (s.heap.push { cls := .type "list", data := .seq ([] : List Value).toArray }) t items := ⟨ot, Heap.get?_push_of_some _ hot, hot2⟩
  have hT : ({ s with heap := s.heap.push { cls := .type "list", data := .seq ([] : List Value).toArray } } : Shared).TypeIs (.ref it) "reversed" := RT.IsRt.typeIs (s := { s with heap := s.heap.push { cls := .type "list", data := .seq ([] : List Value).toArray } }) hit1
  have h1 : Builtin.List.listSameRef (.ref s.heap.objs.size) (.ref it) = false := by simp [Builtin.List.listSameRef, hSi]
  show wpAny _ A.in1 (Builtin.List.listExtendWith (.ref s.heap.objs.size) (.ref it) (.ref s.heap.objs.size)) _ _ _
  unfold Builtin.List.listExtendWith
  refine wpAny_bind (wpAny_typeOf hT ?_)
  rw [if_neg (by rw [h1]; decide)]
  refine wpAny_bind (RT.iter_rt (s := { s with heap := s.heap.push { cls := .type "list", data := .seq ([] : List Value).toArray } }) hit1 ?_)
  refine wpAny_bind (wpAny_holding (hint_raw (s := { s with heap := s.heap.push { cls := .type "list", data := .seq ([] : List Value).toArray } }) hit1 ht1 hz fun tk => ?_))
  have e0 : ((items.size : Nat) : Int) - 1 - ((0 : Nat) : Int) = (items.size : Int) - 1 := by omega
  by_cases h0 : items.size = 0
  · rw [if_neg (by rw [h0]; decide)]
    refine wpAny_pure ⟨plainId_quiet F.plain_extend_loop _, codeAny_extend_loopS W hz _ hSf _ items.size 0 _ _ _ rfl (Nat.zero_le _) ⟨Nat.zero_le _, by rw [e0]; exact hit1, ht1⟩ hS₁ (ItemsOf.nil _) fun s' acc' c' hm hS' hacc => ?_⟩
    show wpAny _ A (load s.heap.objs.size >>= _) _ _ s'
    refine wpAny_bind (wpAny_load hS' ?_)
    refine wpAny_pure ?_
    rw [Moved.eq_with hm]
    refine hQ s'.heap s'.toks acc' (fun b o hb e => hm.heap b o (fun hmem => ?_) (Heap.get?_push_of_some _ e)) hacc
    rcases List.mem_cons.mp hmem with e' | hmem
    · exact absurd (Heap.lt_size e) (by rw [e']; exact Nat.lt_irrefl _)
    · exact hb (List.mem_singleton.mp hmem)
  · rw [if_pos (by rw [decide_eq_true h0]; rfl)]
    refine wpAny_bind (wpAny_rule ?_)
    refine wpAny_bind ?_
    show wpAny _ A.in1 (updateSeq s.heap.objs.size (·.push .none) >>= fun _ => updateSeq s.heap.objs.size (·.pop)) _ _ _
    refine wpAny_bind (wpAny_updateSeq hS₁ rfl ?_)
    have hS₂ := Heap.get?_update_self (Obj.mapSeq (·.push Value.none)) hS₁ rfl
    refine wpAny_updateSeq hS₂ rfl ?_
    have hS₃ := Heap.get?_update_self (Obj.mapSeq (·.pop)) hS₂ rfl
    have oth : ∀ b o, b ≠ s.heap.objs.size → (s.heap.push { cls := .type "list", data := .seq ([] : List Value).toArray }).get? b = some o →
        (((s.heap.push { cls := .type "list", data := .seq ([] : List Value).toArray }).update s.heap.objs.size (Obj.mapSeq (·.push Value.none))).update s.heap.objs.size (Obj.mapSeq (·.pop))).get? b = some o :=
      fun b o hb e => (Heap.get?_update_other _ _ (Ne.symm hb)).trans ((Heap.get?_update_other _ _ (Ne.symm hb)).trans e)
    refine wpAny_pure ⟨plainId_quiet F.plain_extend_loop _, codeAny_extend_loopS W hz _ hSf _ items.size 0 _ _ _ rfl (Nat.zero_le _) ⟨Nat.zero_le _, by rw [e0]; exact (hit1.at fun o e => oth _ _ (Ne.symm hSi) e), (by obtain ⟨o, e, r⟩ := ht1; exact ⟨o, oth _ _ (Ne.symm hSl) e, r⟩)⟩ hS₃ (ItemsOf.nil _) fun s' acc' c' hm hS' hacc => ?_⟩
    show wpAny _ A (load s.heap.objs.size >>= _) _ _ s'
    refine wpAny_bind (wpAny_load hS' ?_)
    refine wpAny_pure ?_
    rw [Moved.eq_with hm]
    refine hQ s'.heap s'.toks acc' (fun b o hb e => hm.heap b o (fun hmem => ?_) (oth b o (Nat.ne_of_lt (Heap.lt_size e)) (Heap.get?_push_of_some _ e))) hacc
    rcases List.mem_cons.mp hmem with e' | hmem
    · exact absurd (Heap.lt_size e) (by rw [e']; exact Nat.lt_irrefl _)
    · exact hb (List.mem_singleton.mp hmem)
theorem call_tuple_rt {it l : Addr} {items : Array Value} {Q : Value → Shared → Prop} (hh : A.handled = none) (hit : RT.IsRt s.heap it l ((items.size : Int) - 1)) (hl : IsTup s.heap l items) (hne : l ≠ it) (hn : items.size ≤ sizeLine)
    (hQ : ∀ (h' : Heap) (tk : Nat) (acc : Array Value), (∀ b o, b ≠ it → s.heap.get? b = some o → h'.get? b = some o) → ItemsOf (fun i v => items[items.size - 1 - i]? = some v) acc items.size →
      Q (.ref h'.objs.size) { s with heap := h'.push { cls := .type "tuple", data := .seq acc }, toks := tk }) :
    wpAny (model prog w) A (call (.type "tuple") [.ref it]) Q E s := by
  refine callType_codes (Q₁ := fun obj s₁ => s₁.TypeIs obj "tuple" ∧ Q obj s₁) F.called_tuple (F.typeCall_tuple_1 _) F.entry_object_init (codeAny_of_tree ?_) fun obj s₁ h₁ => ?_
  · show wpAny _ A.in1.in1 (do checkBuiltinCall "tuple.__new__" ⟨[.type "tuple", .ref it], []⟩; again (.builtin "tuple.__new__" ⟨[.type "tuple", .ref it], []⟩)) _ _ s
    refine wpAny_bind (wpAny_of_eq (F.newCall_tuple_1 _) (wpAny_pure ⟨plainId_quiet F.plain_tuple_new _, codeAny_builtin F.entry_tuple_new ?_⟩))
    rw [Around.under_plainId F.plain_tuple_new _]
    have hsub := sub_tuple_self
    have hinit := init_tuple_lookup
    have hmh := madeHere_tuple
    have hTI : s.TypeIs (.ref it) "reversed" := hit.typeIs
    have hh1 : A.in1.in1.handled = none := hh
    wp_walk using wpAny_typeOf hTI, collect_rt (A := A.in1.in1) hh1 hit hl hne hn
    intro h' tk acc hk hacc
    show wpAny _ _ (Builtin.Tuple.tupleExact acc.toList.toArray >>= fun v => ret v) _ _ _
    unfold Builtin.Tuple.tupleExact
    refine wpAny_bind (wpAny_newObj_type ?_ (by show acc.toList.toArray.size ≤ sizeLine; simp only [Array.toArray_toList]; rw [hacc.1]; exact hn))
    refine wpAny_pure ?_
    have e : acc.toList.toArray = acc := by simp
    rw [e]
    exact ⟨⟨_, Heap.get?_push_size _ rfl, rfl⟩, hQ h' tk acc hk hacc⟩
  · exact ⟨h₁.1, F.args_object_init_2 obj _, object_init_meets F.called_tuple.init.lookup F.called_tuple.made (by decide) prog w A.in1 _ s₁ ⟨h₁.1, rfl, h₁.2⟩⟩
end
def tTupRevA (K : PySem.W.Frag) (te : TE) : TE := fun σ H Q => te σ H fun v H1 => ∃ (a : Addr) (xs : List V), v = .ref a ∧ SqA K H1 a xs ∧ ∀ q, H1 q = none → Q (.ref q) (upd H1 q (.tup xs.reverse))
section
variable {X : Cx} {e : Expr} {te : TE} {p p2 pos pos2 : Pos}
theorem pe_tupRevA (hc : X.calm = true) (hg : Gl X "tuple") (hm : X.mg "tuple" = none) (hg2 : Gl X "reversed") (hm2 : X.mg "reversed" = none) (he : PE X e te)
    (hs : starEach [e] X.env = (false, eval e X.env) :: starEach [] X.env := by rfl)
    (hs2 : starEach [.Call (.Name "reversed" p2) [e] [] pos2] X.env = (false, eval (.Call (.Name "reversed" p2) [e] [] pos2) X.env) :: starEach [] X.env := by rfl) :
    PE X (.Call (.Name "tuple" p) [.Call (.Name "reversed" p2) [e] [] pos2] [] pos) (tTupRevA X.K te) := by
  refine ⟨fun pins s σ H Q I h => ?_⟩
  refine Call_ (ld_blt I hg hm boot_tuple (PyProof.Rows.callWith_type1 (args_cons (Call_ (ld_blt I hg2 hm2 PyProof.Rows.boot_reversed (PyProof.Rows.callWith_type1 (args_cons (thn (he.run pins s σ H _ I h) fun u s1 ⟨v, H1, I1, r1, q1⟩ => args_nil ?_) hs) hs rfl))) hs2) hs2 rfl))
  obtain ⟨a, xs, ev, hq, q⟩ := q1
  subst ev
  obtain rfl : u = Value.ref a := r1
  obtain ⟨f0, f1, f2, f3, f4, f5⟩ := I1.fpOk (H' := H1) (b := s1.heap.objs.size) (Nat.le_refl _) (I1.hok.fresh (Nat.le_refl _))
  rcases hq with hq | hq
  · obtain ⟨its, rv, p', hz⟩ := I1.list hq
    refine call_reversed_list p'.isList (args_nil ?_)
    have k0 : ∀ b o, s1.heap.get? b = some o → (s1.heap.push (revObj a ((its.toArray.size : Int) - 1))).get? b = some o := fun b o e => Heap.get?_push_of_some _ e
    have I2 : Inv X pins σ H1 { s1 with heap := s1.heap.push (revObj a ((its.toArray.size : Int) - 1)) } := I1.kept (t' := s1.toks) k0
    have hl := p'.isList
    obtain ⟨ol, hol, _⟩ := id hl
    have hne : a ≠ s1.heap.objs.size := Nat.ne_of_lt (Heap.lt_size hol)
    have hn : its.toArray.size ≤ sizeLine := by rw [List.size_toArray, ← rv.length]; exact hz
    refine RT.call_tuple_rev (s := { s1 with heap := s1.heap.push (revObj a ((its.toArray.size : Int) - 1)) }) (I1.ok.hd hc) ⟨_, Heap.get?_push_size _ rfl, rfl, rfl⟩ (hl.push _) hne hn fun h' tk acc hk hi => ?_
    have I3 : Inv X pins σ H1 { s1 with heap := h', toks := tk } := I2.turned (t' := tk) (fun b o hb e => hk b o hb e) f0 f1 f3 f4 f5
    refine ⟨.ref h'.objs.size, upd H1 h'.objs.size (.tup xs.reverse), I3.laid (t' := tk) (fun c o e => Heap.get?_push_of_some _ e) (Nat.le_refl _) (show ObjOk X.prog X.w _ _ _ (.tup xs.reverse) from ⟨by rw [List.length_reverse]; exact hz, acc.toList, RT.vals_rev rv hi, ?_⟩), rfl, q _ (I3.hok.fresh (Nat.le_refl _))⟩
    rw [Array.toArray_toList]
    exact IsTup.new _ _
  · obtain ⟨its, rv, p', hz⟩ := I1.tuple hq
    have hn : its.toArray.size ≤ sizeLine := by rw [List.size_toArray, ← rv.length]; exact hz
    have hn2 := hn
    rw [sizeLine_eq] at hn2
    refine RT.call_reversed_tup p' (fun A E Q k => len_tuple p' (by omega) k) (args_nil ?_)
    have k0 : ∀ b o, s1.heap.get? b = some o → (s1.heap.push (RT.rtObj a ((its.toArray.size : Int) - 1))).get? b = some o := fun b o e => Heap.get?_push_of_some _ e
    have I2 : Inv X pins σ H1 { s1 with heap := s1.heap.push (RT.rtObj a ((its.toArray.size : Int) - 1)), toks := s1.toks + 1 + 1 } := I1.kept (t' := s1.toks + 1 + 1) k0
    obtain ⟨ot, hot, hot2⟩ := id p'
    have hne : a ≠ s1.heap.objs.size := Nat.ne_of_lt (Heap.lt_size hot)
    refine call_tuple_rt (s := { s1 with heap := s1.heap.push (RT.rtObj a ((its.toArray.size : Int) - 1)), toks := s1.toks + 1 + 1 }) (I1.ok.hd hc) ⟨_, Heap.get?_push_size _ rfl, rfl, rfl⟩ ⟨ot, k0 _ _ hot, hot2⟩ hne hn fun h' tk acc hk hi => ?_
    have I3 : Inv X pins σ H1 { s1 with heap := h', toks := tk } := I2.turned (t' := tk) (fun b o hb e => hk b o hb e) f0 f1 f3 f4 f5
    refine ⟨.ref h'.objs.size, upd H1 h'.objs.size (.tup xs.reverse), I3.laid (t' := tk) (fun c o e => Heap.get?_push_of_some _ e) (Nat.le_refl _) (show ObjOk X.prog X.w _ _ _ (.tup xs.reverse) from ⟨by rw [List.length_reverse]; exact hz, acc.toList, RT.vals_rev rv hi, ?_⟩), rfl, q _ (I3.hok.fresh (Nat.le_refl _))⟩
    rw [Array.toArray_toList]
    exact IsTup.new _ _
end
section
variable {K : PySem.W.Frag} {mg : Str → Option Value} {X : Cx} {G : Gm} {Wx : WX} {e : Expr} {fe : EV} {pos : Pos}
def tupRevA : D → Option RV
  | .lst xs => some (.pv (.tup xs.reverse))
  | .scr xs => some (.pv (.tup xs.reverse))
  | .tup xs => some (.pv (.tup xs.reverse))
  | _ => none
theorem opv_tupRevA : OpV1 K mg (fun v H Q => ∃ (a : Addr) (xs : List V), v = .ref a ∧ SqA K H a xs ∧ ∀ q, H q = none → Q (.ref q) (upd H q (.tup xs.reverse))) tupRevA := by
  intro B H x a res Q hB ha e q
  cases a with
  | lst xs => cases e; obtain ⟨p, vs, rfl, t, r⟩ := ha.lst; exact ⟨p, vs, rfl, .inl (SqL.of t), fun l hl => q _ _ (.tup hB hl r.reverse)⟩
  | scr xs => cases e; obtain ⟨p, vs, rfl, t, r⟩ := ha.scr; exact ⟨p, vs, rfl, .inl t.sq, fun l hl => q _ _ (.tup hB hl r.reverse)⟩
  | tup xs => cases e; obtain ⟨p, vs, rfl, t, r⟩ := ha.tup; exact ⟨p, vs, rfl, .inr t.sq, fun l hl => q _ _ (.tup hB hl r.reverse)⟩
  | _ => cases e
theorem ed_tupRevA {p p2 pos2 : Pos} (hc : X.calm = true) (hg : Gl X "tuple") (hm : X.mg "tuple" = none) (hg2 : Gl X "reversed") (hm2 : X.mg "reversed" = none) (he : ED X G Wx e fe)
    (hs : starEach [e] X.env = (false, eval e X.env) :: starEach [] X.env := by rfl)
    (hs2 : starEach [.Call (.Name "reversed" p2) [e] [] pos2] X.env = (false, eval (.Call (.Name "reversed" p2) [e] [] pos2) X.env) :: starEach [] X.env := by rfl) :
    ED X G Wx (.Call (.Name "tuple" p) [.Call (.Name "reversed" p2) [e] [] pos2] [] pos) (eOp1 tupRevA fe) :=
  ⟨PE.imp (pe_tupRevA hc hg hm hg2 hm2 he.pe hs hs2) fun σ H Q h => tE_op1 opv_tupRevA h⟩
end
end DL
namespace DL
open PySem PySem.Spec PyProof.Rows L2
/-! ### xs.remove(k), ints, k among them -/
def eRem (i : Nat) (fe : EV) : EV := fun s => match lstAt i s with
  | some _ => (fe s).bind fun r s1 => match rd r s1, lstAt i s1 with
    | some (.int k), some ds => match allI ds with
      | some ns => if k ∈ ns then .ok (.pv .non) (lstPut i ((ns.erase k).map D.int) s1) else .bad
      | none => .bad
    | _, _ => .bad
  | none => .bad
theorem reps_ints {K : PySem.W.Frag} {mg : Str → Option Value} {B : Addr → Prop} {H : Hp} : ∀ ns : List Int, Reps K mg B H (ns.map D.int) (ns.map V.int)
  | [] => by simp [Reps]
  | n :: ns => by
    rw [List.map_cons, List.map_cons]
    unfold Reps
    exact ⟨_, _, rfl, by unfold Rep; rfl, reps_ints ns⟩
theorem erase_at {k : Int} : ∀ {ns : List Int}, k ∈ ns → ∃ j : Nat, ns[j]? = some k ∧ (∀ m : Nat, m < j → ns[m]? ≠ some k) ∧ ns.eraseIdx j = ns.erase k
  | [], h => by simp at h
  | n :: ns, h => by
    by_cases e : n = k
    · subst e
      exact ⟨0, rfl, fun m hm => absurd hm (by omega), by simp⟩
    · have h2 : k ∈ ns := by
        rcases List.mem_cons.mp h with h | h
        · exact absurd h.symm e
        · exact h
      obtain ⟨j, h3, h4, h5⟩ := erase_at h2
      refine ⟨j + 1, by simpa using h3, fun m hm => ?_, ?_⟩
      · cases m with
        | zero => simpa using e
        | succ m => simpa using h4 m (by omega)
      · have e2 : (n == k) = false := by simpa using e
        rw [List.eraseIdx_cons_succ, h5, List.erase_cons, e2]; rfl
section
variable {K : PySem.W.Frag} {mg : Str → Option Value} {X : Cx} {G : Gm} {Wx : WX} {e : Expr} {fe : EV} {pos : Pos}
theorem ed_remove (i : Nat) {x : Str} {p apos cpos : Pos} (ho : PE X (.Name x p) (tVar i)) (he : ED X G Wx e fe)
    (hbase : attributeBase (.Name x p) "remove" X.env (eval (.Name x p) X.env) = eval (.Name x p) X.env := by rfl)
    (hfew : ((backTo cpos (starEach [e] X.env)).all (fun x => !x.1) && (backToKw cpos (keywordEach [] X.env)).all (fun x => x.1.isSome) && decide ([e].length + ([] : List Keyword).length + (if ([] : List Keyword).isEmpty then 0 else 1) < 30)) = true := by rfl)
    (hline : (apos.endLine == cpos.line) = true := by rfl) (hs : starEach [e] X.env = (false, eval e X.env) :: starEach [] X.env := by rfl) : ED X G Wx (.Call (.Attribute (.Name x p) "remove" apos) [e] [] cpos) (eRem i fe) := by
  refine ⟨PE.imp (pe_bm PySem.F.plainAttrs_list PySem.F.slot_list_remove PySem.F.type_list_remove mt_remove ho (pa_cons he.pe pa_nil hs) hbase hfew hline hs rfl) fun σ H Q ⟨P, A, L, s, hs, h⟩ => ?_⟩
  unfold eRem at h
  split at h
  · rename_i ds0 e0
    obtain ⟨q0, xs0, e1, e2, _, _, _⟩ := hs.mutate (ds' := []) e0
    refine ⟨_, e1, .inl ⟨rfl, _, SqL.of e2⟩, (tE_one hs h).mono fun v H1 ⟨A1, L1, s1, r, a1, h1⟩ => ?_⟩
    split at h1
    · rename_i k ds e3 e4
      split at h1
      · rename_i ns e5
        split at h1
        · rename_i hk
          obtain ⟨q, xs, f1, f2, f3, f4, f5⟩ := a1.weak.mutate (ds' := []) e4
          rw [e1] at f1; cases f1
          have := allI_some e5
          subst this
          have := f3.ints
          subst this
          have hv := rd_ok a1.weak a1.ok e3
          have hv2 : v = V.int k := hv.int
          subst hv2
          obtain ⟨j, g1, g2, g3⟩ := erase_at hk
          obtain ⟨sr3, st3⟩ := f5 ((ns.erase k).map D.int) ((ns.erase k).map V.int) (reps_ints _)
          exact ⟨q0, ns, k, j, rfl, rfl, f2, g1, g2, by rw [g3]; exact h1 A1 L1 _ _ (At.non sr3 (a1.st.trans st3) hs.p0)⟩
        · exact h1.elim
      · exact h1.elim
    · exact h1.elim
  · exact h.elim
end
end DL
namespace DL
open PySem PySem.Spec PyProof.Rows L2
/-! ### max of a list of pairs of ints: the comparisons read the heap -/
/-- comparisons that may lean on the walk's state -/
def CmpH (prog : Program) (w : World) (A : Around) (P : Nat → Value → Prop) (St : Nat → Heap → Prop) (bt : Nat → Nat → Bool) : Prop :=
  ∀ i j k vi vj (s : Shared) (Q E : Value → Shared → Prop), St k s.heap → P i vi → P j vj → Q (.bool (bt i j)) s → wpAny (model prog w) A (richCompare .Gt vi vj) Q E s
section
variable {prog : Program} {w : World} {A : Around} {R : Result → Shared → Prop} {I : Addr} {fp wr : List Addr} {n : Nat} {P : Nat → Value → Prop} {St : Nat → Heap → Prop}
theorem pair_loop (W : Walks prog w A.in1 I fp wr n P St) (bt : Nat → Nat → Bool) (hcmp : CmpH prog w A.in1 P St bt) (S : Addr) (hSf : S ∉ fp) (hname : (toString "max" ++ toString ".loop" : String) = "max.loop") :
    ∀ (k j : Nat) (s : Shared) (vb : Value) (c : Nat), n - (j + 1) = k → j + 1 ≤ n → St (j + 1) s.heap → P (argBest bt j) vb → s.heap.get? S = some { cls := .type "list", dict := none, data := .seq #[vb, vb] c, slots := #[] } →
    (∀ v h' tk, P (argBest bt (n - 1)) v → (∀ b o, b ∉ wr → b ≠ S → s.heap.get? b = some o → h'.get? b = some o) → R (.ok (.ret v)) { s with heap := h', toks := tk }) → codeAny (model prog w) A (.builtin "max.loop" ⟨[.ref I, .none, .ref S], []⟩) R s
  | 0, j, s, vb, c, hk, hj, hst, hPb, hS, hR => by
    have hSw : S ∉ wr := fun h => hSf (W.sub _ h)
    have hin : j + 1 = n := by omega
    refine codeAny_builtin F.entry_max_loop ?_
    rw [Around.under_plainId F.plain_max_loop _]
    show wpAny _ A.in1 (seqItems? (.ref S) >>= _) _ _ s
    refine wpAny_bind (wpAny_seqItems hS rfl ?_)
    show wpAny _ A.in1 (tryCatch (pyNext (.ref I)) _ >>= _) _ _ s
    refine wpAny_bind (wpAny_tryCatch (W.done s _ _ (hin ▸ hst) fun h' tk hk' => ?_))
    show wpAny _ A.in1 (updateSeq S (fun _ => #[]) >>= _) _ _ _
    exact wpAny_bind (wpAny_updateSeq (hk' S _ hSw hS) rfl (wpAny_bind (wpAny_letGo (wpAny_pure (hR vb _ tk (by rw [← hin]; exact hPb) fun b o hbw hbS e => (Heap.get?_update_other _ _ (Ne.symm hbS)).trans (hk' b o hbw e))))))
  | k + 1, j, s, vb, c, hk, hj, hst, hPb, hS, hR => by
    have hSw : S ∉ wr := fun h => hSf (W.sub _ h)
    have hlt : j + 1 < n := by omega
    refine codeAny_builtin F.entry_max_loop ?_
    rw [Around.under_plainId F.plain_max_loop _]
    show wpAny _ A.in1 (seqItems? (.ref S) >>= _) _ _ s
    refine wpAny_bind (wpAny_seqItems hS rfl ?_)
    show wpAny _ A.in1 (tryCatch (pyNext (.ref I)) _ >>= _) _ _ s
    refine wpAny_bind (wpAny_tryCatch (W.item (j + 1) s _ _ hlt hst fun v h' tk hP hst' hk' => ?_))
    have hS' := hk' S _ hSw hS
    show wpAny _ A.in1 (tryCatch (holding [v, v] (richCompare .Gt v vb >>= _)) _ >>= _) _ _ _
    refine wpAny_bind (wpAny_tryCatch (wpAny_holding (wpAny_bind (hcmp (j + 1) (argBest bt j) _ v vb _ _ _ hst' hP hPb (wpAny_bind (wpAny_holding (wpAny_truthy_bool (wpAny_bind (wpAny_letGo (wpAny_pure ?_))))))))))
    cases hb : bt (j + 1) (argBest bt j) with
    | true =>
      simp only [if_true]
      refine wpAny_bind ?_
      refine wpAny_updateSeq hS' rfl (wpAny_bind (wpAny_letGo ?_))
      rw [hname]
      refine wpAny_pure ⟨plainId_quiet F.plain_max_loop _, pair_loop W bt hcmp S hSf hname k (j + 1) _ v _ (by omega) hlt (W.frame _ _ _ hst' fun b hbf o e => ?_) (by simp only [argBest, hb, if_true]; exact hP) (Heap.get?_update_self _ hS' rfl)
        fun v' h'' tk'' hP' hk'' => hR v' h'' tk'' hP' fun b o hbw hbS e => hk'' b o hbw hbS ((Heap.get?_update_other _ _ (Ne.symm hbS)).trans (hk' b o hbw e))⟩
      exact (Heap.get?_update_other _ _ (fun h : S = b => hSf (by rw [h]; exact hbf))).trans e
    | false =>
      simp only [Bool.false_eq_true, if_false]
      refine wpAny_bind (wpAny_letGo ?_)
      rw [hname]
      exact wpAny_pure ⟨plainId_quiet F.plain_max_loop _, pair_loop W bt hcmp S hSf hname k (j + 1) _ vb c (by omega) hlt hst' (by simp only [argBest, hb, Bool.false_eq_true, if_false]; exact hPb) hS' fun v' h'' tk'' hP' hk'' => hR v' h'' tk'' hP' fun b o hbw hbS e => hk'' b o hbw hbS (hk' b o hbw e)⟩
theorem pair_first (W : Walks prog w A.in1 I fp wr n P St) (bt : Nat → Nat → Bool) (hcmp : CmpH prog w A.in1 P St bt) (S : Addr) (hSf : S ∉ fp) (hn : 0 < n) {s : Shared} {c : Nat} (hst : St 0 s.heap)
    (hS : s.heap.get? S = some { cls := .type "list", dict := none, data := .seq #[] c, slots := #[] })
    (hR : ∀ v h' tk, P (argBest bt (n - 1)) v → (∀ b o, b ∉ wr → b ≠ S → s.heap.get? b = some o → h'.get? b = some o) → R (.ok (.ret v)) { s with heap := h', toks := tk }) :
    codeAny (model prog w) A (.builtin "max.loop" ⟨[.ref I, .none, .ref S], []⟩) R s := by
  have hSw : S ∉ wr := fun h => hSf (W.sub _ h)
  have hname : (toString "max" ++ toString ".loop" : String) = "max.loop" := by decide
  refine codeAny_builtin F.entry_max_loop ?_
  rw [Around.under_plainId F.plain_max_loop _]
  show wpAny _ A.in1 (seqItems? (.ref S) >>= _) _ _ s
  refine wpAny_bind (wpAny_seqItems hS rfl ?_)
  show wpAny _ A.in1 (tryCatch (pyNext (.ref I)) _ >>= _) _ _ s
  refine wpAny_bind (wpAny_tryCatch (W.item 0 s _ _ hn hst fun v h' tk hP hst' hk' => ?_))
  have hS' := hk' S _ hSw hS
  show wpAny _ A.in1 (updateSeq S (fun _ => #[v, v]) >>= _) _ _ _
  refine wpAny_bind (wpAny_updateSeq hS' rfl ?_)
  rw [hname]
  refine wpAny_pure ⟨plainId_quiet F.plain_max_loop _, pair_loop W bt hcmp S hSf hname _ 0 _ v _ rfl hn (W.frame _ _ _ hst' fun b hbf o e => ?_) hP (Heap.get?_update_self _ hS' rfl) fun v' h'' tk'' hP' hk'' =>
    hR v' h'' tk'' hP' fun b o hbw hbS e => hk'' b o hbw hbS ((Heap.get?_update_other _ _ (Ne.symm hbS)).trans (hk' b o hbw e))⟩
  exact (Heap.get?_update_other _ _ (fun h : S = b => hSf (by rw [h]; exact hbf))).trans e
end
/-- the pairs that the walked list holds -/
structure Pairs (h : Heap) (items : Array Value) (n : Nat) (ad : Nat → Addr) (p : Nat → Int × Int) : Prop where
  at_ : ∀ j, j < n → items[j]? = some (.ref (ad j))
  tup : ∀ j, j < n → ∃ t u, h.IsTuple (ad j) #[.int (p j).1 t, .int (p j).2 u]
def gtP (p q : Int × Int) : Bool := decide (q.1 < p.1) || (decide (q.1 = p.1) && decide (q.2 < p.2))
section
variable {prog : Program} {w : World} {A : Around} {E : Value → Shared → Prop} {s : Shared} {l : Addr} {items : Array Value} {n : Nat} {ad : Nat → Addr} {p : Nat → Int × Int}
theorem Walks.pairs (hh : A.handled = none) (I l : Addr) (hne : l ≠ I) (hI : ∀ j, j < items.size → ad j ≠ I) :
    Walks prog w A I ([I, l] ++ (List.range items.size).map ad) [I] items.size (fun i v => items[i]? = some v) (fun i h => (h.IsListIter I l i ∧ h.IsList l items) ∧ Pairs h items items.size ad p) := by
  have W := Walks.list (prog := prog) (w := w) (A := A) hh I l hne items
  refine ⟨fun b hb => by simp at hb; simp [hb], fun i h h' st hk => ⟨W.frame i h h' st.1 fun b hb => hk b (List.mem_append_left _ hb), st.2.at_, fun j hj => ?_⟩, fun i s Q E hi st hQ => W.item i s Q E hi st.1 fun v h' tk hP st' hk => hQ v h' tk hP ⟨st', st.2.at_, fun j hj => ?_⟩ hk,
    fun s Q E st hQ => W.done s Q E st.1 hQ, fun i s Q E st hQ => W.self i s Q E st.1 hQ⟩
  · obtain ⟨t, u, o, ho, r⟩ := st.2.tup j hj
    exact ⟨t, u, o, hk (ad j) (List.mem_append_right _ (List.mem_map.mpr ⟨j, List.mem_range.mpr hj, rfl⟩)) o ho, r⟩
  · obtain ⟨t, u, o, ho, r⟩ := st.2.tup j hj
    exact ⟨t, u, o, hk (ad j) o (fun hm => hI j hj (List.mem_singleton.mp hm)) ho, r⟩
theorem gt_pair {a b : Addr} {x y x' y' : Int} {t u t' u' : Tok} {Q : Value → Shared → Prop} (ha : s.heap.IsTuple a #[.int x t, .int y u]) (hb : s.heap.IsTuple b #[.int x' t', .int y' u']) (hu : A.units < cLine) (hq : Q (.bool (gtP (x, y) (x', y'))) s) :
    wpAny (model prog w) A (richCompare .Gt (.ref a) (.ref b)) Q E s := by
  have R := Ob.RcOp.tuples_gt (A := A) (s := s) (e := fun j => if j = 0 then (x == x') else (y == y')) (r := fun j => if j = 0 then decide (x' < x) else decide (y' < y)) ha hb hu (fun j h1 h2 => ?_) (fun j h1 h2 _ => ?_)
  · refine R prog w E Q ?_
    have e : Ob.lexAt (fun j => if j = 0 then (x == x') else (y == y')) (fun j => if j = 0 then decide (x' < x) else decide (y' < y)) (decide (#[Value.int x t, .int y u].size > #[Value.int x' t', .int y' u'].size)) 0 (min #[Value.int x t, .int y u].size #[Value.int x' t', .int y' u'].size) = gtP (x, y) (x', y') := by
      show (if (x == x') = true then (if (y == y') = true then decide ((2 : Nat) > 2) else decide (y' < y)) else decide (x' < x)) = _
      unfold gtP
      by_cases h1 : x = x'
      · subst h1
        by_cases h2 : y = y'
        · subst h2; simp
        · simp [h2]
      · have h3 : ¬ x' = x := fun h => h1 h.symm
        simp [h1, h3]
    rw [e]; exact hq
  · have : j = 0 ∨ j = 1 := by simp at h1; omega
    rcases this with rfl | rfl
    · exact SeqAt.EqAt.int_int x t x' t'
    · exact SeqAt.EqAt.int_int y u y' u'
  · have : j = 0 ∨ j = 1 := by simp at h1; omega
    rcases this with rfl | rfl
    · exact Ob.RcOp.gt_int x x' t t'
    · exact Ob.RcOp.gt_int y y' u u'
theorem maxP_raw {Q : Value → Shared → Prop} (hh : A.handled = none) (hu : A.in1.units < cLine) (hl : s.heap.IsList l items) (hp : Pairs s.heap items items.size ad p) (hn : 0 < items.size)
    (h : ∀ j h' tk, j < items.size → (∀ i, i < items.size → gtP (p i) (p j) = false) → (∀ b o, s.heap.get? b = some o → h'.get? b = some o) → Q (.ref (ad j)) { s with heap := h', toks := tk }) : wpAny (model prog w) A (call (.builtin "max") [.ref l]) Q E s := by
  have hname : (toString "max" ++ toString ".loop" : String) = "max.loop" := by decide
  refine call_function_tree F.kind_max F.plain_max F.entry_max (F.args_max1 _) ?_
  show wpAny _ A.in1 (Builtin.Builtins.bindParams "max" ["key", "default"] 0 ⟨[], []⟩ >>= _) _ _ s
  refine wpAny_bind (wpAny_of_eq (show Builtin.Builtins.bindParams "max" ["key", "default"] 0 ⟨[], []⟩ = pure [none, none] from rfl) ?_)
  refine wpAny_bind (wpAny_pure ?_)
  have hlt : l < s.heap.objs.size := by obtain ⟨_, e, _⟩ := hl; exact Heap.lt_size e
  have hal : ∀ j, j < items.size → ad j < s.heap.objs.size := fun j hj => by obtain ⟨t, u, o, ho, _⟩ := hp.tup j hj; exact Heap.lt_size ho
  refine wpAny_bind (wpAny_pyIter_list hl ?_)
  refine wpAny_bind (wpAny_newObj_type ?_)
  have hsz : (s.heap.push { cls := .type "list_iterator", data := .fields #[.ref l, .int 0 0] }).objs.size = s.heap.objs.size + 1 := Heap.size_push ..
  have W := Walks.pairs (prog := prog) (w := w) (A := A.in1) (ad := ad) (p := p) (items := items) hh s.heap.objs.size l (Nat.ne_of_lt hlt) fun j hj => Nat.ne_of_lt (hal j hj)
  have hSf : (s.heap.push { cls := .type "list_iterator", data := .fields #[.ref l, .int 0 0] }).objs.size ∉ [s.heap.objs.size, l] ++ (List.range items.size).map ad := by
    rw [hsz]
    intro hm
    rcases List.mem_append.mp hm with hm | hm
    · rcases List.mem_cons.mp hm with e | hm
      · exact absurd e (Nat.ne_of_gt (Nat.lt_succ_self _))
      · exact absurd (List.mem_singleton.mp hm) (Nat.ne_of_gt (Nat.lt_succ_of_lt hlt))
    · obtain ⟨j, hj, e⟩ := List.mem_map.mp hm
      exact absurd e (Nat.ne_of_lt (Nat.lt_succ_of_lt (hal j (List.mem_range.mp hj))))
  have k1 : ∀ b o, s.heap.get? b = some o → ((s.heap.push { cls := .type "list_iterator", data := .fields #[.ref l, .int 0 0] }).push { cls := .type "list", data := .seq #[] }).get? b = some o := fun b o e => Heap.get?_push_of_some _ (Heap.get?_push_of_some _ e)
  have hcmp : CmpH prog w A.in1 (fun i v => items[i]? = some v) (fun i h => (h.IsListIter s.heap.objs.size l i ∧ h.IsList l items) ∧ Pairs h items items.size ad p) (fun i j => gtP (p i) (p j)) := fun i j k vi vj s' Q' E' st hi hj hq => by
    have hi' : i < items.size := (Array.getElem?_eq_some_iff.mp hi).1
    have hj' : j < items.size := (Array.getElem?_eq_some_iff.mp hj).1
    have e1 := st.2.at_ i hi'
    have e2 := st.2.at_ j hj'
    rw [hi] at e1; cases e1
    rw [hj] at e2; cases e2
    obtain ⟨t, u, t1⟩ := st.2.tup i hi'
    obtain ⟨t', u', t2⟩ := st.2.tup j hj'
    exact gt_pair t1 t2 hu hq
  rw [hname]
  refine wpAny_pure ⟨plainId_quiet F.plain_max_loop _, pair_first W (fun i j => gtP (p i) (p j)) hcmp _ hSf hn ⟨⟨⟨_, Heap.get?_push_of_some _ (Heap.get?_push_size _ rfl), rfl, rfl⟩, (hl.push _).push _⟩, hp.at_, fun j hj => ?_⟩ (Heap.get?_push_size _ rfl) fun v h' tk hP hk => ?_⟩
  · obtain ⟨t, u, o, ho, r⟩ := hp.tup j hj
    exact ⟨t, u, o, k1 _ _ ho, r⟩
  · have key : ∀ k, argBest (fun i j => gtP (p i) (p j)) k ≤ k ∧ ∀ i, i ≤ k → gtP (p i) (p (argBest (fun i j => gtP (p i) (p j)) k)) = false := by
      intro k
      induction k with
      | zero =>
        refine ⟨Nat.le_refl _, fun i hi => ?_⟩
        obtain rfl : i = 0 := by omega
        show gtP (p 0) (p 0) = false
        simp [gtP]
      | succ k ih =>
        obtain ⟨h1, h2⟩ := ih
        simp only [argBest]
        by_cases hb : gtP (p (k + 1)) (p (argBest (fun i j => gtP (p i) (p j)) k)) = true
        · rw [if_pos hb]
          refine ⟨Nat.le_refl _, fun i hi => ?_⟩
          by_cases hi2 : i = k + 1
          · subst hi2; simp [gtP]
          · have h3 := h2 i (by omega)
            revert h3 hb
            generalize p i = a
            generalize p (k + 1) = b
            generalize p (argBest (fun i j => gtP (p i) (p j)) k) = c
            intro hb h3
            simp only [gtP, Bool.or_eq_true, Bool.and_eq_true, decide_eq_true_eq, Bool.or_eq_false_iff, Bool.and_eq_false_iff, decide_eq_false_iff_not] at hb h3 ⊢
            omega
        · rw [if_neg hb]
          refine ⟨by omega, fun i hi => ?_⟩
          by_cases hi2 : i = k + 1
          · subst hi2; exact Bool.eq_false_iff.mpr hb
          · exact h2 i (by omega)
    obtain ⟨h1, h2⟩ := key (items.size - 1)
    have hj : argBest (fun i j => gtP (p i) (p j)) (items.size - 1) < items.size := by omega
    have hv := hp.at_ _ hj
    rw [hP] at hv; cases hv
    refine h _ h' tk hj (fun i hi => h2 i (by omega)) fun b o e => hk b o (fun hm => ?_) (fun hm => ?_) (k1 b o e)
    · exact absurd (List.mem_singleton.mp hm ▸ Heap.lt_size e) (Nat.lt_irrefl _)
    · have := Heap.lt_size e
      rw [hm, hsz] at this
      exact absurd this (Nat.not_lt.mpr (Nat.le_succ _))
end
section
variable {K : PySem.W.Frag} {mg : Str → Option Value} {X : Cx}
def rMaxP (K : PySem.W.Frag) : List V → Hp → VK → Prop := fun vs H Q => ∃ (a : Addr) (xs : List V) (ps : List (Int × Int)), vs = [V.ref a] ∧ SqL K H a xs ∧ xs.length = ps.length ∧ 0 < ps.length ∧
  (∀ (j : Nat) (q : Int × Int), ps[j]? = some q → ∃ t, xs[j]? = some (V.ref t) ∧ SqT K H t [V.int q.1, V.int q.2]) ∧
  ∀ (j : Nat) (q : Int × Int) (x : V), ps[j]? = some q → (∀ q' ∈ ps, gtP q' q = false) → xs[j]? = some x → Q x H
theorem cr_maxP (hc : X.calm = true) (hu : X.A.in1.units < cLine) : CallR X (.builtin "max") (rMaxP X.K) := by
  intro pins s σ H vs us Q I r ⟨a, xs, ps, e, hs, hl, h0, hp, q⟩
  subst e
  obtain ⟨its, rv, pl, _⟩ := I.list hs
  rw [Vals.ref1 r]
  have hn : its.toArray.size = ps.length := by rw [List.size_toArray, ← rv.length, hl]
  have key : ∀ j, ∃ t : Addr, j < ps.length → xs[j]? = some (V.ref t) ∧ its[j]? = some (Value.ref t) ∧ ∃ tk tk', s.heap.IsTuple t #[.int (ps.getD j (0, 0)).1 tk, .int (ps.getD j (0, 0)).2 tk'] := fun j => by
    by_cases hj : j < ps.length
    · obtain ⟨t, e1, e2⟩ := hp j _ (List.getElem?_eq_getElem hj)
      obtain ⟨u, e3, e4⟩ := rv.get e1
      cases e4
      refine ⟨t, fun _ => ⟨e1, e3, ?_⟩⟩
      obtain ⟨its2, r2, tp, _⟩ := I.tuple e2
      obtain ⟨tk, tk', e5⟩ := Vals.int2 r2
      subst e5
      have e6 : ps.getD j (0, 0) = ps[j] := by rw [List.getD_eq_getElem?_getD, List.getElem?_eq_getElem hj]; rfl
      rw [e6]
      exact ⟨tk, tk', tp⟩
    · exact ⟨0, fun h => absurd h hj⟩
  have prs : Pairs s.heap its.toArray its.toArray.size (fun j => Classical.choose (key j)) (fun j => ps.getD j (0, 0)) := by
    rw [hn]
    refine ⟨fun j hj => ?_, fun j hj => ?_⟩
    · have := (Classical.choose_spec (key j) hj).2.1
      simpa using this
    · exact (Classical.choose_spec (key j) hj).2.2
  refine maxP_raw (I.ok.hd hc) hu pl.isList prs (by rw [hn]; exact h0) fun j h' tk hj hb hk => ?_
  rw [hn] at hj hb
  have c1 := (Classical.choose_spec (key j) hj).1
  refine ⟨.ref _, H, I.kept hk, rfl, q j _ _ (List.getElem?_eq_getElem hj) (fun q' hq' => ?_) c1⟩
  obtain ⟨i, hi, e⟩ := List.getElem_of_mem hq'
  have := hb i hi
  have e1 : ps.getD i (0, 0) = ps[i] := by rw [List.getD_eq_getElem?_getD, List.getElem?_eq_getElem hi]; rfl
  have e2 : ps.getD j (0, 0) = ps[j] := by rw [List.getD_eq_getElem?_getD, List.getElem?_eq_getElem hj]; rfl
  rw [e1, e2, e] at this
  exact this
def allP : List D → Option (List (Int × Int))
  | [] => some []
  | .tup [.int i, .int j] :: r => (allP r).map fun t => (i, j) :: t
  | _ => none
abbrev pD (p : Int × Int) : D := .tup [.int p.1, .int p.2]
theorem allP_some : ∀ {xs : List D} {ps : List (Int × Int)}, allP xs = some ps → xs = ps.map pD
  | [], ps, h => by unfold allP at h; cases h; rfl
  | x :: xs, ps, h => by
    unfold allP at h
    split at h
    · rename_i e; cases e
    · rename_i i j r e
      cases e
      obtain ⟨t, e1, rfl⟩ := Option.map_eq_some_iff.mp h
      rw [allP_some e1]; rfl
    · cases h
def bestP (p : Int × Int) (r : List (Int × Int)) : Int × Int := r.foldl (fun m q => if gtP q m = true then q else m) p
theorem gtP_tr {a b c : Int × Int} (h : gtP a b = true) (h2 : gtP c b = false) : gtP c a = false := by
  simp only [gtP, Bool.or_eq_true, Bool.and_eq_true, decide_eq_true_eq, Bool.or_eq_false_iff, Bool.and_eq_false_iff, decide_eq_false_iff_not] at h h2 ⊢
  omega
theorem bestP_spec : ∀ (r : List (Int × Int)) (p : Int × Int), bestP p r ∈ p :: r ∧ ∀ q ∈ p :: r, gtP q (bestP p r) = false
  | [], p => by simp [bestP, gtP]
  | x :: r, p => by
    show (r.foldl _ (if gtP x p = true then x else p)) ∈ _ ∧ ∀ q ∈ _, gtP q (r.foldl _ (if gtP x p = true then x else p)) = false
    by_cases h : gtP x p = true
    · rw [if_pos h]
      obtain ⟨h1, h2⟩ := bestP_spec r x
      refine ⟨List.mem_cons_of_mem _ h1, fun q hq => ?_⟩
      rcases List.mem_cons.mp hq with rfl | hq
      · have h3 := h2 x List.mem_cons_self
        have e : gtP q (bestP x r) = false := by
          revert h h3
          generalize bestP x r = m
          intro h h3
          simp only [gtP, Bool.or_eq_true, Bool.and_eq_true, decide_eq_true_eq, Bool.or_eq_false_iff, Bool.and_eq_false_iff, decide_eq_false_iff_not] at h h3 ⊢
          omega
        exact e
      · exact h2 q hq
    · rw [if_neg h]
      obtain ⟨h1, h2⟩ := bestP_spec r p
      refine ⟨?_, fun q hq => ?_⟩
      · rcases List.mem_cons.mp h1 with h1 | h1
        · rw [show r.foldl (fun m q => if gtP q m = true then q else m) p = bestP p r from rfl, h1]; exact List.mem_cons_self
        · exact List.mem_cons_of_mem _ (List.mem_cons_of_mem _ h1)
      · rcases List.mem_cons.mp hq with rfl | hq
        · exact h2 q List.mem_cons_self
        · rcases List.mem_cons.mp hq with rfl | hq
          · have h3 := h2 p List.mem_cons_self
            have e : gtP q (bestP p r) = false := by
              revert h h3
              generalize bestP p r = m
              intro h h3
              simp only [gtP, Bool.or_eq_true, Bool.and_eq_true, decide_eq_true_eq, Bool.or_eq_false_iff, Bool.and_eq_false_iff, decide_eq_false_iff_not] at h h3 ⊢
              omega
            exact e
          · exact h2 q (List.mem_cons_of_mem _ hq)
def maxX : D → Option RV := fun d => match maxA d with
  | some r => some r
  | none => match d with
    | .lst xs => match allP xs with
      | some (p :: r) => some (.pv (pD (bestP p r)))
      | _ => none
    | _ => none
def rMaxX (K : PySem.W.Frag) : List V → Hp → VK → Prop := fun vs H Q => rMaxA K vs H Q ∨ rMaxP K vs H Q
theorem cr_maxX (hc : X.calm = true) (hu0 : X.A.units + 64 < cLine) : CallR X (.builtin "max") (rMaxX X.K) := by
  intro pins s σ H vs us Q I r h
  rcases h with h | h
  · exact cr_maxA hc pins s σ H vs us Q I r h
  · exact cr_maxP hc (by simp only [units_in1]; omega) pins s σ H vs us Q I r h
theorem opv_maxX : OpV1 K mg (fun v => rMaxX K [v]) maxX := by
  intro B H x a res Q hB ha e q
  unfold maxX at e
  split at e
  · rename_i r e1
    cases e
    exact .inl (opv_maxA B H x a res Q hB ha e1 q)
  · split at e
    · rename_i xs
      split at e
      · rename_i p r e1
        cases e
        obtain ⟨pa, vs, rfl, t, rr⟩ := ha.lst
        have := allP_some e1
        subst this
        refine .inr ⟨pa, vs, p :: r, rfl, SqL.of t, by rw [← rr.length, List.length_map], by simp, fun j qq hj => ?_, fun j qq x hj hbest hx => ?_⟩
        · have e2 : ((p :: r).map pD)[j]? = some (pD qq) := by rw [List.getElem?_map, hj]; rfl
          obtain ⟨v, e3, e4⟩ := rr.get e2
          unfold pD Rep at e4
          obtain ⟨b, ws, rfl, tp, rw_⟩ := e4
          have := (show Reps K mg B H (([qq.1, qq.2] : List Int).map D.int) ws from rw_).ints
          subst this
          exact ⟨b, e3, tp.sq⟩
        · obtain ⟨b1, b2⟩ := bestP_spec r p
          have hq : qq = bestP p r := by
            have h1 := hbest _ b1
            have h2 := b2 qq (List.mem_of_getElem? hj)
            revert h1 h2
            generalize bestP p r = m
            intro h1 h2
            simp only [gtP, Bool.or_eq_false_iff, Bool.and_eq_false_iff, decide_eq_false_iff_not] at h1 h2
            have : qq.1 = m.1 := by omega
            have h4 : qq.2 = m.2 := by omega
            exact Prod.ext this h4
          have e2 : ((p :: r).map pD)[j]? = some (pD qq) := by rw [List.getElem?_map, hj]; rfl
          obtain ⟨v, e3, e4⟩ := rr.get e2
          rw [hx] at e3; cases e3
          rw [← hq] at q
          exact q _ _ (.same e4)
      · cases e
    · cases e
end
end DL
namespace DL
open PySem PySem.Spec PyProof.Rows L2
/-! ### a comprehension over a list that a variable owns: the list stays its own -/
section
variable {K : PySem.W.Frag} {mg : Str → Option Value} {X : Cx} {G : Gm} {Wx : WX} {a b c e : Expr} {es : List Expr} {fa fb fc fe : EV} {pos : Pos} {α β : Type}
variable {P P' : Addr → Prop} {A A' A1 : List (Option Addr)} {σ σ' : L2.St} {L L' L1 : List Addr} {H H' H1 : Hp} {s s' : S} {vs : List Nat}
theorem comp_core {ds : List D} {g : GV} {t : TV} {tt : TT} {te : TE} {σ : L2.St} {Q : VK} {vs : List Nat} {J : It} {s1 : S} (p0 : ∀ a, P a → (∃ o, H a = some o) ∧ some a ∉ A)
    (ht : ∀ {σ H Q}, tT K mg G W0 t σ H Q → tt σ H Q) (hte : ∀ {σ H Q}, tE K mg G W0 fe σ H Q → te σ H Q)
    (sr1 : SR K mg G P A1 L1 s1 σ H1) (ok1 : ItOk K mg P A1 L1 H1 J ds) (st1 : Step A L H A1 L1 H1)
    (h1 : Run K mg G Wx P A L H σ (if noOwn s1.η vs = true then (noErr (loopC vs g t fe ds [] { s1 with η := wipeN s1.η vs })).bind fun acc s2 => .ok (.ow acc) { s2 with η := restN s1.η s2.η vs } else .bad) (PostE K mg G P A L H σ Q)) :
    tLc (fun _ H R => R J H) (tGv K mg G vs g) tt te vs σ H1 Q := by
  by_cases nO : noOwn s1.η vs = true
  · rw [if_pos nO] at h1
    cases e : loopC vs g t fe ds [] { s1 with η := wipeN s1.η vs } with
    | bad => rw [e] at h1; exact h1.elim
    | err _ _ => rw [e] at h1; exact h1.elim
    | ok acc sf =>
      rw [e] at h1
      have h1 : PostE K mg G P A L H σ Q (.ow acc) { sf with η := restN s1.η sf.η vs } := h1
      intro p hp
      let P1 : Addr → Prop := fun a => P a ∨ a = p
      have srw := sr1.wiped nO
      have sr0 : SR K mg G P1 A1 L1 { s1 with η := wipeN s1.η vs } (wipe σ vs) (upd H1 p (.lst [])) := srw.keep (keep_upd hp) fun a z => z.imp id fun z => by subst z; exact ⟨⟨_, upd_same⟩, hp⟩
      have stp : Step A1 L1 H1 A1 L1 (upd H1 p (.lst [])) := Step.keep (keep_upd hp)
      refine ⟨fun i m H' => i + m = ds.length ∧ ∃ A' L' s' cc ccV, SR K mg G P1 A' L' s' (wipe σ vs) H' ∧ Step A1 L1 H1 A' L' H' ∧ some p ∉ A' ∧ p ∉ L' ∧ H' p = some (.lst ccV) ∧ Reps K mg (fun b => b = p ∨ Bd P A' L' b) H' cc ccV ∧ s'.η.length = s1.η.length ∧ wipeN s'.η vs = s'.η ∧
          loopC vs g t fe (ds.drop i) cc s' = .ok acc sf,
        ⟨ds.length, by omega, A1, L1, _, [], [], sr0, stp, ?_, ?_, upd_same, Reps.nil, by rw [wipeN_len], ?_, e⟩, ?_⟩
      · intro z; obtain ⟨o, eo⟩ := sr1.there p (.inl z); rw [hp] at eo; cases eo
      · intro z; obtain ⟨o, eo⟩ := sr1.there p (.inr (.inl z)); rw [hp] at eo; cases eo
      · exact wipeN_idem _ _
      · rintro i m H2 ⟨em, A2, L2, s2, cc, ccV, sr2, st2, na, nl, hpv, rc, hlen, hw, e2⟩
        have np0 : G.H0 p = none := by
          cases q : G.H0 p with
          | none => rfl
          | some o =>
            obtain ⟨o', q'⟩ := sr1.ent.there p o q
            rw [hp] at q'; cases q'
        obtain ⟨go, stop, yld⟩ := ok1 P1 A2 L2 H2 (fun a z => z.imp id fun z => by rw [z]; exact hp) st2 sr2.there
        by_cases hi : i < ds.length
        · refine .inr ⟨go i hi, fun H' => ∃ A' L' s' cc ccV, SR K mg G P1 A' L' s' (wipe σ vs) H' ∧ Step A1 L1 H1 A' L' H' ∧ some p ∉ A' ∧ p ∉ L' ∧ H' p = some (.lst ccV) ∧ Reps K mg (fun b => b = p ∨ Bd P A' L' b) H' cc ccV ∧ s'.η.length = s1.η.length ∧ wipeN s'.η vs = s'.η ∧
            loopC vs g t fe (ds.drop (i + 1)) cc s' = .ok acc sf, fun H' n => ⟨m - 1, by omega, by omega, n⟩, fun x H3 y => ?_⟩
          have ro := yld i _ x H3 (List.getElem?_eq_getElem hi) y
          rw [Reps.nth hi] at e2
          unfold loopC at e2
          obtain ⟨_, s3, eg, e2⟩ := bind_ok e2
          obtain ⟨b, s4, et, e2⟩ := bind_ok e2
          have a2 : At K mg G P1 A2 L2 H2 (wipe σ vs) A2 L2 s2 H3 (.pv ds[i]) x := At.mk' sr2 (Step.refl _ _ _) sr2.p0 ro
          refine ⟨P1, A2, L2, H2, A2, L2, s2, _, s3, a2, eg, fun A3 L3 σ3 H4 sr3 st3 w3 => ?_⟩
          have w3 : wipe σ3 vs = wipe σ vs := w3.trans (wipe_ext (wipe_length _ _) fun j hj => wipe_out hj)
          have l3 : s3.η.length = s1.η.length := by rw [← sr3.lenσ, ← wipe_length σ3 vs, w3, sr2.lenσ]; exact hlen
          refine ⟨w3, ht ⟨P1, A3, L3, s3, sr3, Run.ok0 ⟨b, s4, et, fun A4 L4 H5 sr4 st4 => ?_⟩⟩⟩
          have l4 : s4.η.length = s1.η.length := by rw [← sr4.lenσ, sr3.lenσ]; exact l3
          cases b with
          | true =>
            rw [if_pos rfl] at e2
            obtain ⟨r, s5, ef, e2⟩ := bind_ok e2
            obtain ⟨y', s6, ez, e2⟩ := bind_ok e2
            refine iteT (hte ⟨P1, A4, L4, s4, sr4, Run.ok0 ⟨r, s5, ef, fun A5 L5 v H6 a5 => ?_⟩⟩)
            have ez : fz r s5 = some (y', s6) := by
              unfold fzR at ez
              split at ez
              · rename_i q; cases ez; exact q
              · cases ez
            split at e2
            · rename_i hz
              obtain ⟨A6, sr6, rp, st6⟩ := a5.frz ez
              have S' := st3.trans (st4.trans st6)
              have out := S'.out hpv na nl
              have h6 := S'.frm p _ hpv na nl (fun _ => nofun)
              obtain ⟨A7, sr7, st7, m7⟩ := sr6.wipeA vs
              rw [w3] at sr7
              have na7 : some p ∉ A7 := fun z => out.1 (m7 p z)
              refine ⟨ccV, h6, by rw [← rc.length]; exact hz, A7, L5, _, cc ++ [y'], ccV ++ [v], sr7.updP (.inr rfl) h6 np0, ((st2.trans S').trans st7).updNew hp h6, na7, out.2, upd_same, ?_, ?_, wipeN_idem _ _, e2⟩
              · refine Reps.append (rc.move fun a o h n pl => ?_) (Reps.one (rp.move fun a o h n pl => ?_))
                · have z := (S'.trans st7).mv (P := P) a o h (fun w => n (.inr w)) pl
                  have ne : a ≠ p := fun w => n (.inl w)
                  exact ⟨by rw [upd_ne ne]; exact z.1, fun w => w.elim ne z.2⟩
                · have ne : a ≠ p := fun w => n (.inr (.inr (.inr w)))
                  refine ⟨by rw [upd_ne ne]; exact h, fun w => w.elim ne fun w => ?_⟩
                  rcases w with w | w | w
                  · exact n (.inl (m7 a w))
                  · exact n (.inr (.inl w))
                  · exact n (.inr (.inr (.inl w)))
              · show (wipeN s6.η vs).length = _
                rw [wipeN_len, ← sr6.lenσ, sr4.lenσ]; exact l4
            · cases e2
          | false =>
            rw [if_neg (by decide)] at e2
            have S' := st3.trans st4
            have out := S'.out hpv na nl
            have h5 := S'.frm p _ hpv na nl (fun _ => nofun)
            obtain ⟨A7, sr7, st7, m7⟩ := sr4.wipeA vs
            rw [w3] at sr7
            refine iteF ⟨A7, L4, _, cc, ccV, sr7, (st2.trans S').trans st7, fun z => out.1 (m7 p z), out.2, h5, rc.move fun a o h n pl => ?_, ?_, wipeN_idem _ _, e2⟩
            · have z := (S'.trans st7).mv (P := P) a o h (fun w => n (.inr w)) pl
              exact ⟨z.1, fun w => w.elim (fun w => n (.inl w)) z.2⟩
            · show (wipeN s4.η vs).length = _
              rw [wipeN_len]; exact l4
        · have e3 : i = ds.length := by omega
          subst e3
          rw [List.drop_length] at e2
          unfold loopC at e2
          cases e2
          have own : ∀ a, Own (.ow acc) (.ref p) a → a = p := fun a z => by have := z.2; cases this; rfl
          have srw' : SR K mg G (Wi P (.ow acc) (.ref p)) A2 L2 { sf with η := wipeN sf.η vs } (wipe σ vs) H2 := by
            rw [hw]
            exact sr2.lessP fun a z => z.imp id (own a)
          refine .inl ⟨stop, h1 A2 L2 (.ref p) H2 ⟨?_, ⟨p, ccV, rfl, hpv, rc, na, nl, np0⟩, fun a z => ?_, st1.trans st2, p0⟩⟩
          · exact SR.rest sr1 nO st2 (fun a z => z.imp id fun z => by rw [own a z]; exact hp) srw' hlen
          · have := own a z
            subst this
            cases q : H a with
            | none => exact .inr rfl
            | some o =>
              obtain ⟨o', q'⟩ := st1.there a o q
              rw [hp] at q'; cases q'
  · rw [if_neg nO] at h1; exact h1.elim
/-- as a comprehension, slot i laid aside meanwhile -/
def eCompO (i : Nat) (vs : List Nat) (g : GV) (t : TV) (fe : EV) : EV := fun s => match s.η[i]? with
  | some (.ow ds) => if noOwn (s.η.set i .no) vs = true then (noErr (loopC vs g t fe ds [] ⟨wipeN (s.η.set i .no) vs, s.W⟩)).bind fun acc s2 =>
      (match (restN (s.η.set i .no) s2.η vs)[i]? with
        | some .no => .ok (.ow acc) ⟨(restN (s.η.set i .no) s2.η vs).set i (.ow ds), s2.W⟩
        | _ => .bad) else .bad
  | _ => .bad
theorem SR.aside {q : Addr} {i : Nat} {ds : List D} (hs : SR K mg G P A L s σ H) (e : s.η[i]? = some (.ow ds)) (hq : A[i]? = some (some q)) : SR K mg G (fun a => P a ∨ a = q) (A.set i none) L ⟨s.η.set i .no, s.W⟩ σ H := by
  have iη : i < s.η.length := (List.getElem?_eq_some_iff.mp e).1
  have iA : i < A.length := by rw [hs.lenA]; exact iη
  have qA : some q ∈ A := List.mem_of_getElem? hq
  have nq : some q ∉ A.set i none := fun z => by
    obtain ⟨j, hj⟩ := List.mem_iff_getElem?.mp z
    by_cases ej : j = i
    · subst ej; rw [List.getElem?_set_self iA] at hj; cases hj
    · rw [List.getElem?_set_ne (fun h => ej h.symm)] at hj; exact ej (hs.uniq j i q hj hq)
  have mem : ∀ a, some a ∈ A.set i none → some a ∈ A := fun a z => (mem_set z).elim id nofun
  have bd1 : ∀ a, Bd (fun a => P a ∨ a = q) (A.set i none) L a → Bd P A L a := fun a z => by
    rcases z with z | z | z | z
    · exact .inl (mem a z)
    · exact .inr (.inl z)
    · exact .inr (.inr z)
    · exact .inl (by rw [z]; exact qA)
  have mv : ∀ a o, H a = some o → ¬ Bd P A L a → Plain o → H a = some o ∧ ¬ Bd (fun a => P a ∨ a = q) (A.set i none) L a := fun a o h n _ => ⟨h, fun z => n (bd1 a z)⟩
  refine { lenσ := by rw [hs.lenσ]; simp, lenA := by simp [hs.lenA], slot := fun j x ex => ?_, uniq := fun j l a h1 h2 => ?_, apart := fun a h => hs.apart a (mem a h), nd := hs.nd, lenL := hs.lenL, loc := fun n ds' hd => ?_, own := fun a h => hs.own a (mem a h), tab := hs.tab, ent := hs.ent, ownNew := fun a h => hs.ownNew a (mem a h), pOk := fun a h => ?_, exn := fun j ex => ?_ }
  · by_cases ej : j = i
    · subst ej
      rw [List.getElem?_set_self iη] at ex
      cases ex
      obtain ⟨ov, oa, e1, e2, _⟩ := hs.slot j _ e
      exact ⟨ov, none, e1, List.getElem?_set_self iA, rfl⟩
    · rw [List.getElem?_set_ne (fun h => ej h.symm)] at ex
      obtain ⟨ov, oa, e1, e2, so⟩ := hs.slot j x ex
      refine ⟨ov, oa, e1, by rw [List.getElem?_set_ne (fun h => ej h.symm)]; exact e2, so.move mv (fun a o _ _ h => h) (fun n a h => h)⟩
  · by_cases ej : j = i
    · subst ej; rw [List.getElem?_set_self iA] at h1; cases h1
    · by_cases el : l = i
      · subst el; rw [List.getElem?_set_self iA] at h2; cases h2
      · rw [List.getElem?_set_ne (fun h => ej h.symm)] at h1
        rw [List.getElem?_set_ne (fun h => el h.symm)] at h2
        exact hs.uniq j l a h1 h2
  · obtain ⟨a, vs', h1, h2, h3⟩ := hs.loc n ds' hd
    exact ⟨a, vs', h1, h2, h3.move mv⟩
  · rcases h with h | h
    · obtain ⟨h1, h2, h3⟩ := hs.pOk a h
      exact ⟨h1, fun z => h2 (mem a z), h3⟩
    · subst h
      obtain ⟨o, h1, _⟩ := hs.own a qA
      exact ⟨⟨o, h1⟩, nq, hs.apart a qA⟩
  · by_cases ej : j = i
    · subst ej; rw [List.getElem?_set_self iη] at ex; cases ex
    · rw [List.getElem?_set_ne (fun h => ej h.symm)] at ex
      exact hs.exn j ex
theorem SR.back {q : Addr} {i : Nat} {ds : List D} {ws : List V} (hs : SR K mg G (fun a => P a ∨ a = q) A L s σ H) (e : s.η[i]? = some .no) (nP : ¬ P q) (hσ : σ[i]? = some (some (.ref q))) (hq : H q = some (.lst ws)) (r : Reps K mg (Bd (fun a => P a ∨ a = q) A L) H ds ws) (h0 : G.H0 q = none) :
    SR K mg G P (A.set i (some q)) L ⟨s.η.set i (.ow ds), s.W⟩ σ H ∧ ∀ a, Bd P (A.set i (some q)) L a → Bd (fun a => P a ∨ a = q) A L a := by
  have iη : i < s.η.length := (List.getElem?_eq_some_iff.mp e).1
  have iA : i < A.length := by rw [hs.lenA]; exact iη
  have qP := hs.pOk q (.inr rfl)
  have Ai : A[i]? = some none := by
    obtain ⟨ov, oa, _, e2, so⟩ := hs.slot i _ e
    have : oa = none := so
    rw [e2, this]
  have mem : ∀ a, some a ∈ A.set i (some q) → some a ∈ A ∨ a = q := fun a z => (mem_set z).elim .inl fun z => .inr (by cases z; rfl)
  have bd1 : ∀ a, Bd P (A.set i (some q)) L a → Bd (fun a => P a ∨ a = q) A L a := fun a z => by
    rcases z with z | z | z
    · rcases mem a z with z | z
      · exact .inl z
      · exact .inr (.inr (.inr z))
    · exact .inr (.inl z)
    · exact .inr (.inr (.inl z))
  have mv : ∀ a o, H a = some o → ¬ Bd (fun a => P a ∨ a = q) A L a → Plain o → H a = some o ∧ ¬ Bd P (A.set i (some q)) L a := fun a o h n _ => ⟨h, fun z => n (bd1 a z)⟩
  refine ⟨{ lenσ := by rw [hs.lenσ]; simp, lenA := by simp [hs.lenA], slot := fun j x ex => ?_, uniq := fun j l a h1 h2 => ?_, apart := fun a h => ?_, nd := hs.nd, lenL := hs.lenL, loc := fun n ds' hd => ?_, own := fun a h => ?_, tab := hs.tab, ent := hs.ent, ownNew := fun a h => ?_, pOk := fun a h => ?_, exn := fun j ex => ?_ }, bd1⟩
  · by_cases ej : j = i
    · subst ej
      rw [List.getElem?_set_self iη] at ex
      cases ex
      exact ⟨_, some q, hσ, List.getElem?_set_self iA, q, ws, rfl, rfl, hq, r.move mv⟩
    · rw [List.getElem?_set_ne (fun h => ej h.symm)] at ex
      obtain ⟨ov, oa, e1, e2, so⟩ := hs.slot j x ex
      exact ⟨ov, oa, e1, by rw [List.getElem?_set_ne (fun h => ej h.symm)]; exact e2, so.move mv (fun a o _ _ h => h) (fun n a h => h)⟩
  · have key : ∀ j : Nat, (A.set i (some q))[j]? = some (some a) → j = i ∧ a = q ∨ j ≠ i ∧ A[j]? = some (some a) ∧ a ≠ q := fun j h => by
      by_cases ej : j = i
      · subst ej; rw [List.getElem?_set_self iA] at h; cases h; exact .inl ⟨rfl, rfl⟩
      · rw [List.getElem?_set_ne (fun h => ej h.symm)] at h
        exact .inr ⟨ej, h, fun z => by subst z; exact qP.2.1 (List.mem_of_getElem? h)⟩
    rcases key j h1 with ⟨a1, a2⟩ | ⟨a1, a2, a3⟩
    · rcases key l h2 with ⟨b1, b2⟩ | ⟨b1, b2, b3⟩
      · rw [a1, b1]
      · exact absurd a2 b3
    · rcases key l h2 with ⟨b1, b2⟩ | ⟨b1, b2, b3⟩
      · exact absurd b2 a3
      · exact hs.uniq j l a a2 b2
  · rcases mem a h with h | h
    · exact hs.apart a h
    · subst h; exact qP.2.2
  · obtain ⟨a, vs', h1, h2, h3⟩ := hs.loc n ds' hd
    exact ⟨a, vs', h1, h2, h3.move mv⟩
  · rcases mem a h with h | h
    · exact hs.own a h
    · subst h; exact ⟨_, hq, by first | trivial | exact ⟨_, rfl⟩ | exact .inl ⟨_, rfl⟩ | (unfold Mut; simp)⟩
  · rcases mem a h with h | h
    · exact hs.ownNew a h
    · subst h; exact h0
  · obtain ⟨h1, h2, h3⟩ := hs.pOk a (.inl h)
    refine ⟨h1, fun z => ?_, h3⟩
    rcases mem a z with z | z
    · exact h2 z
    · subst z; exact nP h
  · by_cases ej : j = i
    · subst ej; rw [List.getElem?_set_self iη] at ex; cases ex
    · rw [List.getElem?_set_ne (fun h => ej h.symm)] at ex
      exact hs.exn j ex
variable {elt tg : Expr} {ifs : List Expr} {scope : Scope} {g : GV} {t : TV} {tt : TT}
theorem ed_compO (i : Nat) {x : Str} {px : Pos} (own : List (Str × Nat)) (hc : X.calm = true) (hN : X.N.Nodup) (ho : PE X (.Name x px) (tVar i)) (ok : BlkOk X.N X.env.scope scope own)
    (hg : ∀ (s : Shared) (H : Hp) (C : Addr) (cl : List (Str × Addr)) (fp : List Addr), GDv (Blk X scope s H C cl fp) G (own.map (·.2)) tg g)
    (ht : ∀ (s : Shared) (H : Hp) (C : Addr) (cl : List (Str × Addr)) (fp : List Addr), CD (Blk X scope s H C cl fp) G ifs t tt)
    (he : ∀ (s : Shared) (H : Hp) (C : Addr) (cl : List (Str × Addr)) (fp : List Addr), ED (Blk X scope s H C cl fp) G W0 elt fe) (hs : ∀ y, foldedSetIterable (.Name x px) X.env y = pure y := by intro _; rfl) :
    ED X G Wx (.ListComp elt [⟨tg, .Name x px, ifs, 0⟩] scope pos) (eCompO i (own.map (·.2)) g t fe) := by
  refine ⟨⟨fun pins sh σ H Q I h => ?_⟩⟩
  refine (pe_lc (te := tE X.K X.mg G W0 fe) (g := tGv X.K X.mg G (own.map (·.2)) g) hc hN (pi_list (tg := tg) ho) ok (fun s H C cl fp => (hg s H C cl fp).pg) (fun s H C cl fp => (ht s H C cl fp).pts) (fun s H C cl fp => (he s H C cl fp).pe) hs).run pins sh σ H Q I ?_
  obtain ⟨P, A, L, s, sr, h⟩ := h
  unfold eCompO at h
  split at h
  · rename_i ds e0
    obtain ⟨ov, oa, e1, e2, so⟩ := sr.slot i _ e0
    obtain ⟨q, ws, rfl, rfl, hq, r⟩ := (show ∃ a vs, oa = some a ∧ ov = some (.ref a) ∧ H a = some (.lst vs) ∧ Reps X.K X.mg (Bd P A L) H ds vs from so)
    have iη : i < s.η.length := (List.getElem?_eq_some_iff.mp e0).1
    have iA : i < A.length := by rw [sr.lenA]; exact iη
    have qA : some q ∈ A := List.mem_of_getElem? e2
    have nPq : ¬ P q := fun z => (sr.pOk q z).2.1 qA
    have sr1 := sr.aside e0 e2
    have qP := sr1.pOk q (.inr rfl)
    have bd1 : ∀ a, Bd (fun a => P a ∨ a = q) (A.set i none) L a → Bd P A L a := fun a z => by
      rcases z with z | z | z | z
      · exact .inl ((mem_set z).elim id nofun)
      · exact .inr (.inl z)
      · exact .inr (.inr z)
      · exact .inl (by rw [z]; exact qA)
    have r1 : Reps X.K X.mg (Bd (fun a => P a ∨ a = q) (A.set i none) L) H ds ws := r.move fun a o h n _ => ⟨h, fun z => n (bd1 a z)⟩
    have okI : ItOk X.K X.mg (fun a => P a ∨ a = q) (A.set i none) L H (Itl X.K q) ds := by
      intro P' A' L' H' hP st hB
      have h' : SqL X.K H' q ws := .inl (.inl (st.frm q _ hq qP.2.1 qP.2.2 fun _ => nofun))
      have r' : Reps X.K X.mg (Bd P' A' L') H' ds ws := r1.move (st.mvP hP)
      refine ⟨fun i hi => ?_, ⟨ws, h', by rw [r'.length]; exact Nat.le_refl _⟩, fun i d x H'' e y => ?_⟩
      · obtain ⟨v, e, _⟩ := r'.get (List.getElem?_eq_getElem hi)
        exact ⟨ws, v, h', e⟩
      · obtain ⟨e1, y⟩ := y
        subst e1
        obtain ⟨v, e2, rv⟩ := r'.get e
        have := y ws h'
        rw [e2] at this
        cases this
        exact ResOk.same rv
    have p0 : ∀ a, (P a ∨ a = q) → (∃ o, H a = some o) ∧ some a ∉ A.set i none := fun a z => ⟨(sr1.pOk a z).1, (sr1.pOk a z).2.1⟩
    refine ⟨.ref q, e1, q, rfl, ⟨ws, .inl (.inl hq)⟩, ?_⟩
    refine comp_core (Wx := Wx) (P := fun a => P a ∨ a = q) (A := A.set i none) (L := L) (H := H) (Q := Q) (vs := own.map (·.2)) (ds := ds) p0 (ht sh H 0 [] []).of (fun h => h) sr1 okI (Step.refl _ _ _) ?_
    by_cases nO : noOwn (s.η.set i .no) (own.map (·.2)) = true
    · rw [if_pos nO] at h ⊢
      cases el : loopC (own.map (·.2)) g t fe ds [] ⟨wipeN (s.η.set i .no) (own.map (·.2)), s.W⟩ with
      | bad => rw [el] at h; exact h.elim
      | err _ _ => rw [el] at h; exact h.elim
      | ok acc sf =>
        rw [el] at h
        show PostE X.K X.mg G (fun a => P a ∨ a = q) (A.set i none) L H σ Q (.ow acc) { sf with η := restN (s.η.set i .no) sf.η (own.map (·.2)) }
        intro A' L' v H' at1
        have h : Run X.K X.mg G Wx P A L H σ (match (restN (s.η.set i .no) sf.η (own.map (·.2)))[i]? with
          | some .no => .ok (.ow acc) ⟨(restN (s.η.set i .no) sf.η (own.map (·.2))).set i (.ow ds), sf.W⟩
          | _ => .bad) (PostE X.K X.mg G P A L H σ Q) := h
        split at h
        · rename_i en
          have h : PostE X.K X.mg G P A L H σ Q (.ow acc) ⟨(restN (s.η.set i .no) sf.η (own.map (·.2))).set i (.ow ds), sf.W⟩ := h
          obtain ⟨b, wv, rfl, hb, rb, nb1, nb2, nb3⟩ := at1.ok
          have hqb : b ≠ q := fun z => by
            subst z
            rcases at1.new b ⟨⟨_, rfl⟩, rfl⟩ with z | z
            · exact qP.2.1 z
            · rw [hq] at z; cases z
          have hq' : H' q = some (.lst ws) := at1.st.frm q _ hq qP.2.1 qP.2.2 fun _ => nofun
          have out := at1.st.out hq qP.2.1 qP.2.2
          have srW : SR X.K X.mg G (fun a => Wi P (.ow acc) (.ref b) a ∨ a = q) A' L' { sf with η := restN (s.η.set i .no) sf.η (own.map (·.2)) } σ H' := at1.sr.lessP fun a z => by
            rcases z with (z | z) | z
            · exact .inl (.inl z)
            · exact .inr z
            · exact .inl (.inr z)
          have rq : Reps X.K X.mg (Bd (fun a => Wi P (.ow acc) (.ref b) a ∨ a = q) A' L') H' ds ws := r1.move fun a o ha n pl => by
            have z := at1.st.mv (P := fun a => P a ∨ a = q) a o ha n pl
            refine ⟨z.1, fun w => ?_⟩
            rcases w with w | w | (w | w) | w
            · exact z.2 (.inl w)
            · exact z.2 (.inr (.inl w))
            · exact z.2 (.inr (.inr (.inl w)))
            · have : b = a := by have := w.2; cases this; rfl
              subst this
              rcases at1.new b ⟨⟨_, rfl⟩, rfl⟩ with z | z
              · exact n (.inl z)
              · rw [ha] at z; cases z
            · exact z.2 (.inr (.inr (.inr w)))
          obtain ⟨srF, bdF⟩ := srW.back (P := Wi P (.ow acc) (.ref b)) en (fun z => by
            rcases z with z | z
            · exact nPq z
            · have := z.2; cases this; exact hqb rfl) e1 hq' rq (sr.ownNew q qA)
          refine h (A'.set i (some q)) L' (.ref b) H' ⟨srF, ⟨b, wv, rfl, hb, rb.move fun a o ha n _ => ⟨ha, fun z => n ?_⟩, ?_, nb2, nb3⟩, fun a z => ?_, ?_, fun a z => ?_⟩
          · rcases z with z | z | z | z
            · exact .inl z
            · rcases mem_set z with z | z
              · exact .inr (.inl z)
              · cases z; exact .inr (.inr (.inr (.inr rfl)))
            · exact .inr (.inr (.inl z))
            · exact .inr (.inr (.inr (.inl z)))
          · intro z
            rcases mem_set z with z | z
            · exact nb1 z
            · cases z; exact hqb rfl
          · rcases at1.new a z with z | z
            · exact .inl ((mem_set z).elim id nofun)
            · exact .inr z
          · refine ⟨fun a o ha n1 n2 pl => at1.st.frm a o ha (fun z => n1 ((mem_set z).elim id nofun)) n2 pl, fun a z => ?_, at1.st.pre, at1.st.there, at1.st.tab⟩
            rcases z with z | z
            · rcases mem_set z with z | z
              · rcases at1.st.new a (.inl z) with z | z
                · exact .inl ((mem_set z).elim id nofun)
                · exact .inr z
              · cases z; exact .inl qA
            · rcases at1.st.new a (.inr z) with z | z
              · exact .inl ((mem_set z).elim id nofun)
              · exact .inr z
          · obtain ⟨h1, h2, h3⟩ := sr.pOk a z
            exact ⟨h1, h2⟩
        · exact h.elim
    · rw [if_neg nO] at h; exact h.elim
  · exact h.elim
end
end DL
namespace DL
open PySem PySem.Spec PyProof.Rows L2
/-! ### sorted lists of ints -/
def leI (a b : Int) : Bool := decide (a ≤ b)
def srtI (ns : List Int) : List Int := ns.mergeSort leI
theorem srtI_perm (ns : List Int) : (srtI ns).Perm ns := List.mergeSort_perm ns leI
theorem srtI_pw (ns : List Int) : (srtI ns).Pairwise (· ≤ ·) := by
  have := List.pairwise_mergeSort (le := leI) (fun a b c h1 h2 => by unfold leI at *; simp only [decide_eq_true_eq] at *; omega) (fun a b => by unfold leI; simp only [Bool.or_eq_true, decide_eq_true_eq]; omega) ns
  exact this.imp fun h => by unfold leI at h; simpa using h
theorem pw_perm_eq : ∀ {l m : List Int}, l.Pairwise (· ≤ ·) → m.Pairwise (· ≤ ·) → l.Perm m → l = m
  | [], m, _, _, h => (List.Perm.eq_nil h.symm).symm
  | x :: l, [], _, _, h => absurd h.length_eq (by simp)
  | x :: l, y :: m, hl, hm, h => by
    have h1 : y ≤ x := by
      rcases List.mem_cons.mp (h.mem_iff.mp List.mem_cons_self) with e | e
      · omega
      · exact (List.pairwise_cons.mp hm).1 x e
    have h2 : x ≤ y := by
      rcases List.mem_cons.mp (h.mem_iff.mpr List.mem_cons_self) with e | e
      · omega
      · exact (List.pairwise_cons.mp hl).1 y e
    have e : x = y := by omega
    subst e
    rw [pw_perm_eq (List.pairwise_cons.mp hl).2 (List.pairwise_cons.mp hm).2 h.cons_inv]
theorem lt_mem_eq : ∀ {l m : List Int}, l.Pairwise (· < ·) → m.Pairwise (· < ·) → (∀ k, k ∈ l ↔ k ∈ m) → l = m := fun {l m} hl hm h => by
  have nd : ∀ {l : List Int}, l.Pairwise (· < ·) → l.Nodup := fun h => h.imp fun h => by omega
  refine pw_perm_eq (hl.imp fun h => by omega) (hm.imp fun h => by omega) ?_
  exact (List.perm_ext_iff_of_nodup (nd hl) (nd hm)).mpr h
/-- the members, each once, ascending -/
def ddI : List Int → List Int
  | [] => []
  | n :: ns => if n ∈ ns then ddI ns else n :: ddI ns
theorem ddI_mem (k : Int) : ∀ ns : List Int, k ∈ ddI ns ↔ k ∈ ns
  | [] => by simp [ddI]
  | n :: ns => by
    have ih := ddI_mem k ns
    unfold ddI
    by_cases h : n ∈ ns
    · rw [if_pos h, ih, List.mem_cons]
      exact ⟨.inr, fun z => z.elim (fun e => by rw [e]; exact h) id⟩
    · rw [if_neg h, List.mem_cons, List.mem_cons, ih]
theorem ddI_nd : ∀ ns : List Int, (ddI ns).Nodup
  | [] => by simp [ddI]
  | n :: ns => by
    unfold ddI
    by_cases h : n ∈ ns
    · rw [if_pos h]; exact ddI_nd ns
    · rw [if_neg h, List.nodup_cons]
      exact ⟨fun z => h ((ddI_mem n ns).mp z), ddI_nd ns⟩
theorem ddI_len : ∀ ns : List Int, (ddI ns).length ≤ ns.length
  | [] => by simp [ddI]
  | n :: ns => by
    have := ddI_len ns
    unfold ddI
    by_cases h : n ∈ ns
    · rw [if_pos h]; simp; omega
    · rw [if_neg h]; simp; omega
def setI (ns : List Int) : List Int := srtI (ddI ns)
theorem setI_mem (ns : List Int) (k : Int) : k ∈ setI ns ↔ k ∈ ns := by
  unfold setI
  rw [(srtI_perm _).mem_iff, ddI_mem]
theorem setI_pw (ns : List Int) : (setI ns).Pairwise (· < ·) := by
  have h1 := srtI_pw (ddI ns)
  have h2 : (srtI (ddI ns)).Nodup := (srtI_perm _).nodup_iff.mpr (ddI_nd ns)
  have := h1.and h2
  exact this.imp fun ⟨a, b⟩ => by have : _ ≠ _ := b; omega
section
variable {prog : Program} {w : World} {A : Around} {E : Value → Shared → Prop} {s : Shared}
theorem collect_tup {l : Addr} {vs : List Value} {Q : List Value → Shared → Prop} (hl : IsTup s.heap l vs.toArray)
    (h : Q vs { s with heap := (s.heap.push (seqObj "list" #[] 0)).update s.heap.objs.size (Obj.mapSeq (· ++ vs.toArray)) }) (hsz : vs.length ≤ sizeLine) :
    wpAny (model prog w) A (collect (.ref l)) Q E s := by
  obtain ⟨o, ho, hc, n, hd⟩ := id hl
  unfold collect
  refine wpAny_bind (wpAny_runValue (codeAny_builtin entry_proto_collect' ?_))
  show wpAny _ _ (do again (.builtin "list.__iadd__" ⟨[← newList [], .ref l], []⟩)) _ _ s
  refine wpAny_bind (wpAny_newList (wpAny_pure ⟨Code.quiet_builtin _ (by decide +kernel), codeAny_builtin entry_list_iadd' ?_⟩))
  show wpAny _ _ (Builtin.List.listExtendWith (.ref s.heap.objs.size) (.ref l) (.ref s.heap.objs.size)) _ _ { s with heap := s.heap.push (seqObj "list" #[] 0) }
  unfold Builtin.List.listExtendWith
  have ho' : (s.heap.push (seqObj "list" #[] 0)).get? l = some o := Heap.get?_push_of_some _ ho
  refine wpAny_bind (wpAny_typeOf (T := "tuple") ⟨o, ho', hc⟩ ?_)
  have ht : (Value.type "tuple" == Value.type "tuple") = true := by rfl
  rw [if_pos (by rw [ht]; simp)]
  refine wpAny_bind (listItems_at ho' hd ?_)
  refine wpAny_bind (listItems_at (xs := #[]) (n := 0) (Heap.get?_push_size _ rfl) rfl ?_)
  rw [if_neg (by simp)]
  refine wpAny_bind (listUpdate_at (xs := #[]) (n := 0) (Heap.get?_push_size _ rfl) rfl ?_ (Nat.zero_le _) (by show (#[] ++ vs.toArray).size ≤ sizeLine + 1; simp only [Array.size_append, List.size_toArray, List.length_nil]; omega))
  refine wpAny_pure ?_
  show wpAny (model prog w) A (do
      let o ← load s.heap.objs.size
      match o.data with
      | .seq xs _ => pure xs.toList
      | _ => unsupported "internal:collect") Q E { s with heap := (s.heap.push (seqObj "list" #[] 0)).update s.heap.objs.size (Obj.mapSeq (· ++ vs.toArray)) }
  refine wpAny_bind (wpAny_load (get?_update_seq (Heap.get?_push_size _ rfl) _) ?_)
  show wpAny _ _ (pure ((#[] : Array Value) ++ vs.toArray).toList) Q E _
  rw [show ((#[] : Array Value) ++ vs.toArray).toList = vs by simp]
  exact wpAny_pure h
theorem sorted_tup {l : Addr} {vs : List Value} {ltv : Value → Value → Bool} {Q : Value → Shared → Prop} (O : SrtO.Swo ltv) (hl : IsTup s.heap l vs.toArray) (hz : vs.length ≤ sizeLine)
    (hS : 2 ≤ vs.length → ∀ (h₁ : Heap) (a : Addr), h₁.get? a = some (seqObj "list" vs.toArray 0) → (∀ b o, s.heap.get? b = some o → b ≠ a ∧ h₁.get? b = some o) → SrtO.SortableO prog w A.in1.in1 { s with heap := h₁ } a vs ltv)
    (h : ∀ out : List Value, SrtO.Srtd ltv out → SrtO.Stb ltv out vs → Q (.ref (s.heap.objs.size + 1)) { s with heap := sortedAll s.heap vs out.toArray }) :
    wpAny (model prog w) A (call (.builtin "sorted") [.ref l]) Q E s := by
  refine Calls.call_function_entry kind_sorted plain_sorted entry_sorted (args_sorted1 _) ?_
  unfold Builtin.«sorted»
  refine wpAny_bind (m := checkCount "sorted" 1 1 _) (wpAny_pure ?_)
  refine wpAny_bind (collect_tup hl ?_ hz)
  refine wpAny_bind (wpAny_newList ?_ hz)
  have hsz : ((s.heap.push (seqObj "list" #[] 0)).update s.heap.objs.size (Obj.mapSeq (· ++ vs.toArray))).objs.size = s.heap.objs.size + 1 := by
    rw [Heap.size_update, size_push']
  have hoL : (((s.heap.push (seqObj "list" #[] 0)).update s.heap.objs.size (Obj.mapSeq (· ++ vs.toArray))).push (seqObj "list" vs.toArray 0)).get? (s.heap.objs.size + 1) = some (seqObj "list" vs.toArray 0) := by
    rw [← hsz]; exact Heap.get?_push_size _ rfl
  have keep : ∀ b o, s.heap.get? b = some o → b ≠ s.heap.objs.size + 1 ∧ (((s.heap.push (seqObj "list" #[] 0)).update s.heap.objs.size (Obj.mapSeq (· ++ vs.toArray))).push (seqObj "list" vs.toArray 0)).get? b = some o := fun b o q => by
    have hlt : b < s.heap.objs.size := Heap.lt_size q
    refine ⟨Nat.ne_of_lt (Nat.lt_succ_of_lt hlt), Heap.get?_push_of_some _ ?_⟩
    rw [Heap.get?_update_ne _ _ _ _ (Nat.ne_of_lt hlt)]
    exact Heap.get?_push_of_some _ q
  show wpAny _ _ _ _ _ { s with heap := ((s.heap.push (seqObj "list" #[] 0)).update s.heap.objs.size (Obj.mapSeq (· ++ vs.toArray))).push (seqObj "list" vs.toArray 0) }
  rw [hsz]
  refine wpAny_bind (wpAny_holding (wpAny_call_entry slot_list_sort ⟨_, hoL, rfl⟩ entry_list_sort (SrtO.list_sort_ord O hoL hz (fun h2 => hS h2 _ _ hoL keep) fun out hs hb => ⟨_, rfl, ?_⟩) (args_list_sort _)))
  exact wpAny_pure ⟨_, rfl, h out hs hb⟩
end
section
variable {K : PySem.W.Frag} {mg : Str → Option Value} {X : Cx}
def rSortA (K : PySem.W.Frag) : List V → Hp → VK → Prop := fun vs H Q => ∃ (a : Addr) (ns : List Int), vs = [V.ref a] ∧ SqA K H a (ns.map V.int) ∧
  ∀ (p : Addr), H p = none → Q (.ref p) (upd H p (.lst ((srtI ns).map V.int)))
theorem cr_sortA : CallR X (.builtin "sorted") (rSortA X.K) := by
  intro pins s σ H vs us Q I r ⟨a, ns, e, hs, q⟩
  subst e
  rcases hs with hs | hs
  · refine cr_sortedI pins s σ H _ us Q I r ⟨a, ns, rfl, hs, fun ns' p h1 h2 h3 => ?_⟩
    rw [pw_perm_eq h2 (srtI_pw ns) (h1.trans (srtI_perm ns).symm)]
    exact q p h3
  · obtain ⟨its, rv, hl, hz⟩ := I.tuple hs
    rw [Vals.ref1 r]
    have hi := rv.ints
    refine sorted_tup SrtO.swo_int hl (by rw [← rv.length]; exact hz) (fun h2 h₁ a' _ _ => SrtO.ints_sortable hi h2) fun out h1 h2 => ?_
    obtain ⟨k1, k2, k3⟩ := SrtO.ints_out hi h1 h2
    obtain ⟨ep, he'⟩ := PyProof.Rows.sortedAll_at s.heap its out.toArray
    have hlen : ((out.map SrtO.iv).map V.int).length ≤ sizeLine := by
      rw [List.length_map, k2.length_eq]
      rw [List.length_map] at hz
      exact hz
    have e2 : out.map SrtO.iv = srtI ns := pw_perm_eq k3 (srtI_pw ns) (k2.trans (srtI_perm ns).symm)
    rw [e2] at k1 hlen
    exact ⟨.ref _, upd H (s.heap.objs.size + 1) (.lst ((srtI ns).map V.int)), I.laid (t' := s.toks) (fun _ _ => PyProof.Rows.sortedAll_old) (Nat.le_succ _) ⟨hlen, out, ep, vals_of_ints k1, he'⟩, rfl, q _ (I.hok.fresh (Nat.le_succ _))⟩
def sortD : D → Option RV
  | .lst xs => (allI xs).map fun ns => .ow ((srtI ns).map D.int)
  | .tup xs => (allI xs).map fun ns => .ow ((srtI ns).map D.int)
  | _ => none
theorem opv_sortA : OpV1 K mg (fun v => rSortA K [v]) sortD := by
  intro B H x a res Q hB ha e q
  have key : ∀ xs : List D, (PRep K mg B H (.lst xs) x ∨ PRep K mg B H (.tup xs) x) → (allI xs).map (fun ns => RV.ow ((srtI ns).map D.int)) = some res → rSortA K [x] H Q := fun xs hx e => by
    obtain ⟨ns, e1, e2⟩ := Option.map_eq_some_iff.mp e
    cases e2
    obtain ⟨p, vs, rfl, t, r⟩ := Rep.sqA hx
    have := allI_some e1
    subst this
    have := r.ints
    subst this
    exact ⟨p, ns, rfl, t, fun l hl => q _ _ (.lst hl (reps_ints _))⟩
  unfold sortD at e
  split at e
  · exact key _ (.inl ha) e
  · exact key _ (.inr ha) e
  · cases e
end
end DL
namespace DL
open PySem PySem.Spec PyProof.Rows L2
section
variable {X : Cx} {G : Gm} {Wx : WX} {c : Expr} {fe : EV} {pos : Pos} {elt tg : Expr} {scope : Scope} {g : GV} {t : TV}
theorem ed_compO0 (i : Nat) {x : Str} {px : Pos} (own : List (Str × Nat)) (hc : X.calm = true) (hN : X.N.Nodup) (ho : PE X (.Name x px) (tVar i)) (ok : BlkOk X.N X.env.scope scope own)
    (hg : ∀ (s : Shared) (H : Hp) (C : Addr) (cl : List (Str × Addr)) (fp : List Addr), GDv (Blk X scope s H C cl fp) G (own.map (·.2)) tg g)
    (he : ∀ (s : Shared) (H : Hp) (C : Addr) (cl : List (Str × Addr)) (fp : List Addr), ED (Blk X scope s H C cl fp) G W0 elt fe) (hs : ∀ y, foldedSetIterable (.Name x px) X.env y = pure y := by intro _; rfl) :
    ED X G Wx (.ListComp elt [⟨tg, .Name x px, [], 0⟩] scope pos) (eCompO i (own.map (·.2)) g tTrue fe) := ed_compO (tt := tYes) i own hc hN ho ok hg (fun _ _ _ _ _ => cd_nil) he hs
theorem ed_compO1 (i : Nat) {x : Str} {px : Pos} (own : List (Str × Nat)) (hc : X.calm = true) (hN : X.N.Nodup) (ho : PE X (.Name x px) (tVar i)) (ok : BlkOk X.N X.env.scope scope own)
    (hg : ∀ (s : Shared) (H : Hp) (C : Addr) (cl : List (Str × Addr)) (fp : List Addr), GDv (Blk X scope s H C cl fp) G (own.map (·.2)) tg g)
    (ht : ∀ (s : Shared) (H : Hp) (C : Addr) (cl : List (Str × Addr)) (fp : List Addr), TD (Blk X scope s H C cl fp) G W0 c t)
    (he : ∀ (s : Shared) (H : Hp) (C : Addr) (cl : List (Str × Addr)) (fp : List Addr), ED (Blk X scope s H C cl fp) G W0 elt fe) (hs : ∀ y, foldedSetIterable (.Name x px) X.env y = pure y := by intro _; rfl) :
    ED X G Wx (.ListComp elt [⟨tg, .Name x px, [c], 0⟩] scope pos) (eCompO i (own.map (·.2)) g t fe) := ed_compO (tt := tT X.K X.mg G W0 t) i own hc hN ho ok hg (fun s H C cl fp => cd_one (ht s H C cl fp)) he hs
end
end DL
namespace DL
open PySem PySem.Spec PyProof.Rows L2
/-! ### list(range(n)) -/
section
variable {K : PySem.W.Frag} {mg : Str → Option Value} {X : Cx} {G : Gm} {Wx : WX} {e : Expr} {fe : EV}
noncomputable def lrgD : D → Option RV
  | .int j => if decide (0 ≤ j ∧ j ≤ 16777216) = true then some (.ow (rngD 0 j)) else none
  | _ => none
theorem opv_lrg : OpV1 K mg (fun v H Q => ∃ n : Int, v = .int n ∧ RgOk 0 n ∧ ∀ q, H q = none → Q (.ref q) (upd H q (.lst (rgV 0 n)))) lrgD := by
  intro B H x a res Q hB ha e q
  unfold lrgD at e
  split at e
  · rename_i j
    split at e
    · rename_i c
      have c := of_decide_eq_true c
      cases e
      have := ha.int
      subst this
      refine ⟨j, rfl, RgOk.of_le (by omega) c.2 (by omega) c.1, fun l hl => q _ _ (.lst hl ?_)⟩
      rw [rngD_eq]
      have h := reps_ints (K := K) (mg := mg) (B := B) (H := H) ((List.range (j - 0).toNat).map fun (i : Nat) => (0 : Int) + (i : Int))
      rw [List.map_map, List.map_map] at h
      exact h
    · cases e
  · cases e
theorem ed_lrg {p p2 pos2 pos : Pos} (hc : X.calm = true) (hg : Gl X "list") (hm : X.mg "list" = none) (hg2 : Gl X "range") (hm2 : X.mg "range" = none) (he : ED X G Wx e fe)
    (hs : starEach [e] X.env = (false, eval e X.env) :: starEach [] X.env := by rfl)
    (hs2 : starEach [.Call (.Name "range" p2) [e] [] pos2] X.env = (false, eval (.Call (.Name "range" p2) [e] [] pos2) X.env) :: starEach [] X.env := by rfl) :
    ED X G Wx (.Call (.Name "list" p) [.Call (.Name "range" p2) [e] [] pos2] [] pos) (eOp1 lrgD fe) :=
  ⟨PE.imp (pe_listRg hc hg hm (prg_1 hg2 hm2 he.pe hs) hs2) fun σ H Q h => (tE_op1 opv_lrg h).mono fun v H1 ⟨n, e1, e2, e3⟩ => ⟨n, e1, e2, e3⟩⟩
end
end DL
namespace DL
open PySem PySem.Spec PyProof.Rows L2
/-! ### a, b = x, y, where the pair is made (a name that a comprehension sees) -/
section
variable {K : PySem.W.Frag} {mg : Str → Option Value} {X : Cx} {G : Gm} {Wx : WX} {a b : Expr} {fa fb : EV} {pos : Pos}
theorem sd_parC {i j : Nat} {x y : Str} {px py pt : Pos} {kt k2 pt2} (hc : X.calm = true) (hij : i ≠ j)
    (hx : PG X (.Name x px) (gName i)) (hy : PG X (.Name y py) (gName j)) (ha : ED X G Wx a fa) (hb : ED X G Wx b fb)
    (hw : swappedStores [.Tuple [.Name x px, .Name y py] kt pt] (.Tuple [a, b] k2 pt2) X.env = pure none)
    (hs : swapsWithSole [.Tuple [.Name x px, .Name y py] kt pt] (.Tuple [a, b] k2 pt2) pos.line X.env = pure false := by rfl)
    (he : starEach [a, b] X.env = (false, eval a X.env) :: starEach [b] X.env := by rfl) (he2 : starEach [b] X.env = (false, eval b X.env) :: starEach [] X.env := by rfl)
    (h1 : (assignEach [.Tuple [.Name x px, .Name y py] kt pt] X.env).map (·.2) = [assign (.Tuple [.Name x px, .Name y py] kt pt) X.env] := by rfl)
    (h2 : (assignEach [.Name x px, .Name y py] X.env).map (·.2) = assign (.Name x px) X.env :: (assignEach [.Name y py] X.env).map (·.2) := by rfl)
    (h3 : (assignEach [.Name y py] X.env).map (·.2) = assign (.Name y py) X.env :: (assignEach [] X.env).map (·.2) := by rfl)
    (h4 : (assignEach [.Name x px, .Name y py] X.env).length = 2 := by rfl) (h5 : (assignEach [.Name x px, .Name y py] X.env).findIdx? (·.1) = none := by rfl) :
    SD X G Wx (.Assign [.Tuple [.Name x px, .Name y py] kt pt] (.Tuple [a, b] k2 pt2) pos) (sPar i j fa fb) := by
  refine ⟨PS.imp (ps_asg (pe_tup (pa_cons ha.pe (pa_cons hb.pe pa_nil he2) he)) (pg_tup (n := 2) hc (pgs_cons hx (pgs_cons hy pgs_nil h3) h2) h4 h5) hs hw h1) fun D σ H ⟨P, A, L, s, hs, h⟩ => (tE_oneS hs h).mono fun x H1 ⟨A1, L1, s1, ra, a1, h1⟩ => ?_⟩
  obtain ⟨A2, s2, ra, a2, na, h2⟩ := run_keepX a1 h1
  refine ⟨Wi P ra x, A2, L1, s2, a2.sr, ((RunS.bind h2).on a2.st fun _ z => .inl z).run.imp fun rb s3 _ q A3 L3 y H3 b3 => ?_⟩
  obtain ⟨A4, s4, rb, b4, nb, q⟩ := run_keepX b3 q
  obtain ⟨ob, s5, sr5, st5, ho5, q⟩ := run_putR (i := j) b4 q
  have a5 : At X.K X.mg G P A L H (σ.set j (some y)) (A4.set j ob) L3 s5 H3 ra x := ⟨sr5, (a2.ok.step st5).sig na, a2.new, a2.st.trans st5, a2.p0⟩
  obtain ⟨oa, s6, sr6, st6, ho6, q⟩ := run_putR (i := i) a5 q
  refine ⟨by rw [sizeLine_eq]; simp, fun p hp => ⟨p, [x, y], rfl, .inl (.inl upd_same), rfl, x, [y], rfl, y, [], rfl, rfl, ?_⟩⟩
  show D.nx ((σ.set i (some x)).set j (some y)) _
  rw [List.set_comm _ _ hij]
  exact q _ _ _ _ (sr6.keep (keep_upd hp) fun _ z => .inl z) (st6.trans (Step.keep (keep_upd hp)))
end
end DL
namespace DL
open PySem PySem.Spec PyProof.Rows L2
section
variable {K : PySem.W.Frag} {mg : Str → Option Value} {X : Cx} {G : Gm} {Wx : WX} {v : Expr} {pos : Pos} {B : Addr → Prop} {H : Hp}
/-! ### sorted(name) of a dict with fewer than 64 keys, all ints -/
def keysI : List (Key × D) → Option (List Int)
  | [] => some []
  | (.inl i, _) :: r => (keysI r).map fun t => i :: t
  | _ => none
theorem keysI_some : ∀ {kvs : List (Key × D)} {ks : List Int}, keysI kvs = some ks → kvs.map (·.1) = ks.map Sum.inl
  | [], ks, h => by cases h; rfl
  | (.inl i, d) :: r, ks, h => by
    obtain ⟨t, e1, e2⟩ := Option.map_eq_some_iff.mp h
    cases e2
    rw [List.map_cons, List.map_cons, keysI_some e1]
  | (.inr _, _) :: _, _, h => by cases h
theorem RepK.keys : ∀ {a : List (Key × D)} {a' : List (Key × V)}, RepK K mg B H a a' → a'.map (·.1) = a.map (·.1)
  | [], a', h => by unfold RepK at h; subst h; rfl
  | (j, d0) :: a, a', h => by
    unfold RepK at h
    obtain ⟨v0, r, rfl, h1, h2⟩ := h
    rw [List.map_cons, List.map_cons, RepK.keys h2]
def eSrtD (i : Nat) : EV := fun s => match odAt i s with
  | some kvs => match keysI kvs with
    | some ks => if ks.length < 64 then .ok (.ow ((srtI ks).map D.int)) s else .bad
    | none => .bad
  | none => .bad
theorem ed_srtD {i : Nat} {x y : Str} {p p2 : Pos} (hc : X.calm = true) (hg : Gl X y) (hm : X.mg y = none) (hb : bootBuiltins y = some (.builtin "sorted")) (ho : PE X (.Name x p2) (tVar i))
    (hn : y ≠ "__name__" := by decide) (hdb : (y == ("__debug__" : Str)) = false := by decide) (he : starEach [.Name x p2] X.env = (false, eval (.Name x p2) X.env) :: starEach [] X.env := by rfl) :
    ED X G Wx (.Call (.Name y p) [.Name x p2] [] pos) (eSrtD i) := by
  refine ⟨PE.imp (pe_callB (call_sortedDI hc) hg hm hb (pa_cons ho pa_nil he) hn hdb he rfl) fun σ H Q ⟨P, A, L, s, hs, h⟩ => ?_⟩
  unfold eSrtD at h
  split at h
  · rename_i kvs e
    split at h
    · rename_i ks ek
      split at h
      · rename_i h64
        obtain ⟨p, ws, f1, f2, f3, _⟩ := hs.odict e
        refine ⟨_, f1, p, ws, ks, rfl, .inl f2, by rw [f3.keys, keysI_some ek], h64, fun ys q hp hpw hq => ?_⟩
        rw [pw_perm_eq hpw (srtI_pw ks) (hp.trans (srtI_perm ks).symm)]
        exact h A L _ _ (At.mk' hs (Step.refl A L H) hs.p0 (ResOk.lst hq (reps_ints _)))
      · exact h.elim
    · exact h.elim
  · exact h.elim
/-! ### name = {other: a constant} -/
def constD : D → Option V
  | .int i => some (.int i)
  | .bl b => some (.bl b)
  | .non => some .non
  | _ => none
def sDisp1 (i j : Nat) (c : D) : SV := fun s => match s.η[j]? with
  | some (.pv d) => match keyD d with
    | some k => if i < s.η.length then .ok .nx { s with η := s.η.set i (.od [(k, c)]) } else .bad
    | none => .bad
  | _ => .bad
theorem sd_disp1 {i j : Nat} {x y : Str} {p p2 pos2 : Pos} {c : D} {w : V} (hcd : ∀ B H, Rep X.K X.mg B H c w) (hN : X.N.Nodup) (hi : X.N[i]? = some x) (hx : Loc X.env.scope x) (hk : PE X (.Name y p2) (tVar j)) (hv : PE X v (tC w))
    (hf : X.fn x = true ∨ X.env.scope.names.lookup x = some .local := by first | exact .inl rfl | exact .inr rfl | assumption)
    (hs : swapsWithSole [.Name x p] (.Dict [some (.Name y p2)] [v] pos2) pos.line X.env = pure false := by rfl) (hw : swappedStores [.Name x p] (.Dict [some (.Name y p2)] [v] pos2) X.env = pure none := by rfl)
    (h1 : (assignEach [.Name x p] X.env).map (·.2) = [assign (.Name x p) X.env] := by rfl) : SD X G Wx (.Assign [.Name x p] (.Dict [some (.Name y p2)] [v] pos2) pos) (sDisp1 i j c) := by
  refine ⟨PS.imp (ps_asg (pe_disp (pps_cons hk hv pps_nil) rfl rfl (by simp) (by simp)) (pg_name hN hi hx hf) hs hw h1) fun D σ H ⟨P, A, L, s, hs, h⟩ => ?_⟩
  unfold sDisp1 at h
  split at h
  · rename_i d ej
    split at h
    · rename_i k ek
      split at h
      · rename_i hil
        intro q hq
        obtain ⟨_, ov, oa, e1, e2, so⟩ := hs.slot' ej
        obtain ⟨v0, ev, rp⟩ := (show ∃ v0, ov = some v0 ∧ Rep X.K X.mg (Bd P A L) H d v0 from so.2)
        subst ev
        have ev := keyD_ok rp ek
        subst ev
        refine ⟨_, e1, upd_same, [(k, w)], rfl, by simp, ?_⟩
        have eu : upd (upd H q (.dK [])) q (.dK (mergeK [] [(k, w)])) = upd H q (.dK [(k, w)]) := by
          funext a
          by_cases h : a = q
          · subst h; rw [upd_same, upd_same]; rfl
          · rw [upd_ne h, upd_ne h, upd_ne h]
        rw [eu]
        have h : PostN X.K X.mg G P A L H D.nx { s with η := s.η.set i (.od [(k, c)]) } := h
        let P1 : Addr → Prop := fun a => P a ∨ a = q
        have sr1 : SR X.K X.mg G P1 A L s σ (upd H q (.dK [(k, w)])) := hs.keep (keep_upd hq) fun a z => z.imp id fun z => by subst z; exact ⟨⟨_, upd_same⟩, hq⟩
        have nP : ¬ P q := fun z => by obtain ⟨o, e⟩ := (hs.pOk q z).1; rw [hq] at e; cases e
        have n0 : G.H0 q = none := by
          cases e : G.H0 q with
          | none => rfl
          | some o => obtain ⟨o', e'⟩ := hs.ent.there q o e; rw [hq] at e'; cases e'
        have hiσ : i < σ.length := by rw [hs.lenσ]; exact hil
        have sr2 := sr1.set (P := P) (i := i) (σ' := σ.set i (some (.ref q))) (ov := some (.ref q)) (oa := some q) (x := .od [(k, c)]) hil (fun _ z => .inl z)
          (fun a z => by cases z; exact ⟨.inr rfl, nP, ⟨_, upd_same, .inr ⟨_, rfl⟩⟩, n0⟩) ⟨by simp, List.getElem?_set_self hiσ, fun j hj => List.getElem?_set_ne (Ne.symm hj)⟩ ⟨q, _, rfl, rfl, upd_same, by
            unfold RepK
            exact ⟨w, [], rfl, hcd _ _, by unfold RepK; rfl⟩⟩
        refine h _ _ _ _ sr2 ?_
        refine ⟨fun a o e hA hL pl => keep_upd hq a o e, fun a z => ?_, ⟨[], by simp⟩, fun a o e => ⟨o, keep_upd hq a o e⟩, fun a ⟨ps, e, t⟩ => ⟨ps, keep_upd hq a _ e, t⟩⟩
        rcases z with z | z
        · rcases mem_set z with z | z
          · exact .inl z
          · cases z; exact .inr (.inr hq)
        · exact .inr (.inl z)
      · exact h.elim
    · exact h.elim
  · exact h.elim
end
end DL
namespace DL
open PySem PySem.Spec PyProof.Rows L2
/-! ### mirrors of defs are sealed: nothing unfolds them -/
noncomputable def sld {α : Sort u} (x : α) : α := Classical.choose (⟨x, rfl⟩ : ∃ y, y = x)
theorem sld_eq {α : Sort u} (x : α) : sld x = x := Classical.choose_spec (⟨x, rfl⟩ : ∃ y, y = x)
section
variable {Pg : Program} {w : World} {K : PySem.W.Frag} {mg : Str → Option Value} {base : Heap} {tb : List Addr} {k : Nat} {x pn : Str} {ps : List Str}
theorem Has.sld {m : Fn} (h : Has Pg w K mg base tb k x ps m) : Has Pg w K mg base tb k x ps (sld m) := by rw [sld_eq]; exact h
theorem HasX.sld {m : Str → List (List D) → Rf} (h : HasX Pg w K mg base tb k x pn m) : HasX Pg w K mg base tb k x pn (sld m) := by rw [sld_eq]; exact h
theorem fn_sld (f : Fn) (args : List RV) (W : List (List D)) : sld f args W = f args W := by rw [sld_eq]
theorem fx_sld (f : Str → List (List D) → Rf) (nm : Str) (W : List (List D)) : sld f nm W = f nm W := by rw [sld_eq]
end
end DL
namespace DL
open PySem PySem.Spec PyProof.Rows L2
/-! ### a, b, c = x, y, z -/
def sPar3 (i j l : Nat) (fa fb fc : EV) : SV := fun s => (fa s).bind fun ra s1 => (keepX ra s1).bind fun ra s1 => (fb s1).bind fun rb s2 => (keepX rb s2).bind fun rb s2 => (fc s2).bind fun rc s3 => (keepX rc s3).bind fun rc s3 =>
  (putR l rc s3).bind fun _ s4 => (putR j rb s4).bind fun _ s5 => (putR i ra s5).bind fun _ s6 => .ok .nx s6
section
variable {X : Cx} {G : Gm} {Wx : WX} {a b c : Expr} {fa fb fc : EV} {pos : Pos}
/-- what both rules share -/
theorem par3_core {i j l : Nat} {Dn : Ends} {σ : L2.St} {H : Hp} (hij : i ≠ j) (hil : i ≠ l) (hjl : j ≠ l) {P : Addr → Prop} {A : List (Option Addr)} {L : List Addr} {s : S} (hs : SR X.K X.mg G P A L s σ H)
    (h : RunS X.K X.mg G Wx P A L H (sPar3 i j l fa fb fc s) (PostS X.K X.mg G P A L H Dn)) :
    tE X.K X.mg G Wx fa σ H fun x H1 => tE X.K X.mg G Wx fb σ H1 fun y H2 => tE X.K X.mg G Wx fc σ H2 fun z H3 =>
      ∃ A' L' s', SR X.K X.mg G P A' L' s' (((σ.set i (some x)).set j (some y)).set l (some z)) H3 ∧ Step A L H A' L' H3 ∧ PostS X.K X.mg G P A L H Dn .nx s' := by
  refine (tE_oneS hs h).mono fun x H1 ⟨A1, L1, s1, ra, a1, h1⟩ => ?_
  obtain ⟨A2, s2, ra, a2, na, h2⟩ := run_keepX a1 h1
  refine ⟨Wi P ra x, A2, L1, s2, a2.sr, ((RunS.bind h2).on a2.st fun _ z => .inl z).run.imp fun rb s3 _ q A3 L3 y H3 b3 => ?_⟩
  obtain ⟨A4, s4, rb, b4, nb, q⟩ := run_keepX b3 q
  refine ⟨Wi (Wi P ra x) rb y, A4, L3, s4, b4.sr, ((RunS.bind q).on (a2.st.trans b4.st) fun _ z => .inl (.inl z)).run.imp fun rc s5 _ q A5 L5 z H5 c5 => ?_⟩
  obtain ⟨A6, s6, rc, c6, nc, q⟩ := run_keepX c5 q
  obtain ⟨oc, s7, sr7, st7, ho7, q⟩ := run_putR (i := l) c6 q
  have b7 : At X.K X.mg G (Wi P ra x) A2 L1 H1 (σ.set l (some z)) (A6.set l oc) L5 s7 H5 rb y := ⟨sr7, (b4.ok.step st7).sig nb, b4.new, b4.st.trans st7, b4.p0⟩
  obtain ⟨ob, s8, sr8, st8, ho8, q⟩ := run_putR (i := j) b7 q
  have a8 : At X.K X.mg G P A L H ((σ.set l (some z)).set j (some y)) ((A6.set l oc).set j ob) L5 s8 H5 ra x := ⟨sr8, (a2.ok.step st8).sig na, a2.new, a2.st.trans st8, a2.p0⟩
  obtain ⟨oa, s9, sr9, st9, ho9, q⟩ := run_putR (i := i) a8 q
  refine ⟨_, L5, s9, ?_, st9, q⟩
  have e : ((σ.set i (some x)).set j (some y)).set l (some z) = ((σ.set l (some z)).set j (some y)).set i (some x) := by
    rw [List.set_comm _ _ hij, List.set_comm _ _ hil, List.set_comm _ _ hjl]
  rw [e]; exact sr9
theorem sd_par3 {i j l : Nat} {x y z : Str} {px py pz pt : Pos} {kt k2 pt2} (hc : X.calm = true) (hN : X.N.Nodup) (hi : X.N[i]? = some x) (hj : X.N[j]? = some y) (hl : X.N[l]? = some z) (hij : i ≠ j) (hil : i ≠ l) (hjl : j ≠ l)
    (hx : X.env.scope.names.lookup x = some .local) (hy : X.env.scope.names.lookup y = some .local) (hz : X.env.scope.names.lookup z = some .local) (ha : ED X G Wx a fa) (hb : ED X G Wx b fb) (hcc : ED X G Wx c fc)
    (hw : swappedStores [.Tuple [.Name x px, .Name y py, .Name z pz] kt pt] (.Tuple [a, b, c] k2 pt2) X.env = pure (some [x, y, z]))
    (hs : swapsWithSole [.Tuple [.Name x px, .Name y py, .Name z pz] kt pt] (.Tuple [a, b, c] k2 pt2) pos.line X.env = pure false := by rfl)
    (he : starEach [a, b, c] X.env = (false, eval a X.env) :: starEach [b, c] X.env := by rfl) (he2 : starEach [b, c] X.env = (false, eval b X.env) :: starEach [c] X.env := by rfl) (he3 : starEach [c] X.env = (false, eval c X.env) :: starEach [] X.env := by rfl) :
    SD X G Wx (.Assign [.Tuple [.Name x px, .Name y py, .Name z pz] kt pt] (.Tuple [a, b, c] k2 pt2) pos) (sPar3 i j l fa fb fc) := by
  refine ⟨PS.imp (ps_par3 hc hN hi hj hl hij hil hjl hx hy hz (pa_cons ha.pe (pa_cons hb.pe (pa_cons hcc.pe pa_nil he3) he2) he) hw hs) fun Dn σ H ⟨P, A, L, s, hs, h⟩ => (par3_core hij hil hjl hs h).mono fun x H1 h1 => h1.mono fun y H2 h2 => h2.mono fun z H3 ⟨A', L', s', sr, st, q⟩ => ?_⟩
  exact ⟨x, y, z, rfl, q _ _ _ _ sr st⟩
theorem sd_par3C {i j l : Nat} {x y z : Str} {px py pz pt : Pos} {kt k2 pt2} (hc : X.calm = true) (hij : i ≠ j) (hil : i ≠ l) (hjl : j ≠ l)
    (hx : PG X (.Name x px) (gName i)) (hy : PG X (.Name y py) (gName j)) (hz : PG X (.Name z pz) (gName l)) (ha : ED X G Wx a fa) (hb : ED X G Wx b fb) (hcc : ED X G Wx c fc)
    (hw : swappedStores [.Tuple [.Name x px, .Name y py, .Name z pz] kt pt] (.Tuple [a, b, c] k2 pt2) X.env = pure none)
    (hs : swapsWithSole [.Tuple [.Name x px, .Name y py, .Name z pz] kt pt] (.Tuple [a, b, c] k2 pt2) pos.line X.env = pure false := by rfl)
    (he : starEach [a, b, c] X.env = (false, eval a X.env) :: starEach [b, c] X.env := by rfl) (he2 : starEach [b, c] X.env = (false, eval b X.env) :: starEach [c] X.env := by rfl) (he3 : starEach [c] X.env = (false, eval c X.env) :: starEach [] X.env := by rfl)
    (h1 : (assignEach [.Tuple [.Name x px, .Name y py, .Name z pz] kt pt] X.env).map (·.2) = [assign (.Tuple [.Name x px, .Name y py, .Name z pz] kt pt) X.env] := by rfl)
    (h2 : (assignEach [.Name x px, .Name y py, .Name z pz] X.env).map (·.2) = assign (.Name x px) X.env :: (assignEach [.Name y py, .Name z pz] X.env).map (·.2) := by rfl)
    (h3 : (assignEach [.Name y py, .Name z pz] X.env).map (·.2) = assign (.Name y py) X.env :: (assignEach [.Name z pz] X.env).map (·.2) := by rfl)
    (h3' : (assignEach [.Name z pz] X.env).map (·.2) = assign (.Name z pz) X.env :: (assignEach [] X.env).map (·.2) := by rfl)
    (h4 : (assignEach [.Name x px, .Name y py, .Name z pz] X.env).length = 3 := by rfl) (h5 : (assignEach [.Name x px, .Name y py, .Name z pz] X.env).findIdx? (·.1) = none := by rfl) :
    SD X G Wx (.Assign [.Tuple [.Name x px, .Name y py, .Name z pz] kt pt] (.Tuple [a, b, c] k2 pt2) pos) (sPar3 i j l fa fb fc) := by
  refine ⟨PS.imp (ps_asg (pe_tup (pa_cons ha.pe (pa_cons hb.pe (pa_cons hcc.pe pa_nil he3) he2) he)) (pg_tup (n := 3) hc (pgs_cons hx (pgs_cons hy (pgs_cons hz pgs_nil h3') h3) h2) h4 h5) hs hw h1) fun Dn σ H ⟨P, A, L, s, hs, h⟩ => (par3_core hij hil hjl hs h).mono fun x H1 h1 => h1.mono fun y H2 h2 => h2.mono fun z H3 ⟨A', L', s', sr, st, q⟩ => ?_⟩
  refine ⟨by rw [sizeLine_eq]; simp, fun p hp => ⟨p, [x, y, z], rfl, .inl (.inl upd_same), rfl, x, [y, z], rfl, y, [z], rfl, z, [], rfl, rfl, ?_⟩⟩
  exact q _ _ _ _ (sr.keep (keep_upd hp) fun _ z => .inl z) (st.trans (Step.keep (keep_upd hp)))
end
end DL
namespace DL
open PySem PySem.Spec PyProof.Rows L2
/-! ### a call of an expression that gives one of the module's defs -/
structure HeldS (P : Program) (w : World) (K : PySem.W.Frag) (mg : Str → Option Value) (base : Heap) (CX : CXT) (k : Nat) (f : Addr) (sp : Sp) : Prop where
  ex : ∃ (fd : FuncData) (ps : List Str), FnOk P w K mg base CX k f fd ps sp ∧ PySem.W.keepIn K (.ref f) = true ∧ Binds K fd ps []
def tCallE (tf : TE) (R : Addr → Sp → Prop) (E : L2.St → XK) (t : TA) : TE := fun σ H Q => tf σ H fun y H1 => ∃ f sp, y = V.ref f ∧ R f sp ∧ t σ H1 fun vs H2 => sp vs H2 Q (E σ)
section
variable {X : Cx} {CX : CXT} {k : Nat} {R : Addr → Sp → Prop} {fe e : Expr} {es : List Expr} {tf : TE} {t : TA} {pos : Pos} {E : L2.St → XK}
theorem pe_callE (hf : PE X fe tf) (A : ∀ f sp, R f sp → HeldS X.prog X.w X.K X.mg X.base CX k f sp) (hr : Room k X.A) (hx : ∀ σ, PassesAt CX X σ (E σ)) (ha : PA X (e :: es) t)
    (ht : eval (.Call fe (e :: es) [] pos) X.env = (do callWith pos (← eval fe X.env) [] (backTo pos (starEach (e :: es) X.env)) (backToKw pos (keywordEach [] X.env))) := by rfl)
    (he : starEach (e :: es) X.env = (false, eval e X.env) :: starEach es X.env := by rfl) (hpl : (backTo pos (starEach es X.env)).any (·.1) = false := by rfl) :
    PE X (.Call fe (e :: es) [] pos) (tCallE tf R E t) := by
  refine ⟨fun pins s σ H Q I h => ?_⟩
  refine Call_ (thn (hf.run pins s σ H _ I h) fun u s1 ⟨y, H1, I1, ry, f, sp, ey, hR, q⟩ => ?_) ht
  subst ey
  obtain rfl : u = Value.ref f := ry
  obtain ⟨fd, ps, F, hk, hb⟩ := (A f sp hR).ex
  refine PySem.W.callWith_K (h₀ := X.base) I1.ok.mod.kin hk (thn (ha.run pos pins s1 σ H1 _ I1 q) fun us s2 ⟨vs, H2, I2, r, q⟩ => ⟨I2.kIn, ?_⟩) he hpl
  exact run_fnS F hr hb (hx σ) I2 r q
end
def eCallV (fe : EV) (fns : List (PySem.Str × Fn)) (fs : AV) : EV := fun s => (fe s).bind fun r s1 => match rd r s1 with
  | some (.glb x) => match fns.lookup x with
    | some F => eCall F fs s1
    | none => .bad
  | _ => .bad
section
variable {X : Cx} {G : Gm} {Wx : WX} {k : Nat} {fe e : Expr} {es : List Expr} {f : EV} {fs : AV} {pos : Pos} {tb : List Addr} {fns : List (PySem.Str × Fn)}
/-- a def of the module as a value -/
theorem ed_fn {j : Nat} {x : Str} {ps : List Str} {F : Fn} (hg : Gl X x) (h : Has X.prog X.w X.K X.mg X.base tb j x ps F) (hd : (x == ("__debug__" : Str)) = false := by decide) : ED X G Wx (.Name x pos) (eC (.glb x)) := by
  obtain ⟨f, fd, hm, _⟩ := h.ex
  exact ed_globR hg hm hd
theorem ed_callV (hfe : ED X G Wx fe f) (hF : ∀ x F, fns.lookup x = some F → ∃ j ps, j ≤ k ∧ Has X.prog X.w X.K X.mg X.base tb j x ps F) (hr : Room k X.A) (htb : G.tb = tb) (tk : L2N.Takes X Wx) (ha : AD X G Wx (e :: es) fs)
    (ht : eval (.Call fe (e :: es) [] pos) X.env = (do callWith pos (← eval fe X.env) [] (backTo pos (starEach (e :: es) X.env)) (backToKw pos (keywordEach [] X.env))) := by rfl)
    (he : starEach (e :: es) X.env = (false, eval e X.env) :: starEach es X.env := by rfl) (hpl : (backTo pos (starEach es X.env)).any (·.1) = false := by rfl) :
    ED X G Wx (.Call fe (e :: es) [] pos) (eCallV f fns fs) := by
  refine ⟨PE.imp (pe_callE (CX := L2N.CX X.prog X.w) (k := k) (R := fun a sp => ∃ x F, X.mg x = some (.ref a) ∧ fns.lookup x = some F ∧ sp = spD X.K X.mg tb F) hfe.pe (fun a sp ⟨x, F, hm, hl, e⟩ => ?_) hr (fun σ => L2N.passAt tk σ) ha.pa ht he hpl) fun σ H Q ⟨P, A, L, s, hs, h⟩ => (tE_one hs h).mono fun y H1 ⟨A1, L1, s1, r, a1, h1⟩ => ?_⟩
  · obtain ⟨j, ps, hj, hh⟩ := hF x F hl
    obtain ⟨f, fd, hm2, hk, hb, FF, _⟩ := hh.ex
    rw [hm] at hm2
    cases hm2
    subst e
    exact ⟨fd, ps, FF.mono hj, hk, hb⟩
  · cases e1 : rd r s1 with
    | none => rw [e1] at h1; exact h1.elim
    | some d =>
      rw [e1] at h1
      cases d with
      | glb x =>
        simp only at h1
        cases e2 : fns.lookup x with
        | none => rw [e2] at h1; exact h1.elim
        | some F =>
          rw [e2] at h1
          obtain ⟨a, hm, rfl⟩ := (rd_ok a1.weak a1.ok e1).glb
          exact ⟨a, _, rfl, ⟨x, F, hm, e2, rfl⟩, tE_call htb ⟨P, A1, L1, s1, a1.weak, h1.shift a1.st fun r s2 _ q => q.shift a1.st hs.p0⟩⟩
      | _ => exact h1.elim
end
end DL
namespace DL
open PySem PySem.Spec PyProof.Rows L2
section
variable {P : Program} {w : World} {K : PySem.W.Frag} {mg : Str → Option Value} {base : Heap} {tb : List Addr} {k j : Nat} {y : Str} {ps : List Str} {F0 : Fn} {fns : List (PySem.Str × Fn)}
theorem lv_nil : ∀ x F, ([] : List (PySem.Str × Fn)).lookup x = some F → ∃ j ps, j ≤ k ∧ Has P w K mg base tb j x ps F := fun _ _ h => by cases h
theorem lv_cons (h : Has P w K mg base tb j y ps F0) (hj : j ≤ k) (r : ∀ x F, fns.lookup x = some F → ∃ j ps, j ≤ k ∧ Has P w K mg base tb j x ps F) : ∀ x F, ((y, F0) :: fns).lookup x = some F → ∃ j ps, j ≤ k ∧ Has P w K mg base tb j x ps F := fun x F e => by
  rw [List.lookup_cons] at e
  split at e
  · rename_i q
    have q : x = y := by simpa using q
    cases e
    subst q
    exact ⟨j, ps, hj, h⟩
  · exact r x F e
end
end DL
namespace DL
open PySem PySem.Spec PyProof.Rows L2
/-- a proof that is no step of the eye -/
theorem nr {α : Sort u} {a b : α} (h : a = b) : a = b := h
/-! ### the mirrors, evaluated -/
section
variable {α β : Type} {s : S} {η : List Slot} {W : List (List D)} {f g : SV} {fa fb fc fe : EV} {t u : TV} {i j : Nat} {d : D} {ds : List D}
@[simp] theorem bind_okR (a : α) (k : α → S → Rs β) : (Rs.ok a s).bind k = k a s := nr rfl
@[simp] theorem bind_errR (c : Str) (k : α → S → Rs β) : (Rs.err c s).bind k = .err c s := nr rfl
@[simp] theorem bind_badR (k : α → S → Rs β) : (Rs.bad).bind k = .bad := nr rfl
theorem bind_bind {γ : Type} (x : Rs α) (k : α → S → Rs β) (l : β → S → Rs γ) : (x.bind k).bind l = x.bind fun a s => (k a s).bind l := by cases x <;> rfl
@[simp] theorem eC_ap : eC d s = .ok (.pv d) s := nr rfl
@[simp] theorem eV_ap : eV i ⟨η, W⟩ = match η[i]? with
  | some (.pv d) => .ok (.pv d) ⟨η, W⟩
  | some (.ow _) => .ok (.vr i) ⟨η, W⟩
  | some (.lc n) => .ok (.lc n) ⟨η, W⟩
  | _ => .bad := nr rfl
@[simp] theorem rd_pv : rd (.pv d) s = some d := nr rfl
@[simp] theorem rd_ow : rd (.ow ds) s = some (.lst ds) := nr rfl
@[simp] theorem rd_lc : rd (.lc i) ⟨η, W⟩ = (W[i]?).map .lst := nr rfl
@[simp] theorem rd_vr : rd (.vr i) ⟨η, W⟩ = match η[i]? with
    | some (.pv d) => some d
    | some (.ow ds) => some (.lst ds)
    | some (.lc n) => (W[n]?).map .lst
    | _ => none := nr rfl
@[simp] theorem keepR_pv : keepR (.pv d) s = some (.pv d, s) := nr rfl
@[simp] theorem keepR_ow : keepR (.ow ds) s = some (.ow ds, s) := nr rfl
@[simp] theorem keepR_lc : keepR (.lc i) s = some (.lc i, s) := nr rfl
@[simp] theorem keepR_vr : keepR (.vr i) ⟨η, W⟩ = match η[i]? with
  | some (.pv d) => some (.pv d, ⟨η, W⟩)
  | some (.ow ds) => some (.pv (.lst ds), ⟨η.set i (.pv (.lst ds)), W⟩)
  | some (.lc n) => some (.lc n, ⟨η, W⟩)
  | _ => none := nr rfl
@[simp] theorem fz_ap (r : RV) : fz r s = match keepR r s with
  | some (.pv d, s') => some (d, s')
  | some (.ow ds, s') => some (.lst ds, s')
  | _ => none := nr rfl
@[simp] theorem fzR_ap (r : RV) : fzR r s = match fz r s with
  | some (d, s') => .ok d s'
  | none => .bad := nr rfl
@[simp] theorem fin1_ap (f : D → Option RV) (r : RV) : fin1 f r s = match rd r s with
  | some a => match f a with
    | some r => .ok r s
    | none => .bad
  | none => .bad := nr rfl
@[simp] theorem fin2_ap (f : Ob2) (ra rb : RV) : fin2 f ra rb s = match rd ra s, rd rb s with
  | some a, some b => match f a b with
    | some r => .ok r s
    | none => .bad
  | _, _ => .bad := nr rfl
@[simp] theorem eOp1_ap (f : D → Option RV) : eOp1 f fa s = (fa s).bind fun ra s1 => fin1 f ra s1 := nr rfl
@[simp] theorem eOp2_ap (f : Ob2) : eOp2 f fa fb s = (fa s).bind fun ra s1 => (fb s1).bind fun rb s2 => fin2 f ra rb s2 := nr rfl
@[simp] theorem eChain_ap (f f' : Ob2) : eChain f f' fa fb fc s = (fa s).bind fun ra s1 => (fb s1).bind fun rb s2 => match rb with
  | .pv b => (fin2 f ra (.pv b) s2).bind fun r s3 => match r with
    | .pv (.bl true) => (fc s3).bind fun rc s4 => fin2 f' (.pv b) rc s4
    | .pv (.bl false) => .ok (.pv (.bl false)) s3
    | _ => .bad
  | _ => .bad := nr rfl
@[simp] theorem toB_ap (b : Bool) : toB (.pv (.bl b)) s = .ok b s := nr rfl
@[simp] theorem finT_ap (r : RV) : finT r s = match rd r s with
  | some d => match truD d with
    | some b => .ok b s
    | none => .bad
  | none => .bad := nr rfl
@[simp] theorem tOfB_ap : tOfB fe s = (fe s).bind toB := nr rfl
@[simp] theorem tOf_ap : tOf fe s = (fe s).bind finT := nr rfl
@[simp] theorem tAndD_ap : tAndD t u s = (t s).bind fun b s1 => if b = true then u s1 else .ok false s1 := nr rfl
@[simp] theorem tOrD_ap : tOrD t u s = (t s).bind fun b s1 => if b = true then .ok true s1 else u s1 := nr rfl
@[simp] theorem tNotD_ap : tNotD t s = (t s).bind fun b s1 => .ok (!b) s1 := nr rfl
@[simp] theorem tTrue_ap : tTrue s = .ok true s := nr rfl
@[simp] theorem eAndD_ap : eAndD fa fb s = (fa s).bind fun r s1 => (finT r s1).bind fun b s2 => if b = true then fb s2 else .ok r s2 := nr rfl
@[simp] theorem eOrD_ap : eOrD fa fb s = (fa s).bind fun r s1 => (finT r s1).bind fun b s2 => if b = true then .ok r s2 else fb s2 := nr rfl
@[simp] theorem eIfD_ap : eIfD t fa fb s = (t s).bind fun b s1 => if b = true then fa s1 else fb s1 := nr rfl
@[simp] theorem argR_ap (r : RV) : argR r s = match keepR r s with
  | some (.pv d, s') => .ok (.pv d) s'
  | some (.ow ds, s') => .ok (.pv (.lst ds)) s'
  | some (.lc n, s') => .ok (.lc n) s'
  | _ => .bad := nr rfl
@[simp] theorem aNil_ap : aNil s = .ok [] s := nr rfl
@[simp] theorem aCons_ap (h : AV) : aCons fe h s = (fe s).bind fun r s1 => (argR r s1).bind fun r' s2 => (h s2).bind fun rs s3 => .ok (r' :: rs) s3 := nr rfl
@[simp] theorem aStar_ap (h : AV) : aStar fe h s = (fe s).bind fun r s1 => match (rd r s1).bind seqD with
  | some ds => (h s1).bind fun rs s2 => .ok (ds.map .pv ++ rs) s2
  | none => .bad := nr rfl
@[simp] theorem seqD_tup : seqD (.tup ds) = some ds := nr rfl
@[simp] theorem seqD_lst : seqD (.lst ds) = some ds := nr rfl
@[simp] theorem seqD_scr : seqD (.scr ds) = some ds := nr rfl
@[simp] theorem itD_tup : itD (.tup ds) = some ds := nr rfl
@[simp] theorem itD_lst : itD (.lst ds) = some ds := nr rfl
@[simp] theorem itX_tup : itX (.tup ds) = some ds := nr rfl
@[simp] theorem itX_lst : itX (.lst ds) = some ds := nr rfl
@[simp] theorem itX_scr : itX (.scr ds) = some ds := nr rfl
@[simp] theorem itX_str (z : Str) : itX (.str z) = some (chD z) := nr rfl
@[simp] theorem itD_scr : itD (.scr ds) = some ds := nr rfl
@[simp] theorem rvDs_nil : rvDs [] = some [] := nr rfl
@[simp] theorem rvDs_cons (d : D) (rs : List RV) : rvDs (.pv d :: rs) = (rvDs rs).map fun ds => d :: ds := nr rfl
@[simp] theorem rvDs_map (ds : List D) (rs : List RV) : rvDs (ds.map .pv ++ rs) = (rvDs rs).map fun es => ds ++ es := by
  induction ds with
  | nil => simp
  | cons d ds ih => simp only [List.map_cons, List.cons_append, rvDs_cons, ih]; cases rvDs rs <;> rfl
@[simp] theorem rvDs_map0 (ds : List D) : rvDs (ds.map .pv) = some ds := by have := rvDs_map ds []; simpa using this
@[simp] theorem rvDs_comp {γ : Type} (f : γ → D) (xs : List γ) (rs : List RV) : rvDs (List.map (RV.pv ∘ f) xs ++ rs) = (rvDs rs).map fun es => xs.map f ++ es := by
  have := rvDs_map (xs.map f) rs
  rwa [List.map_map] at this
@[simp] theorem rvDs_comp0 {γ : Type} (f : γ → D) (xs : List γ) : rvDs (List.map (RV.pv ∘ f) xs) = some (xs.map f) := by
  have := rvDs_map0 (xs.map f)
  rwa [List.map_map] at this
@[simp] theorem dspR_ap (k : List D → RV) (rs : List RV) : dspR k rs s = match rvDs rs with
  | some ds => if ds.length ≤ sizeLine then .ok (k ds) s else .bad
  | none => .bad := nr rfl
@[simp] theorem eTup_ap (h : AV) : eTup h s = (h s).bind (dspR fun ds => .pv (.tup ds)) := nr rfl
@[simp] theorem eLst_ap (h : AV) : eLst h s = (h s).bind (dspR .ow) := nr rfl
@[simp] theorem oNo_ap : oNo s = .ok none s := nr rfl
@[simp] theorem oSo_ap : oSo fe s = (fe s).bind fun r s1 => match rd r s1 with
  | some (.int i) => .ok (some i) s1
  | _ => .bad := nr rfl
@[simp] theorem eSl_ap (lo hi : OV) : eSl fa lo hi s = (fa s).bind fun r s1 => (lo s1).bind fun l s2 => (hi s2).bind fun u s3 => fin1 (fun d => slD d l u) r s3 := nr rfl
@[simp] theorem eSt_ap (lo hi st : OV) : eSt fa lo hi st s = (fa s).bind fun r s1 => (lo s1).bind fun l s2 => (hi s2).bind fun u s3 => (st s3).bind fun c s4 => match c with
  | some c => fin1 (fun d => stD d l u c) r s4
  | none => .bad := nr rfl
@[simp] theorem eCall_ap (F : Fn) (h : AV) : eCall F h s = (h s).bind fun args s1 => match F args s1.W with
  | .ok r W' => .ok r { s1 with W := W' }
  | .err c W' => .err c { s1 with W := W' }
  | .bad => .bad := nr rfl
/-! statements -/
@[simp] theorem sNil_ap : sNil s = .ok .nx s := nr rfl
@[simp] theorem sPass_ap : sPass s = .ok .nx s := nr rfl
@[simp] theorem sBk_ap : sBk s = .ok .bk s := nr rfl
@[simp] theorem sCt_ap : sCt s = .ok .ct s := nr rfl
@[simp] theorem sRetN_ap : sRetN s = .ok (.rt (.pv .non)) s := nr rfl
@[simp] theorem sSeq_ap : sSeq f g s = (f s).bind fun fl s1 => match fl with
  | .nx => g s1
  | fl => .ok fl s1 := nr rfl
@[simp] theorem sIf_ap : sIf t f g s = (t s).bind fun b s1 => if b = true then f s1 else g s1 := nr rfl
@[simp] theorem sEx_ap : sEx fe s = (fe s).bind fun _ s1 => .ok .nx s1 := nr rfl
@[simp] theorem sRet_ap : sRet fe s = (fe s).bind retR := nr rfl
@[simp] theorem retR_pv : retR (.pv d) s = .ok (.rt (.pv d)) s := nr rfl
@[simp] theorem retR_ow : retR (.ow ds) s = .ok (.rt (.ow ds)) s := nr rfl
@[simp] theorem retR_lc : retR (.lc i) s = .ok (.rt (.lc i)) s := nr rfl
@[simp] theorem retR_vr : retR (.vr i) ⟨η, W⟩ = match η[i]? with
    | some (.pv d) => .ok (.rt (.pv d)) ⟨η, W⟩
    | some (.ow ds) => .ok (.rt (.ow ds)) ⟨η.set i .no, W⟩
    | some (.lc n) => .ok (.rt (.lc n)) ⟨η, W⟩
    | _ => .bad := nr rfl
@[simp] theorem slotOf_pv : slotOf (.pv d) = some (.pv d) := nr rfl
@[simp] theorem slotOf_ow : slotOf (.ow ds) = some (.ow ds) := nr rfl
@[simp] theorem slotOf_lc : slotOf (.lc i) = some (.lc i) := nr rfl
@[simp] theorem gSet_ap (r : RV) : gSet i r s = match keepR r s with
  | some (r', s') => if i < s'.η.length then match slotOf r' with
    | some x => .ok () { s' with η := s'.η.set i x }
    | none => .bad
    else .bad
  | none => .bad := nr rfl
@[simp] theorem sAsg_ap (h : GV) : sAsg fe h s = (fe s).bind fun r s1 => (h r s1).bind fun _ s2 => .ok .nx s2 := nr rfl
@[simp] theorem gNilD_nil : gNilD [] s = .ok () s := nr rfl
@[simp] theorem gConsD_cons (h : GV) (gs : GVs) : gConsD h gs (d :: ds) s = (h (.pv d) s).bind fun _ s1 => gs ds s1 := nr rfl
@[simp] theorem lenIs_ap (n : Nat) (gs : GVs) : lenIs n gs ds s = if ds.length = n then gs ds s else .bad := nr rfl
@[simp] theorem gTupD_ap (gs : GVs) (r : RV) : gTupD gs r s = match rd r s with
  | some d => match seqD d with
    | some ds => gs ds s
    | none => .bad
  | none => .bad := nr rfl
@[simp] theorem putR_ap (r : RV) : putR i r s = match slotOf r with
  | some x => if i < s.η.length then .ok () { s with η := s.η.set i x } else .bad
  | none => .bad := nr rfl
@[simp] theorem keepX_ap (r : RV) : keepX r s = match keepR r s with
  | some (r', s') => .ok r' s'
  | none => .bad := nr rfl
@[simp] theorem sPar_ap : sPar i j fa fb s = (fa s).bind fun ra s1 => (keepX ra s1).bind fun ra s1 => (fb s1).bind fun rb s2 => (keepX rb s2).bind fun rb s2 => (putR j rb s2).bind fun _ s3 => (putR i ra s3).bind fun _ s4 => .ok .nx s4 := nr rfl
@[simp] theorem gShare_ap : gShare i (.ow ds) s = if i < s.η.length then .ok () { η := s.η.set i (.lc s.W.length), W := s.W ++ [ds] } else .bad := nr rfl
@[simp] theorem sFor_ap (it : IV) (h : GV) (body : SV) : sFor it h body s = (it s).bind fun ds s1 => loopD h body ds s1 := nr rfl
@[simp] theorem sWhile_ap (n : Nat) (body : SV) : sWhile n t body s = loopW t body n s := nr rfl
@[simp] theorem iOf_ap : iOf fe s = (fe s).bind fun r s1 => match fz r s1 with
  | some (d, s2) => match itX d with
    | some ds => .ok ds s2
    | none => .bad
  | none => .bad := nr rfl
@[simp] theorem iR1_ap : iR1 fa s = (fa s).bind fun r s1 => match rd r s1 with
  | some (.int j) => if rOk j = true then .ok (rngD 0 j) s1 else .bad
  | _ => .bad := nr rfl
@[simp] theorem iR2_ap : iR2 fa fb s = (fa s).bind fun ra s1 => (fb s1).bind fun rb s2 => match rd ra s2, rd rb s2 with
  | some (.int i), some (.int j) => if (rOk i && rOk j) = true then .ok (rngD i j) s2 else .bad
  | _, _ => .bad := nr rfl
@[simp] theorem iR3_ap (h : AV) : iR3 h s = (h s).bind fun rs s1 => match rs with
  | [.pv (.int i), .pv (.int j), .pv (.int c)] => if r3Ok i j c = true then .ok (rng3D i c (Builtin.Range.rangeSize i j c).toNat) s1 else .bad
  | _ => .bad := nr rfl
@[simp] theorem iEnumD_ap : iEnumD fe s = (fe s).bind fun r s1 => match fz r s1 with
  | some (d, s2) => match itD d with
    | some ds => .ok (enumD ds) s2
    | none => .bad
  | none => .bad := nr rfl
@[simp] theorem iRevD_ap : iRevD fe s = (fe s).bind fun r s1 => match fz r s1 with
  | some (d, s2) => match itD d with
    | some ds => .ok ds.reverse s2
    | none => .bad
  | none => .bad := nr rfl
@[simp] theorem iZipD_ap (h : AV) : iZipD h s = (h s).bind fun rs s1 => match rs with
  | [.pv (.tup xs), .pv (.tup ys)] => .ok (zipD xs ys) s1
  | [.pv (.lst xs), .pv (.lst ys)] => .ok (zipD xs ys) s1
  | _ => .bad := nr rfl
@[simp] theorem sAug_ap (f : Ob2) : sAug i f fe s = match s.η[i]? with
  | some (.pv a) => (fe s).bind fun rb s1 => match rd rb s1 with
    | some b => match f a b with
      | some r => (gSet i r s1).bind fun _ s2 => .ok .nx s2
      | none => .bad
    | none => .bad
  | _ => .bad := nr rfl
@[simp] theorem eComp_ap (vs : List Nat) (it : IV) (h : GV) : eComp vs it h t fe s = (it s).bind fun ds s1 => if noOwn s1.η vs = true then (noErr (loopC vs h t fe ds [] { s1 with η := wipeN s1.η vs })).bind fun acc s2 => .ok (.ow acc) { s2 with η := restN s1.η s2.η vs } else .bad := nr rfl
@[simp] theorem noErr_ok (a : α) : noErr (Rs.ok a s) = .ok a s := nr rfl
@[simp] theorem wipeN_nil : wipeN η [] = η := nr rfl
@[simp] theorem wipeN_cons (v : Nat) (vs : List Nat) : wipeN η (v :: vs) = (wipeN η vs).set v .no := nr rfl
@[simp] theorem restN_nil (η0 : List Slot) : restN η0 η [] = η := nr rfl
@[simp] theorem restN_cons (η0 : List Slot) (v : Nat) (vs : List Nat) : restN η0 η (v :: vs) = (restN η0 η vs).set v (η0.getD v .no) := nr rfl
@[simp] theorem noOwn_nil : noOwn η [] = true := nr rfl
@[simp] theorem noOwn_cons (v : Nat) (vs : List Nat) : noOwn η (v :: vs) = ((match η[v]? with
  | some (.ow _) => false
  | some (.od _) => false
  | some _ => true
  | none => false) && noOwn η vs) := nr rfl
@[simp] theorem lstAt_ap : lstAt i ⟨η, W⟩ = match η[i]? with
  | some (.ow ds) => some ds
  | some (.lc n) => W[n]?
  | _ => none := nr rfl
@[simp] theorem lstPut_ap : lstPut i ds ⟨η, W⟩ = match η[i]? with
  | some (.ow _) => ⟨η.set i (.ow ds), W⟩
  | some (.lc n) => ⟨η, W.set n ds⟩
  | _ => ⟨η, W⟩ := nr rfl
@[simp] theorem eApp_ap : eApp i fe s = match lstAt i s with
  | some _ => (fe s).bind fun r s1 => (fzR r s1).bind fun y s2 => match lstAt i s2 with
    | some ds => if ds.length < sizeLine then .ok (.pv .non) (lstPut i (ds ++ [y]) s2) else .bad
    | none => .bad
  | none => .bad := nr rfl
@[simp] theorem ePop_ap : ePop i s = match lstAt i s with
  | some ds => match ds[ds.length - 1]? with
    | some d => .ok (.pv d) (lstPut i ds.dropLast s)
    | none => .bad
  | none => .bad := nr rfl
@[simp] theorem eExt_ap : eExt i fe s = match lstAt i s with
  | some _ => (fe s).bind fun r s1 => match rd r s1, lstAt i s1 with
    | some (.lst zs), some ds => if ds.length + zs.length ≤ sizeLine then .ok (.pv .non) (lstPut i (ds ++ zs) s1) else .bad
    | some (.tup zs), some ds => if ds.length + zs.length ≤ sizeLine then .ok (.pv .non) (lstPut i (ds ++ zs) s1) else .bad
    | _, _ => .bad
  | none => .bad := nr rfl
@[simp] theorem gSubD_ap (fi : EV) (r : RV) : gSubD i fi r s = (fzR r s).bind fun d s1 => match lstAt i s1 with
  | some _ => (fi s1).bind fun ri s2 => match rd ri s2, lstAt i s2 with
    | some (.int k), some ds => match ixN ds.length k with
      | some j => .ok () (lstPut i (ds.set j d) s2)
      | none => .bad
    | _, _ => .bad
  | none => .bad := nr rfl
@[simp] theorem loopD_nil (h : GV) (body : SV) : loopD h body [] s = .ok .nx s := nr rfl
theorem loopD_cons (h : GV) (body : SV) : loopD h body (d :: ds) s = (h (.pv d) s).bind fun _ s1 => (body s1).bind fun fl s2 => match fl with
    | .nx => loopD h body ds s2
    | .ct => loopD h body ds s2
    | .bk => .ok .nx s2
    | .rt r => .ok (.rt r) s2 := nr rfl
/-! defs -/
@[simp] theorem defF_ap (m n : Nat) (body : SV) (args : List RV) : defF m n body args W = if args.length = m then bodyF n body args W else .bad := nr rfl
@[simp] theorem bodyF_ap (n : Nat) (body : SV) (args : List RV) : bodyF n body args W = outF (body ⟨args.map toSlot ++ List.replicate (n - args.length) .no, W⟩) := nr rfl
@[simp] theorem toSlot_pv : toSlot (.pv d) = .pv d := nr rfl
@[simp] theorem toSlot_lc : toSlot (.lc i) = .lc i := nr rfl
@[simp] theorem outF_pv : outF (.ok (.rt (.pv d)) s) = .ok (.pv d) s.W := nr rfl
@[simp] theorem outF_ow : outF (.ok (.rt (.ow ds)) s) = .ok (.ow ds) s.W := nr rfl
@[simp] theorem outF_lc : outF (.ok (.rt (.lc i)) s) = .ok (.lc i) s.W := nr rfl
@[simp] theorem outF_nx : outF (.ok .nx s) = .ok (.pv .non) s.W := nr rfl
@[simp] theorem outF_err (c : Str) : outF (.err c s) = .err c s.W := nr rfl
/-! operators -/
variable {x y : Int} {p q : Bool} {z v : Str} {es : List D}
@[simp] theorem gd_ap (c : Bool) (r : Option RV) : gd c r = if c = true then r else none := nr rfl
@[simp] theorem pI_ap : pI x = some (.pv (.int x)) := nr rfl
@[simp] theorem pB_ap : pB p = some (.pv (.bl p)) := nr rfl
@[simp] theorem oB_some' : oB (some p) = some (.pv (.bl p)) := nr rfl
@[simp] theorem oB_none : oB none = none := nr rfl
@[simp] theorem add_ii : addD (.int x) (.int y) = pI (x + y) := nr rfl
@[simp] theorem add_tt : addD (.tup ds) (.tup es) = gd (decide (ds.length + es.length ≤ sizeLine)) (some (.pv (.tup (ds ++ es)))) := nr rfl
@[simp] theorem add_ll : addD (.lst ds) (.lst es) = gd (decide (ds.length + es.length ≤ sizeLine)) (some (.ow (ds ++ es))) := nr rfl
@[simp] theorem add_ss : addD (.str z) (.str v) = gd (decide (z.length + v.length ≤ sizeLine)) (some (.pv (.str (z ++ v)))) := nr rfl
@[simp] theorem add_ib : addD (.int x) (.bl p) = pI (x + b2i p) := nr rfl
@[simp] theorem sub_ii : subD (.int x) (.int y) = pI (x - y) := nr rfl
@[simp] theorem mul_ii : mulD (.int x) (.int y) = gd (mulOk x y) (pI (x * y)) := nr rfl
@[simp] theorem mul_li : mulD (.lst ds) (.int y) = gd (decide (-(2 ^ 63) ≤ y ∧ y < 2 ^ 63 ∧ ds.length * y.toNat ≤ sizeLine)) (some (.ow (List.replicate y.toNat ds).flatten)) := nr rfl
@[simp] theorem mul_ti : mulD (.tup ds) (.int y) = if y = 1 then some (.pv (.tup ds)) else gd (decide (ds ≠ [] ∧ 2 ≤ y ∧ y ≤ 1000 ∧ ds.length ≤ 1000)) (some (.pv (.tup (List.replicate y.toNat ds).flatten))) := nr rfl
@[simp] theorem fdiv_ii : fdivD (.int x) (.int y) = gd (decide (0 < y ∧ y.natAbs.log2 < 9000)) (pI (x / y)) := nr rfl
@[simp] theorem mod_ii : modD (.int x) (.int y) = gd (decide (0 < y)) (pI (x % y)) := nr rfl
@[simp] theorem pow_ii : powD (.int x) (.int y) = gd (decide (0 ≤ y ∧ y ≤ 1000000 ∧ x.natAbs < 2 ^ 64)) (pI (x ^ y.toNat)) := nr rfl
@[simp] theorem shl_ii : shlD (.int x) (.int y) = gd (decide (0 ≤ y ∧ y ≤ 1000000 ∧ x.natAbs < 2 ^ 64)) (pI (x * 2 ^ y.toNat)) := nr rfl
@[simp] theorem shr_ii : shrD (.int x) (.int y) = gd (decide (0 ≤ y)) (pI (x / 2 ^ y.toNat)) := nr rfl
@[simp] theorem and_ii : andD (.int x) (.int y) = pI (Builtin.bitAnd x y) := nr rfl
@[simp] theorem or_ii : orD (.int x) (.int y) = pI (Builtin.bitOr x y) := nr rfl
@[simp] theorem xor_ii : xorD (.int x) (.int y) = pI (Builtin.bitXor x y) := nr rfl
@[simp] theorem neg_i : negD (.int x) = pI (-x) := nr rfl
@[simp] theorem lt_ii : ltC (.int x) (.int y) = pB (decide (x < y)) := nr rfl
@[simp] theorem le_ss (u z : Str) : leC (.str u) (.str z) = pB (!decide (z.cps.toList < u.cps.toList)) := nr rfl
@[simp] theorem gt_ss (u z : Str) : gtC (.str u) (.str z) = pB (decide (z.cps.toList < u.cps.toList)) := nr rfl
@[simp] theorem ge_ss (u z : Str) : geC (.str u) (.str z) = pB (!decide (u.cps.toList < z.cps.toList)) := nr rfl
@[simp] theorem le_ii : leC (.int x) (.int y) = pB (decide (x ≤ y)) := nr rfl
@[simp] theorem gt_ii : gtC (.int x) (.int y) = pB (decide (y < x)) := nr rfl
@[simp] theorem ge_ii : geC (.int x) (.int y) = pB (decide (y ≤ x)) := nr rfl
@[simp] theorem eqC_ap (a b : D) : eqC a b = oB (eqO a b) := nr rfl
@[simp] theorem neC_ap (a b : D) : neC a b = oB ((eqO a b).map not) := nr rfl
@[simp] theorem eqO_ii : eqO (.int x) (.int y) = some (x == y) := nr rfl
@[simp] theorem eqO_ss : eqO (.str z) (.str v) = some (z == v) := nr rfl
@[simp] theorem inC_ap (a b : D) : inC a b = oB (inO a b) := nr rfl
@[simp] theorem niC_ap (a b : D) : niC a b = oB ((inO a b).map not) := nr rfl
@[simp] theorem isC_ap (a b : D) : isC a b = oB (isO a b) := nr rfl
@[simp] theorem isnC_ap (a b : D) : isnC a b = oB ((isO a b).map not) := nr rfl
@[simp] theorem isO_non (a : D) : isO a .non = some (match a with | .non => true | _ => false) := nr rfl
@[simp] theorem isO_bl (a : D) : isO a (.bl p) = some (match a with | .bl d => d == p | _ => false) := nr rfl
@[simp] theorem tru_non : truD .non = some false := nr rfl
@[simp] theorem tru_bl : truD (.bl p) = some p := nr rfl
@[simp] theorem tru_int : truD (.int x) = some (x != 0) := nr rfl
@[simp] theorem tru_tup : truD (.tup ds) = some (!ds.isEmpty) := nr rfl
@[simp] theorem tru_lst : truD (.lst ds) = some (!ds.isEmpty) := nr rfl
@[simp] theorem notD_ap (a : D) : notD a = (truD a).map fun b => .pv (.bl (!b)) := nr rfl
@[simp] theorem len_tup : lenD (.tup ds) = pI ds.length := nr rfl
@[simp] theorem len_lst : lenD (.lst ds) = pI ds.length := nr rfl
@[simp] theorem len_scr : lenD (.scr ds) = pI ds.length := nr rfl
@[simp] theorem len_str : lenD (.str z) = gd (decide (z.length ≤ sizeLine)) (pI z.length) := nr rfl
@[simp] theorem abs_int : absD (.int x) = pI (if x < 0 then -x else x) := nr rfl
@[simp] theorem int_int : intD (.int x) = pI x := nr rfl
@[simp] theorem int_bl : intD (.bl p) = pI (if p then 1 else 0) := nr rfl
@[simp] theorem bool_int : boolD (.int x) = pB (x != 0) := nr rfl
@[simp] theorem bool_bl : boolD (.bl p) = pB p := nr rfl
@[simp] theorem list_ap (a : D) : listD a = (seqD a).map .ow := nr rfl
@[simp] theorem tuple_tup : tupleD (.tup ds) = some (.pv (.tup ds)) := nr rfl
@[simp] theorem tuple_lst : tupleD (.lst ds) = some (.pv (.tup ds)) := nr rfl
@[simp] theorem tuple_scr : tupleD (.scr ds) = some (.pv (.tup ds)) := nr rfl
@[simp] theorem rev_lst : revD (.lst ds) = some (.ow ds.reverse) := nr rfl
@[simp] theorem tupRev_lst : tupRevD (.lst ds) = some (.pv (.tup ds.reverse)) := nr rfl
@[simp] theorem augAdd_ii : augAdd (.int x) (.int y) = pI (x + y) := nr rfl
@[simp] theorem augSub_ii : augSub (.int x) (.int y) = pI (x - y) := nr rfl
@[simp] theorem max2_ii : max2D (.int x) (.int y) = pI (if y > x then y else x) := nr rfl
@[simp] theorem min2_ii : min2D (.int x) (.int y) = pI (if y < x then y else x) := nr rfl
@[simp] theorem ix_tup : ixD (.tup ds) (.int x) = (atI ds x).map .pv := nr rfl
@[simp] theorem ix_lst : ixD (.lst ds) (.int x) = (atI ds x).map .pv := nr rfl
@[simp] theorem ix_scr : ixD (.scr ds) (.int x) = (atI ds x).map .pv := nr rfl
variable {lo hi : Option Int}
@[simp] theorem sl_tup : slD (.tup ds) lo hi = some (.pv (.tup (cutL ds lo hi))) := nr rfl
@[simp] theorem sl_lst : slD (.lst ds) lo hi = some (.ow (cutL ds lo hi)) := nr rfl
@[simp] theorem sl_scr : slD (.scr ds) lo hi = some (.ow (cutL ds lo hi)) := nr rfl
def tyIs (T : String) (d : D) : Bool := match tyN d with | some n => isB n T | none => false
theorem isiD_pl {T n : String} (h : tyN d = some n) : isiD T d = some (.pv (.bl (isB n T))) := by unfold isiD; rw [h]; rfl
end
end DL
namespace DL
open PySem PySem.Spec PyProof.Rows L2
/-! ### what a run ends in -/
def Tri {α : Type} (x : Rs α) (Q : α → S → Prop) : Prop := match x with
  | .ok a s => Q a s
  | _ => False
section
variable {α β : Type} {s : S} {Q Q' : α → S → Prop}
@[simp] theorem tri_ok (a : α) : Tri (.ok a s) Q ↔ Q a s := Iff.rfl
@[simp] theorem tri_err (c : Str) : Tri (.err c s) Q ↔ False := Iff.rfl
@[simp] theorem tri_bad : Tri .bad Q ↔ False := Iff.rfl
theorem tri_bind {x : Rs α} {k : α → S → Rs β} {Q : β → S → Prop} : Tri (x.bind k) Q ↔ Tri x fun a s => Tri (k a s) Q := by cases x <;> exact Iff.rfl
theorem Tri.mono {x : Rs α} (h : Tri x Q) (q : ∀ a s, Q a s → Q' a s) : Tri x Q' := by
  cases x with
  | ok a s => exact q a s h
  | err _ _ => exact h
  | bad => exact h
theorem Tri.ex {x : Rs α} (h : Tri x Q) : ∃ a s, x = .ok a s ∧ Q a s := by
  cases x with
  | ok a s => exact ⟨a, s, rfl, h⟩
  | err _ _ => exact h.elim
  | bad => exact h.elim
/-- the same of a def -/
def TriF (x : Rf) (Q : RV → List (List D) → Prop) : Prop := match x with
  | .ok r W => Q r W
  | _ => False
@[simp] theorem triF_ok (r : RV) (W : List (List D)) (Q : RV → List (List D) → Prop) : TriF (.ok r W) Q ↔ Q r W := Iff.rfl
theorem TriF.ex {x : Rf} {Q : RV → List (List D) → Prop} (h : TriF x Q) : ∃ r W, x = .ok r W ∧ Q r W := by
  cases x with
  | ok r W => exact ⟨r, W, rfl, h⟩
  | err _ _ => exact h.elim
  | bad => exact h.elim
theorem TriF.mono {x : Rf} {Q Q' : RV → List (List D) → Prop} (h : TriF x Q) (q : ∀ r W, Q r W → Q' r W) : TriF x Q' := by
  cases x with
  | ok r W => exact q r W h
  | err _ _ => exact h.elim
  | bad => exact h.elim
theorem triF_out {x : Rs Fl} {Q : RV → List (List D) → Prop} (h : Tri x fun fl s => match fl with
    | .rt (.pv d) => Q (.pv d) s.W
    | .rt (.ow d) => Q (.ow d) s.W
    | .rt (.lc d) => Q (.lc d) s.W
    | .nx => Q (.pv .non) s.W
    | _ => False) : TriF (outF x) Q := by
  cases x with
  | err _ _ => exact h.elim
  | bad => exact h.elim
  | ok fl s =>
    cases fl with
    | nx => exact h
    | bk => exact h.elim
    | ct => exact h.elim
    | rt r =>
      cases r with
      | pv _ => exact h
      | ow _ => exact h
      | lc _ => exact h
      | vr _ => exact h.elim
theorem tri_call {F : Fn} {args : List RV} {Q : RV → S → Prop} (h : TriF (F args s.W) fun r W' => Q r { s with W := W' }) : Tri (match F args s.W with
  | .ok r W' => Rs.ok r { s with W := W' }
  | .err c W' => .err c { s with W := W' }
  | .bad => .bad) Q := by
  obtain ⟨r, W', e, q⟩ := h.ex
  rw [e]; exact q
/-! loops -/
/-- a loop by an invariant over what is left of its items -/
theorem loopD_inv {g : GV} {body : SV} (I : List D → S → Prop) {Q : Fl → S → Prop} (hs : ∀ d ds s, I (d :: ds) s → Tri (g (.pv d) s) fun _ s1 => Tri (body s1) fun fl s2 => match fl with
    | .nx => I ds s2
    | .ct => I ds s2
    | .bk => Q .nx s2
    | .rt r => Q (.rt r) s2) (hn : ∀ s, I [] s → Q .nx s) : ∀ ds s, I ds s → Tri (loopD g body ds s) Q
  | [], s, h => hn s h
  | d :: ds, s, h => by
    rw [loopD_cons, tri_bind]
    refine (hs d ds s h).mono fun _ s1 h1 => ?_
    rw [tri_bind]
    refine Tri.mono h1 fun fl s2 h2 => ?_
    cases fl with
    | nx => exact loopD_inv I hs hn ds s2 h2
    | ct => exact loopD_inv I hs hn ds s2 h2
    | bk => exact h2
    | rt r => exact h2
/-- a comprehension by an invariant over what is left and what is gathered -/
theorem loopC_inv {vs : List Nat} {g : GV} {t : TV} {fe : EV} (I : List D → List D → S → Prop) {Q : List D → S → Prop}
    (hs : ∀ d ds acc s, I (d :: ds) acc s → Tri (g (.pv d) s) fun _ s1 => Tri (t s1) fun b s2 => if b = true then Tri (fe s2) fun r s3 => Tri (fzR r s3) fun y s4 => acc.length < sizeLine ∧ I ds (acc ++ [y]) { s4 with η := wipeN s4.η vs } else I ds acc { s2 with η := wipeN s2.η vs })
    (hn : ∀ acc s, I [] acc s → Q acc s) : ∀ ds acc s, I ds acc s → Tri (loopC vs g t fe ds acc s) Q
  | [], acc, s, h => hn acc s h
  | d :: ds, acc, s, h => by
    unfold loopC
    rw [tri_bind]
    refine (hs d ds acc s h).mono fun _ s1 h1 => ?_
    rw [tri_bind]
    refine Tri.mono h1 fun b s2 h2 => ?_
    cases b with
    | true =>
      rw [if_pos rfl] at h2 ⊢
      rw [tri_bind]
      refine Tri.mono h2 fun r s3 h3 => ?_
      rw [tri_bind]
      refine Tri.mono h3 fun y s4 h4 => ?_
      rw [if_pos h4.1]
      exact loopC_inv I hs hn ds _ _ h4.2
    | false =>
      rw [if_neg (by decide)] at h2 ⊢
      exact loopC_inv I hs hn ds acc _ h2
theorem tri_noErr {x : Rs α} (h : Tri x Q) : Tri (noErr x) Q := by
  cases x <;> exact h
/-- a while by an invariant and a measure -/
theorem loopW_inv {t : TV} {body : SV} (I : Nat → S → Prop) {Q : Fl → S → Prop} (hs : ∀ m s, I m s → Tri (t s) fun b s1 => if b = true then Tri (body s1) fun fl s2 => match fl with
    | .nx => ∃ m', m' < m ∧ I m' s2
    | .ct => ∃ m', m' < m ∧ I m' s2
    | .bk => Q .nx s2
    | .rt r => Q (.rt r) s2 else Q .nx s1) : ∀ n m s, m < n → I m s → Tri (loopW t body n s) Q
  | 0, m, s, hm, _ => by omega
  | n + 1, m, s, hm, h => by
    unfold loopW
    rw [tri_bind]
    refine (hs m s h).mono fun b s1 h1 => ?_
    cases b with
    | true =>
      rw [if_pos rfl] at h1 ⊢
      rw [tri_bind]
      refine Tri.mono h1 fun fl s2 h2 => ?_
      cases fl with
      | nx => obtain ⟨m', h3, h4⟩ := h2; exact loopW_inv I hs n m' s2 (by omega) h4
      | ct => obtain ⟨m', h3, h4⟩ := h2; exact loopW_inv I hs n m' s2 (by omega) h4
      | bk => exact h2
      | rt r => exact h2
    | false => rw [if_neg (by decide)] at h1 ⊢; exact h1
end
theorem rng_len (lo hi : Int) : (rngD lo hi).length = (hi - lo).toNat := by rw [rngD_eq]; simp
/-! ### data -/
section
/-- rows of ints -/
abbrev dI (ns : List Int) : List D := ns.map .int
abbrev tI_ (ns : List Int) : D := .tup (ns.map .int)
theorem atI_get {α : Type} {xs : List α} {i : Int} {v : α} (h0 : 0 ≤ i) (h : xs[i.toNat]? = some v) : atI xs i = some v := by
  have := atI_nat h
  rwa [Int.toNat_of_nonneg h0] at this
theorem atI_map {α β : Type} (f : α → β) (xs : List α) (i : Int) : atI (xs.map f) i = (atI xs i).map f := by
  unfold atI
  rw [List.length_map]
  cases ixN xs.length i with
  | none => rfl
  | some j => simp
theorem sIx_of {n d : Nat} {v : Int} (h : 0 ≤ v) : HT.sIx n d (some v) = min v.toNat n := by
  show (if v < 0 then (v + (n : Int)).toNat else min v.toNat n) = _
  rw [if_neg (by omega)]
theorem cutL_nn {α : Type} {xs : List α} {a b : Int} (ha : 0 ≤ a) (hb : 0 ≤ b) : cutL xs (some a) (some b) = (xs.drop a.toNat).take (b.toNat - a.toNat) := by
  unfold cutL
  rw [sIx_of ha, sIx_of hb]
  by_cases h : a.toNat ≤ xs.length
  · rw [Nat.min_eq_left h]
    by_cases h2 : b.toNat ≤ xs.length
    · rw [Nat.min_eq_left h2]
    · rw [show min b.toNat xs.length = xs.length by omega, List.take_of_length_le (by simp), List.take_of_length_le (by simp; omega)]
  · rw [show min a.toNat xs.length = xs.length by omega, List.drop_length, List.drop_eq_nil_of_le (by omega)]; simp
theorem cutL_lo {α : Type} {xs : List α} {a : Int} (ha : 0 ≤ a) : cutL xs (some a) none = xs.drop a.toNat := by
  unfold cutL
  rw [sIx_of ha]
  show ((xs.drop _).take (xs.length - _)) = _
  by_cases h : a.toNat ≤ xs.length
  · rw [Nat.min_eq_left h, List.take_of_length_le (by simp)]
  · rw [show min a.toNat xs.length = xs.length by omega, List.drop_length, List.drop_eq_nil_of_le (by omega)]; simp
theorem cutL_hi {α : Type} {xs : List α} {b : Int} (hb : 0 ≤ b) : cutL xs none (some b) = xs.take b.toNat := by
  unfold cutL
  rw [sIx_of hb]
  show ((xs.drop 0).take (_ - 0)) = _
  simp only [List.drop_zero, Nat.sub_zero]
  by_cases h : b.toNat ≤ xs.length
  · rw [Nat.min_eq_left h]
  · rw [show min b.toNat xs.length = xs.length by omega, List.take_of_length_le (by omega), List.take_of_length_le (by omega)]
theorem cutL_map {α β : Type} (f : α → β) (xs : List α) (lo hi : Option Int) : cutL (xs.map f) lo hi = (cutL xs lo hi).map f := by
  unfold cutL; simp [List.map_take, List.map_drop]
theorem cutL_len {α : Type} (xs : List α) (lo hi : Option Int) : (cutL xs lo hi).length ≤ xs.length := by
  unfold cutL; simp; omega
@[simp] theorem lg_small {n : Nat} (h : n < 18446744073709551616) : (n.log2 < 9000) = True := by
  have : n.log2 < 64 := by
    by_cases e : n = 0
    · subst e; decide
    · exact (Nat.log2_lt e).mpr h
  exact eq_true (by omega)
section
variable {α : Type} {a b c d e : α} {xs : List α}
@[simp] theorem atI_0 : atI (a :: xs) 0 = some a := atI_get (by decide) rfl
@[simp] theorem atI_1 : atI (a :: b :: xs) 1 = some b := atI_get (by decide) rfl
@[simp] theorem atI_2 : atI (a :: b :: c :: xs) 2 = some c := atI_get (by decide) rfl
@[simp] theorem atI_3 : atI (a :: b :: c :: d :: xs) 3 = some d := atI_get (by decide) rfl
@[simp] theorem atI_4 : atI (a :: b :: c :: d :: e :: xs) 4 = some e := atI_get (by decide) rfl
end
/-! equality -/
theorem canAll_ints (ns : List Int) : PyData.canLayAll0 (pyDs (ns.map .int)) = true := by
  induction ns with
  | nil => simp [pyDs, PyData.canLayAll0]
  | cons n ns ih => simp [pyDs, pyD, PyData.canLayAll0, PyData.canLay0, ih]
theorem depth_ints (ns : List Int) : PyData.depthAll (pyDs (ns.map .int)) ≤ 1 := by
  induction ns with
  | nil => simp [pyDs, PyData.depthAll]
  | cons n ns ih => simp only [List.map_cons, pyDs, pyD, PyData.depthAll, PyData.depth]; omega
theorem eqv_ints (ns ms : List Int) : PyData.eqvAll (pyDs (ns.map .int)) (pyDs (ms.map .int)) = decide (ns = ms) := by
  induction ns generalizing ms with
  | nil => cases ms <;> simp [pyDs, PyData.eqvAll]
  | cons n ns ih => cases ms with
    | nil => simp [pyDs, PyData.eqvAll]
    | cons m ms => simp [pyDs, pyD, PyData.eqvAll, PyData.eqv, ih]; by_cases h : n = m <;> simp [h]
theorem okE_ints (ns : List Int) : okE (.tup (ns.map .int)) = true := by
  have := depth_ints ns
  unfold okE SeqAt.shaped
  simp [pyD, PyData.canLay0, canAll_ints, PyData.depth]; omega
theorem okE_lints (ns : List Int) : okE (.lst (ns.map .int)) = true := by
  have := depth_ints ns
  unfold okE SeqAt.shaped
  simp [pyD, PyData.canLay0, canAll_ints, PyData.depth]; omega
theorem eqO_tt (ns ms : List Int) : eqO (.tup (ns.map .int)) (.tup (ms.map .int)) = some (decide (ns = ms)) := by
  unfold eqO
  simp only [okE_ints, Bool.and_self, if_true]
  unfold eqD
  simp [pyD, PyData.eqv, eqv_ints]
theorem bO_tf (a b : Bool) : eqO (.bl a) (.bl b) = some (a == b) := by cases a <;> cases b <;> decide
@[simp] theorem isi_non_int : isi2 .non (.ty "int") = some (.pv (.bl false)) := nr rfl
@[simp] theorem isi_non_bool : isi2 .non (.ty "bool") = some (.pv (.bl false)) := nr rfl
@[simp] theorem isi_non_str : isi2 .non (.ty "str") = some (.pv (.bl false)) := nr rfl
@[simp] theorem isi_non_tuple : isi2 .non (.ty "tuple") = some (.pv (.bl false)) := nr rfl
@[simp] theorem isi_non_list : isi2 .non (.ty "list") = some (.pv (.bl false)) := nr rfl
@[simp] theorem isi_non_dict : isi2 .non (.ty "dict") = some (.pv (.bl false)) := nr rfl
@[simp] theorem isi_bool_int {b : Bool} : isi2 (.bl b) (.ty "int") = some (.pv (.bl true)) := nr rfl
@[simp] theorem isi_bool_bool {b : Bool} : isi2 (.bl b) (.ty "bool") = some (.pv (.bl true)) := nr rfl
@[simp] theorem isi_bool_str {b : Bool} : isi2 (.bl b) (.ty "str") = some (.pv (.bl false)) := nr rfl
@[simp] theorem isi_bool_tuple {b : Bool} : isi2 (.bl b) (.ty "tuple") = some (.pv (.bl false)) := nr rfl
@[simp] theorem isi_bool_list {b : Bool} : isi2 (.bl b) (.ty "list") = some (.pv (.bl false)) := nr rfl
@[simp] theorem isi_bool_dict {b : Bool} : isi2 (.bl b) (.ty "dict") = some (.pv (.bl false)) := nr rfl
@[simp] theorem isi_int_int {i : Int} : isi2 (.int i) (.ty "int") = some (.pv (.bl true)) := nr rfl
@[simp] theorem isi_int_bool {i : Int} : isi2 (.int i) (.ty "bool") = some (.pv (.bl false)) := nr rfl
@[simp] theorem isi_int_str {i : Int} : isi2 (.int i) (.ty "str") = some (.pv (.bl false)) := nr rfl
@[simp] theorem isi_int_tuple {i : Int} : isi2 (.int i) (.ty "tuple") = some (.pv (.bl false)) := nr rfl
@[simp] theorem isi_int_list {i : Int} : isi2 (.int i) (.ty "list") = some (.pv (.bl false)) := nr rfl
@[simp] theorem isi_int_dict {i : Int} : isi2 (.int i) (.ty "dict") = some (.pv (.bl false)) := nr rfl
@[simp] theorem isi_str_int {z : Str} : isi2 (.str z) (.ty "int") = some (.pv (.bl false)) := nr rfl
@[simp] theorem isi_str_bool {z : Str} : isi2 (.str z) (.ty "bool") = some (.pv (.bl false)) := nr rfl
@[simp] theorem isi_str_str {z : Str} : isi2 (.str z) (.ty "str") = some (.pv (.bl true)) := nr rfl
@[simp] theorem isi_str_tuple {z : Str} : isi2 (.str z) (.ty "tuple") = some (.pv (.bl false)) := nr rfl
@[simp] theorem isi_str_list {z : Str} : isi2 (.str z) (.ty "list") = some (.pv (.bl false)) := nr rfl
@[simp] theorem isi_str_dict {z : Str} : isi2 (.str z) (.ty "dict") = some (.pv (.bl false)) := nr rfl
@[simp] theorem isi_tuple_int {xs : List D} : isi2 (.tup xs) (.ty "int") = some (.pv (.bl false)) := nr rfl
@[simp] theorem isi_tuple_bool {xs : List D} : isi2 (.tup xs) (.ty "bool") = some (.pv (.bl false)) := nr rfl
@[simp] theorem isi_tuple_str {xs : List D} : isi2 (.tup xs) (.ty "str") = some (.pv (.bl false)) := nr rfl
@[simp] theorem isi_tuple_tuple {xs : List D} : isi2 (.tup xs) (.ty "tuple") = some (.pv (.bl true)) := nr rfl
@[simp] theorem isi_tuple_list {xs : List D} : isi2 (.tup xs) (.ty "list") = some (.pv (.bl false)) := nr rfl
@[simp] theorem isi_tuple_dict {xs : List D} : isi2 (.tup xs) (.ty "dict") = some (.pv (.bl false)) := nr rfl
@[simp] theorem isi_list_int {xs : List D} : isi2 (.lst xs) (.ty "int") = some (.pv (.bl false)) := nr rfl
@[simp] theorem isi_list_bool {xs : List D} : isi2 (.lst xs) (.ty "bool") = some (.pv (.bl false)) := nr rfl
@[simp] theorem isi_list_str {xs : List D} : isi2 (.lst xs) (.ty "str") = some (.pv (.bl false)) := nr rfl
@[simp] theorem isi_list_tuple {xs : List D} : isi2 (.lst xs) (.ty "tuple") = some (.pv (.bl false)) := nr rfl
@[simp] theorem isi_list_list {xs : List D} : isi2 (.lst xs) (.ty "list") = some (.pv (.bl true)) := nr rfl
@[simp] theorem isi_list_dict {xs : List D} : isi2 (.lst xs) (.ty "dict") = some (.pv (.bl false)) := nr rfl
@[simp] theorem isi_scr_int {xs : List D} : isi2 (.scr xs) (.ty "int") = some (.pv (.bl false)) := nr rfl
@[simp] theorem isi_scr_bool {xs : List D} : isi2 (.scr xs) (.ty "bool") = some (.pv (.bl false)) := nr rfl
@[simp] theorem isi_scr_str {xs : List D} : isi2 (.scr xs) (.ty "str") = some (.pv (.bl false)) := nr rfl
@[simp] theorem isi_scr_tuple {xs : List D} : isi2 (.scr xs) (.ty "tuple") = some (.pv (.bl false)) := nr rfl
@[simp] theorem isi_scr_list {xs : List D} : isi2 (.scr xs) (.ty "list") = some (.pv (.bl true)) := nr rfl
@[simp] theorem isi_scr_dict {xs : List D} : isi2 (.scr xs) (.ty "dict") = some (.pv (.bl false)) := nr rfl
@[simp] theorem isi_dict_int {xs : List (Key × D)} : isi2 (.dK xs) (.ty "int") = some (.pv (.bl false)) := nr rfl
@[simp] theorem isi_dict_bool {xs : List (Key × D)} : isi2 (.dK xs) (.ty "bool") = some (.pv (.bl false)) := nr rfl
@[simp] theorem isi_dict_str {xs : List (Key × D)} : isi2 (.dK xs) (.ty "str") = some (.pv (.bl false)) := nr rfl
@[simp] theorem isi_dict_tuple {xs : List (Key × D)} : isi2 (.dK xs) (.ty "tuple") = some (.pv (.bl false)) := nr rfl
@[simp] theorem isi_dict_list {xs : List (Key × D)} : isi2 (.dK xs) (.ty "list") = some (.pv (.bl false)) := nr rfl
@[simp] theorem isi_dict_dict {xs : List (Key × D)} : isi2 (.dK xs) (.ty "dict") = some (.pv (.bl true)) := nr rfl
/-- a def is run -/
theorem run_def {m n : Nat} {body : SV} {args : List RV} {W : List (List D)} {x r : Rf} (hf : x = defF m n body args W) (h : args.length = m) (e : outF (body ⟨args.map toSlot ++ List.replicate (n - args.length) .no, W⟩) = r) : x = r := by
  rw [hf, defF_ap, if_pos h]; exact e
end
end DL
namespace DL
open PySem PySem.Spec PyProof.Rows L2
section
variable {st : Bool} {vs : List Nat} {g : GV} {t : TV} {fe : EV} {s : S} {d : D} {ds : List D} {it : IV}
@[simp] theorem eAgg_ap : eAgg st vs it g t fe s = (it s).bind fun ds s1 => if noOwn s1.η vs = true then (noErr (loopA st vs g t fe ds { s1 with η := wipeN s1.η vs })).bind fun b s2 => .ok (.pv (.bl b)) { s2 with η := restN s1.η s2.η vs } else .bad := nr rfl
@[simp] theorem loopA_nil : loopA st vs g t fe [] s = .ok (!st) s := nr rfl
theorem loopA_cons : loopA st vs g t fe (d :: ds) s = (g (.pv d) s).bind fun _ s1 => (t s1).bind fun b s2 => if b = true then (fe s2).bind fun r s3 => (toB r s3).bind fun c s4 => if c = st then .ok st { s4 with η := wipeN s4.η vs } else loopA st vs g t fe ds { s4 with η := wipeN s4.η vs }
    else loopA st vs g t fe ds { s2 with η := wipeN s2.η vs } := nr rfl
end
/-- kinds of data that the type questions answer -/
def Nice : D → Prop
  | .int _ | .bl _ | .non | .str _ | .tup _ | .lst _ | .scr _ => True
  | _ => False
/-- an int from a to b -/
def inB (a b : Int) : D → Bool
  | .int i => decide (a ≤ i ∧ i ≤ b)
  | _ => false
end DL
namespace DL
open PySem PySem.Spec PyProof.Rows L2
section
variable {s : S} {i : Nat} {f : SV} {g : Str → SV} {kt : Str → Option Bool} {nm y : Str} {T : Str → Str → Option Bool} {F : Str → List (List D) → Rf} {η : List Slot} {W : List (List D)} {fa fb fe : EV} {f2 : Ob2} {n : Nat} {gs : GVs}
@[simp] theorem sRaise_ap : sRaise nm s = .err nm s := nr rfl
theorem sTry_ap : sTry kt i f g s = match f s with
  | .ok fl s' => .ok fl s'
  | .err nm s' => match kt nm with
    | some true => if i < s'.η.length then match g nm { s' with η := (s'.η.map clr).set i .ex } with
      | .ok fl s2 => .ok fl { s2 with η := (s2.η.map clr).set i .no }
      | _ => .bad else .bad
    | some false => .err nm s'
    | none => .bad
  | .bad => .bad := nr rfl
theorem sTry_ok {fl : Fl} {s' : S} (h : f s = .ok fl s') : sTry kt i f g s = .ok fl s' := by rw [sTry_ap, h]
theorem sTry_err {s' : S} (h : f s = .err nm s') (hk : kt nm = some true) (hi : i < s'.η.length) {fl : Fl} {s2 : S} (hg : g nm { s' with η := (s'.η.map clr).set i .ex } = .ok fl s2) : sTry kt i f g s = .ok fl { s2 with η := (s2.η.map clr).set i .no } := by
  rw [sTry_ap, h]
  simp only [hk, hi, if_true, hg]
@[simp] theorem eIsX_ap : eIsX T i nm y ⟨η, W⟩ = match η[i]? with
  | some .ex => match T nm y with
    | some b => .ok (.pv (.bl b)) ⟨η, W⟩
    | none => .bad
  | _ => .bad := nr rfl
@[simp] theorem eCallX_ap : eCallX i F nm ⟨η, W⟩ = match η[i]? with
  | some .ex => eCall (fun _ W => F nm W) aNil ⟨η, W⟩
  | _ => .bad := nr rfl
@[simp] theorem iOfL_ap : iOfL fe s = (fe s).bind fun r s1 => match fz r s1 with
  | some (.lst xs, s2) => .ok xs s2
  | some (.scr xs, s2) => .ok xs s2
  | _ => .bad := nr rfl
@[simp] theorem gTupH_ap (r : RV) : gTupH n gs r s = match rd r s with
  | some (.tup ds) => if ds.length = n then gs ds s else .bad
  | _ => .bad := nr rfl
@[simp] theorem eM1_ap : eM1 f2 fa fb s = (fa s).bind fun ra s1 => match (rd ra s1).bind lsD with
  | some _ => (fb s1).bind fun rb s2 => fin2 f2 ra rb s2
  | none => .bad := nr rfl
@[simp] theorem lsD_lst (xs : List D) : lsD (.lst xs) = some xs := nr rfl
@[simp] theorem lsD_scr (xs : List D) : lsD (.scr xs) = some xs := nr rfl
@[simp] theorem iZipE_ap (f : AV) : iZipE f s = (f s).bind fun rs s1 => match rs with
  | [.pv (.tup xs), .pv (.tup ys)] => .ok (zipD xs ys) s1
  | [.pv (.lst xs), .pv (.lst ys)] => .ok (zipD xs ys) s1
  | [.pv (.lst xs), .pv (.tup ys)] => .ok (zipD xs ys) s1
  | _ => .bad := nr rfl
@[simp] theorem sBad_ap : sBad s = .bad := nr rfl
end
end DL
namespace DL
open PySem PySem.Spec PyProof.Rows L2
section
variable {f f1 f2 f3 : Ob2} {fa fb fc fd : EV} {s : S} {i j : Int} {next : Int → S → Rs RV}
@[simp] theorem eChain3_ap : eChain3 f1 f2 f3 fa fb fc fd s = (fa s).bind fun ra s1 => (fb s1).bind fun rb s2 => lk f1 ra rb s2 fun y s3 => (fc s3).bind fun rc s4 => lk f2 (.pv (.int y)) rc s4 fun w s5 => (fd s5).bind fun rd s6 => fin2 f3 (.pv (.int w)) rd s6 := nr rfl
@[simp] theorem lk_ap : lk f (.pv (.int i)) (.pv (.int j)) s next = match f (.int i) (.int j) with
  | some (.pv (.bl true)) => next j s
  | some (.pv (.bl false)) => .ok (.pv (.bl false)) s
  | _ => .bad := nr rfl
end
/-! ### a dict of one's own -/
section
variable {s : S} {fe fk fv : EV} {i : Nat} {η : List Slot} {W : List (List D)}
@[simp] theorem sNewD_ap : sNewD i ⟨η, W⟩ = if i < η.length then .ok .nx ⟨η.set i (.od []), W⟩ else .bad := nr rfl
@[simp] theorem odAt_ap : odAt i ⟨η, W⟩ = match η[i]? with
  | some (.od kvs) => some kvs
  | _ => none := nr rfl
@[simp] theorem eDin_ap (neg : Bool) : eDin neg i fe s = (fe s).bind fun r s1 => match odAt i s1, (rd r s1).bind keyD with
  | some kvs, some k => .ok (.pv (.bl ((valD kvs k).isSome != neg))) s1
  | _, _ => .bad := nr rfl
@[simp] theorem eDget_ap : eDget i fe s = match odAt i s with
  | some _ => (fe s).bind fun r s1 => match odAt i s1, (rd r s1).bind keyD with
    | some kvs, some k => match valD kvs k with
      | some d => .ok (.pv d) s1
      | none => .bad
    | _, _ => .bad
  | none => .bad := nr rfl
@[simp] theorem sDput_ap : sDput i fk fv s = (fv s).bind fun rv s1 => (fzR rv s1).bind fun y s2 => match odAt i s2 with
  | some _ => (fk s2).bind fun rk s3 => match odAt i s3, (rd rk s3).bind keyD with
    | some kvs, some k => if kvs.length < sizeLine then .ok .nx { s3 with η := s3.η.set i (.od (putD kvs k y)) } else .bad
    | _, _ => .bad
  | none => .bad := nr rfl
@[simp] theorem keyD_int (i : Int) : keyD (.int i) = some (.inl i) := nr rfl
@[simp] theorem keyD_str (x : Str) : keyD (.str x) = some (.inr x) := nr rfl
end
/-! ### rows turned round -/
theorem fm_congr {α β : Type} {f g : α → Option β} : ∀ {l : List α}, (∀ x ∈ l, f x = g x) → l.filterMap f = l.filterMap g
  | [], _ => rfl
  | x :: l, h => by
    rw [List.filterMap_cons, List.filterMap_cons, h x List.mem_cons_self, fm_congr fun y hy => h y (List.mem_cons_of_mem _ hy)]
theorem fm_range {α : Type} (ys : List α) : ∀ n : Nat, (List.range n).filterMap (fun m => ys[m]?) = ys.take n
  | 0 => by simp
  | n + 1 => by
    rw [List.range_succ, List.filterMap_append, fm_range ys n, List.take_add_one]
    cases h : ys[n]? <;> simp [h]
theorem rev_range {α : Type} (xs : List α) : (List.range xs.length).filterMap (fun m => xs[xs.length - 1 - m]?) = xs.reverse := by
  have e : ∀ m ∈ List.range xs.length, xs[xs.length - 1 - m]? = xs.reverse[m]? := fun m hm => by
    rw [List.getElem?_reverse (List.mem_range.mp hm)]
  rw [fm_congr e, fm_range]
  exact List.take_of_length_le (by simp)
theorem adjR {n : Nat} : Builtin.Slice.sliceAdjust none none (-1) n = ((n : Int) - 1, -1) := by
  unfold Builtin.Slice.sliceAdjust
  simp
@[simp] theorem pickR {α : Type} (xs : List α) : pickS xs none none (-1) = xs.reverse := by
  unfold pickS
  rw [adjR]
  have hp : Builtin.Slice.slicePlaces ((xs.length : Int) - 1) (-1) (-1) = xs.length := by
    unfold Builtin.Slice.slicePlaces
    simp
    omega
  simp only
  rw [hp, ← rev_range]
  exact fm_congr fun m hm => by
    have hm := List.mem_range.mp hm
    rw [show ((xs.length : Int) - 1 + (m : Int) * -1).toNat = xs.length - 1 - m by omega]
@[simp] theorem pickBR {α : Type} (xs : List α) : pickB xs none none (-1) = xs.reverse := by
  have hb : sliceBounds none none (some (-1)) xs.length = ((xs.length : Int) - 1, -1, -1) := by unfold sliceBounds; simp
  have hr : sliceRange ((xs.length : Int) - 1) (-1) (-1) = (List.range xs.length).map fun m => xs.length - 1 - m := by
    unfold sliceRange
    have hc : (if (-1 : Int) > 0 then (if (xs.length : Int) - 1 < -1 then (-1 - ((xs.length : Int) - 1) + -1 - 1) / -1 else 0) else (if (xs.length : Int) - 1 > -1 then ((xs.length : Int) - 1 - -1 - -1 - 1) / (- -1) else 0)).toNat = xs.length := by
      rw [if_neg (by decide)]
      split
      · rw [show (- -1 : Int) = 1 by decide, Int.ediv_one]; omega
      · simp; omega
    simp only [hc]
    exact List.map_congr_left fun m hm => by
      have hm := List.mem_range.mp hm
      omega
  unfold pickB
  rw [hb]
  simp only
  rw [hr, List.filterMap_map, ← rev_range]
  rfl
/-- the last of a row, the row without it -/
@[simp] theorem atI_neg1 {α : Type} (xs : List α) (v : α) : atI (xs ++ [v]) (-1) = some v := atI_last _ _
theorem cutL_neg1 {α : Type} (xs : List α) : cutL xs none (some (-1)) = xs.dropLast := by
  have e : HT.sIx xs.length xs.length (some (-1)) = xs.length - 1 := by
    show (if (-1 : Int) < 0 then ((-1 : Int) + (xs.length : Int)).toNat else min ((-1 : Int)).toNat xs.length) = _
    rw [if_pos (by decide)]; omega
  have e0 : HT.sIx xs.length 0 none = 0 := rfl
  unfold cutL
  rw [e, e0, List.drop_zero, Nat.sub_zero, List.dropLast_eq_take]
/-! rows of flat values -/
def fl : D → Bool
  | .non | .bl _ | .int _ => true
  | _ => false
theorem canAll_fl : ∀ ds : List D, ds.all fl = true → PyData.canLayAll0 (pyDs ds) = true
  | [], _ => by simp [pyDs, PyData.canLayAll0]
  | d :: ds, h => by
    simp only [List.all_cons, Bool.and_eq_true] at h
    have ih := canAll_fl ds h.2
    have h1 := h.1
    cases d <;> first | (simp [pyDs, pyD, PyData.canLayAll0, PyData.canLay0, ih]; done) | (simp [fl] at h1)
theorem depth_fl : ∀ ds : List D, ds.all fl = true → PyData.depthAll (pyDs ds) ≤ 1
  | [], _ => by simp [pyDs, PyData.depthAll]
  | d :: ds, h => by
    simp only [List.all_cons, Bool.and_eq_true] at h
    have ih := depth_fl ds h.2
    have h1 := h.1
    cases d <;> first | (simp only [pyDs, pyD, PyData.depthAll, PyData.depth]; omega) | (simp [fl] at h1)
theorem okE_lst_fl {ds : List D} (h : ds.all fl = true) : okE (.lst ds) = true := by
  have := depth_fl ds h
  unfold okE SeqAt.shaped
  simp [pyD, PyData.canLay0, canAll_fl ds h, PyData.depth]; omega
theorem okE_tup_fl {ds : List D} (h : ds.all fl = true) : okE (.tup ds) = true := by
  have := depth_fl ds h
  unfold okE SeqAt.shaped
  simp [pyD, PyData.canLay0, canAll_fl ds h, PyData.depth]; omega
@[simp] theorem okE_int (i : Int) : okE (.int i) = true := by
  unfold okE SeqAt.shaped
  simp [pyD, PyData.canLay0, PyData.depth]
@[simp] theorem okE_bl (b : Bool) : okE (.bl b) = true := by cases b <;> decide
@[simp] theorem okE_non : okE .non = true := by decide
@[simp] theorem eqO_ni (i : Int) : eqO .non (.int i) = some false := by
  unfold eqO
  simp [eqD, pyD, PyData.eqv]
theorem bls_fl (bs : List Bool) : (bs.map D.bl).all fl = true := by simp [fl]
theorem any_bl (b : Bool) : ∀ bs : List Bool, ((bs.map D.bl).any fun z => eqD z (.bl b)) = bs.contains b
  | [] => rfl
  | c :: bs => by
    rw [List.map_cons, List.any_cons, any_bl b bs, List.contains_cons]
    have : eqD (.bl c) (.bl b) = (b == c) := by cases b <;> cases c <;> decide
    rw [this]
theorem inO_bls (b : Bool) (bs : List Bool) : inO (.bl b) (.lst (bs.map D.bl)) = some (bs.contains b) := by
  show (if (okE (.bl b) && okE (.lst (bs.map D.bl))) = true then some ((bs.map D.bl).any fun z => eqD z (.bl b)) else none) = _
  rw [okE_bl, okE_lst_fl (bls_fl bs), Bool.and_self, if_pos rfl, any_bl]
theorem contains_false (bs : List Bool) : bs.contains false = !(bs.all id) := by
  induction bs with
  | nil => rfl
  | cons b bs ih => rw [List.contains_cons, ih, List.all_cons]; cases b <;> rfl
end DL
namespace DL
open PySem PySem.Spec PyProof.Rows L2
theorem allI_ints (ns : List Int) : allI (ns.map D.int) = some ns := by
  induction ns with
  | nil => rfl
  | cons n ns ih => simp [allI, ih]
@[simp] theorem sumA_lst (ns : List Int) : sumA (.lst (ns.map D.int)) = some (.pv (.int ns.sum)) := by
  show (allI (ns.map D.int)).bind (fun ns => pI ns.sum) = _
  rw [allI_ints]; rfl
@[simp] theorem sumA_tup (ns : List Int) : sumA (.tup (ns.map D.int)) = some (.pv (.int ns.sum)) := by
  show (allI (ns.map D.int)).bind (fun ns => pI ns.sum) = _
  rw [allI_ints]; rfl
theorem bestA_lst (f : Int → Int → Int) (n : Int) (ns : List Int) : bestA f (.lst (D.int n :: ns.map D.int)) = some (.pv (.int (ns.foldl f n))) := by
  show (match allI (((n :: ns)).map D.int) with | some (n :: r) => pI (r.foldl f n) | _ => none) = _
  rw [allI_ints]; rfl
theorem bestA_tup (f : Int → Int → Int) (n : Int) (ns : List Int) : bestA f (.tup (D.int n :: ns.map D.int)) = some (.pv (.int (ns.foldl f n))) := by
  show (match allI (((n :: ns)).map D.int) with | some (n :: r) => pI (r.foldl f n) | _ => none) = _
  rw [allI_ints]; rfl
/-- the greatest, the least of a list that is not empty -/
def topI : List Int → Int
  | [] => 0
  | n :: ns => ns.foldl max n
def lowI : List Int → Int
  | [] => 0
  | n :: ns => ns.foldl min n
theorem topI_spec {ns : List Int} (h : ns ≠ []) : topI ns ∈ ns ∧ ∀ y ∈ ns, y ≤ topI ns := by
  cases ns with
  | nil => exact absurd rfl h
  | cons n ns => exact foldl_max ns n
theorem lowI_spec {ns : List Int} (h : ns ≠ []) : lowI ns ∈ ns ∧ ∀ y ∈ ns, lowI ns ≤ y := by
  cases ns with
  | nil => exact absurd rfl h
  | cons n ns => exact foldl_min ns n
theorem maxA_lst {ns : List Int} (h : ns ≠ []) : bestA max (.lst (ns.map D.int)) = some (.pv (.int (topI ns))) := by
  cases ns with
  | nil => exact absurd rfl h
  | cons n ns => exact bestA_lst max n ns
theorem maxA_tup {ns : List Int} (h : ns ≠ []) : bestA max (.tup (ns.map D.int)) = some (.pv (.int (topI ns))) := by
  cases ns with
  | nil => exact absurd rfl h
  | cons n ns => exact bestA_tup max n ns
theorem minA_lst {ns : List Int} (h : ns ≠ []) : bestA min (.lst (ns.map D.int)) = some (.pv (.int (lowI ns))) := by
  cases ns with
  | nil => exact absurd rfl h
  | cons n ns => exact bestA_lst min n ns
theorem minA_tup {ns : List Int} (h : ns ≠ []) : bestA min (.tup (ns.map D.int)) = some (.pv (.int (lowI ns))) := by
  cases ns with
  | nil => exact absurd rfl h
  | cons n ns => exact bestA_tup min n ns
@[simp] theorem tupRevA_lst (ds : List D) : tupRevA (.lst ds) = some (.pv (.tup ds.reverse)) := nr rfl
@[simp] theorem tupRevA_tup (ds : List D) : tupRevA (.tup ds) = some (.pv (.tup ds.reverse)) := nr rfl
@[simp] theorem tupRevA_scr (ds : List D) : tupRevA (.scr ds) = some (.pv (.tup ds.reverse)) := nr rfl
end DL
namespace DL
open PySem PySem.Spec PyProof.Rows L2
section
variable {s : S} {i : Nat} {fe : EV}
@[simp] theorem eRem_ap : eRem i fe s = match lstAt i s with
  | some _ => (fe s).bind fun r s1 => match rd r s1, lstAt i s1 with
    | some (.int k), some ds => match allI ds with
      | some ns => if k ∈ ns then .ok (.pv .non) (lstPut i ((ns.erase k).map D.int) s1) else .bad
      | none => .bad
    | _, _ => .bad
  | none => .bad := nr rfl
end
theorem maxX_lst {ns : List Int} (h : ns ≠ []) : maxX (.lst (ns.map D.int)) = some (.pv (.int (topI ns))) := by
  show (match maxA (.lst (ns.map D.int)) with | some r => some r | none => _) = _
  rw [show maxA (.lst (ns.map D.int)) = _ from maxA_lst h]
theorem maxX_tup {ns : List Int} (h : ns ≠ []) : maxX (.tup (ns.map D.int)) = some (.pv (.int (topI ns))) := by
  show (match maxA (.tup (ns.map D.int)) with | some r => some r | none => _) = _
  rw [show maxA (.tup (ns.map D.int)) = _ from maxA_tup h]
theorem allP_map (ps : List (Int × Int)) : allP (ps.map pD) = some ps := by
  induction ps with
  | nil => rfl
  | cons p ps ih =>
    obtain ⟨a, b⟩ := p
    show (allP (ps.map pD)).map (fun t => (a, b) :: t) = _
    rw [ih]; rfl
theorem maxX_pairs (p : Int × Int) (ps : List (Int × Int)) : maxX (.lst (pD p :: ps.map pD)) = some (.pv (pD (bestP p ps))) := by
  have e : maxA (.lst (pD p :: ps.map pD)) = none := nr rfl
  unfold maxX
  rw [e]
  have e2 := allP_map (p :: ps)
  rw [List.map_cons] at e2
  simp only [e2]
end DL
namespace DL
open PySem PySem.Spec PyProof.Rows L2
theorem eCompO_ap (i : Nat) (vs : List Nat) (g : GV) (t : TV) (fe : EV) (s : S) : eCompO i vs g t fe s = match s.η[i]? with
  | some (.ow ds) => if noOwn (s.η.set i .no) vs = true then (noErr (loopC vs g t fe ds [] ⟨wipeN (s.η.set i .no) vs, s.W⟩)).bind fun acc s2 =>
      (match (restN (s.η.set i .no) s2.η vs)[i]? with
        | some .no => .ok (.ow acc) ⟨(restN (s.η.set i .no) s2.η vs).set i (.ow ds), s2.W⟩
        | _ => .bad) else .bad
  | _ => .bad := nr rfl
end DL
namespace DL
open PySem PySem.Spec PyProof.Rows L2
@[simp] theorem lrgD_ap (j : Int) : lrgD (.int j) = if decide (0 ≤ j ∧ j ≤ 16777216) = true then some (.ow (rngD 0 j)) else none := nr rfl
theorem sortD_tup (ns : List Int) : sortD (.tup (ns.map D.int)) = some (.ow ((srtI ns).map D.int)) := by
  show (allI (ns.map D.int)).map _ = _
  rw [allI_ints]; rfl
theorem sortD_lst (ns : List Int) : sortD (.lst (ns.map D.int)) = some (.ow ((srtI ns).map D.int)) := by
  show (allI (ns.map D.int)).map _ = _
  rw [allI_ints]; rfl
end DL
namespace DL
open PySem PySem.Spec PyProof.Rows L2
@[simp] theorem sDisp1_ap (i j : Nat) (c : D) (s : S) : sDisp1 i j c s = match s.η[j]? with
  | some (.pv d) => match keyD d with
    | some k => if i < s.η.length then .ok .nx { s with η := s.η.set i (.od [(k, c)]) } else .bad
    | none => .bad
  | _ => .bad := nr rfl
@[simp] theorem eSrtD_ap (i : Nat) (s : S) : eSrtD i s = match odAt i s with
  | some kvs => match keysI kvs with
    | some ks => if ks.length < 64 then .ok (.ow ((srtI ks).map D.int)) s else .bad
    | none => .bad
  | none => .bad := nr rfl
end DL
namespace DL
open PySem PySem.Spec PyProof.Rows L2
/-! ### comprehensions and loops over encoded items, once for all -/
section
variable {α β γ : Type} {vs : List Nat} {g : GV} {t : TV} {fe : EV} {body : SV}
/-- one turn of a comprehension -/
def turnC (vs : List Nat) (g : GV) (t : TV) (fe : EV) (d : D) (s : S) : Rs (Option D) := (g (.pv d) s).bind fun _ s1 => (t s1).bind fun b s2 => if b = true then (fe s2).bind fun r s3 => (fzR r s3).bind fun y s4 => .ok (some y) { s4 with η := wipeN s4.η vs }
    else .ok none { s2 with η := wipeN s2.η vs }
@[simp] theorem turnC_ap (d : D) (s : S) : turnC vs g t fe d s = (g (.pv d) s).bind fun _ s1 => (t s1).bind fun b s2 => if b = true then (fe s2).bind fun r s3 => (fzR r s3).bind fun y s4 => .ok (some y) { s4 with η := wipeN s4.η vs }
    else .ok none { s2 with η := wipeN s2.η vs } := nr rfl
theorem loopC_cons' (d : D) (ds acc : List D) (s : S) : loopC vs g t fe (d :: ds) acc s = (turnC vs g t fe d s).bind fun o s1 => match o with
    | some y => if acc.length < sizeLine then loopC vs g t fe ds (acc ++ [y]) s1 else .bad
    | none => loopC vs g t fe ds acc s1 := by
  rw [turnC_ap]
  show (g (.pv d) s).bind _ = _
  cases g (.pv d) s with
  | bad => rfl
  | err c s1 => rfl
  | ok a s1 =>
    show (t s1).bind _ = ((t s1).bind _).bind _
    cases t s1 with
    | bad => rfl
    | err c s1 => rfl
    | ok b s2 =>
      cases b with
      | false => rfl
      | true =>
        show (fe s2).bind _ = ((fe s2).bind _).bind _
        cases fe s2 with
        | bad => rfl
        | err c s1 => rfl
        | ok r s3 =>
          show (fzR r s3).bind _ = ((fzR r s3).bind _).bind _
          cases fzR r s3 <;> rfl
theorem loopC_gen (enc : α → D) (φ : α → Option D) (s0 : S) : ∀ (L : List α) (acc : List D), (∀ x ∈ L, turnC vs g t fe (enc x) s0 = .ok (φ x) s0) → acc.length + L.length ≤ sizeLine →
    loopC vs g t fe (L.map enc) acc s0 = .ok (acc ++ L.filterMap φ) s0
  | [], acc, _, _ => by rw [List.filterMap_nil, List.append_nil]; exact nr rfl
  | x :: L, acc, h, hl => by
    simp only [List.length_cons] at hl
    rw [List.map_cons, loopC_cons', h x List.mem_cons_self, bind_okR, List.filterMap_cons]
    cases φ x with
    | none => exact loopC_gen enc φ s0 L acc (fun y hy => h y (List.mem_cons_of_mem _ hy)) (by omega)
    | some y =>
      show (if acc.length < sizeLine then _ else _) = _
      rw [if_pos (by omega), loopC_gen enc φ s0 L (acc ++ [y]) (fun y hy => h y (List.mem_cons_of_mem _ hy)) (by rw [List.length_append, List.length_singleton]; omega), List.append_assoc]
      rfl
theorem fm_some (f : α → β) : ∀ L : List α, L.filterMap (fun x => some (f x)) = L.map f
  | [] => rfl
  | x :: L => by rw [List.filterMap_cons, fm_some f L]; rfl
theorem fm_if (p : α → Bool) (f : α → β) : ∀ L : List α, L.filterMap (fun x => if p x = true then some (f x) else none) = (L.filter p).map f
  | [] => rfl
  | x :: L => by
    rw [List.filterMap_cons, fm_if p f L, List.filter_cons]
    cases p x <;> rfl
theorem rest_wipe (η : List Slot) : ∀ vs : List Nat, noOwn η vs = true → restN η (wipeN η vs) vs = η := by
  have aux : ∀ (vs ws : List Nat), noOwn η vs = true → (∀ v ∈ vs, v ∈ ws) → ∀ j, (restN η (wipeN η ws) vs)[j]? = if j ∈ vs then η[j]? else (wipeN η ws)[j]? := by
    intro vs
    induction vs with
    | nil => intro ws _ _ j; simp [restN]
    | cons v vs ih =>
      intro ws h hs j
      unfold noOwn at h
      rw [List.all_cons, Bool.and_eq_true] at h
      have hv : v < η.length := by
        cases e : η[v]? with
        | none => rw [e] at h; simp at h
        | some y => exact (List.getElem?_eq_some_iff.mp e).1
      have hl : (restN η (wipeN η ws) vs).length = η.length := by rw [restN_len, wipeN_len]
      show ((restN η (wipeN η ws) vs).set v _)[j]? = _
      by_cases e : j = v
      · subst e
        rw [List.getElem?_set_self (by rw [hl]; exact hv), if_pos List.mem_cons_self, List.getD_eq_getElem?_getD, List.getElem?_eq_getElem hv]; rfl
      · rw [List.getElem?_set_ne (Ne.symm e), ih ws h.2 (fun w hw => hs w (List.mem_cons_of_mem _ hw)) j]
        by_cases hj : j ∈ vs
        · rw [if_pos hj, if_pos (List.mem_cons_of_mem _ hj)]
        · rw [if_neg hj, if_neg (fun z => (List.mem_cons.mp z).elim e hj)]
  intro vs h
  apply List.ext_getElem?
  intro j
  rw [aux vs vs h (fun _ z => z) j]
  by_cases hj : j ∈ vs
  · rw [if_pos hj]
  · rw [if_neg hj, wipeN_out hj]
/-- a comprehension that leaves the state as it was -/
theorem eComp_gen {it : IV} {s s1 : S} {ds R : List D} (enc : α → D) (φ : α → Option D) (L : List α) (hi : it s = .ok ds s1) (hd : ds = L.map enc) (hn : noOwn s1.η vs = true)
    (h : ∀ x ∈ L, turnC vs g t fe (enc x) ⟨wipeN s1.η vs, s1.W⟩ = .ok (φ x) ⟨wipeN s1.η vs, s1.W⟩) (hl : L.length ≤ sizeLine) (hR : L.filterMap φ = R) :
    eComp vs it g t fe s = .ok (.ow R) s1 := by
  subst hd
  rw [eComp_ap, hi, bind_okR, if_pos hn, loopC_gen enc φ _ L [] h (by simpa using hl), noErr_ok, bind_okR, List.nil_append, hR]
  show Rs.ok _ ⟨restN s1.η (wipeN s1.η vs) vs, s1.W⟩ = _
  rw [rest_wipe _ _ hn]
theorem eComp_map {it : IV} {s s1 : S} {ds R : List D} (enc : α → D) (f : α → D) (L : List α) (hi : it s = .ok ds s1) (hd : ds = L.map enc) (hn : noOwn s1.η vs = true)
    (h : ∀ x ∈ L, turnC vs g t fe (enc x) ⟨wipeN s1.η vs, s1.W⟩ = .ok (some (f x)) ⟨wipeN s1.η vs, s1.W⟩) (hl : L.length ≤ sizeLine) (hR : L.map f = R) :
    eComp vs it g t fe s = .ok (.ow R) s1 :=
  eComp_gen enc (fun x => some (f x)) L hi hd hn h hl (by rw [fm_some, hR])
theorem eComp_fil {it : IV} {s s1 : S} {ds R : List D} (enc : α → D) (p : α → Bool) (f : α → D) (L : List α) (hi : it s = .ok ds s1) (hd : ds = L.map enc) (hn : noOwn s1.η vs = true)
    (h : ∀ x ∈ L, turnC vs g t fe (enc x) ⟨wipeN s1.η vs, s1.W⟩ = .ok (if p x = true then some (f x) else none) ⟨wipeN s1.η vs, s1.W⟩) (hl : L.length ≤ sizeLine) (hR : (L.filter p).map f = R) :
    eComp vs it g t fe s = .ok (.ow R) s1 :=
  eComp_gen enc (fun x => if p x = true then some (f x) else none) L hi hd hn h hl (by rw [fm_if, hR])
/-- a comprehension whose turns change the state -/
theorem loopC_rel (enc : α → D) (I : List α → List D → S → Prop) (L : List α) (h : ∀ l x r acc s, L = l ++ x :: r → I l acc s → ∃ o s', turnC vs g t fe (enc x) s = .ok o s' ∧ acc.length < sizeLine ∧ I (l ++ [x]) (acc ++ o.toList) s') {s : S} (h0 : I [] [] s) :
    ∃ acc s', loopC vs g t fe (L.map enc) [] s = .ok acc s' ∧ I L acc s' := by
  have aux : ∀ (r l : List α) (acc : List D) (s : S), L = l ++ r → I l acc s → ∃ acc' s', loopC vs g t fe (r.map enc) acc s = .ok acc' s' ∧ I L acc' s' := by
    intro r
    induction r with
    | nil => intro l acc s e hI; rw [List.append_nil] at e; subst e; exact ⟨acc, s, rfl, hI⟩
    | cons x r ih =>
      intro l acc s e hI
      obtain ⟨o, s', e1, hz, hI'⟩ := h l x r acc s e hI
      obtain ⟨acc', s2, e2, hI2⟩ := ih (l ++ [x]) (acc ++ o.toList) s' (by rw [e]; simp) hI'
      refine ⟨acc', s2, ?_, hI2⟩
      rw [List.map_cons, loopC_cons', e1, bind_okR]
      cases o with
      | none => simpa using e2
      | some y => show (if acc.length < sizeLine then _ else _) = _; rw [if_pos hz]; exact e2
  exact aux L [] [] s rfl h0
/-- one turn of all(..), any(..) -/
def turnA (vs : List Nat) (g : GV) (t : TV) (fe : EV) (d : D) (s : S) : Rs (Option Bool) := (g (.pv d) s).bind fun _ s1 => (t s1).bind fun b s2 => if b = true then (fe s2).bind fun r s3 => (toB r s3).bind fun c s4 => .ok (some c) { s4 with η := wipeN s4.η vs }
    else .ok none { s2 with η := wipeN s2.η vs }
@[simp] theorem turnA_ap (d : D) (s : S) : turnA vs g t fe d s = (g (.pv d) s).bind fun _ s1 => (t s1).bind fun b s2 => if b = true then (fe s2).bind fun r s3 => (toB r s3).bind fun c s4 => .ok (some c) { s4 with η := wipeN s4.η vs }
    else .ok none { s2 with η := wipeN s2.η vs } := nr rfl
theorem loopA_cons' (st : Bool) (d : D) (ds : List D) (s : S) : loopA st vs g t fe (d :: ds) s = (turnA vs g t fe d s).bind fun o s1 => if o = some st then .ok st s1 else loopA st vs g t fe ds s1 := by
  rw [loopA_cons, turnA_ap]
  cases g (.pv d) s with
  | bad => simp only [bind_badR]
  | err c s1 => simp only [bind_errR]
  | ok a s1 =>
    simp only [bind_okR]
    cases t s1 with
    | bad => simp only [bind_badR]
    | err c s1 => simp only [bind_errR]
    | ok b s2 =>
      simp only [bind_okR]
      cases b with
      | false => simp
      | true =>
        simp only [if_true]
        cases fe s2 with
        | bad => simp only [bind_badR]
        | err c s1 => simp only [bind_errR]
        | ok r s3 =>
          simp only [bind_okR]
          cases toB r s3 with
          | bad => simp only [bind_badR]
          | err c s1 => simp only [bind_errR]
          | ok c s4 =>
            simp only [bind_okR]
            by_cases h : c = st
            · rw [if_pos h, if_pos (by rw [h])]
            · rw [if_neg h, if_neg (fun e => h (Option.some.inj e))]
/-- a turn that is left out counts for nothing -/
theorem loopA_gen (st : Bool) (enc : α → D) (φ : α → Option Bool) (s0 : S) : ∀ (L : List α), (∀ l x r, L = l ++ x :: r → (∀ y ∈ l, φ y ≠ some st) → turnA vs g t fe (enc x) s0 = .ok (φ x) s0) →
    loopA st vs g t fe (L.map enc) s0 = .ok (if L.any (fun x => φ x == some st) = true then st else !st) s0
  | [], _ => by simp
  | x :: L, h => by
    rw [List.map_cons, loopA_cons', h [] x L rfl (by simp), bind_okR, List.any_cons]
    by_cases e : φ x = some st
    · rw [if_pos e, e]; simp
    · rw [if_neg e, loopA_gen st enc φ s0 L fun l y r el hl => h (x :: l) y r (by rw [el]; rfl) fun z hz => (List.mem_cons.mp hz).elim (fun q => q ▸ e) (hl z)]
      have : (φ x == some st) = false := by simpa using e
      rw [this, Bool.false_or]
theorem eAgg_gen {it : IV} {s s1 : S} {ds : List D} {R : Bool} (st : Bool) (enc : α → D) (φ : α → Option Bool) (L : List α) (hi : it s = .ok ds s1) (hd : ds = L.map enc) (hn : noOwn s1.η vs = true)
    (h : ∀ l x r, L = l ++ x :: r → (∀ y ∈ l, φ y ≠ some st) → turnA vs g t fe (enc x) ⟨wipeN s1.η vs, s1.W⟩ = .ok (φ x) ⟨wipeN s1.η vs, s1.W⟩) (hR : (if L.any (fun x => φ x == some st) = true then st else !st) = R) :
    eAgg st vs it g t fe s = .ok (.pv (.bl R)) s1 := by
  subst hd
  rw [eAgg_ap, hi, bind_okR, if_pos hn, loopA_gen st enc φ _ L h, noErr_ok, bind_okR, hR]
  show Rs.ok _ ⟨restN s1.η (wipeN s1.η vs) vs, s1.W⟩ = _
  rw [rest_wipe _ _ hn]
/-- any(..) without a test: each turn may be run -/
theorem eAgg_any {it : IV} {s s1 : S} {ds : List D} {R : Bool} (enc : α → D) (φ : α → Bool) (L : List α) (hi : it s = .ok ds s1) (hd : ds = L.map enc) (hn : noOwn s1.η vs = true)
    (h : ∀ x ∈ L, turnA vs g t fe (enc x) ⟨wipeN s1.η vs, s1.W⟩ = .ok (some (φ x)) ⟨wipeN s1.η vs, s1.W⟩) (hR : L.any φ = R) :
    eAgg true vs it g t fe s = .ok (.pv (.bl R)) s1 :=
  eAgg_gen true enc (fun x => some (φ x)) L hi hd hn (fun l x r e _ => h x (by rw [e]; simp)) (by
    rw [← hR]
    have : (fun x => (some (φ x) == some true)) = φ := by funext x; cases φ x <;> rfl
    rw [this]; cases L.any φ <;> rfl)
theorem all_any (φ : α → Bool) : ∀ L : List α, (L.any fun x => (some (φ x) == some false)) = !(L.all φ)
  | [] => rfl
  | x :: L => by rw [List.any_cons, List.all_cons, all_any φ L]; cases φ x <;> rfl
theorem eAgg_all {it : IV} {s s1 : S} {ds : List D} {R : Bool} (enc : α → D) (φ : α → Bool) (L : List α) (hi : it s = .ok ds s1) (hd : ds = L.map enc) (hn : noOwn s1.η vs = true)
    (h : ∀ x ∈ L, turnA vs g t fe (enc x) ⟨wipeN s1.η vs, s1.W⟩ = .ok (some (φ x)) ⟨wipeN s1.η vs, s1.W⟩) (hR : L.all φ = R) :
    eAgg false vs it g t fe s = .ok (.pv (.bl R)) s1 :=
  eAgg_gen false enc (fun x => some (φ x)) L hi hd hn (fun l x r e _ => h x (by rw [e]; simp)) (by
    rw [← hR, all_any]; cases L.all φ <;> rfl)
/-- all(..) that may stop early: a turn is run only behind true ones -/
theorem eAgg_allS {it : IV} {s s1 : S} {ds : List D} {R : Bool} (enc : α → D) (φ : α → Bool) (L : List α) (hi : it s = .ok ds s1) (hd : ds = L.map enc) (hn : noOwn s1.η vs = true)
    (h : ∀ l x r, L = l ++ x :: r → (∀ y ∈ l, φ y = true) → turnA vs g t fe (enc x) ⟨wipeN s1.η vs, s1.W⟩ = .ok (some (φ x)) ⟨wipeN s1.η vs, s1.W⟩) (hR : L.all φ = R) :
    eAgg false vs it g t fe s = .ok (.pv (.bl R)) s1 :=
  eAgg_gen false enc (fun x => some (φ x)) L hi hd hn (fun l x r e hl => h l x r e fun y hy => by have := hl y hy; cases e : φ y <;> simp_all) (by
    rw [← hR, all_any]; cases L.all φ <;> rfl)
/-- one turn of a loop -/
def turnD (g : GV) (body : SV) (d : D) (s : S) : Rs Fl := (g (.pv d) s).bind fun _ s1 => body s1
@[simp] theorem turnD_ap (d : D) (s : S) : turnD g body d s = (g (.pv d) s).bind fun _ s1 => body s1 := nr rfl
theorem loopD_cons' (d : D) (ds : List D) (s : S) : loopD g body (d :: ds) s = (turnD g body d s).bind fun fl s2 => match fl with
    | .nx => loopD g body ds s2
    | .ct => loopD g body ds s2
    | .bk => .ok .nx s2
    | .rt r => .ok (.rt r) s2 := by
  rw [loopD_cons, turnD_ap, bind_bind] <;> rfl
/-- a loop by a relation to the items that were taken -/
theorem loopD_rel (enc : α → D) (I : List α → S → Prop) (L : List α) (h : ∀ l x r s, L = l ++ x :: r → I l s → ∃ fl s', turnD g body (enc x) s = .ok fl s' ∧ (fl = .nx ∨ fl = .ct) ∧ I (l ++ [x]) s') {s : S} (h0 : I [] s) :
    ∃ s', loopD g body (L.map enc) s = .ok .nx s' ∧ I L s' := by
  have aux : ∀ (r l : List α) (s : S), L = l ++ r → I l s → ∃ s', loopD g body (r.map enc) s = .ok .nx s' ∧ I L s' := by
    intro r
    induction r with
    | nil => intro l s e hI; rw [List.append_nil] at e; subst e; exact ⟨s, rfl, hI⟩
    | cons x r ih =>
      intro l s e hI
      obtain ⟨fl, s', e1, hf, hI'⟩ := h l x r s e hI
      obtain ⟨s2, e2, hI2⟩ := ih (l ++ [x]) s' (by rw [e]; simp) hI'
      refine ⟨s2, ?_, hI2⟩
      rw [List.map_cons, loopD_cons', e1, bind_okR]
      rcases hf with rfl | rfl <;> exact e2
  exact aux L [] s rfl h0
/-- a loop that folds: st tells the state, with what is left over in its slots -/
theorem loopD_fold (enc : α → D) (st : β → γ → S) (φ : β → α → β) (P : List α → β → Prop) (L : List α) (b : β) (j : γ) (h0 : P [] b)
    (h : ∀ l x r b j, L = l ++ x :: r → P l b → P (l ++ [x]) (φ b x) ∧ ∃ j', turnD g body (enc x) (st b j) = .ok .nx (st (φ b x) j')) :
    P L (L.foldl φ b) ∧ ∃ j', loopD g body (L.map enc) (st b j) = .ok .nx (st (L.foldl φ b) j') := by
  obtain ⟨s', e, h1, j', h2⟩ := loopD_rel (g := g) (body := body) enc (fun l s => P l (l.foldl φ b) ∧ ∃ j, s = st (l.foldl φ b) j) L (fun l x r s e hI => by
    obtain ⟨hP, j, rfl⟩ := hI
    obtain ⟨hP', j', e'⟩ := h l x r _ j e hP
    refine ⟨.nx, _, e', .inl rfl, ?_⟩
    rw [List.foldl_append]
    exact ⟨hP', j', rfl⟩) (s := st b j) ⟨h0, j, rfl⟩
  exact ⟨h1, j', by rw [e, h2]⟩
/-- a loop that judges: it goes on or returns False -/
theorem loopD_all (enc : α → D) (st : γ → S) (φ : α → Bool) (W : List (List D)) : ∀ (L : List α) (j : γ), (∀ l x r j, L = l ++ x :: r → (∀ y ∈ l, φ y = true) → (φ x = true ∧ ∃ j', turnD g body (enc x) (st j) = .ok .nx (st j')) ∨ (φ x = false ∧ ∃ s', turnD g body (enc x) (st j) = .ok (.rt (.pv (.bl false))) s' ∧ s'.W = W)) →
    (L.all φ = true ∧ ∃ j', loopD g body (L.map enc) (st j) = .ok .nx (st j')) ∨ (L.all φ = false ∧ ∃ s', loopD g body (L.map enc) (st j) = .ok (.rt (.pv (.bl false))) s' ∧ s'.W = W)
  | [], j, _ => .inl ⟨rfl, j, rfl⟩
  | x :: L, j, h => by
    rcases h [] x L j rfl (by simp) with ⟨h1, j', e⟩ | ⟨h1, s', e, hW⟩
    · rcases loopD_all enc st φ W L j' (fun l y r k el hl => h (x :: l) y r k (by rw [el]; rfl) fun z hz => (List.mem_cons.mp hz).elim (fun q => q ▸ h1) (hl z)) with ⟨h2, j2, e2⟩ | ⟨h2, s2, e2, hW⟩
      · exact .inl ⟨by rw [List.all_cons, h1, h2]; rfl, j2, by rw [List.map_cons, loopD_cons', e, bind_okR]; exact e2⟩
      · exact .inr ⟨by rw [List.all_cons, h1, h2]; rfl, s2, by rw [List.map_cons, loopD_cons', e, bind_okR]; exact e2, hW⟩
    · exact .inr ⟨by rw [List.all_cons, h1]; rfl, s', by rw [List.map_cons, loopD_cons', e, bind_okR], hW⟩
/-- a loop over numbers, by a relation to how many were taken -/
theorem loopD_nat (I : Nat → S → Prop) (a n : Nat) (h : ∀ k s, a ≤ k → k < a + n → I k s → ∃ fl s', turnD g body (.int (k : Int)) s = .ok fl s' ∧ (fl = .nx ∨ fl = .ct) ∧ I (k + 1) s') {s : S} (h0 : I a s) :
    ∃ s', loopD g body ((List.range' a n).map fun (k : Nat) => D.int (k : Int)) s = .ok .nx s' ∧ I (a + n) s' := by
  induction n generalizing a s with
  | zero => exact ⟨s, rfl, h0⟩
  | succ n ih =>
    obtain ⟨fl, s', e1, hf, hI⟩ := h a s (Nat.le_refl _) (by omega) h0
    obtain ⟨s2, e2, hI2⟩ := ih (a + 1) (fun k s hk hk2 hI => h k s (by omega) (by omega) hI) hI
    refine ⟨s2, ?_, by rw [show a + (n + 1) = a + 1 + n by omega]; exact hI2⟩
    rw [List.range'_succ, List.map_cons, loopD_cons', e1, bind_okR]
    rcases hf with rfl | rfl <;> exact e2
theorem rngD_nat (a b : Nat) : rngD (a : Int) (b : Int) = (List.range' a (b - a)).map fun (k : Nat) => D.int (k : Int) := by
  rw [rngD_eq]
  have : ((b : Int) - (a : Int)).toNat = b - a := by omega
  rw [this, List.range'_eq_map_range, List.map_map]
  refine List.map_congr_left fun i _ => ?_
  show D.int ((a : Int) + (i : Int)) = D.int ((a + i : Nat) : Int)
  rw [Int.natCast_add]
theorem rngD_0 (b : Nat) : rngD 0 (b : Int) = (List.range b).map fun (k : Nat) => D.int (k : Int) := by
  have := rngD_nat 0 b
  rw [Nat.sub_zero, ← List.range_eq_range'] at this
  exact this
@[simp] theorem sz_le {n : Nat} (h : n ≤ 65536) : (n ≤ sizeLine) = True := by
  have : n ≤ sizeLine := by unfold sizeLine; omega
  simp [this]
@[simp] theorem sz_lt {n : Nat} (h : n < 65536) : (n < sizeLine) = True := by
  have : n < sizeLine := by unfold sizeLine; omega
  simp [this]
@[simp] theorem rOk_s {i : Int} (h : -4611686018427387904 ≤ i) (h2 : i < 4611686018427387904) : rOk i = true := by
  unfold rOk; rw [decide_eq_true_iff]; omega
theorem szOk {n : Nat} (h : n ≤ 65536) : n ≤ sizeLine := by unfold sizeLine; omega
theorem rOkN {n : Nat} (h : n < 2 ^ 61) : rOk (n : Int) = true := by
  unfold rOk; rw [decide_eq_true_iff]; omega
end
end DL
namespace DL
open PySem PySem.Spec PyProof.Rows L2
@[simp] theorem sPar3_ap (i j l : Nat) (fa fb fc : EV) (s : S) : sPar3 i j l fa fb fc s = (fa s).bind fun ra s1 => (keepX ra s1).bind fun ra s1 => (fb s1).bind fun rb s2 => (keepX rb s2).bind fun rb s2 => (fc s2).bind fun rc s3 => (keepX rc s3).bind fun rc s3 =>
  (putR l rc s3).bind fun _ s4 => (putR j rb s4).bind fun _ s5 => (putR i ra s5).bind fun _ s6 => .ok .nx s6 := nr rfl
theorem eCallV_ap (fe : EV) (fns : List (PySem.Str × Fn)) (fs : AV) (s : S) : eCallV fe fns fs s = (fe s).bind fun r s1 => match rd r s1 with
  | some (.glb x) => match fns.lookup x with
    | some F => eCall F fs s1
    | none => .bad
  | _ => .bad := nr rfl
/-- the def that is called is known -/
theorem eCallV_run {fe : EV} {fns : List (PySem.Str × Fn)} {fs : AV} {s s1 : S} {x : PySem.Str} {F : Fn} (h : fe s = .ok (.pv (.glb x)) s1) (hl : fns.lookup x = some F) : eCallV fe fns fs s = eCall F fs s1 := by
  rw [eCallV_ap, h, bind_okR]
  simp [hl]
end DL
namespace DL
open PySem PySem.Spec PyProof.Rows L2
/-! ### equality of encoded values -/
structure Eq2 {α : Type} [DecidableEq α] (n : Nat) (enc : α → D) : Prop where
  can : ∀ x, (pyD (enc x)).canLay0 = true
  dep : ∀ x, (pyD (enc x)).depth ≤ n
  eqv : ∀ x y, PyData.eqv (pyD (enc x)) (pyD (enc y)) = decide (x = y)
section
variable {α β γ : Type} [DecidableEq α] [DecidableEq β] [DecidableEq γ] {n m k : Nat} {enc : α → D} {e1 : α → D} {e2 : β → D} {e3 : γ → D}
theorem okE_of {d : D} (h1 : (pyD d).canLay0 = true) (h2 : (pyD d).depth ≤ 64) : okE d = true := by
  unfold okE SeqAt.shaped
  rw [h1, decide_eq_true h2]; rfl
theorem Eq2.okE (h : Eq2 n enc) (hn : n ≤ 64) (x : α) : okE (enc x) = true := okE_of (h.can x) (Nat.le_trans (h.dep x) hn)
theorem eqO_of {a b : D} (ha : DL.okE a = true) (hb : DL.okE b = true) : eqO a b = some (eqD a b) := by
  unfold eqO
  split
  · simp [eqD, pyD, PyData.eqv]
  · simp [eqD, pyD, PyData.eqv]
  · rw [ha, hb]; rfl
theorem Eq2.eqO (h : Eq2 n enc) (x y : α) (hn : n ≤ 64 := by decide) : eqO (enc x) (enc y) = some (decide (x = y)) := by
  rw [eqO_of (h.okE hn x) (h.okE hn y)]
  exact congrArg some (h.eqv x y)
theorem Eq2.eqD (h : Eq2 n enc) (x y : α) : eqD (enc x) (enc y) = decide (x = y) := h.eqv x y
theorem Eq2.int : Eq2 0 D.int := ⟨fun x => by simp [pyD, PyData.canLay0], fun x => by simp [pyD, PyData.depth], fun x y => by simp [pyD, PyData.eqv]; rfl⟩
theorem Eq2.nat : Eq2 0 (fun (i : Nat) => D.int (i : Int)) := ⟨fun x => by simp [pyD, PyData.canLay0], fun x => by simp [pyD, PyData.depth], fun x y => by
  simp only [pyD, PyData.eqv]
  rw [Bool.eq_iff_iff, beq_iff_eq, decide_eq_true_iff]; omega⟩
theorem Eq2.bl : Eq2 0 D.bl := ⟨fun x => by simp [pyD, PyData.canLay0], fun x => by simp [pyD, PyData.depth], fun x y => by
  simp only [pyD, PyData.eqv]
  cases x <;> cases y <;> rfl⟩
theorem Eq2.canAll (h : Eq2 n enc) : ∀ xs : List α, PyData.canLayAll0 (pyDs (xs.map enc)) = true
  | [] => by simp [pyDs, PyData.canLayAll0]
  | x :: xs => by simp only [List.map_cons, pyDs, PyData.canLayAll0]; rw [h.can x, h.canAll xs]; rfl
theorem Eq2.depAll (h : Eq2 n enc) : ∀ xs : List α, PyData.depthAll (pyDs (xs.map enc)) ≤ n
  | [] => by simp [pyDs, PyData.depthAll]
  | x :: xs => by
    have h1 := h.dep x
    have h2 := h.depAll xs
    simp only [List.map_cons, pyDs, PyData.depthAll]; omega
theorem Eq2.eqvAll (h : Eq2 n enc) : ∀ xs ys : List α, PyData.eqvAll (pyDs (xs.map enc)) (pyDs (ys.map enc)) = decide (xs = ys)
  | [], [] => by simp [pyDs, PyData.eqvAll]
  | x :: xs, [] => by simp [pyDs, PyData.eqvAll]
  | [], y :: ys => by simp [pyDs, PyData.eqvAll]
  | x :: xs, y :: ys => by
    simp only [List.map_cons, pyDs, PyData.eqvAll]
    rw [h.eqv x y, h.eqvAll xs ys, Bool.eq_iff_iff, Bool.and_eq_true, decide_eq_true_iff, decide_eq_true_iff, decide_eq_true_iff, List.cons.injEq]
theorem Eq2.tup (h : Eq2 n enc) : Eq2 (n + 1) (fun xs : List α => D.tup (xs.map enc)) := ⟨fun x => by simp only [pyD, PyData.canLay0]; exact h.canAll x, fun x => by simp only [pyD, PyData.depth]; exact Nat.succ_le_succ (h.depAll x), fun x y => by simp only [pyD, PyData.eqv]; exact h.eqvAll x y⟩
theorem Eq2.lst (h : Eq2 n enc) : Eq2 (n + 1) (fun xs : List α => D.lst (xs.map enc)) := ⟨fun x => by simp only [pyD, PyData.canLay0]; exact h.canAll x, fun x => by simp only [pyD, PyData.depth]; exact Nat.succ_le_succ (h.depAll x), fun x y => by simp only [pyD, PyData.eqv]; exact h.eqvAll x y⟩
theorem Eq2.pair (h1 : Eq2 n e1) (h2 : Eq2 m e2) : Eq2 (max n m + 1) (fun p : α × β => D.tup [e1 p.1, e2 p.2]) := ⟨fun x => by
    simp only [pyD, pyDs, PyData.canLay0, PyData.canLayAll0]; rw [h1.can, h2.can]; rfl, fun x => by
    have a := h1.dep x.1
    have b := h2.dep x.2
    simp only [pyD, pyDs, PyData.depth, PyData.depthAll]; omega, fun x y => by
    simp only [pyD, pyDs, PyData.eqv, PyData.eqvAll]
    rw [h1.eqv, h2.eqv, Bool.and_true, Bool.eq_iff_iff, Bool.and_eq_true, decide_eq_true_iff, decide_eq_true_iff, decide_eq_true_iff, Prod.ext_iff]⟩
theorem Eq2.tri (h1 : Eq2 n e1) (h2 : Eq2 m e2) (h3 : Eq2 k e3) : Eq2 (max n (max m k) + 1) (fun p : α × β × γ => D.tup [e1 p.1, e2 p.2.1, e3 p.2.2]) := ⟨fun x => by
    simp only [pyD, pyDs, PyData.canLay0, PyData.canLayAll0]; rw [h1.can, h2.can, h3.can]; rfl, fun x => by
    have a := h1.dep x.1
    have b := h2.dep x.2.1
    have c := h3.dep x.2.2
    simp only [pyD, pyDs, PyData.depth, PyData.depthAll]; omega, fun x y => by
    simp only [pyD, pyDs, PyData.eqv, PyData.eqvAll]
    rw [h1.eqv, h2.eqv, h3.eqv, Bool.and_true, Bool.eq_iff_iff, Bool.and_eq_true, Bool.and_eq_true, decide_eq_true_iff, decide_eq_true_iff, decide_eq_true_iff, decide_eq_true_iff, Prod.ext_iff, Prod.ext_iff]⟩
theorem Eq2.comp (h : Eq2 n enc) (g : β → α) (hg : ∀ a b, g a = g b → a = b) : Eq2 n (fun x => enc (g x)) := ⟨fun x => h.can _, fun x => h.dep _, fun x y => by
  rw [h.eqv]
  exact decide_eq_decide.mpr ⟨hg x y, fun e => by rw [e]⟩⟩
theorem Eq2.any (h : Eq2 n enc) (x : α) : ∀ xs : List α, ((xs.map enc).any fun z => DL.eqD z (enc x)) = decide (x ∈ xs)
  | [] => by simp
  | y :: ys => by
    rw [List.map_cons, List.any_cons, h.any x ys, h.eqD, Bool.eq_iff_iff, Bool.or_eq_true, decide_eq_true_iff, decide_eq_true_iff, decide_eq_true_iff, List.mem_cons]
    exact ⟨fun q => q.imp Eq.symm id, fun q => q.imp Eq.symm id⟩
theorem Eq2.inO (h : Eq2 n enc) (x : α) (xs : List α) (hn : n < 64 := by decide) : inO (enc x) (.lst (xs.map enc)) = some (decide (x ∈ xs)) := by
  show (if (DL.okE (enc x) && DL.okE (.lst (xs.map enc))) = true then some ((xs.map enc).any fun z => DL.eqD z (enc x)) else none) = _
  rw [h.okE (by omega) x, h.lst.okE (by omega) xs, Bool.and_self, if_pos rfl, h.any]
theorem Eq2.inT (h : Eq2 n enc) (hf : ∀ x, fl (enc x) = true) (x : α) (xs : List α) : DL.inO (enc x) (.tup (xs.map enc)) = some (decide (x ∈ xs)) := by
  unfold DL.inO
  simp only
  rw [if_pos, h.any]
  rw [List.all_eq_true]
  intro d hd
  have : ∃ y, d = enc y := by
    rcases List.mem_cons.mp hd with rfl | hd
    · exact ⟨x, rfl⟩
    · obtain ⟨y, _, rfl⟩ := List.mem_map.mp hd; exact ⟨y, rfl⟩
  obtain ⟨y, rfl⟩ := this
  have := hf y
  cases e : enc y <;> rw [e] at this <;> first | rfl | (simp [fl] at this)
end
/-! ### what nearly every law needs -/
abbrev nI (js : List Nat) : List D := js.map fun (j : Nat) => D.int (j : Int)
theorem eqO_nil : eqO (.lst []) (.lst []) = some true := by decide
@[simp] theorem eqO_bb (b c : Bool) : eqO (.bl b) (.bl c) = some (b == c) := by cases b <;> cases c <;> decide
theorem seq_go {f g : SV} {s s1 : S} {r : Rs Fl} (h : f s = .ok .nx s1) (h2 : g s1 = r) : sSeq f g s = r := by
  rw [sSeq_ap, h]; exact h2
theorem seq_gx {f g : SV} {s s1 : S} (h : f s = .ok .nx s1) (h2 : ∃ η' W', g s1 = .ok (.rt (.pv (.bl true))) ⟨η', W'⟩) : ∃ η' W', sSeq f g s = .ok (.rt (.pv (.bl true))) ⟨η', W'⟩ := by
  obtain ⟨η', W', e⟩ := h2
  exact ⟨η', W', seq_go h e⟩
theorem run_gx {m n : Nat} {body : SV} {args : List RV} {W : List (List D)} {x : Rf} (hf : x = defF m n body args W) (h : args.length = m)
    (e : ∃ η' W', body ⟨args.map toSlot ++ List.replicate (n - args.length) .no, W⟩ = .ok (.rt (.pv (.bl true))) ⟨η', W'⟩) : ∃ W', x = .ok (.pv (.bl true)) W' := by
  obtain ⟨η', W', e⟩ := e
  exact ⟨W', run_def hf h (by rw [e]; simp)⟩
/-- a def that returns a value -/
theorem run_rt {m n : Nat} {body : SV} {args : List RV} {W : List (List D)} {x : Rf} {d : D} {s' : S} (hf : x = defF m n body args W) (h : args.length = m)
    (e : body ⟨args.map toSlot ++ List.replicate (n - args.length) .no, W⟩ = .ok (.rt (.pv d)) s') : x = .ok (.pv d) s'.W := run_def hf h (by rw [e]; simp)
theorem at_get {ds : List D} {j : Nat} {d : D} (h : ds[j]? = some d) : ixD (.tup ds) (.int (j : Int)) = some (.pv d) := by
  show Option.map RV.pv (atI ds (j : Int)) = _
  rw [atI_get (by omega) (by simpa using h)]; rfl
theorem atI_nt {α : Type} {xs : List α} {j : Nat} {v : α} (h : xs[j]? = some v) : atI xs (j : Int) = some v := atI_get (by omega) (by simpa using h)
theorem all_false {α : Type} (p : α → Bool) (L : List α) (h : ∀ x ∈ L, p x = false) : L.filter p = [] := by
  rw [List.filter_eq_nil_iff]
  intro x hx e
  rw [h x hx] at e; cases e
def kids : D → List D
  | .tup xs => xs
  | _ => []
def valI : D → Int
  | .int i => i
  | _ => 0
theorem rngD_sub1 (n : Nat) : rngD 0 ((n : Int) - 1) = (List.range (n - 1)).map fun (k : Nat) => D.int (k : Int) := by
  cases n with
  | zero => rw [rngD_eq]; rfl
  | succ n => rw [show ((n + 1 : Nat) : Int) - 1 = (n : Int) by omega, rngD_0]; rfl
theorem ints_of {a b : Int} : ∀ {xs : List D}, xs.all (inB a b) = true → ∃ ns : List Int, xs = dI ns ∧ ∀ n ∈ ns, a ≤ n ∧ n ≤ b
  | [], _ => ⟨[], rfl, by simp⟩
  | x :: xs, h => by
    rw [List.all_cons, Bool.and_eq_true] at h
    obtain ⟨ns, rfl, hn⟩ := ints_of h.2
    cases x with
    | int i => exact ⟨i :: ns, rfl, fun n hn' => (List.mem_cons.mp hn').elim (fun e => e ▸ of_decide_eq_true h.1) (hn n)⟩
    | _ => exact absurd h.1 (by simp [inB])
theorem atI_gd {ns : List Int} {k : Nat} (h : k < ns.length) : atI (dI ns) (k : Int) = some (.int (ns.getD k 0)) := by
  refine atI_nt ?_
  rw [List.getElem?_map, List.getD_eq_getElem?_getD, List.getElem?_eq_getElem h]; rfl
/-- a while by a relation and a measure -/
theorem loopW_rel {t : TV} {body : SV} (I : Nat → S → Prop) (Q : S → Prop) (h : ∀ m s, I m s → (∃ s1, t s = .ok false s1 ∧ Q s1) ∨ (∃ s1 fl s2 m', t s = .ok true s1 ∧ body s1 = .ok fl s2 ∧ (fl = .nx ∨ fl = .ct) ∧ m' < m ∧ I m' s2)) :
    ∀ n m s, m < n → I m s → ∃ s', loopW t body n s = .ok .nx s' ∧ Q s'
  | 0, m, s, hm, _ => by omega
  | n + 1, m, s, hm, hI => by
    rcases h m s hI with ⟨s1, e, q⟩ | ⟨s1, fl, s2, m', e1, e2, hf, hlt, hI'⟩
    · refine ⟨s1, ?_, q⟩
      unfold loopW; rw [e, bind_okR]; rfl
    · obtain ⟨s', e3, q⟩ := loopW_rel I Q h n m' s2 (by omega) hI'
      refine ⟨s', ?_, q⟩
      unfold loopW; rw [e1, bind_okR, if_pos rfl, e2, bind_okR]
      rcases hf with rfl | rfl <;> exact e3
theorem while_rel {t : TV} {body : SV} (I : Nat → S → Prop) (Q : S → Prop) (h : ∀ m s, I m s → (∃ s1, t s = .ok false s1 ∧ Q s1) ∨ (∃ s1 fl s2 m', t s = .ok true s1 ∧ body s1 = .ok fl s2 ∧ (fl = .nx ∨ fl = .ct) ∧ m' < m ∧ I m' s2))
    {m : Nat} {s : S} (hm : m < 2 ^ 63) (hI : I m s) : ∃ s', sWhile fuel t body s = .ok .nx s' ∧ Q s' := by
  rw [sWhile_ap]
  exact loopW_rel I Q h fuel m s (by rw [fuel_eq]; omega) hI
theorem mul_lstN (ds : List D) {n : Nat} (h : n ≤ 65536) (h2 : ds.length * n ≤ 65536) : mulD (.lst ds) (.int (n : Int)) = some (.ow (List.replicate n ds).flatten) := by
  rw [mul_li, gd_ap, if_pos, Int.toNat_natCast]
  rw [decide_eq_true_iff, Int.toNat_natCast]
  refine ⟨by omega, by omega, szOk h2⟩
theorem mul_lst1 (d : D) {n : Nat} (h : n ≤ 65536) : mulD (.lst [d]) (.int (n : Int)) = some (.ow (List.replicate n d)) := by
  rw [mul_lstN [d] h (by simpa using h), List.flatten_replicate_singleton]
theorem foldl_snoc {α β : Type} (f : β → α → β) (b : β) (l : List α) (x : α) : (l ++ [x]).foldl f b = f (l.foldl f b) x := by rw [List.foldl_append]; rfl
end DL
namespace k94
open PySem PySem.Spec PyProof.Rows L2 DL
def topS (i : Nat) : Stmt := PySem.Challenge.pw_pageskept_k94_whole_columns_and_repeats.main.body.getD i (.Pass ⟨0, 0, 0, 0⟩)
abbrev prog : Program := PySem.Challenge.pw_pageskept_k94_whole_columns_and_repeats
def xns : List PySem.Str := ["PageError", "OutOfRange", "Malformed", "NotThere", "Refused", "TooMuch"]
def xtb : CT := [(("PageError" : PySem.Str), ("PageError" : PySem.Str), true), (("PageError" : PySem.Str), ("OutOfRange" : PySem.Str), false), (("PageError" : PySem.Str), ("Malformed" : PySem.Str), false), (("PageError" : PySem.Str), ("NotThere" : PySem.Str), false), (("PageError" : PySem.Str), ("Refused" : PySem.Str), false), (("PageError" : PySem.Str), ("TooMuch" : PySem.Str), false), (("PageError" : PySem.Str), ("ValueError" : PySem.Str), true), (("OutOfRange" : PySem.Str), ("PageError" : PySem.Str), true), (("OutOfRange" : PySem.Str), ("OutOfRange" : PySem.Str), true), (("OutOfRange" : PySem.Str), ("Malformed" : PySem.Str), false), (("OutOfRange" : PySem.Str), ("NotThere" : PySem.Str), false), (("OutOfRange" : PySem.Str), ("Refused" : PySem.Str), false), (("OutOfRange" : PySem.Str), ("TooMuch" : PySem.Str), false), (("OutOfRange" : PySem.Str), ("ValueError" : PySem.Str), true), (("Malformed" : PySem.Str), ("PageError" : PySem.Str), true), (("Malformed" : PySem.Str), ("OutOfRange" : PySem.Str), false), (("Malformed" : PySem.Str), ("Malformed" : PySem.Str), true), (("Malformed" : PySem.Str), ("NotThere" : PySem.Str), false), (("Malformed" : PySem.Str), ("Refused" : PySem.Str), false), (("Malformed" : PySem.Str), ("TooMuch" : PySem.Str), false), (("Malformed" : PySem.Str), ("ValueError" : PySem.Str), true), (("NotThere" : PySem.Str), ("PageError" : PySem.Str), true), (("NotThere" : PySem.Str), ("OutOfRange" : PySem.Str), false), (("NotThere" : PySem.Str), ("Malformed" : PySem.Str), false), (("NotThere" : PySem.Str), ("NotThere" : PySem.Str), true), (("NotThere" : PySem.Str), ("Refused" : PySem.Str), false), (("NotThere" : PySem.Str), ("TooMuch" : PySem.Str), false), (("NotThere" : PySem.Str), ("ValueError" : PySem.Str), true), (("Refused" : PySem.Str), ("PageError" : PySem.Str), true), (("Refused" : PySem.Str), ("OutOfRange" : PySem.Str), false), (("Refused" : PySem.Str), ("Malformed" : PySem.Str), false), (("Refused" : PySem.Str), ("NotThere" : PySem.Str), false), (("Refused" : PySem.Str), ("Refused" : PySem.Str), true), (("Refused" : PySem.Str), ("TooMuch" : PySem.Str), false), (("Refused" : PySem.Str), ("ValueError" : PySem.Str), true), (("TooMuch" : PySem.Str), ("PageError" : PySem.Str), true), (("TooMuch" : PySem.Str), ("OutOfRange" : PySem.Str), false), (("TooMuch" : PySem.Str), ("Malformed" : PySem.Str), false), (("TooMuch" : PySem.Str), ("NotThere" : PySem.Str), false), (("TooMuch" : PySem.Str), ("Refused" : PySem.Str), false), (("TooMuch" : PySem.Str), ("TooMuch" : PySem.Str), true), (("TooMuch" : PySem.Str), ("ValueError" : PySem.Str), true)]
def T : PySem.Str → PySem.Str → Option Bool := xT xtb
@[simp] theorem T_PageError_PageError : T "PageError" "PageError" = some true := by kernel_rfl
@[simp] theorem T_PageError_OutOfRange : T "PageError" "OutOfRange" = some false := by kernel_rfl
@[simp] theorem T_PageError_Malformed : T "PageError" "Malformed" = some false := by kernel_rfl
@[simp] theorem T_PageError_NotThere : T "PageError" "NotThere" = some false := by kernel_rfl
@[simp] theorem T_PageError_Refused : T "PageError" "Refused" = some false := by kernel_rfl
@[simp] theorem T_PageError_TooMuch : T "PageError" "TooMuch" = some false := by kernel_rfl
@[simp] theorem T_PageError_ValueError : T "PageError" "ValueError" = some true := by kernel_rfl
@[simp] theorem T_OutOfRange_PageError : T "OutOfRange" "PageError" = some true := by kernel_rfl
@[simp] theorem T_OutOfRange_OutOfRange : T "OutOfRange" "OutOfRange" = some true := by kernel_rfl
@[simp] theorem T_OutOfRange_Malformed : T "OutOfRange" "Malformed" = some false := by kernel_rfl
@[simp] theorem T_OutOfRange_NotThere : T "OutOfRange" "NotThere" = some false := by kernel_rfl
@[simp] theorem T_OutOfRange_Refused : T "OutOfRange" "Refused" = some false := by kernel_rfl
@[simp] theorem T_OutOfRange_TooMuch : T "OutOfRange" "TooMuch" = some false := by kernel_rfl
@[simp] theorem T_OutOfRange_ValueError : T "OutOfRange" "ValueError" = some true := by kernel_rfl
@[simp] theorem T_Malformed_PageError : T "Malformed" "PageError" = some true := by kernel_rfl
@[simp] theorem T_Malformed_OutOfRange : T "Malformed" "OutOfRange" = some false := by kernel_rfl
@[simp] theorem T_Malformed_Malformed : T "Malformed" "Malformed" = some true := by kernel_rfl
@[simp] theorem T_Malformed_NotThere : T "Malformed" "NotThere" = some false := by kernel_rfl
@[simp] theorem T_Malformed_Refused : T "Malformed" "Refused" = some false := by kernel_rfl
@[simp] theorem T_Malformed_TooMuch : T "Malformed" "TooMuch" = some false := by kernel_rfl
@[simp] theorem T_Malformed_ValueError : T "Malformed" "ValueError" = some true := by kernel_rfl
@[simp] theorem T_NotThere_PageError : T "NotThere" "PageError" = some true := by kernel_rfl
@[simp] theorem T_NotThere_OutOfRange : T "NotThere" "OutOfRange" = some false := by kernel_rfl
@[simp] theorem T_NotThere_Malformed : T "NotThere" "Malformed" = some false := by kernel_rfl
@[simp] theorem T_NotThere_NotThere : T "NotThere" "NotThere" = some true := by kernel_rfl
@[simp] theorem T_NotThere_Refused : T "NotThere" "Refused" = some false := by kernel_rfl
@[simp] theorem T_NotThere_TooMuch : T "NotThere" "TooMuch" = some false := by kernel_rfl
@[simp] theorem T_NotThere_ValueError : T "NotThere" "ValueError" = some true := by kernel_rfl
@[simp] theorem T_Refused_PageError : T "Refused" "PageError" = some true := by kernel_rfl
@[simp] theorem T_Refused_OutOfRange : T "Refused" "OutOfRange" = some false := by kernel_rfl
@[simp] theorem T_Refused_Malformed : T "Refused" "Malformed" = some false := by kernel_rfl
@[simp] theorem T_Refused_NotThere : T "Refused" "NotThere" = some false := by kernel_rfl
@[simp] theorem T_Refused_Refused : T "Refused" "Refused" = some true := by kernel_rfl
@[simp] theorem T_Refused_TooMuch : T "Refused" "TooMuch" = some false := by kernel_rfl
@[simp] theorem T_Refused_ValueError : T "Refused" "ValueError" = some true := by kernel_rfl
@[simp] theorem T_TooMuch_PageError : T "TooMuch" "PageError" = some true := by kernel_rfl
@[simp] theorem T_TooMuch_OutOfRange : T "TooMuch" "OutOfRange" = some false := by kernel_rfl
@[simp] theorem T_TooMuch_Malformed : T "TooMuch" "Malformed" = some false := by kernel_rfl
@[simp] theorem T_TooMuch_NotThere : T "TooMuch" "NotThere" = some false := by kernel_rfl
@[simp] theorem T_TooMuch_Refused : T "TooMuch" "Refused" = some false := by kernel_rfl
@[simp] theorem T_TooMuch_TooMuch : T "TooMuch" "TooMuch" = some true := by kernel_rfl
@[simp] theorem T_TooMuch_ValueError : T "TooMuch" "ValueError" = some true := by kernel_rfl
structure Bl (mg : Str → Option Value) : Prop where
  n_ValueError : mg "ValueError" = none
  n_abs : mg "abs" = none
  n_all : mg "all" = none
  n_bool : mg "bool" = none
  n_enumerate : mg "enumerate" = none
  n_int : mg "int" = none
  n_isinstance : mg "isinstance" = none
  n_len : mg "len" = none
  n_list : mg "list" = none
  n_max : mg "max" = none
  n_min : mg "min" = none
  n_range : mg "range" = none
  n_reversed : mg "reversed" = none
  n_str : mg "str" = none
  n_sum : mg "sum" = none
  n_tuple : mg "tuple" = none
structure Rw (K : PySem.W.Frag) (mg : Str → Option Value) (base : Heap) (tb : List Addr) : Prop where
  r__law_draws : Row K mg (topS 24) "_law_draws" ["script"]
  r__law_take : Row K mg (topS 25) "_law_take" ["draws", "bound"]
  r__law_column : Row K mg (topS 29) "_law_column" ["draws", "most"]
  r__law_repeats : Row K mg (topS 30) "_law_repeats" ["column"]
  r__law_pairing : Row K mg (topS 33) "_law_pairing" ["one", "other"]
  r__law_alike : Row K mg (topS 27) "_law_alike" ["found", "due"]
  r__law_says : Row K mg (topS 26) "_law_says" ["told", "due"]
  r_is_number : Row K mg (topS 8) "is_number" ["value", "least", "most"]
  r_length : Row K mg (topS 18) "length" ["repeats"]
  r_item_at : Row K mg (topS 19) "item_at" ["repeats", "place"]
  r_folded : Row K mg (topS 15) "folded" ["rows"]
  r_part_of : Row K mg (topS 20) "part_of" ["repeats", "i", "j"]
  r__law_word : Row K mg (topS 28) "_law_word" ["e"]
  r_behind : Row K mg (topS 21) "behind" ["one", "other"]
  r_pairing : Row K mg (topS 22) "pairing" ["one", "other"]
  r__law_told : Row K mg (topS 32) "_law_told" ["which", "one", "other", "more"]
  r_width : Row K mg (topS 13) "width" ["number"]
  r__law_width : Row K mg (topS 31) "_law_width" ["number"]
  r_is_column : RowG K mg base tb (topS 12) "is_column" ["value"]
  r_are_repeats : Row K mg (topS 14) "are_repeats" ["value"]
  r_repeats_of : Row K mg (topS 16) "repeats_of" ["column"]
  r_column_of : Row K mg (topS 17) "column_of" ["repeats"]
  r_law : Row K mg (topS 34) "law" ["script"]
structure Ct (mg : Str → Option Value) : Prop where
  c_MOST_ITEMS : ∃ t, mg "MOST_ITEMS" = some (.int 200 t)
  c_MOST_VALUE : ∃ t, mg "MOST_VALUE" = some (.int 1000000000 t)
/-! _law_draws -/
abbrev s__law_draws : Stmt := topS 24
theorem sc__law_draws : FnScope ["script", "draws", "cell", "number", "first", "k", "seed"] ["script"] (defScope s__law_draws) := ⟨rfl, rfl, rfl, by decide +kernel, rfl, by decide +kernel, by decide +kernel⟩
noncomputable def l__law_draws_1 : SV := (sIf (tOfB (eOp2 gtC (eV 3) (eC (.int 0)))) (sSeq (sEx (eApp 1 (eOp2 modD (eOp1 intD (eV 3)) (eC (.int 997)))))
    (sAsg (eOp2 fdivD (eV 3) (eC (.int 997))) (gSet 3))) sNil)
theorem l__law_draws_1_ap (s : S) : l__law_draws_1 s = (sIf (tOfB (eOp2 gtC (eV 3) (eC (.int 0)))) (sSeq (sEx (eApp 1 (eOp2 modD (eOp1 intD (eV 3)) (eC (.int 997)))))
    (sAsg (eOp2 fdivD (eV 3) (eC (.int 997))) (gSet 3))) sNil) s := nr rfl
noncomputable def l__law_draws_2 : SV := (sSeq (sAsg (eOp1 absD (eV 2)) (gSet 3))
    (sSeq (sIf (tOfB (eOp2 ltC (eV 3) (eOp2 powD (eC (.int 10)) (eC (.int 18))))) (sSeq (sAsg (eOp2 modD (eOp1 intD (eOp2 addD (eOp2 mulD (eV 3) (eC (.int 48271))) (eC (.int 11)))) (eC (.int 2147483647))) (gSet 4))
    (sSeq (sEx (eApp 1 (eOp2 modD (eOp1 intD (eOp2 addD (eOp2 mulD (eV 4) (eC (.int 69621))) (eV 3))) (eC (.int 2147483629)))))
    (sSeq (sEx (eApp 1 (eOp2 modD (eOp1 intD (eOp2 addD (eV 4) (eOp2 fdivD (eV 3) (eC (.int 7))))) (eC (.int 1000003)))))
    (sAsg (eC (.int 0)) (gSet 3))))) sNil)
    (sFor (iR1 (eC (.int 60))) (gSet 5) l__law_draws_1)))
theorem l__law_draws_2_ap (s : S) : l__law_draws_2 s = (sSeq (sAsg (eOp1 absD (eV 2)) (gSet 3))
    (sSeq (sIf (tOfB (eOp2 ltC (eV 3) (eOp2 powD (eC (.int 10)) (eC (.int 18))))) (sSeq (sAsg (eOp2 modD (eOp1 intD (eOp2 addD (eOp2 mulD (eV 3) (eC (.int 48271))) (eC (.int 11)))) (eC (.int 2147483647))) (gSet 4))
    (sSeq (sEx (eApp 1 (eOp2 modD (eOp1 intD (eOp2 addD (eOp2 mulD (eV 4) (eC (.int 69621))) (eV 3))) (eC (.int 2147483629)))))
    (sSeq (sEx (eApp 1 (eOp2 modD (eOp1 intD (eOp2 addD (eV 4) (eOp2 fdivD (eV 3) (eC (.int 7))))) (eC (.int 1000003)))))
    (sAsg (eC (.int 0)) (gSet 3))))) sNil)
    (sFor (iR1 (eC (.int 60))) (gSet 5) l__law_draws_1))) s := nr rfl
noncomputable def l__law_draws_3 : SV := (sSeq (sAsg (eOp2 modD (eOp1 intD (eOp2 addD (eOp2 mulD (eV 6) (eC (.int 48271))) (eC (.int 69621)))) (eC (.int 2147483647))) (gSet 6))
    (sEx (eApp 1 (eOp2 fdivD (eV 6) (eC (.int 5))))))
theorem l__law_draws_3_ap (s : S) : l__law_draws_3 s = (sSeq (sAsg (eOp2 modD (eOp1 intD (eOp2 addD (eOp2 mulD (eV 6) (eC (.int 48271))) (eC (.int 69621)))) (eC (.int 2147483647))) (gSet 6))
    (sEx (eApp 1 (eOp2 fdivD (eV 6) (eC (.int 5)))))) s := nr rfl
noncomputable def b__law_draws : SV :=
    (sSeq (sAsg (eLst aNil) (gSet 1))
    (sSeq (sFor (iOf (eV 0)) (gSet 2) l__law_draws_2)
    (sSeq (sAsg (eC (.int 1)) (gSet 6))
    (sSeq (sIf (tOfB (eOp2 gtC (eOp1 lenD (eV 0)) (eC (.int 0)))) (sAsg (eOp2 addD (eC (.int 1)) (eOp1 absD (eOp2 ixD (eV 0) (eC (.int 0))))) (gSet 6)) sNil)
    (sSeq (sFor (iR1 (eC (.int 900))) (gSet 5) l__law_draws_3)
    (sRet (eOp1 revD (eV 1))))))))
theorem b__law_draws_ap (s : S) : b__law_draws s = (sSeq (sAsg (eLst aNil) (gSet 1))
    (sSeq (sFor (iOf (eV 0)) (gSet 2) l__law_draws_2)
    (sSeq (sAsg (eC (.int 1)) (gSet 6))
    (sSeq (sIf (tOfB (eOp2 gtC (eOp1 lenD (eV 0)) (eC (.int 0)))) (sAsg (eOp2 addD (eC (.int 1)) (eOp1 absD (eOp2 ixD (eV 0) (eC (.int 0))))) (gSet 6)) sNil)
    (sSeq (sFor (iR1 (eC (.int 900))) (gSet 5) l__law_draws_3)
    (sRet (eOp1 revD (eV 1)))))))) s := nr rfl
noncomputable def m__law_draws : Fn := sld (defF 1 7 b__law_draws)
theorem m__law_draws_ap (args : List RV) (W : List (List D)) : m__law_draws args W = defF 1 7 b__law_draws args W := fn_sld _ _ _
theorem ok__law_draws {w : World} {K : PySem.W.Frag} {mg : Str → Option Value} {base : Heap} {tb : List Addr} (B : Bl mg) (R : Rw K mg base tb) (XF0 : XF K mg T) : Has prog w K mg base tb 1 "_law_draws" ["script"] m__law_draws :=
  Has.sld <| Has.of R.r__law_draws sc__law_draws fun f cdv A outer s H E G ht hr =>
    (ss_cons (sd_set (i := 1) sc__law_draws.nd rfl (.inl rfl) (ed_lst ad_nil))
    (ss_cons (sd_for owns_cx rfl (id_val (ed_v 0)) (gd_name (i := 2) sc__law_draws.nd rfl (.inl rfl)) (ss_cons (sd_set (i := 3) sc__law_draws.nd rfl (.inl rfl) (ed_b1 call_abs opv_abs (by rfl) B.n_abs bt_abs (ed_v 2)))
    (ss_cons (sd_if (td_cmp (op_ltA (u64 hr)) opv_lt (ed_v 3) (ed_pow ed_int ed_int) (by rfl)) (ss_cons (sd_set (i := 4) sc__law_draws.nd rfl (.inl rfl) (ed_mod (ed_t1 call_int1 opv_int1 (by rfl) B.n_int bt_int (ed_add (ed_mul (ed_v 3) ed_int) ed_int)) ed_int))
    (ss_cons (sd_expr (ed_append 1 (pv 1) (ed_mod (ed_t1 call_int1 opv_int1 (by rfl) B.n_int bt_int (ed_add (ed_mul (ed_v 4) ed_int) (ed_v 3))) ed_int)))
    (ss_cons (sd_expr (ed_append 1 (pv 1) (ed_mod (ed_t1 call_int1 opv_int1 (by rfl) B.n_int bt_int (ed_add (ed_v 4) (ed_fdiv (ed_v 3) ed_int))) ed_int)))
    (ss_one (sd_set (i := 3) sc__law_draws.nd rfl (.inl rfl) ed_int))))) ss_nil)
    (ss_one (sd_for owns_cx rfl (id_range1 (by rfl) B.n_range ed_int) (gd_name (i := 5) sc__law_draws.nd rfl (.inl rfl)) (ss_one (sd_if (td_cmp op_gtA opv_gt (ed_v 3) ed_int (by rfl)) (ss_cons (sd_expr (ed_append 1 (pv 1) (ed_mod (ed_t1 call_int1 opv_int1 (by rfl) B.n_int bt_int (ed_v 3)) ed_int)))
    (ss_one (sd_set (i := 3) sc__law_draws.nd rfl (.inl rfl) (ed_fdiv (ed_v 3) ed_int)))) ss_nil)))))))
    (ss_cons (sd_set (i := 6) sc__law_draws.nd rfl (.inl rfl) ed_int)
    (ss_cons (sd_if (td_cmp op_gtA opv_gt (ed_b1 call_lenA opv_len (by rfl) B.n_len bt_len (ed_v 0)) ed_int (by rfl)) (ss_one (sd_set (i := 6) sc__law_draws.nd rfl (.inl rfl) (ed_add ed_int (ed_b1 call_abs opv_abs (by rfl) B.n_abs bt_abs (ed_ix (ed_v 0) ed_int))))) ss_nil)
    (ss_cons (sd_for owns_cx rfl (id_range1 (by rfl) B.n_range ed_int) (gd_name (i := 5) sc__law_draws.nd rfl (.inl rfl)) (ss_cons (sd_set (i := 6) sc__law_draws.nd rfl (.inl rfl) (ed_mod (ed_t1 call_int1 opv_int1 (by rfl) B.n_int bt_int (ed_add (ed_mul (ed_v 6) ed_int) ed_int)) ed_int))
    (ss_one (sd_expr (ed_append 1 (pv 1) (ed_fdiv (ed_v 6) ed_int))))))
    (ss_one (sd_ret (ed_lstRev rfl (by rfl) B.n_list (by rfl) B.n_reversed (ed_v 1)))))))))
/-! _law_take -/
abbrev s__law_take : Stmt := topS 25
theorem sc__law_take : FnScope ["draws", "bound"] ["draws", "bound"] (defScope s__law_take) := ⟨rfl, rfl, rfl, by decide +kernel, rfl, by decide +kernel, by decide +kernel⟩
noncomputable def b__law_take : SV :=
    (sSeq (sIf (tOfB (eOp2 eqC (eOp1 lenD (eV 0)) (eC (.int 0)))) (sRet (eC (.int 0))) sNil)
    (sRet (eOp2 modD (eOp1 intD (ePop 0)) (eV 1))))
theorem b__law_take_ap (s : S) : b__law_take s = (sSeq (sIf (tOfB (eOp2 eqC (eOp1 lenD (eV 0)) (eC (.int 0)))) (sRet (eC (.int 0))) sNil)
    (sRet (eOp2 modD (eOp1 intD (ePop 0)) (eV 1)))) s := nr rfl
noncomputable def m__law_take : Fn := sld (defF 2 2 b__law_take)
theorem m__law_take_ap (args : List RV) (W : List (List D)) : m__law_take args W = defF 2 2 b__law_take args W := fn_sld _ _ _
theorem ok__law_take {w : World} {K : PySem.W.Frag} {mg : Str → Option Value} {base : Heap} {tb : List Addr} (B : Bl mg) (R : Rw K mg base tb) (XF0 : XF K mg T) : Has prog w K mg base tb 1 "_law_take" ["draws", "bound"] m__law_take :=
  Has.sld <| Has.of R.r__law_take sc__law_take fun f cdv A outer s H E G ht hr =>
    (ss_cons (sd_if (td_cmp (op_eqA (u64 hr)) opv_eq (ed_b1 call_lenA opv_len (by rfl) B.n_len bt_len (ed_v 0)) ed_int (by rfl)) (ss_one (sd_ret ed_int)) ss_nil)
    (ss_one (sd_ret (ed_mod (ed_t1 call_int1 opv_int1 (by rfl) B.n_int bt_int (ed_pop 0 (pv 0))) (ed_v 1)))))
/-! _law_column -/
abbrev s__law_column : Stmt := topS 29
theorem sc__law_column : FnScope ["draws", "most", "many", "kind", "found", "last", "k"] ["draws", "most"] (defScope s__law_column) := ⟨rfl, rfl, rfl, by decide +kernel, rfl, by decide +kernel, by decide +kernel⟩
noncomputable def l__law_column_1 : SV := (sSeq (sIf (tOfB (eOp2 eqC (eV 3) (eC (.int 0)))) (sAsg (eCall m__law_take (aCons (eV 0) (aCons (eOp2 ixD (eLst (aCons (eC (.int 2)) (aCons (eC (.int 4)) (aCons (eOp2 powD (eC (.int 10)) (eC (.int 9))) aNil)))) (eCall m__law_take (aCons (eV 0) (aCons (eC (.int 3)) aNil)))) aNil))) (gSet 5)) (sIf (tOfB (eOp2 eqC (eV 3) (eC (.int 1)))) (sIf (tOfB (eOp2 eqC (eCall m__law_take (aCons (eV 0) (aCons (eC (.int 4)) aNil))) (eC (.int 0)))) (sAsg (eCall m__law_take (aCons (eV 0) (aCons (eC (.int 9)) aNil))) (gSet 5)) sNil) (sIf (tOfB (eOp2 eqC (eV 3) (eC (.int 2)))) (sAsg (eOp2 min2D (eOp2 powD (eC (.int 10)) (eC (.int 9))) (eOp2 max2D (eC (.int 0)) (eOp2 subD (eOp2 addD (eV 5) (eCall m__law_take (aCons (eV 0) (aCons (eC (.int 9)) aNil)))) (eC (.int 3))))) (gSet 5)) (sAsg (eOp2 min2D (eOp2 powD (eC (.int 10)) (eC (.int 9))) (eOp2 addD (eV 5) (eOp2 ixD (eLst (aCons (eC (.int 7)) (aCons (eC (.int 7)) (aCons (eC (.int 7)) (aCons (eC (.int 100)) aNil))))) (eCall m__law_take (aCons (eV 0) (aCons (eC (.int 4)) aNil)))))) (gSet 5)))))
    (sEx (eApp 4 (eV 5))))
theorem l__law_column_1_ap (s : S) : l__law_column_1 s = (sSeq (sIf (tOfB (eOp2 eqC (eV 3) (eC (.int 0)))) (sAsg (eCall m__law_take (aCons (eV 0) (aCons (eOp2 ixD (eLst (aCons (eC (.int 2)) (aCons (eC (.int 4)) (aCons (eOp2 powD (eC (.int 10)) (eC (.int 9))) aNil)))) (eCall m__law_take (aCons (eV 0) (aCons (eC (.int 3)) aNil)))) aNil))) (gSet 5)) (sIf (tOfB (eOp2 eqC (eV 3) (eC (.int 1)))) (sIf (tOfB (eOp2 eqC (eCall m__law_take (aCons (eV 0) (aCons (eC (.int 4)) aNil))) (eC (.int 0)))) (sAsg (eCall m__law_take (aCons (eV 0) (aCons (eC (.int 9)) aNil))) (gSet 5)) sNil) (sIf (tOfB (eOp2 eqC (eV 3) (eC (.int 2)))) (sAsg (eOp2 min2D (eOp2 powD (eC (.int 10)) (eC (.int 9))) (eOp2 max2D (eC (.int 0)) (eOp2 subD (eOp2 addD (eV 5) (eCall m__law_take (aCons (eV 0) (aCons (eC (.int 9)) aNil)))) (eC (.int 3))))) (gSet 5)) (sAsg (eOp2 min2D (eOp2 powD (eC (.int 10)) (eC (.int 9))) (eOp2 addD (eV 5) (eOp2 ixD (eLst (aCons (eC (.int 7)) (aCons (eC (.int 7)) (aCons (eC (.int 7)) (aCons (eC (.int 100)) aNil))))) (eCall m__law_take (aCons (eV 0) (aCons (eC (.int 4)) aNil)))))) (gSet 5)))))
    (sEx (eApp 4 (eV 5)))) s := nr rfl
noncomputable def b__law_column : SV :=
    (sSeq (sAsg (eOp2 addD (eC (.int 1)) (eCall m__law_take (aCons (eV 0) (aCons (eV 1) aNil)))) (gSet 2))
    (sSeq (sAsg (eCall m__law_take (aCons (eV 0) (aCons (eC (.int 4)) aNil))) (gSet 3))
    (sSeq (sAsg (eLst aNil) (gSet 4))
    (sSeq (sAsg (eCall m__law_take (aCons (eV 0) (aCons (eOp2 ixD (eLst (aCons (eC (.int 5)) (aCons (eC (.int 1000)) (aCons (eOp2 powD (eC (.int 10)) (eC (.int 9))) aNil)))) (eCall m__law_take (aCons (eV 0) (aCons (eC (.int 3)) aNil)))) aNil))) (gSet 5))
    (sSeq (sFor (iR1 (eV 2)) (gSet 6) l__law_column_1)
    (sRet (eOp1 tupleD (eV 4))))))))
theorem b__law_column_ap (s : S) : b__law_column s = (sSeq (sAsg (eOp2 addD (eC (.int 1)) (eCall m__law_take (aCons (eV 0) (aCons (eV 1) aNil)))) (gSet 2))
    (sSeq (sAsg (eCall m__law_take (aCons (eV 0) (aCons (eC (.int 4)) aNil))) (gSet 3))
    (sSeq (sAsg (eLst aNil) (gSet 4))
    (sSeq (sAsg (eCall m__law_take (aCons (eV 0) (aCons (eOp2 ixD (eLst (aCons (eC (.int 5)) (aCons (eC (.int 1000)) (aCons (eOp2 powD (eC (.int 10)) (eC (.int 9))) aNil)))) (eCall m__law_take (aCons (eV 0) (aCons (eC (.int 3)) aNil)))) aNil))) (gSet 5))
    (sSeq (sFor (iR1 (eV 2)) (gSet 6) l__law_column_1)
    (sRet (eOp1 tupleD (eV 4)))))))) s := nr rfl
noncomputable def m__law_column : Fn := sld (defF 2 7 b__law_column)
theorem m__law_column_ap (args : List RV) (W : List (List D)) : m__law_column args W = defF 2 7 b__law_column args W := fn_sld _ _ _
theorem ok__law_column {w : World} {K : PySem.W.Frag} {mg : Str → Option Value} {base : Heap} {tb : List Addr} (B : Bl mg) (R : Rw K mg base tb) (XF0 : XF K mg T) (h__law_take : Has prog w K mg base tb 1 "_law_take" ["draws", "bound"] m__law_take) : Has prog w K mg base tb 2 "_law_column" ["draws", "most"] m__law_column :=
  Has.sld <| Has.of R.r__law_column sc__law_column fun f cdv A outer s H E G ht hr =>
    (ss_cons (sd_set (i := 2) sc__law_column.nd rfl (.inl rfl) (ed_add ed_int (ed_callH h__law_take hr ht takes_cx (ad_cons (ed_v 0) (ad_cons (ed_v 1) ad_nil)) (by decide))))
    (ss_cons (sd_set (i := 3) sc__law_column.nd rfl (.inl rfl) (ed_callH h__law_take hr ht takes_cx (ad_cons (ed_v 0) (ad_cons ed_int ad_nil)) (by decide)))
    (ss_cons (sd_set (i := 4) sc__law_column.nd rfl (.inl rfl) (ed_lst ad_nil))
    (ss_cons (sd_set (i := 5) sc__law_column.nd rfl (.inl rfl) (ed_callH h__law_take hr ht takes_cx (ad_cons (ed_v 0) (ad_cons (ed_ix (ed_lst (ad_cons ed_int (ad_cons ed_int (ad_cons (ed_pow ed_int ed_int) ad_nil)))) (ed_callH h__law_take hr ht takes_cx (ad_cons (ed_v 0) (ad_cons ed_int ad_nil)) (by decide))) ad_nil)) (by decide)))
    (ss_cons (sd_for owns_cx rfl (id_range1 (by rfl) B.n_range (ed_v 2)) (gd_name (i := 6) sc__law_column.nd rfl (.inl rfl)) (ss_cons (sd_if (td_cmp (op_eqA (u64 hr)) opv_eq (ed_v 3) ed_int (by rfl)) (ss_one (sd_set (i := 5) sc__law_column.nd rfl (.inl rfl) (ed_callH h__law_take hr ht takes_cx (ad_cons (ed_v 0) (ad_cons (ed_ix (ed_lst (ad_cons ed_int (ad_cons ed_int (ad_cons (ed_pow ed_int ed_int) ad_nil)))) (ed_callH h__law_take hr ht takes_cx (ad_cons (ed_v 0) (ad_cons ed_int ad_nil)) (by decide))) ad_nil)) (by decide)))) (ss_one (sd_if (td_cmp (op_eqA (u64 hr)) opv_eq (ed_v 3) ed_int (by rfl)) (ss_one (sd_if (td_cmp (op_eqA (u64 hr)) opv_eq (ed_callH h__law_take hr ht takes_cx (ad_cons (ed_v 0) (ad_cons ed_int ad_nil)) (by decide)) ed_int (by rfl)) (ss_one (sd_set (i := 5) sc__law_column.nd rfl (.inl rfl) (ed_callH h__law_take hr ht takes_cx (ad_cons (ed_v 0) (ad_cons ed_int ad_nil)) (by decide)))) ss_nil)) (ss_one (sd_if (td_cmp (op_eqA (u64 hr)) opv_eq (ed_v 3) ed_int (by rfl)) (ss_one (sd_set (i := 5) sc__law_column.nd rfl (.inl rfl) (ed_b2 (call_min2 rfl) opv_min2 (by rfl) B.n_min bt_min (ed_pow ed_int ed_int) (ed_b2 (call_max2 rfl) opv_max2 (by rfl) B.n_max bt_max ed_int (ed_sub (ed_add (ed_v 5) (ed_callH h__law_take hr ht takes_cx (ad_cons (ed_v 0) (ad_cons ed_int ad_nil)) (by decide))) ed_int))))) (ss_one (sd_set (i := 5) sc__law_column.nd rfl (.inl rfl) (ed_b2 (call_min2 rfl) opv_min2 (by rfl) B.n_min bt_min (ed_pow ed_int ed_int) (ed_add (ed_v 5) (ed_ix (ed_lst (ad_cons ed_int (ad_cons ed_int (ad_cons ed_int (ad_cons ed_int ad_nil))))) (ed_callH h__law_take hr ht takes_cx (ad_cons (ed_v 0) (ad_cons ed_int ad_nil)) (by decide))))))))))))
    (ss_one (sd_expr (ed_append 4 (pv 4) (ed_v 5))))))
    (ss_one (sd_ret (ed_t1 call_tuple_of opv_tuple (by rfl) B.n_tuple bt_tuple (ed_v 4)))))))))
/-! _law_repeats -/
abbrev s__law_repeats : Stmt := topS 30
theorem sc__law_repeats : FnScope ["column", "found", "one"] ["column"] (defScope s__law_repeats) := ⟨rfl, rfl, rfl, by decide +kernel, rfl, by decide +kernel, by decide +kernel⟩
noncomputable def l__law_repeats_1 : SV := (sIf (tAndD (tOfB (eOp2 neC (eV 1) (eLst aNil))) (tOfB (eOp2 eqC (eOp2 ixD (eOp2 ixD (eV 1) (eOp1 negD (eC (.int 1)))) (eC (.int 0))) (eV 2)))) (sAsg (eTup (aCons (eV 2) (aCons (eOp2 addD (eOp2 ixD (eOp2 ixD (eV 1) (eOp1 negD (eC (.int 1)))) (eC (.int 1))) (eC (.int 1))) aNil))) (gSubD 1 (eOp1 negD (eC (.int 1))))) (sEx (eApp 1 (eTup (aCons (eV 2) (aCons (eC (.int 1)) aNil))))))
theorem l__law_repeats_1_ap (s : S) : l__law_repeats_1 s = (sIf (tAndD (tOfB (eOp2 neC (eV 1) (eLst aNil))) (tOfB (eOp2 eqC (eOp2 ixD (eOp2 ixD (eV 1) (eOp1 negD (eC (.int 1)))) (eC (.int 0))) (eV 2)))) (sAsg (eTup (aCons (eV 2) (aCons (eOp2 addD (eOp2 ixD (eOp2 ixD (eV 1) (eOp1 negD (eC (.int 1)))) (eC (.int 1))) (eC (.int 1))) aNil))) (gSubD 1 (eOp1 negD (eC (.int 1))))) (sEx (eApp 1 (eTup (aCons (eV 2) (aCons (eC (.int 1)) aNil)))))) s := nr rfl
noncomputable def b__law_repeats : SV :=
    (sSeq (sAsg (eLst aNil) (gSet 1))
    (sSeq (sFor (iOf (eV 0)) (gSet 2) l__law_repeats_1)
    (sRet (eOp1 tupleD (eV 1)))))
theorem b__law_repeats_ap (s : S) : b__law_repeats s = (sSeq (sAsg (eLst aNil) (gSet 1))
    (sSeq (sFor (iOf (eV 0)) (gSet 2) l__law_repeats_1)
    (sRet (eOp1 tupleD (eV 1))))) s := nr rfl
noncomputable def m__law_repeats : Fn := sld (defF 1 3 b__law_repeats)
theorem m__law_repeats_ap (args : List RV) (W : List (List D)) : m__law_repeats args W = defF 1 3 b__law_repeats args W := fn_sld _ _ _
theorem ok__law_repeats {w : World} {K : PySem.W.Frag} {mg : Str → Option Value} {base : Heap} {tb : List Addr} (B : Bl mg) (R : Rw K mg base tb) (XF0 : XF K mg T) : Has prog w K mg base tb 1 "_law_repeats" ["column"] m__law_repeats :=
  Has.sld <| Has.of R.r__law_repeats sc__law_repeats fun f cdv A outer s H E G ht hr =>
    (ss_cons (sd_set (i := 1) sc__law_repeats.nd rfl (.inl rfl) (ed_lst ad_nil))
    (ss_cons (sd_for owns_cx rfl (id_val (ed_v 0)) (gd_name (i := 2) sc__law_repeats.nd rfl (.inl rfl)) (ss_one (sd_if (WD.td (wd_and (td_cmp (op_neA (u64 hr)) opv_ne (ed_v 1) (ed_lst ad_nil) (by rfl)) (wd_and1 (td_cmp (op_eqA (u64 hr)) opv_eq (ed_ix (ed_ix (ed_v 1) (ed_neg ed_int)) ed_int) (ed_v 2) (by rfl))))) (ss_one (sd_asg (ed_tup (ad_cons (ed_v 2) (ad_cons (ed_add (ed_ix (ed_ix (ed_v 1) (ed_neg ed_int)) ed_int) ed_int) ad_nil))) (gd_sub 1 (pv 1) (ed_neg ed_int)))) (ss_one (sd_expr (ed_append 1 (pv 1) (ed_tup (ad_cons (ed_v 2) (ad_cons ed_int ad_nil)))))))))
    (ss_one (sd_ret (ed_t1 call_tuple_of opv_tuple (by rfl) B.n_tuple bt_tuple (ed_v 1))))))
/-! _law_pairing -/
abbrev s__law_pairing : Stmt := topS 33
theorem sc__law_pairing : FnScope ["one", "other", "found", "k"] ["one", "other"] (defScope s__law_pairing) := ⟨rfl, rfl, rfl, by decide +kernel, rfl, by decide +kernel, by decide +kernel⟩
noncomputable def l__law_pairing_1 : SV := (sIf (tAndD (tOfB (eOp2 neC (eV 2) (eLst aNil))) (tOfB (eOp2 eqC (eSl (eOp2 ixD (eV 2) (eOp1 negD (eC (.int 1)))) oNo (oSo (eC (.int 2)))) (eTup (aCons (eOp2 ixD (eV 0) (eV 3)) (aCons (eOp2 ixD (eV 1) (eV 3)) aNil)))))) (sAsg (eTup (aCons (eOp2 ixD (eV 0) (eV 3)) (aCons (eOp2 ixD (eV 1) (eV 3)) (aCons (eOp2 addD (eOp2 ixD (eOp2 ixD (eV 2) (eOp1 negD (eC (.int 1)))) (eC (.int 2))) (eC (.int 1))) aNil)))) (gSubD 2 (eOp1 negD (eC (.int 1))))) (sEx (eApp 2 (eTup (aCons (eOp2 ixD (eV 0) (eV 3)) (aCons (eOp2 ixD (eV 1) (eV 3)) (aCons (eC (.int 1)) aNil)))))))
theorem l__law_pairing_1_ap (s : S) : l__law_pairing_1 s = (sIf (tAndD (tOfB (eOp2 neC (eV 2) (eLst aNil))) (tOfB (eOp2 eqC (eSl (eOp2 ixD (eV 2) (eOp1 negD (eC (.int 1)))) oNo (oSo (eC (.int 2)))) (eTup (aCons (eOp2 ixD (eV 0) (eV 3)) (aCons (eOp2 ixD (eV 1) (eV 3)) aNil)))))) (sAsg (eTup (aCons (eOp2 ixD (eV 0) (eV 3)) (aCons (eOp2 ixD (eV 1) (eV 3)) (aCons (eOp2 addD (eOp2 ixD (eOp2 ixD (eV 2) (eOp1 negD (eC (.int 1)))) (eC (.int 2))) (eC (.int 1))) aNil)))) (gSubD 2 (eOp1 negD (eC (.int 1))))) (sEx (eApp 2 (eTup (aCons (eOp2 ixD (eV 0) (eV 3)) (aCons (eOp2 ixD (eV 1) (eV 3)) (aCons (eC (.int 1)) aNil))))))) s := nr rfl
noncomputable def b__law_pairing : SV :=
    (sSeq (sAsg (eLst aNil) (gSet 2))
    (sSeq (sFor (iR1 (eOp1 lenD (eV 0))) (gSet 3) l__law_pairing_1)
    (sRet (eOp1 tupleD (eV 2)))))
theorem b__law_pairing_ap (s : S) : b__law_pairing s = (sSeq (sAsg (eLst aNil) (gSet 2))
    (sSeq (sFor (iR1 (eOp1 lenD (eV 0))) (gSet 3) l__law_pairing_1)
    (sRet (eOp1 tupleD (eV 2))))) s := nr rfl
noncomputable def m__law_pairing : Fn := sld (defF 2 4 b__law_pairing)
theorem m__law_pairing_ap (args : List RV) (W : List (List D)) : m__law_pairing args W = defF 2 4 b__law_pairing args W := fn_sld _ _ _
theorem ok__law_pairing {w : World} {K : PySem.W.Frag} {mg : Str → Option Value} {base : Heap} {tb : List Addr} (B : Bl mg) (R : Rw K mg base tb) (XF0 : XF K mg T) : Has prog w K mg base tb 1 "_law_pairing" ["one", "other"] m__law_pairing :=
  Has.sld <| Has.of R.r__law_pairing sc__law_pairing fun f cdv A outer s H E G ht hr =>
    (ss_cons (sd_set (i := 2) sc__law_pairing.nd rfl (.inl rfl) (ed_lst ad_nil))
    (ss_cons (sd_for owns_cx rfl (id_range1 (by rfl) B.n_range (ed_b1 call_lenA opv_len (by rfl) B.n_len bt_len (ed_v 0))) (gd_name (i := 3) sc__law_pairing.nd rfl (.inl rfl)) (ss_one (sd_if (WD.td (wd_and (td_cmp (op_neA (u64 hr)) opv_ne (ed_v 2) (ed_lst ad_nil) (by rfl)) (wd_and1 (td_cmp (op_eqA (u64 hr)) opv_eq (ed_sl (ed_ix (ed_v 2) (ed_neg ed_int)) od_no (od_so ed_int)) (ed_tup (ad_cons (ed_ix (ed_v 0) (ed_v 3)) (ad_cons (ed_ix (ed_v 1) (ed_v 3)) ad_nil))) (by rfl))))) (ss_one (sd_asg (ed_tup (ad_cons (ed_ix (ed_v 0) (ed_v 3)) (ad_cons (ed_ix (ed_v 1) (ed_v 3)) (ad_cons (ed_add (ed_ix (ed_ix (ed_v 2) (ed_neg ed_int)) ed_int) ed_int) ad_nil)))) (gd_sub 2 (pv 2) (ed_neg ed_int)))) (ss_one (sd_expr (ed_append 2 (pv 2) (ed_tup (ad_cons (ed_ix (ed_v 0) (ed_v 3)) (ad_cons (ed_ix (ed_v 1) (ed_v 3)) (ad_cons ed_int ad_nil))))))))))
    (ss_one (sd_ret (ed_t1 call_tuple_of opv_tuple (by rfl) B.n_tuple bt_tuple (ed_v 2))))))
/-! _law_alike -/
abbrev s__law_alike : Stmt := topS 27
theorem sc__law_alike : FnScope ["found", "due", "k"] ["found", "due"] (defScope s__law_alike) := ⟨rfl, rfl, rfl, by decide +kernel, rfl, by decide +kernel, by decide +kernel⟩
noncomputable def x__law_alike_1 (r : Fn) : EV := (eV 2)
theorem x__law_alike_1_ap (r : Fn) (s : S) : x__law_alike_1 r s = (eV 2) s := nr rfl
noncomputable def t__law_alike_1 (r : Fn) : TV := (tNotD (tOf (eCall r (aCons (eOp2 ixD (eV 0) (eV 2)) (aCons (eOp2 ixD (eV 1) (eV 2)) aNil)))))
theorem t__law_alike_1_ap (r : Fn) (s : S) : t__law_alike_1 r s = (tNotD (tOf (eCall r (aCons (eOp2 ixD (eV 0) (eV 2)) (aCons (eOp2 ixD (eV 1) (eV 2)) aNil))))) s := nr rfl
noncomputable def c__law_alike_1 (r : Fn) : EV := eComp [2] (iR1 (eOp1 lenD (eV 1))) (gSet 2) (t__law_alike_1 r) (x__law_alike_1 r)
theorem c__law_alike_1_ap (r : Fn) (s : S) : c__law_alike_1 r s = (eComp [2] (iR1 (eOp1 lenD (eV 1))) (gSet 2) (t__law_alike_1 r) (x__law_alike_1 r)) s := nr rfl
noncomputable def b__law_alike (r : Fn) : SV :=
    (sSeq (sIf (tOrD (tOf (eOp2 isi2 (eV 1) (eC (.ty "list")))) (tOf (eOp2 isi2 (eV 1) (eC (.ty "tuple"))))) (sSeq (sIf (tOrD (tOfB (eOp2 neC (eOp2 isi2 (eV 0) (eC (.ty "list"))) (eOp2 isi2 (eV 1) (eC (.ty "list"))))) (tOfB (eOp2 neC (eOp2 isi2 (eV 0) (eC (.ty "tuple"))) (eOp2 isi2 (eV 1) (eC (.ty "tuple")))))) (sRet (eC (.bl false))) sNil)
    (sRet (eAndD (eOp2 eqC (eOp1 lenD (eV 0)) (eOp1 lenD (eV 1))) (eOp2 eqC (c__law_alike_1 r) (eLst aNil))))) sNil)
    (sSeq (sIf (tOfB (eOp2 isC (eV 1) (eC .non))) (sRet (eOp2 isC (eV 0) (eC .non))) sNil)
    (sSeq (sIf (tOrD (tOf (eOp2 isi2 (eV 1) (eC (.ty "bool")))) (tOf (eOp2 isi2 (eV 0) (eC (.ty "bool"))))) (sRet (eAndD (eOp2 isi2 (eV 0) (eC (.ty "bool"))) (eAndD (eOp2 isi2 (eV 1) (eC (.ty "bool"))) (eOp2 eqC (eV 0) (eV 1))))) sNil)
    (sSeq (sIf (tOf (eOp2 isi2 (eV 1) (eC (.ty "int")))) (sRet (eAndD (eOp2 isi2 (eV 0) (eC (.ty "int"))) (eOp2 eqC (eV 0) (eV 1)))) sNil)
    (sRet (eAndD (eOp2 isi2 (eV 0) (eC (.ty "str"))) (eOp2 eqC (eV 0) (eV 1))))))))
theorem b__law_alike_ap (r : Fn) (s : S) : b__law_alike r s = (sSeq (sIf (tOrD (tOf (eOp2 isi2 (eV 1) (eC (.ty "list")))) (tOf (eOp2 isi2 (eV 1) (eC (.ty "tuple"))))) (sSeq (sIf (tOrD (tOfB (eOp2 neC (eOp2 isi2 (eV 0) (eC (.ty "list"))) (eOp2 isi2 (eV 1) (eC (.ty "list"))))) (tOfB (eOp2 neC (eOp2 isi2 (eV 0) (eC (.ty "tuple"))) (eOp2 isi2 (eV 1) (eC (.ty "tuple")))))) (sRet (eC (.bl false))) sNil)
    (sRet (eAndD (eOp2 eqC (eOp1 lenD (eV 0)) (eOp1 lenD (eV 1))) (eOp2 eqC (c__law_alike_1 r) (eLst aNil))))) sNil)
    (sSeq (sIf (tOfB (eOp2 isC (eV 1) (eC .non))) (sRet (eOp2 isC (eV 0) (eC .non))) sNil)
    (sSeq (sIf (tOrD (tOf (eOp2 isi2 (eV 1) (eC (.ty "bool")))) (tOf (eOp2 isi2 (eV 0) (eC (.ty "bool"))))) (sRet (eAndD (eOp2 isi2 (eV 0) (eC (.ty "bool"))) (eAndD (eOp2 isi2 (eV 1) (eC (.ty "bool"))) (eOp2 eqC (eV 0) (eV 1))))) sNil)
    (sSeq (sIf (tOf (eOp2 isi2 (eV 1) (eC (.ty "int")))) (sRet (eAndD (eOp2 isi2 (eV 0) (eC (.ty "int"))) (eOp2 eqC (eV 0) (eV 1)))) sNil)
    (sRet (eAndD (eOp2 isi2 (eV 0) (eC (.ty "str"))) (eOp2 eqC (eV 0) (eV 1)))))))) s := nr rfl
noncomputable def m__law_alike : Nat → Fn
  | 0 => fun _ _ => .bad
  | k + 1 => sld (defF 2 3 (b__law_alike (m__law_alike k)))
theorem m__law_alike_ap (k : Nat) (args : List RV) (W : List (List D)) : m__law_alike (k + 1) args W = defF 2 3 (b__law_alike (m__law_alike k)) args W := fn_sld _ _ _
theorem ok__law_alike {w : World} {K : PySem.W.Frag} {mg : Str → Option Value} {base : Heap} {tb : List Addr} (B : Bl mg) (R : Rw K mg base tb) (XF0 : XF K mg T) : ∀ k : Nat, Has prog w K mg base tb (0 + k) "_law_alike" ["found", "due"] (m__law_alike k)
  | 0 => Has.bad R.r__law_alike
  | k + 1 => have hs := ok__law_alike B R XF0 k
    Has.sld <| Has.of R.r__law_alike sc__law_alike fun f cdv A outer s H E G ht hr =>
    (ss_cons (sd_if (WD.td (wd_or (td_val (ed_b2 call_isi opv_isi (by rfl) B.n_isinstance bt_isinstance (ed_v 1) (ed_ty (by rfl) B.n_list bt_list))) (wd_or1 (td_val (ed_b2 call_isi opv_isi (by rfl) B.n_isinstance bt_isinstance (ed_v 1) (ed_ty (by rfl) B.n_tuple bt_tuple)))))) (ss_cons (sd_if (WD.td (wd_or (td_cmp (op_neA (u64 hr)) opv_ne (ed_b2 call_isi opv_isi (by rfl) B.n_isinstance bt_isinstance (ed_v 0) (ed_ty (by rfl) B.n_list bt_list)) (ed_b2 call_isi opv_isi (by rfl) B.n_isinstance bt_isinstance (ed_v 1) (ed_ty (by rfl) B.n_list bt_list)) (by rfl)) (wd_or1 (td_cmp (op_neA (u64 hr)) opv_ne (ed_b2 call_isi opv_isi (by rfl) B.n_isinstance bt_isinstance (ed_v 0) (ed_ty (by rfl) B.n_tuple bt_tuple)) (ed_b2 call_isi opv_isi (by rfl) B.n_isinstance bt_isinstance (ed_v 1) (ed_ty (by rfl) B.n_tuple bt_tuple)) (by rfl))))) (ss_one (sd_ret ed_bl)) ss_nil)
    (ss_one (sd_ret (ed_andV (ed_cmp (op_eqA (u64 hr)) opv_eq (ed_b1 call_lenA opv_len (by rfl) B.n_len bt_len (ed_v 0)) (ed_b1 call_lenA opv_len (by rfl) B.n_len bt_len (ed_v 1)) (by rfl)) (ed_oneV (ed_cmp (op_eqA (u64 hr)) opv_eq (ed_comp1 [("k", 2)] rfl sc__law_alike.nd (id_range1 (by rfl) B.n_range (ed_b1 call_lenA opv_len (by rfl) B.n_len bt_len (ed_v 1))) (blk_ok (by kernel_rfl)) (fun _ _ _ _ _ => (gv_name (i := 2) (by decide) sc__law_alike.nd rfl (.inl rfl))) (fun _ _ _ _ _ => (td_not (td_val (ed_callH hs hr ht takesX (ad_cons (ed_ix (ed_v 0) (ed_v 2)) (ad_cons (ed_ix (ed_v 1) (ed_v 2)) ad_nil)) (Nat.le_refl _))))) (fun _ _ _ _ _ => (ed_v 2))) (ed_lst ad_nil) (by rfl))))))) ss_nil)
    (ss_cons (sd_if (td_cmp op_isA opv_is (ed_v 1) ed_non (by rfl)) (ss_one (sd_ret (ed_cmp op_isA opv_is (ed_v 0) ed_non (by rfl)))) ss_nil)
    (ss_cons (sd_if (WD.td (wd_or (td_val (ed_b2 call_isi opv_isi (by rfl) B.n_isinstance bt_isinstance (ed_v 1) (ed_ty (by rfl) B.n_bool bt_bool))) (wd_or1 (td_val (ed_b2 call_isi opv_isi (by rfl) B.n_isinstance bt_isinstance (ed_v 0) (ed_ty (by rfl) B.n_bool bt_bool)))))) (ss_one (sd_ret (ed_andV (ed_b2 call_isi opv_isi (by rfl) B.n_isinstance bt_isinstance (ed_v 0) (ed_ty (by rfl) B.n_bool bt_bool)) (ed_andV (ed_b2 call_isi opv_isi (by rfl) B.n_isinstance bt_isinstance (ed_v 1) (ed_ty (by rfl) B.n_bool bt_bool)) (ed_oneV (ed_cmp (op_eqA (u64 hr)) opv_eq (ed_v 0) (ed_v 1) (by rfl))))))) ss_nil)
    (ss_cons (sd_if (td_val (ed_b2 call_isi opv_isi (by rfl) B.n_isinstance bt_isinstance (ed_v 1) (ed_ty (by rfl) B.n_int bt_int))) (ss_one (sd_ret (ed_andV (ed_b2 call_isi opv_isi (by rfl) B.n_isinstance bt_isinstance (ed_v 0) (ed_ty (by rfl) B.n_int bt_int)) (ed_oneV (ed_cmp (op_eqA (u64 hr)) opv_eq (ed_v 0) (ed_v 1) (by rfl)))))) ss_nil)
    (ss_one (sd_ret (ed_andV (ed_b2 call_isi opv_isi (by rfl) B.n_isinstance bt_isinstance (ed_v 0) (ed_ty (by rfl) B.n_str bt_str)) (ed_oneV (ed_cmp (op_eqA (u64 hr)) opv_eq (ed_v 0) (ed_v 1) (by rfl))))))))))
/-! _law_says -/
abbrev s__law_says : Stmt := topS 26
theorem sc__law_says : FnScope ["told", "due"] ["told", "due"] (defScope s__law_says) := ⟨rfl, rfl, rfl, by decide +kernel, rfl, by decide +kernel, by decide +kernel⟩
noncomputable def b__law_says : SV :=
    (sRet (eAndD (eOp2 isi2 (eV 0) (eC (.ty "bool"))) (eOp2 eqC (eV 0) (eV 1))))
theorem b__law_says_ap (s : S) : b__law_says s = (sRet (eAndD (eOp2 isi2 (eV 0) (eC (.ty "bool"))) (eOp2 eqC (eV 0) (eV 1)))) s := nr rfl
noncomputable def m__law_says : Fn := sld (defF 2 2 b__law_says)
theorem m__law_says_ap (args : List RV) (W : List (List D)) : m__law_says args W = defF 2 2 b__law_says args W := fn_sld _ _ _
theorem ok__law_says {w : World} {K : PySem.W.Frag} {mg : Str → Option Value} {base : Heap} {tb : List Addr} (B : Bl mg) (R : Rw K mg base tb) (XF0 : XF K mg T) : Has prog w K mg base tb 1 "_law_says" ["told", "due"] m__law_says :=
  Has.sld <| Has.of R.r__law_says sc__law_says fun f cdv A outer s H E G ht hr =>
    (ss_one (sd_ret (ed_andV (ed_b2 call_isi opv_isi (by rfl) B.n_isinstance bt_isinstance (ed_v 0) (ed_ty (by rfl) B.n_bool bt_bool)) (ed_oneV (ed_cmp (op_eqA (u64 hr)) opv_eq (ed_v 0) (ed_v 1) (by rfl))))))
/-! is_number -/
abbrev s_is_number : Stmt := topS 8
theorem sc_is_number : FnScope ["value", "least", "most"] ["value", "least", "most"] (defScope s_is_number) := ⟨rfl, rfl, rfl, by decide +kernel, rfl, by decide +kernel, by decide +kernel⟩
noncomputable def b_is_number : SV :=
    (sRet (eAndD (eOp2 isi2 (eV 0) (eC (.ty "int"))) (eAndD (eOp1 notD (eOp2 isi2 (eV 0) (eC (.ty "bool")))) (eChain leC leC (eV 1) (eV 0) (eV 2)))))
theorem b_is_number_ap (s : S) : b_is_number s = (sRet (eAndD (eOp2 isi2 (eV 0) (eC (.ty "int"))) (eAndD (eOp1 notD (eOp2 isi2 (eV 0) (eC (.ty "bool")))) (eChain leC leC (eV 1) (eV 0) (eV 2))))) s := nr rfl
noncomputable def m_is_number : Fn := sld (defF 3 3 b_is_number)
theorem m_is_number_ap (args : List RV) (W : List (List D)) : m_is_number args W = defF 3 3 b_is_number args W := fn_sld _ _ _
theorem ok_is_number {w : World} {K : PySem.W.Frag} {mg : Str → Option Value} {base : Heap} {tb : List Addr} (B : Bl mg) (R : Rw K mg base tb) (XF0 : XF K mg T) : Has prog w K mg base tb 1 "is_number" ["value", "least", "most"] m_is_number :=
  Has.sld <| Has.of R.r_is_number sc_is_number fun f cdv A outer s H E G ht hr =>
    (ss_one (sd_ret (ed_andV (ed_b2 call_isi opv_isi (by rfl) B.n_isinstance bt_isinstance (ed_v 0) (ed_ty (by rfl) B.n_int bt_int)) (ed_andV (ed_notV (ed_b2 call_isi opv_isi (by rfl) B.n_isinstance bt_isinstance (ed_v 0) (ed_ty (by rfl) B.n_bool bt_bool))) (ed_oneV (ed_chain op_leA opv_le op_leA opv_le (ed_v 1) (ed_v 0) (ed_v 2)))))))
/-! length -/
abbrev s_length : Stmt := topS 18
theorem sc_length : FnScope ["repeats", "_", "times"] ["repeats"] (defScope s_length) := ⟨rfl, rfl, rfl, by decide +kernel, rfl, by decide +kernel, by decide +kernel⟩
noncomputable def x_length_1 : EV := (eV 2)
theorem x_length_1_ap (s : S) : x_length_1 s = (eV 2) s := nr rfl
noncomputable def c_length_1 : EV := eComp [1, 2] (iOf (eV 0)) (gTupD (lenIs 2 (gConsD (gSet 1) (gConsD (gSet 2) gNilD)))) tTrue x_length_1
theorem c_length_1_ap (s : S) : c_length_1 s = (eComp [1, 2] (iOf (eV 0)) (gTupD (lenIs 2 (gConsD (gSet 1) (gConsD (gSet 2) gNilD)))) tTrue x_length_1) s := nr rfl
noncomputable def b_length : SV :=
    (sRet (eOp1 sumA c_length_1))
theorem b_length_ap (s : S) : b_length s = (sRet (eOp1 sumA c_length_1)) s := nr rfl
noncomputable def m_length : Fn := sld (defF 1 3 b_length)
theorem m_length_ap (args : List RV) (W : List (List D)) : m_length args W = defF 1 3 b_length args W := fn_sld _ _ _
theorem ok_length {w : World} {K : PySem.W.Frag} {mg : Str → Option Value} {base : Heap} {tb : List Addr} (B : Bl mg) (R : Rw K mg base tb) (XF0 : XF K mg T) : Has prog w K mg base tb 1 "length" ["repeats"] m_length :=
  Has.sld <| Has.of R.r_length sc_length fun f cdv A outer s H E G ht hr =>
    (ss_one (sd_ret (ed_b1 (cr_sumA rfl) opv_sumA (by rfl) B.n_sum bt_sum (ed_comp0 [("_", 1), ("times", 2)] rfl sc_length.nd (id_val (ed_v 0)) (blk_ok (by kernel_rfl)) (fun _ _ _ _ _ => (gv_tup rfl (gsv_cons (gv_name (i := 1) (by decide) sc_length.nd rfl (.inl rfl)) (gsv_cons (gv_name (i := 2) (by decide) sc_length.nd rfl (.inl rfl)) gsv_nil)))) (fun _ _ _ _ _ => (ed_v 2))))))
/-! item_at -/
abbrev s_item_at : Stmt := topS 19
theorem sc_item_at : FnScope ["repeats", "place", "value", "times"] ["repeats", "place"] (defScope s_item_at) := ⟨rfl, rfl, rfl, by decide +kernel, rfl, by decide +kernel, by decide +kernel⟩
noncomputable def l_item_at_1 : SV := (sSeq (sIf (tOfB (eOp2 ltC (eV 1) (eV 3))) (sRet (eV 2)) sNil)
    (sAug 1 augSub (eV 3)))
theorem l_item_at_1_ap (s : S) : l_item_at_1 s = (sSeq (sIf (tOfB (eOp2 ltC (eV 1) (eV 3))) (sRet (eV 2)) sNil)
    (sAug 1 augSub (eV 3))) s := nr rfl
noncomputable def b_item_at : SV :=
    (sSeq (sIf (tNotD (tOf (eCall m_is_number (aCons (eV 1) (aCons (eC (.int 0)) (aCons (eOp2 subD (eCall m_length (aCons (eV 0) aNil)) (eC (.int 1))) aNil)))))) (sRaise "OutOfRange") sNil)
    (sSeq (sFor (iOf (eV 0)) (gTupD (lenIs 2 (gConsD (gSet 2) (gConsD (gSet 3) gNilD)))) l_item_at_1)
    (sRet (eC .non))))
theorem b_item_at_ap (s : S) : b_item_at s = (sSeq (sIf (tNotD (tOf (eCall m_is_number (aCons (eV 1) (aCons (eC (.int 0)) (aCons (eOp2 subD (eCall m_length (aCons (eV 0) aNil)) (eC (.int 1))) aNil)))))) (sRaise "OutOfRange") sNil)
    (sSeq (sFor (iOf (eV 0)) (gTupD (lenIs 2 (gConsD (gSet 2) (gConsD (gSet 3) gNilD)))) l_item_at_1)
    (sRet (eC .non)))) s := nr rfl
noncomputable def m_item_at : Fn := sld (defF 2 4 b_item_at)
theorem m_item_at_ap (args : List RV) (W : List (List D)) : m_item_at args W = defF 2 4 b_item_at args W := fn_sld _ _ _
theorem ok_item_at {w : World} {K : PySem.W.Frag} {mg : Str → Option Value} {base : Heap} {tb : List Addr} (B : Bl mg) (R : Rw K mg base tb) (XF0 : XF K mg T) (h_is_number : Has prog w K mg base tb 1 "is_number" ["value", "least", "most"] m_is_number) (h_length : Has prog w K mg base tb 1 "length" ["repeats"] m_length) : Has prog w K mg base tb 2 "item_at" ["repeats", "place"] m_item_at :=
  Has.sld <| Has.of R.r_item_at sc_item_at fun f cdv A outer s H E G ht hr =>
    (ss_cons (sd_if (td_not (td_val (ed_callH h_is_number hr ht takes_cx (ad_cons (ed_v 1) (ad_cons ed_int (ad_cons (ed_sub (ed_callH h_length hr ht takes_cx (ad_cons (ed_v 0) ad_nil) (by decide)) ed_int) ad_nil))) (by decide)))) (ss_one (sd_raiseD (F := XF0) rfl takes_cx T_OutOfRange_OutOfRange)) ss_nil)
    (ss_cons (sd_for owns_cx rfl (id_val (ed_v 0)) (gd_tup rfl (gs_cons (gd_name (i := 2) sc_item_at.nd rfl (.inl rfl)) (gs_cons (gd_name (i := 3) sc_item_at.nd rfl (.inl rfl)) gs_nil))) (ss_cons (sd_if (td_cmp (op_ltA (u64 hr)) opv_lt (ed_v 1) (ed_v 3) (by rfl)) (ss_one (sd_ret (ed_v 2))) ss_nil)
    (ss_one (sd_aug (i := 1) sc_item_at.nd rfl (.inl rfl) op_isub opv_augSub (ed_v 3)))))
    (ss_one (sd_ret ed_non))))
/-! folded -/
abbrev s_folded : Stmt := topS 15
theorem sc_folded : FnScope ["rows", "found", "row"] ["rows"] (defScope s_folded) := ⟨rfl, rfl, rfl, by decide +kernel, rfl, by decide +kernel, by decide +kernel⟩
noncomputable def l_folded_1 : SV := (sIf (tOfB (eOp2 gtC (eOp2 ixD (eV 2) (eOp1 negD (eC (.int 1)))) (eC (.int 0)))) (sIf (tAndD (tOfB (eOp2 gtC (eOp1 lenD (eV 1)) (eC (.int 0)))) (tOfB (eOp2 eqC (eSl (eOp2 ixD (eV 1) (eOp1 negD (eC (.int 1)))) oNo (oSo (eOp1 negD (eC (.int 1))))) (eSl (eV 2) oNo (oSo (eOp1 negD (eC (.int 1)))))))) (sAsg (eTup (aStar (eSl (eV 2) oNo (oSo (eOp1 negD (eC (.int 1))))) (aCons (eOp2 addD (eOp2 ixD (eOp2 ixD (eV 1) (eOp1 negD (eC (.int 1)))) (eOp1 negD (eC (.int 1)))) (eOp2 ixD (eV 2) (eOp1 negD (eC (.int 1))))) aNil))) (gSubD 1 (eOp1 negD (eC (.int 1))))) (sEx (eApp 1 (eOp1 tupleD (eV 2))))) sNil)
theorem l_folded_1_ap (s : S) : l_folded_1 s = (sIf (tOfB (eOp2 gtC (eOp2 ixD (eV 2) (eOp1 negD (eC (.int 1)))) (eC (.int 0)))) (sIf (tAndD (tOfB (eOp2 gtC (eOp1 lenD (eV 1)) (eC (.int 0)))) (tOfB (eOp2 eqC (eSl (eOp2 ixD (eV 1) (eOp1 negD (eC (.int 1)))) oNo (oSo (eOp1 negD (eC (.int 1))))) (eSl (eV 2) oNo (oSo (eOp1 negD (eC (.int 1)))))))) (sAsg (eTup (aStar (eSl (eV 2) oNo (oSo (eOp1 negD (eC (.int 1))))) (aCons (eOp2 addD (eOp2 ixD (eOp2 ixD (eV 1) (eOp1 negD (eC (.int 1)))) (eOp1 negD (eC (.int 1)))) (eOp2 ixD (eV 2) (eOp1 negD (eC (.int 1))))) aNil))) (gSubD 1 (eOp1 negD (eC (.int 1))))) (sEx (eApp 1 (eOp1 tupleD (eV 2))))) sNil) s := nr rfl
noncomputable def b_folded : SV :=
    (sSeq (sAsg (eLst aNil) (gSet 1))
    (sSeq (sFor (iOf (eV 0)) (gSet 2) l_folded_1)
    (sRet (eOp1 tupleD (eV 1)))))
theorem b_folded_ap (s : S) : b_folded s = (sSeq (sAsg (eLst aNil) (gSet 1))
    (sSeq (sFor (iOf (eV 0)) (gSet 2) l_folded_1)
    (sRet (eOp1 tupleD (eV 1))))) s := nr rfl
noncomputable def m_folded : Fn := sld (defF 1 3 b_folded)
theorem m_folded_ap (args : List RV) (W : List (List D)) : m_folded args W = defF 1 3 b_folded args W := fn_sld _ _ _
theorem ok_folded {w : World} {K : PySem.W.Frag} {mg : Str → Option Value} {base : Heap} {tb : List Addr} (B : Bl mg) (R : Rw K mg base tb) (XF0 : XF K mg T) : Has prog w K mg base tb 1 "folded" ["rows"] m_folded :=
  Has.sld <| Has.of R.r_folded sc_folded fun f cdv A outer s H E G ht hr =>
    (ss_cons (sd_set (i := 1) sc_folded.nd rfl (.inl rfl) (ed_lst ad_nil))
    (ss_cons (sd_for owns_cx rfl (id_val (ed_v 0)) (gd_name (i := 2) sc_folded.nd rfl (.inl rfl)) (ss_one (sd_if (td_cmp op_gtA opv_gt (ed_ix (ed_v 2) (ed_neg ed_int)) ed_int (by rfl)) (ss_one (sd_if (WD.td (wd_and (td_cmp op_gtA opv_gt (ed_b1 call_lenA opv_len (by rfl) B.n_len bt_len (ed_v 1)) ed_int (by rfl)) (wd_and1 (td_cmp (op_eqA (u64 hr)) opv_eq (ed_sl (ed_ix (ed_v 1) (ed_neg ed_int)) od_no (od_so (ed_neg ed_int))) (ed_sl (ed_v 2) od_no (od_so (ed_neg ed_int))) (by rfl))))) (ss_one (sd_asg (ed_tup (ad_star (ed_sl (ed_v 2) od_no (od_so (ed_neg ed_int))) (ad_cons (ed_add (ed_ix (ed_ix (ed_v 1) (ed_neg ed_int)) (ed_neg ed_int)) (ed_ix (ed_v 2) (ed_neg ed_int))) ad_nil))) (gd_sub 1 (pv 1) (ed_neg ed_int)))) (ss_one (sd_expr (ed_append 1 (pv 1) (ed_t1 call_tuple_of opv_tuple (by rfl) B.n_tuple bt_tuple (ed_v 2))))))) ss_nil)))
    (ss_one (sd_ret (ed_t1 call_tuple_of opv_tuple (by rfl) B.n_tuple bt_tuple (ed_v 1))))))
/-! part_of -/
abbrev s_part_of : Stmt := topS 20
theorem sc_part_of : FnScope ["repeats", "i", "j", "found", "begin", "value", "times"] ["repeats", "i", "j"] (defScope s_part_of) := ⟨rfl, rfl, rfl, by decide +kernel, rfl, by decide +kernel, by decide +kernel⟩
noncomputable def l_part_of_1 : SV := (sSeq (sEx (eApp 3 (eTup (aCons (eV 5) (aCons (eOp2 max2D (eC (.int 0)) (eOp2 subD (eOp2 min2D (eV 2) (eOp2 addD (eV 4) (eV 6))) (eOp2 max2D (eV 1) (eV 4)))) aNil)))))
    (sAug 4 augAdd (eV 6)))
theorem l_part_of_1_ap (s : S) : l_part_of_1 s = (sSeq (sEx (eApp 3 (eTup (aCons (eV 5) (aCons (eOp2 max2D (eC (.int 0)) (eOp2 subD (eOp2 min2D (eV 2) (eOp2 addD (eV 4) (eV 6))) (eOp2 max2D (eV 1) (eV 4)))) aNil)))))
    (sAug 4 augAdd (eV 6))) s := nr rfl
noncomputable def b_part_of : SV :=
    (sSeq (sIf (tOrD (tNotD (tOf (eCall m_is_number (aCons (eV 1) (aCons (eC (.int 0)) (aCons (eOp2 subD (eCall m_length (aCons (eV 0) aNil)) (eC (.int 1))) aNil)))))) (tNotD (tOf (eCall m_is_number (aCons (eV 2) (aCons (eOp2 addD (eV 1) (eC (.int 1))) (aCons (eCall m_length (aCons (eV 0) aNil)) aNil))))))) (sRaise "OutOfRange") sNil)
    (sSeq (sPar 3 4 (eLst aNil) (eC (.int 0)))
    (sSeq (sFor (iOf (eV 0)) (gTupD (lenIs 2 (gConsD (gSet 5) (gConsD (gSet 6) gNilD)))) l_part_of_1)
    (sRet (eCall m_folded (aCons (eV 3) aNil))))))
theorem b_part_of_ap (s : S) : b_part_of s = (sSeq (sIf (tOrD (tNotD (tOf (eCall m_is_number (aCons (eV 1) (aCons (eC (.int 0)) (aCons (eOp2 subD (eCall m_length (aCons (eV 0) aNil)) (eC (.int 1))) aNil)))))) (tNotD (tOf (eCall m_is_number (aCons (eV 2) (aCons (eOp2 addD (eV 1) (eC (.int 1))) (aCons (eCall m_length (aCons (eV 0) aNil)) aNil))))))) (sRaise "OutOfRange") sNil)
    (sSeq (sPar 3 4 (eLst aNil) (eC (.int 0)))
    (sSeq (sFor (iOf (eV 0)) (gTupD (lenIs 2 (gConsD (gSet 5) (gConsD (gSet 6) gNilD)))) l_part_of_1)
    (sRet (eCall m_folded (aCons (eV 3) aNil)))))) s := nr rfl
noncomputable def m_part_of : Fn := sld (defF 3 7 b_part_of)
theorem m_part_of_ap (args : List RV) (W : List (List D)) : m_part_of args W = defF 3 7 b_part_of args W := fn_sld _ _ _
theorem ok_part_of {w : World} {K : PySem.W.Frag} {mg : Str → Option Value} {base : Heap} {tb : List Addr} (B : Bl mg) (R : Rw K mg base tb) (XF0 : XF K mg T) (h_is_number : Has prog w K mg base tb 1 "is_number" ["value", "least", "most"] m_is_number) (h_length : Has prog w K mg base tb 1 "length" ["repeats"] m_length) (h_folded : Has prog w K mg base tb 1 "folded" ["rows"] m_folded) : Has prog w K mg base tb 2 "part_of" ["repeats", "i", "j"] m_part_of :=
  Has.sld <| Has.of R.r_part_of sc_part_of fun f cdv A outer s H E G ht hr =>
    (ss_cons (sd_if (WD.td (wd_or (td_not (td_val (ed_callH h_is_number hr ht takes_cx (ad_cons (ed_v 1) (ad_cons ed_int (ad_cons (ed_sub (ed_callH h_length hr ht takes_cx (ad_cons (ed_v 0) ad_nil) (by decide)) ed_int) ad_nil))) (by decide)))) (wd_or1 (td_not (td_val (ed_callH h_is_number hr ht takes_cx (ad_cons (ed_v 2) (ad_cons (ed_add (ed_v 1) ed_int) (ad_cons (ed_callH h_length hr ht takes_cx (ad_cons (ed_v 0) ad_nil) (by decide)) ad_nil))) (by decide))))))) (ss_one (sd_raiseD (F := XF0) rfl takes_cx T_OutOfRange_OutOfRange)) ss_nil)
    (ss_cons (sd_par (i := 3) (j := 4) rfl sc_part_of.nd rfl rfl (by decide) rfl rfl (ed_lst ad_nil) ed_int (by kernel_rfl))
    (ss_cons (sd_for owns_cx rfl (id_val (ed_v 0)) (gd_tup rfl (gs_cons (gd_name (i := 5) sc_part_of.nd rfl (.inl rfl)) (gs_cons (gd_name (i := 6) sc_part_of.nd rfl (.inl rfl)) gs_nil))) (ss_cons (sd_expr (ed_append 3 (pv 3) (ed_tup (ad_cons (ed_v 5) (ad_cons (ed_b2 (call_max2 rfl) opv_max2 (by rfl) B.n_max bt_max ed_int (ed_sub (ed_b2 (call_min2 rfl) opv_min2 (by rfl) B.n_min bt_min (ed_v 2) (ed_add (ed_v 4) (ed_v 6))) (ed_b2 (call_max2 rfl) opv_max2 (by rfl) B.n_max bt_max (ed_v 1) (ed_v 4)))) ad_nil)))))
    (ss_one (sd_aug (i := 4) sc_part_of.nd rfl (.inl rfl) op_iadd opv_augAdd (ed_v 6)))))
    (ss_one (sd_ret (ed_callH h_folded hr ht takes_cx (ad_cons (ed_v 3) ad_nil) (by decide)))))))
/-! _law_word -/
abbrev s__law_word : Stmt := topS 28
theorem sc__law_word : FnScope ["e", "kinds", "kind"] ["e"] (defScope s__law_word) := ⟨rfl, rfl, rfl, by decide +kernel, rfl, by decide +kernel, by decide +kernel⟩
noncomputable def x__law_word_1 (nm : PySem.Str) : EV := (eV 2)
theorem x__law_word_1_ap (nm : PySem.Str) (s : S) : x__law_word_1 nm s = (eV 2) s := nr rfl
noncomputable def t__law_word_1 (nm : PySem.Str) : TV := (tOf (eV 2))
theorem t__law_word_1_ap (nm : PySem.Str) (s : S) : t__law_word_1 nm s = (tOf (eV 2)) s := nr rfl
noncomputable def c__law_word_1 (nm : PySem.Str) : EV := eComp [2] (iOfL (eV 1)) (gSet 2) (t__law_word_1 nm) (x__law_word_1 nm)
theorem c__law_word_1_ap (nm : PySem.Str) (s : S) : c__law_word_1 nm s = (eComp [2] (iOfL (eV 1)) (gSet 2) (t__law_word_1 nm) (x__law_word_1 nm)) s := nr rfl
noncomputable def b__law_word (nm : PySem.Str) : SV :=
    (sSeq (sAsg (eLst (aCons (eIsX T 0 nm "OutOfRange") (aCons (eIsX T 0 nm "Malformed") (aCons (eIsX T 0 nm "NotThere") (aCons (eIsX T 0 nm "Refused") (aCons (eIsX T 0 nm "TooMuch") aNil)))))) (gSet 1))
    (sSeq (sIf (tOrD (tNotD (tOf (eIsX T 0 nm "ValueError"))) (tOfB (eOp2 neC (eOp1 lenD (c__law_word_1 nm)) (eC (.int 1))))) (sRet (eC (.str "many"))) sNil)
    (sRet (eOp2 ixD (eLst (aCons (eC (.str "range")) (aCons (eC (.str "form")) (aCons (eC (.str "none")) (aCons (eC (.str "refused")) (aCons (eC (.str "much")) aNil)))))) (eM1 idxD (eV 1) (eC (.bl true)))))))
theorem b__law_word_ap (nm : PySem.Str) (s : S) : b__law_word nm s = (sSeq (sAsg (eLst (aCons (eIsX T 0 nm "OutOfRange") (aCons (eIsX T 0 nm "Malformed") (aCons (eIsX T 0 nm "NotThere") (aCons (eIsX T 0 nm "Refused") (aCons (eIsX T 0 nm "TooMuch") aNil)))))) (gSet 1))
    (sSeq (sIf (tOrD (tNotD (tOf (eIsX T 0 nm "ValueError"))) (tOfB (eOp2 neC (eOp1 lenD (c__law_word_1 nm)) (eC (.int 1))))) (sRet (eC (.str "many"))) sNil)
    (sRet (eOp2 ixD (eLst (aCons (eC (.str "range")) (aCons (eC (.str "form")) (aCons (eC (.str "none")) (aCons (eC (.str "refused")) (aCons (eC (.str "much")) aNil)))))) (eM1 idxD (eV 1) (eC (.bl true))))))) s := nr rfl
noncomputable def m__law_word : PySem.Str → List (List D) → Rf := sld fun nm W => outF (b__law_word nm ⟨.ex :: List.replicate 2 .no, W⟩)
theorem m__law_word_ap (nm : PySem.Str) (W : List (List D)) : m__law_word nm W = outF (b__law_word nm ⟨.ex :: List.replicate 2 .no, W⟩) := fx_sld _ _ _
theorem ok__law_word {w : World} {K : PySem.W.Frag} {mg : Str → Option Value} {base : Heap} {tb : List Addr} (B : Bl mg) (R : Rw K mg base tb) (XF0 : XF K mg T) : HasX prog w K mg base tb 1 "_law_word" "e" m__law_word :=
  HasX.sld <| HasX.of (k := 0) (n := 2) (body := fun nm => b__law_word nm) R.r__law_word sc__law_word rfl fun f cdv A outer s H E p nm G ht hr hx =>
    (ss_cons (sd_set (i := 1) sc__law_word.nd rfl (.inl rfl) (ed_lst (ad_cons (ed_isC XF0 hx 0 B.n_isinstance T_OutOfRange_OutOfRange) (ad_cons (ed_isC XF0 hx 0 B.n_isinstance T_Malformed_Malformed) (ad_cons (ed_isC XF0 hx 0 B.n_isinstance T_NotThere_NotThere) (ad_cons (ed_isC XF0 hx 0 B.n_isinstance T_Refused_Refused) (ad_cons (ed_isC XF0 hx 0 B.n_isinstance T_TooMuch_TooMuch) ad_nil)))))))
    (ss_cons (sd_if (WD.td (wd_or (td_not (td_val (ed_isV XF0 hx 0 B.n_isinstance B.n_ValueError))) (wd_or1 (td_cmp (op_neA (u64H hr)) opv_ne (ed_b1 call_lenA opv_len (by rfl) B.n_len bt_len (ed_compH1 [("kind", 2)] hx sc__law_word.nd (id_listH (ed_v 1)) (blk_ok (by kernel_rfl)) (fun _ _ _ _ _ _ hc => (gv_name (i := 2) (by decide) sc__law_word.nd rfl (.inl rfl))) (fun _ _ _ _ _ _ => (td_val (ed_v 2))) (fun _ _ _ _ _ _ => (ed_v 2)))) ed_int (by rfl))))) (ss_one (sd_ret ed_str)) ss_nil)
    (ss_one (sd_ret (ed_ix (ed_lst (ad_cons ed_str (ad_cons ed_str (ad_cons ed_str (ad_cons ed_str (ad_cons ed_str ad_nil)))))) (ed_index (ed_v 1) ed_bl))))))
/-! behind -/
abbrev s_behind : Stmt := topS 21
theorem sc_behind : FnScope ["one", "other"] ["one", "other"] (defScope s_behind) := ⟨rfl, rfl, rfl, by decide +kernel, rfl, by decide +kernel, by decide +kernel⟩
noncomputable def b_behind : SV :=
    (sSeq (sIf (tOfB (eOp2 gtC (eOp2 addD (eCall m_length (aCons (eV 0) aNil)) (eCall m_length (aCons (eV 1) aNil))) (eC (.int 200)))) (sRaise "TooMuch") sNil)
    (sRet (eCall m_folded (aCons (eOp2 addD (eV 0) (eV 1)) aNil))))
theorem b_behind_ap (s : S) : b_behind s = (sSeq (sIf (tOfB (eOp2 gtC (eOp2 addD (eCall m_length (aCons (eV 0) aNil)) (eCall m_length (aCons (eV 1) aNil))) (eC (.int 200)))) (sRaise "TooMuch") sNil)
    (sRet (eCall m_folded (aCons (eOp2 addD (eV 0) (eV 1)) aNil)))) s := nr rfl
noncomputable def m_behind : Fn := sld (defF 2 2 b_behind)
theorem m_behind_ap (args : List RV) (W : List (List D)) : m_behind args W = defF 2 2 b_behind args W := fn_sld _ _ _
theorem ok_behind {w : World} {K : PySem.W.Frag} {mg : Str → Option Value} {base : Heap} {tb : List Addr} (B : Bl mg) (R : Rw K mg base tb) (XF0 : XF K mg T) {t_MOST_ITEMS : Tok} (c_MOST_ITEMS : mg "MOST_ITEMS" = some (.int 200 t_MOST_ITEMS)) (h_length : Has prog w K mg base tb 1 "length" ["repeats"] m_length) (h_folded : Has prog w K mg base tb 1 "folded" ["rows"] m_folded) : Has prog w K mg base tb 2 "behind" ["one", "other"] m_behind :=
  Has.sld <| Has.of R.r_behind sc_behind fun f cdv A outer s H E G ht hr =>
    (ss_cons (sd_if (td_cmp op_gtA opv_gt (ed_add (ed_callH h_length hr ht takes_cx (ad_cons (ed_v 0) ad_nil) (by decide)) (ed_callH h_length hr ht takes_cx (ad_cons (ed_v 1) ad_nil) (by decide))) (ed_globI (by rfl) c_MOST_ITEMS) (by rfl)) (ss_one (sd_raiseD (F := XF0) rfl takes_cx T_TooMuch_TooMuch)) ss_nil)
    (ss_one (sd_ret (ed_callH h_folded hr ht takes_cx (ad_cons (ed_add (ed_v 0) (ed_v 1)) ad_nil) (by decide)))))
/-! pairing -/
abbrev s_pairing : Stmt := topS 22
theorem sc_pairing : FnScope ["one", "other", "found", "at", "left", "value", "times", "taken"] ["one", "other"] (defScope s_pairing) := ⟨rfl, rfl, rfl, by decide +kernel, rfl, by decide +kernel, by decide +kernel⟩
noncomputable def l_pairing_1 : SV := (sSeq (sAsg (eOp2 min2D (eV 6) (eV 4)) (gSet 7))
    (sSeq (sEx (eApp 2 (eTup (aCons (eV 5) (aCons (eOp2 ixD (eOp2 ixD (eV 1) (eV 3)) (eC (.int 0))) (aCons (eV 7) aNil))))))
    (sSeq (sPar 6 4 (eOp2 subD (eV 6) (eV 7)) (eOp2 subD (eV 4) (eV 7)))
    (sIf (tAndD (tOfB (eOp2 eqC (eV 4) (eC (.int 0)))) (tOfB (eOp2 ltC (eOp2 addD (eV 3) (eC (.int 1))) (eOp1 lenD (eV 1))))) (sSeq (sAug 3 augAdd (eC (.int 1)))
    (sAsg (eOp2 ixD (eOp2 ixD (eV 1) (eV 3)) (eC (.int 1))) (gSet 4))) sNil))))
theorem l_pairing_1_ap (s : S) : l_pairing_1 s = (sSeq (sAsg (eOp2 min2D (eV 6) (eV 4)) (gSet 7))
    (sSeq (sEx (eApp 2 (eTup (aCons (eV 5) (aCons (eOp2 ixD (eOp2 ixD (eV 1) (eV 3)) (eC (.int 0))) (aCons (eV 7) aNil))))))
    (sSeq (sPar 6 4 (eOp2 subD (eV 6) (eV 7)) (eOp2 subD (eV 4) (eV 7)))
    (sIf (tAndD (tOfB (eOp2 eqC (eV 4) (eC (.int 0)))) (tOfB (eOp2 ltC (eOp2 addD (eV 3) (eC (.int 1))) (eOp1 lenD (eV 1))))) (sSeq (sAug 3 augAdd (eC (.int 1)))
    (sAsg (eOp2 ixD (eOp2 ixD (eV 1) (eV 3)) (eC (.int 1))) (gSet 4))) sNil)))) s := nr rfl
noncomputable def l_pairing_2 : SV := (sWhile fuel (tOfB (eOp2 gtC (eV 6) (eC (.int 0)))) l_pairing_1)
theorem l_pairing_2_ap (s : S) : l_pairing_2 s = (sWhile fuel (tOfB (eOp2 gtC (eV 6) (eC (.int 0)))) l_pairing_1) s := nr rfl
noncomputable def b_pairing : SV :=
    (sSeq (sIf (tOfB (eOp2 neC (eCall m_length (aCons (eV 0) aNil)) (eCall m_length (aCons (eV 1) aNil)))) (sRaise "Refused") sNil)
    (sSeq (sAsg (eLst aNil) (gSet 2))
    (sSeq (sPar 3 4 (eC (.int 0)) (eOp2 ixD (eOp2 ixD (eV 1) (eC (.int 0))) (eC (.int 1))))
    (sSeq (sFor (iOf (eV 0)) (gTupD (lenIs 2 (gConsD (gSet 5) (gConsD (gSet 6) gNilD)))) l_pairing_2)
    (sRet (eCall m_folded (aCons (eV 2) aNil)))))))
theorem b_pairing_ap (s : S) : b_pairing s = (sSeq (sIf (tOfB (eOp2 neC (eCall m_length (aCons (eV 0) aNil)) (eCall m_length (aCons (eV 1) aNil)))) (sRaise "Refused") sNil)
    (sSeq (sAsg (eLst aNil) (gSet 2))
    (sSeq (sPar 3 4 (eC (.int 0)) (eOp2 ixD (eOp2 ixD (eV 1) (eC (.int 0))) (eC (.int 1))))
    (sSeq (sFor (iOf (eV 0)) (gTupD (lenIs 2 (gConsD (gSet 5) (gConsD (gSet 6) gNilD)))) l_pairing_2)
    (sRet (eCall m_folded (aCons (eV 2) aNil))))))) s := nr rfl
noncomputable def m_pairing : Fn := sld (defF 2 8 b_pairing)
theorem m_pairing_ap (args : List RV) (W : List (List D)) : m_pairing args W = defF 2 8 b_pairing args W := fn_sld _ _ _
theorem ok_pairing {w : World} {K : PySem.W.Frag} {mg : Str → Option Value} {base : Heap} {tb : List Addr} (B : Bl mg) (R : Rw K mg base tb) (XF0 : XF K mg T) (h_length : Has prog w K mg base tb 1 "length" ["repeats"] m_length) (h_folded : Has prog w K mg base tb 1 "folded" ["rows"] m_folded) : Has prog w K mg base tb 2 "pairing" ["one", "other"] m_pairing :=
  Has.sld <| Has.of R.r_pairing sc_pairing fun f cdv A outer s H E G ht hr =>
    (ss_cons (sd_if (td_cmp (op_neA (u64 hr)) opv_ne (ed_callH h_length hr ht takes_cx (ad_cons (ed_v 0) ad_nil) (by decide)) (ed_callH h_length hr ht takes_cx (ad_cons (ed_v 1) ad_nil) (by decide)) (by rfl)) (ss_one (sd_raiseD (F := XF0) rfl takes_cx T_Refused_Refused)) ss_nil)
    (ss_cons (sd_set (i := 2) sc_pairing.nd rfl (.inl rfl) (ed_lst ad_nil))
    (ss_cons (sd_par (i := 3) (j := 4) rfl sc_pairing.nd rfl rfl (by decide) rfl rfl ed_int (ed_ix (ed_ix (ed_v 1) ed_int) ed_int) (by kernel_rfl))
    (ss_cons (sd_for owns_cx rfl (id_val (ed_v 0)) (gd_tup rfl (gs_cons (gd_name (i := 5) sc_pairing.nd rfl (.inl rfl)) (gs_cons (gd_name (i := 6) sc_pairing.nd rfl (.inl rfl)) gs_nil))) (ss_one (sd_while fuel owns_cx (td_cmp op_gtA opv_gt (ed_v 6) ed_int (by rfl)) (ss_cons (sd_set (i := 7) sc_pairing.nd rfl (.inl rfl) (ed_b2 (call_min2 rfl) opv_min2 (by rfl) B.n_min bt_min (ed_v 6) (ed_v 4)))
    (ss_cons (sd_expr (ed_append 2 (pv 2) (ed_tup (ad_cons (ed_v 5) (ad_cons (ed_ix (ed_ix (ed_v 1) (ed_v 3)) ed_int) (ad_cons (ed_v 7) ad_nil))))))
    (ss_cons (sd_par (i := 6) (j := 4) rfl sc_pairing.nd rfl rfl (by decide) rfl rfl (ed_sub (ed_v 6) (ed_v 7)) (ed_sub (ed_v 4) (ed_v 7)) (by kernel_rfl))
    (ss_one (sd_if (WD.td (wd_and (td_cmp (op_eqA (u64 hr)) opv_eq (ed_v 4) ed_int (by rfl)) (wd_and1 (td_cmp (op_ltA (u64 hr)) opv_lt (ed_add (ed_v 3) ed_int) (ed_b1 call_lenA opv_len (by rfl) B.n_len bt_len (ed_v 1)) (by rfl))))) (ss_cons (sd_aug (i := 3) sc_pairing.nd rfl (.inl rfl) op_iadd opv_augAdd ed_int)
    (ss_one (sd_set (i := 4) sc_pairing.nd rfl (.inl rfl) (ed_ix (ed_ix (ed_v 1) (ed_v 3)) ed_int)))) ss_nil))))))))
    (ss_one (sd_ret (ed_callH h_folded hr ht takes_cx (ad_cons (ed_v 2) ad_nil) (by decide))))))))
/-! _law_told -/
abbrev s__law_told : Stmt := topS 32
theorem sc__law_told : FnScope ["which", "one", "other", "more", "e"] ["which", "one", "other", "more"] (defScope s__law_told) := ⟨rfl, rfl, rfl, by decide +kernel, rfl, by decide +kernel, by decide +kernel⟩
noncomputable def y__law_told_1 : SV := (sSeq (sIf (tOfB (eOp2 eqC (eV 0) (eC (.int 0)))) (sRet (eCall m_item_at (aCons (eV 1) (aCons (eV 2) aNil)))) sNil)
    (sSeq (sIf (tOfB (eOp2 eqC (eV 0) (eC (.int 1)))) (sRet (eCall m_part_of (aCons (eV 1) (aCons (eV 2) (aCons (eV 3) aNil))))) sNil)
    (sRet (eCallV (eOp2 ixD (eLst (aCons (eC (.glb "behind")) (aCons (eC (.glb "pairing")) aNil))) (eOp2 subD (eV 0) (eC (.int 2)))) [("behind", m_behind), ("pairing", m_pairing)] (aCons (eV 1) (aCons (eV 2) aNil))))))
theorem y__law_told_1_ap (s : S) : y__law_told_1 s = (sSeq (sIf (tOfB (eOp2 eqC (eV 0) (eC (.int 0)))) (sRet (eCall m_item_at (aCons (eV 1) (aCons (eV 2) aNil)))) sNil)
    (sSeq (sIf (tOfB (eOp2 eqC (eV 0) (eC (.int 1)))) (sRet (eCall m_part_of (aCons (eV 1) (aCons (eV 2) (aCons (eV 3) aNil))))) sNil)
    (sRet (eCallV (eOp2 ixD (eLst (aCons (eC (.glb "behind")) (aCons (eC (.glb "pairing")) aNil))) (eOp2 subD (eV 0) (eC (.int 2)))) [("behind", m_behind), ("pairing", m_pairing)] (aCons (eV 1) (aCons (eV 2) aNil)))))) s := nr rfl
noncomputable def q__law_told_2 (nm : PySem.Str) : SV := (sRet (eCallX 4 m__law_word nm))
theorem q__law_told_2_ap (nm : PySem.Str) (s : S) : q__law_told_2 nm s = (sRet (eCallX 4 m__law_word nm)) s := nr rfl
noncomputable def b__law_told : SV :=
    (sTry (fun nm => T nm "PageError") 4 y__law_told_1 q__law_told_2)
theorem b__law_told_ap (s : S) : b__law_told s = (sTry (fun nm => T nm "PageError") 4 y__law_told_1 q__law_told_2) s := nr rfl
noncomputable def m__law_told : Fn := sld (defF 4 5 b__law_told)
theorem m__law_told_ap (args : List RV) (W : List (List D)) : m__law_told args W = defF 4 5 b__law_told args W := fn_sld _ _ _
theorem ok__law_told {w : World} {K : PySem.W.Frag} {mg : Str → Option Value} {base : Heap} {tb : List Addr} (B : Bl mg) (R : Rw K mg base tb) (XF0 : XF K mg T) (h_item_at : Has prog w K mg base tb 2 "item_at" ["repeats", "place"] m_item_at) (h_part_of : Has prog w K mg base tb 2 "part_of" ["repeats", "i", "j"] m_part_of) (h__law_word : HasX prog w K mg base tb 1 "_law_word" "e" m__law_word) (h_behind : Has prog w K mg base tb 2 "behind" ["one", "other"] m_behind) (h_pairing : Has prog w K mg base tb 2 "pairing" ["one", "other"] m_pairing) : Has prog w K mg base tb 3 "_law_told" ["which", "one", "other", "more"] m__law_told :=
  Has.sld <| Has.of R.r__law_told sc__law_told fun f cdv A outer s H E G ht hr =>
    (ss_one (sd_tryP XF0 T_PageError_PageError rfl rfl sc__law_told.nd (i := 4) rfl rfl rfl (by decide) takes_cx (fun W pn xe tk po => (ss_cons (sd_if (td_cmp (op_eqA (u64 hr)) opv_eq (ed_v 0) ed_int (by rfl)) (ss_one (sd_ret (ed_callH h_item_at hr ht tk (ad_cons (ed_v 1) (ad_cons (ed_v 2) ad_nil)) (by decide)))) ss_nil)
    (ss_cons (sd_if (td_cmp (op_eqA (u64 hr)) opv_eq (ed_v 0) ed_int (by rfl)) (ss_one (sd_ret (ed_callH h_part_of hr ht tk (ad_cons (ed_v 1) (ad_cons (ed_v 2) (ad_cons (ed_v 3) ad_nil))) (by decide)))) ss_nil)
    (ss_one (sd_ret (ed_callV (ed_ix (ed_lst (ad_cons (ed_fn (by rfl) h_behind) (ad_cons (ed_fn (by rfl) h_pairing) ad_nil))) (ed_sub (ed_v 0) ed_int)) (lv_cons h_behind (by decide) (lv_cons h_pairing (by decide) lv_nil)) hr ht tk (ad_cons (ed_v 1) (ad_cons (ed_v 2) ad_nil)))))))) (fun nm a oe pn hk hx => (ss_one (sd_ret (ed_callW h__law_word (roomS hr rfl rfl) (by exact ht) takesX hx 4 (by decide)))))))
/-! width -/
abbrev s_width : Stmt := topS 13
theorem sc_width : FnScope ["number", "found"] ["number"] (defScope s_width) := ⟨rfl, rfl, rfl, by decide +kernel, rfl, by decide +kernel, by decide +kernel⟩
noncomputable def l_width_1 : SV := (sAug 1 augAdd (eC (.int 1)))
theorem l_width_1_ap (s : S) : l_width_1 s = (sAug 1 augAdd (eC (.int 1))) s := nr rfl
noncomputable def b_width : SV :=
    (sSeq (sAsg (eC (.int 0)) (gSet 1))
    (sSeq (sWhile fuel (tOfB (eOp2 geC (eV 0) (eOp2 shlD (eC (.int 1)) (eV 1)))) l_width_1)
    (sRet (eV 1))))
theorem b_width_ap (s : S) : b_width s = (sSeq (sAsg (eC (.int 0)) (gSet 1))
    (sSeq (sWhile fuel (tOfB (eOp2 geC (eV 0) (eOp2 shlD (eC (.int 1)) (eV 1)))) l_width_1)
    (sRet (eV 1)))) s := nr rfl
noncomputable def m_width : Fn := sld (defF 1 2 b_width)
theorem m_width_ap (args : List RV) (W : List (List D)) : m_width args W = defF 1 2 b_width args W := fn_sld _ _ _
theorem ok_width {w : World} {K : PySem.W.Frag} {mg : Str → Option Value} {base : Heap} {tb : List Addr} (B : Bl mg) (R : Rw K mg base tb) (XF0 : XF K mg T) : Has prog w K mg base tb 1 "width" ["number"] m_width :=
  Has.sld <| Has.of R.r_width sc_width fun f cdv A outer s H E G ht hr =>
    (ss_cons (sd_set (i := 1) sc_width.nd rfl (.inl rfl) ed_int)
    (ss_cons (sd_while fuel owns_cx (td_cmp op_geA opv_ge (ed_v 0) (ed_shl ed_int (ed_v 1)) (by rfl)) (ss_one (sd_aug (i := 1) sc_width.nd rfl (.inl rfl) op_iadd opv_augAdd ed_int)))
    (ss_one (sd_ret (ed_v 1)))))
/-! _law_width -/
abbrev s__law_width : Stmt := topS 31
theorem sc__law_width : FnScope ["number", "found"] ["number"] (defScope s__law_width) := ⟨rfl, rfl, rfl, by decide +kernel, rfl, by decide +kernel, by decide +kernel⟩
noncomputable def l__law_width_1 : SV := (sSeq (sAsg (eOp2 fdivD (eV 0) (eC (.int 2))) (gSet 0))
    (sAsg (eOp2 addD (eV 1) (eC (.int 1))) (gSet 1)))
theorem l__law_width_1_ap (s : S) : l__law_width_1 s = (sSeq (sAsg (eOp2 fdivD (eV 0) (eC (.int 2))) (gSet 0))
    (sAsg (eOp2 addD (eV 1) (eC (.int 1))) (gSet 1))) s := nr rfl
noncomputable def b__law_width : SV :=
    (sSeq (sAsg (eC (.int 0)) (gSet 1))
    (sSeq (sWhile fuel (tOfB (eOp2 gtC (eV 0) (eC (.int 0)))) l__law_width_1)
    (sRet (eV 1))))
theorem b__law_width_ap (s : S) : b__law_width s = (sSeq (sAsg (eC (.int 0)) (gSet 1))
    (sSeq (sWhile fuel (tOfB (eOp2 gtC (eV 0) (eC (.int 0)))) l__law_width_1)
    (sRet (eV 1)))) s := nr rfl
noncomputable def m__law_width : Fn := sld (defF 1 2 b__law_width)
theorem m__law_width_ap (args : List RV) (W : List (List D)) : m__law_width args W = defF 1 2 b__law_width args W := fn_sld _ _ _
theorem ok__law_width {w : World} {K : PySem.W.Frag} {mg : Str → Option Value} {base : Heap} {tb : List Addr} (B : Bl mg) (R : Rw K mg base tb) (XF0 : XF K mg T) : Has prog w K mg base tb 1 "_law_width" ["number"] m__law_width :=
  Has.sld <| Has.of R.r__law_width sc__law_width fun f cdv A outer s H E G ht hr =>
    (ss_cons (sd_set (i := 1) sc__law_width.nd rfl (.inl rfl) ed_int)
    (ss_cons (sd_while fuel owns_cx (td_cmp op_gtA opv_gt (ed_v 0) ed_int (by rfl)) (ss_cons (sd_set (i := 0) sc__law_width.nd rfl (.inl rfl) (ed_fdiv (ed_v 0) ed_int))
    (ss_one (sd_set (i := 1) sc__law_width.nd rfl (.inl rfl) (ed_add (ed_v 1) ed_int)))))
    (ss_one (sd_ret (ed_v 1)))))
/-! is_column -/
abbrev s_is_column : Stmt := topS 12
theorem sc_is_column : FnScope ["value", "one"] ["value"] (defScope s_is_column) := ⟨rfl, rfl, rfl, by decide +kernel, rfl, by decide +kernel, by decide +kernel⟩
noncomputable def x_is_column_1 : EV := (eCall m_is_number (aCons (eV 1) (aCons (eC (.int 0)) (aCons (eC (.int 1000000000)) aNil))))
theorem x_is_column_1_ap (s : S) : x_is_column_1 s = (eCall m_is_number (aCons (eV 1) (aCons (eC (.int 0)) (aCons (eC (.int 1000000000)) aNil)))) s := nr rfl
noncomputable def c_is_column_1 : EV := eAgg false [1] (iOf (eV 0)) (gSet 1) tTrue x_is_column_1
theorem c_is_column_1_ap (s : S) : c_is_column_1 s = (eAgg false [1] (iOf (eV 0)) (gSet 1) tTrue x_is_column_1) s := nr rfl
noncomputable def b_is_column : SV :=
    (sSeq (sIf (tOrD (tNotD (tOf (eOp2 isi2 (eV 0) (eC (.ty "tuple"))))) (tNotD (tOfB (eChain leC leC (eC (.int 1)) (eOp1 lenD (eV 0)) (eC (.int 200)))))) (sRet (eC (.bl false))) sNil)
    (sRet c_is_column_1))
theorem b_is_column_ap (s : S) : b_is_column s = (sSeq (sIf (tOrD (tNotD (tOf (eOp2 isi2 (eV 0) (eC (.ty "tuple"))))) (tNotD (tOfB (eChain leC leC (eC (.int 1)) (eOp1 lenD (eV 0)) (eC (.int 200)))))) (sRet (eC (.bl false))) sNil)
    (sRet c_is_column_1)) s := nr rfl
noncomputable def m_is_column : Fn := sld (defF 1 2 b_is_column)
theorem m_is_column_ap (args : List RV) (W : List (List D)) : m_is_column args W = defF 1 2 b_is_column args W := fn_sld _ _ _
theorem ok_is_column {w : World} {K : PySem.W.Frag} {mg : Str → Option Value} {base : Heap} {tb : List Addr} (B : Bl mg) (R : Rw K mg base tb) (XF0 : XF K mg T) {t_MOST_ITEMS : Tok} {t_MOST_VALUE : Tok} (c_MOST_ITEMS : mg "MOST_ITEMS" = some (.int 200 t_MOST_ITEMS)) (c_MOST_VALUE : mg "MOST_VALUE" = some (.int 1000000000 t_MOST_VALUE)) (h_is_number : Has prog w K mg base tb 1 "is_number" ["value", "least", "most"] m_is_number) : Has prog w K mg base tb 3 "is_column" ["value"] m_is_column :=
  Has.sld <| Has.ofG R.r_is_column sc_is_column fun f c T A outer s H E G TB hT ht hr =>
    (ss_cons (sd_if (WD.td (wd_or (td_not (td_val (ed_b2 call_isi opv_isi (by rfl) B.n_isinstance bt_isinstance (ed_v 0) (ed_ty (by rfl) B.n_tuple bt_tuple)))) (wd_or1 (td_not (td_chain op_leA opv_le op_leA opv_le ed_int (ed_b1 call_lenA opv_len (by rfl) B.n_len bt_len (ed_v 0)) (ed_globI (by rfl) c_MOST_ITEMS)))))) (ss_one (sd_ret ed_bl)) ss_nil)
    (ss_one (sd_ret (ed_agg0 false "all" [("one", 1)] rfl sc_is_column.nd (hr.mono (j := 2) (by decide)) TB (by rw [ht]; exact hT) rfl (gx_ok (by kernel_rfl)) (id_val (ed_v 0)) (blk_ok (by kernel_rfl)) (fun _ _ _ _ _ _ _ _ hr => (gv_name (i := 1) (by decide) sc_is_column.nd rfl (.inl rfl))) (fun _ _ _ _ _ _ _ _ hr => (ed_callH h_is_number hr ht takesX (ad_cons (ed_v 1) (ad_cons ed_int (ad_cons (ed_globI (by rfl) c_MOST_VALUE) ad_nil))) (by decide))) (fun _ => rfl) (by rfl) B.n_all (.inl ⟨rfl, rfl⟩) (by rfl)))))
/-! are_repeats -/
abbrev s_are_repeats : Stmt := topS 14
theorem sc_are_repeats : FnScope ["value", "whole", "place", "pair"] ["value"] (defScope s_are_repeats) := ⟨rfl, rfl, rfl, by decide +kernel, rfl, by decide +kernel, by decide +kernel⟩
noncomputable def l_are_repeats_1 : SV := (sSeq (sIf (tOrD (tNotD (tOf (eOp2 isi2 (eV 3) (eC (.ty "tuple"))))) (tOrD (tOfB (eOp2 neC (eOp1 lenD (eV 3)) (eC (.int 2)))) (tNotD (tOf (eCall m_is_number (aCons (eOp2 ixD (eV 3) (eC (.int 0))) (aCons (eC (.int 0)) (aCons (eC (.int 1000000000)) aNil)))))))) (sRet (eC (.bl false))) sNil)
    (sSeq (sIf (tOrD (tNotD (tOf (eCall m_is_number (aCons (eOp2 ixD (eV 3) (eC (.int 1))) (aCons (eC (.int 1)) (aCons (eC (.int 200)) aNil)))))) (tAndD (tOfB (eOp2 gtC (eV 2) (eC (.int 0)))) (tOfB (eOp2 eqC (eOp2 ixD (eOp2 ixD (eV 0) (eOp2 subD (eV 2) (eC (.int 1)))) (eC (.int 0))) (eOp2 ixD (eV 3) (eC (.int 0))))))) (sRet (eC (.bl false))) sNil)
    (sAug 1 augAdd (eOp2 ixD (eV 3) (eC (.int 1))))))
theorem l_are_repeats_1_ap (s : S) : l_are_repeats_1 s = (sSeq (sIf (tOrD (tNotD (tOf (eOp2 isi2 (eV 3) (eC (.ty "tuple"))))) (tOrD (tOfB (eOp2 neC (eOp1 lenD (eV 3)) (eC (.int 2)))) (tNotD (tOf (eCall m_is_number (aCons (eOp2 ixD (eV 3) (eC (.int 0))) (aCons (eC (.int 0)) (aCons (eC (.int 1000000000)) aNil)))))))) (sRet (eC (.bl false))) sNil)
    (sSeq (sIf (tOrD (tNotD (tOf (eCall m_is_number (aCons (eOp2 ixD (eV 3) (eC (.int 1))) (aCons (eC (.int 1)) (aCons (eC (.int 200)) aNil)))))) (tAndD (tOfB (eOp2 gtC (eV 2) (eC (.int 0)))) (tOfB (eOp2 eqC (eOp2 ixD (eOp2 ixD (eV 0) (eOp2 subD (eV 2) (eC (.int 1)))) (eC (.int 0))) (eOp2 ixD (eV 3) (eC (.int 0))))))) (sRet (eC (.bl false))) sNil)
    (sAug 1 augAdd (eOp2 ixD (eV 3) (eC (.int 1)))))) s := nr rfl
noncomputable def b_are_repeats : SV :=
    (sSeq (sIf (tOrD (tNotD (tOf (eOp2 isi2 (eV 0) (eC (.ty "tuple"))))) (tOfB (eOp2 eqC (eOp1 lenD (eV 0)) (eC (.int 0))))) (sRet (eC (.bl false))) sNil)
    (sSeq (sAsg (eC (.int 0)) (gSet 1))
    (sSeq (sFor (iEnumD (eV 0)) (gTupD (lenIs 2 (gConsD (gSet 2) (gConsD (gSet 3) gNilD)))) l_are_repeats_1)
    (sRet (eOp2 leC (eV 1) (eC (.int 200)))))))
theorem b_are_repeats_ap (s : S) : b_are_repeats s = (sSeq (sIf (tOrD (tNotD (tOf (eOp2 isi2 (eV 0) (eC (.ty "tuple"))))) (tOfB (eOp2 eqC (eOp1 lenD (eV 0)) (eC (.int 0))))) (sRet (eC (.bl false))) sNil)
    (sSeq (sAsg (eC (.int 0)) (gSet 1))
    (sSeq (sFor (iEnumD (eV 0)) (gTupD (lenIs 2 (gConsD (gSet 2) (gConsD (gSet 3) gNilD)))) l_are_repeats_1)
    (sRet (eOp2 leC (eV 1) (eC (.int 200))))))) s := nr rfl
noncomputable def m_are_repeats : Fn := sld (defF 1 4 b_are_repeats)
theorem m_are_repeats_ap (args : List RV) (W : List (List D)) : m_are_repeats args W = defF 1 4 b_are_repeats args W := fn_sld _ _ _
theorem ok_are_repeats {w : World} {K : PySem.W.Frag} {mg : Str → Option Value} {base : Heap} {tb : List Addr} (B : Bl mg) (R : Rw K mg base tb) (XF0 : XF K mg T) {t_MOST_ITEMS : Tok} {t_MOST_VALUE : Tok} (c_MOST_ITEMS : mg "MOST_ITEMS" = some (.int 200 t_MOST_ITEMS)) (c_MOST_VALUE : mg "MOST_VALUE" = some (.int 1000000000 t_MOST_VALUE)) (h_is_number : Has prog w K mg base tb 1 "is_number" ["value", "least", "most"] m_is_number) : Has prog w K mg base tb 2 "are_repeats" ["value"] m_are_repeats :=
  Has.sld <| Has.of R.r_are_repeats sc_are_repeats fun f cdv A outer s H E G ht hr =>
    (ss_cons (sd_if (WD.td (wd_or (td_not (td_val (ed_b2 call_isi opv_isi (by rfl) B.n_isinstance bt_isinstance (ed_v 0) (ed_ty (by rfl) B.n_tuple bt_tuple)))) (wd_or1 (td_cmp (op_eqA (u64 hr)) opv_eq (ed_b1 call_lenA opv_len (by rfl) B.n_len bt_len (ed_v 0)) ed_int (by rfl))))) (ss_one (sd_ret ed_bl)) ss_nil)
    (ss_cons (sd_set (i := 1) sc_are_repeats.nd rfl (.inl rfl) ed_int)
    (ss_cons (sd_for owns_cx rfl (id_enum (by rfl) B.n_enumerate (ed_v 0)) (gd_tup rfl (gs_cons (gd_name (i := 2) sc_are_repeats.nd rfl (.inl rfl)) (gs_cons (gd_name (i := 3) sc_are_repeats.nd rfl (.inl rfl)) gs_nil))) (ss_cons (sd_if (WD.td (wd_or (td_not (td_val (ed_b2 call_isi opv_isi (by rfl) B.n_isinstance bt_isinstance (ed_v 3) (ed_ty (by rfl) B.n_tuple bt_tuple)))) (wd_or (td_cmp (op_neA (u64 hr)) opv_ne (ed_b1 call_lenA opv_len (by rfl) B.n_len bt_len (ed_v 3)) ed_int (by rfl)) (wd_or1 (td_not (td_val (ed_callH h_is_number hr ht takes_cx (ad_cons (ed_ix (ed_v 3) ed_int) (ad_cons ed_int (ad_cons (ed_globI (by rfl) c_MOST_VALUE) ad_nil))) (by decide)))))))) (ss_one (sd_ret ed_bl)) ss_nil)
    (ss_cons (sd_if (WD.td (wd_or (td_not (td_val (ed_callH h_is_number hr ht takes_cx (ad_cons (ed_ix (ed_v 3) ed_int) (ad_cons ed_int (ad_cons (ed_globI (by rfl) c_MOST_ITEMS) ad_nil))) (by decide)))) (wd_or1 (WD.td (wd_and (td_cmp op_gtA opv_gt (ed_v 2) ed_int (by rfl)) (wd_and1 (td_cmp (op_eqA (u64 hr)) opv_eq (ed_ix (ed_ix (ed_v 0) (ed_sub (ed_v 2) ed_int)) ed_int) (ed_ix (ed_v 3) ed_int) (by rfl)))))))) (ss_one (sd_ret ed_bl)) ss_nil)
    (ss_one (sd_aug (i := 1) sc_are_repeats.nd rfl (.inl rfl) op_iadd opv_augAdd (ed_ix (ed_v 3) ed_int))))))
    (ss_one (sd_ret (ed_cmp op_leA opv_le (ed_v 1) (ed_globI (by rfl) c_MOST_ITEMS) (by rfl)))))))
/-! repeats_of -/
abbrev s_repeats_of : Stmt := topS 16
theorem sc_repeats_of : FnScope ["column", "one"] ["column"] (defScope s_repeats_of) := ⟨rfl, rfl, rfl, by decide +kernel, rfl, by decide +kernel, by decide +kernel⟩
noncomputable def x_repeats_of_1 : EV := (eTup (aCons (eV 1) (aCons (eC (.int 1)) aNil)))
theorem x_repeats_of_1_ap (s : S) : x_repeats_of_1 s = (eTup (aCons (eV 1) (aCons (eC (.int 1)) aNil))) s := nr rfl
noncomputable def c_repeats_of_1 : EV := eComp [1] (iOf (eV 0)) (gSet 1) tTrue x_repeats_of_1
theorem c_repeats_of_1_ap (s : S) : c_repeats_of_1 s = (eComp [1] (iOf (eV 0)) (gSet 1) tTrue x_repeats_of_1) s := nr rfl
noncomputable def b_repeats_of : SV :=
    (sRet (eCall m_folded (aCons c_repeats_of_1 aNil)))
theorem b_repeats_of_ap (s : S) : b_repeats_of s = (sRet (eCall m_folded (aCons c_repeats_of_1 aNil))) s := nr rfl
noncomputable def m_repeats_of : Fn := sld (defF 1 2 b_repeats_of)
theorem m_repeats_of_ap (args : List RV) (W : List (List D)) : m_repeats_of args W = defF 1 2 b_repeats_of args W := fn_sld _ _ _
theorem ok_repeats_of {w : World} {K : PySem.W.Frag} {mg : Str → Option Value} {base : Heap} {tb : List Addr} (B : Bl mg) (R : Rw K mg base tb) (XF0 : XF K mg T) (h_folded : Has prog w K mg base tb 1 "folded" ["rows"] m_folded) : Has prog w K mg base tb 2 "repeats_of" ["column"] m_repeats_of :=
  Has.sld <| Has.of R.r_repeats_of sc_repeats_of fun f cdv A outer s H E G ht hr =>
    (ss_one (sd_ret (ed_callH h_folded hr ht takes_cx (ad_cons (ed_comp0 [("one", 1)] rfl sc_repeats_of.nd (id_val (ed_v 0)) (blk_ok (by kernel_rfl)) (fun _ _ _ _ _ => (gv_name (i := 1) (by decide) sc_repeats_of.nd rfl (.inl rfl))) (fun _ _ _ _ _ => (ed_tup (ad_cons (ed_v 1) (ad_cons ed_int ad_nil))))) ad_nil) (by decide))))
/-! column_of -/
abbrev s_column_of : Stmt := topS 17
theorem sc_column_of : FnScope ["repeats", "found", "value", "times"] ["repeats"] (defScope s_column_of) := ⟨rfl, rfl, rfl, by decide +kernel, rfl, by decide +kernel, by decide +kernel⟩
noncomputable def l_column_of_1 : SV := (sEx (eExt 1 (eOp2 mulD (eLst (aCons (eV 2) aNil)) (eV 3))))
theorem l_column_of_1_ap (s : S) : l_column_of_1 s = (sEx (eExt 1 (eOp2 mulD (eLst (aCons (eV 2) aNil)) (eV 3)))) s := nr rfl
noncomputable def b_column_of : SV :=
    (sSeq (sAsg (eLst aNil) (gSet 1))
    (sSeq (sFor (iOf (eV 0)) (gTupD (lenIs 2 (gConsD (gSet 2) (gConsD (gSet 3) gNilD)))) l_column_of_1)
    (sRet (eOp1 tupleD (eV 1)))))
theorem b_column_of_ap (s : S) : b_column_of s = (sSeq (sAsg (eLst aNil) (gSet 1))
    (sSeq (sFor (iOf (eV 0)) (gTupD (lenIs 2 (gConsD (gSet 2) (gConsD (gSet 3) gNilD)))) l_column_of_1)
    (sRet (eOp1 tupleD (eV 1))))) s := nr rfl
noncomputable def m_column_of : Fn := sld (defF 1 4 b_column_of)
theorem m_column_of_ap (args : List RV) (W : List (List D)) : m_column_of args W = defF 1 4 b_column_of args W := fn_sld _ _ _
theorem ok_column_of {w : World} {K : PySem.W.Frag} {mg : Str → Option Value} {base : Heap} {tb : List Addr} (B : Bl mg) (R : Rw K mg base tb) (XF0 : XF K mg T) : Has prog w K mg base tb 1 "column_of" ["repeats"] m_column_of :=
  Has.sld <| Has.of R.r_column_of sc_column_of fun f cdv A outer s H E G ht hr =>
    (ss_cons (sd_set (i := 1) sc_column_of.nd rfl (.inl rfl) (ed_lst ad_nil))
    (ss_cons (sd_for owns_cx rfl (id_val (ed_v 0)) (gd_tup rfl (gs_cons (gd_name (i := 2) sc_column_of.nd rfl (.inl rfl)) (gs_cons (gd_name (i := 3) sc_column_of.nd rfl (.inl rfl)) gs_nil))) (ss_one (sd_expr (ed_extend 1 (pv 1) (ed_mul (ed_lst (ad_cons (ed_v 2) ad_nil)) (ed_v 3))))))
    (ss_one (sd_ret (ed_t1 call_tuple_of opv_tuple (by rfl) B.n_tuple bt_tuple (ed_v 1))))))
/-! law -/
abbrev s_law : Stmt := topS 34
theorem sc_law : FnScope ["script", "draws", "column", "many", "at", "odd", "one", "value", "due", "k", "times", "turn", "place", "i", "j", "other", "whole", "less", "pairs", "first", "second", "numbers"] ["script"] (defScope s_law) := ⟨rfl, rfl, rfl, by decide +kernel, rfl, by decide +kernel, by decide +kernel⟩
noncomputable def x_law_1 : EV := (eOp2 addD (eOp2 addD (eSl (eV 2) oNo (oSo (eV 4))) (eTup (aCons (eV 6) aNil))) (eSl (eV 2) (oSo (eOp2 addD (eV 4) (eC (.int 1)))) oNo))
theorem x_law_1_ap (s : S) : x_law_1 s = (eOp2 addD (eOp2 addD (eSl (eV 2) oNo (oSo (eV 4))) (eTup (aCons (eV 6) aNil))) (eSl (eV 2) (oSo (eOp2 addD (eV 4) (eC (.int 1)))) oNo)) s := nr rfl
noncomputable def c_law_1 : EV := eComp [6] (iOf (eLst (aCons (eOp1 negD (eC (.int 1))) (aCons (eOp2 addD (eOp2 powD (eC (.int 10)) (eC (.int 9))) (eC (.int 1))) (aCons (eC .non) (aCons (eC (.bl true)) (aCons (eC (.str "1")) (aCons (eTup (aCons (eC (.int 1)) aNil)) aNil)))))))) (gSet 6) tTrue x_law_1
theorem c_law_1_ap (s : S) : c_law_1 s = (eComp [6] (iOf (eLst (aCons (eOp1 negD (eC (.int 1))) (aCons (eOp2 addD (eOp2 powD (eC (.int 10)) (eC (.int 9))) (eC (.int 1))) (aCons (eC .non) (aCons (eC (.bl true)) (aCons (eC (.str "1")) (aCons (eTup (aCons (eC (.int 1)) aNil)) aNil)))))))) (gSet 6) tTrue x_law_1) s := nr rfl
noncomputable def x_law_2 : EV := (eV 7)
theorem x_law_2_ap (s : S) : x_law_2 s = (eV 7) s := nr rfl
noncomputable def t_law_2 : TV := (tOfB (eOp2 isnC (eCall m_is_column (aCons (eV 7) aNil)) (eC (.bl false))))
theorem t_law_2_ap (s : S) : t_law_2 s = (tOfB (eOp2 isnC (eCall m_is_column (aCons (eV 7) aNil)) (eC (.bl false)))) s := nr rfl
noncomputable def c_law_2 : EV := eComp [7] (iOf (eV 5)) (gSet 7) t_law_2 x_law_2
theorem c_law_2_ap (s : S) : c_law_2 s = (eComp [7] (iOf (eV 5)) (gSet 7) t_law_2 x_law_2) s := nr rfl
noncomputable def l_law_1 : SV := (sEx (eApp 5 (eOp2 addD (eOp2 addD (eSl (eV 8) oNo (oSo (eV 9))) (eTup (aCons (eV 6) aNil))) (eSl (eV 8) (oSo (eOp2 addD (eV 9) (eC (.int 1)))) oNo))))
theorem l_law_1_ap (s : S) : l_law_1 s = (sEx (eApp 5 (eOp2 addD (eOp2 addD (eSl (eV 8) oNo (oSo (eV 9))) (eTup (aCons (eV 6) aNil))) (eSl (eV 8) (oSo (eOp2 addD (eV 9) (eC (.int 1)))) oNo)))) s := nr rfl
noncomputable def x_law_3 : EV := (eV 6)
theorem x_law_3_ap (s : S) : x_law_3 s = (eV 6) s := nr rfl
noncomputable def t_law_3 : TV := (tOfB (eOp2 isnC (eCall m_are_repeats (aCons (eV 6) aNil)) (eC (.bl false))))
theorem t_law_3_ap (s : S) : t_law_3 s = (tOfB (eOp2 isnC (eCall m_are_repeats (aCons (eV 6) aNil)) (eC (.bl false)))) s := nr rfl
noncomputable def c_law_3 : EV := eComp [6] (iOf (eV 5)) (gSet 6) t_law_3 x_law_3
theorem c_law_3_ap (s : S) : c_law_3 s = (eComp [6] (iOf (eV 5)) (gSet 6) t_law_3 x_law_3) s := nr rfl
noncomputable def l_law_2 : SV := (sSeq (sPar3 12 13 14 (eCall m__law_take (aCons (eV 1) (aCons (eV 3) aNil))) (eCall m__law_take (aCons (eV 1) (aCons (eV 3) aNil))) (eOp2 addD (eC (.int 1)) (eCall m__law_take (aCons (eV 1) (aCons (eV 3) aNil)))))
    (sSeq (sIf (tNotD (tOf (eCall (m__law_alike 12) (aCons (eCall m__law_told (aCons (eC (.int 0)) (aCons (eV 8) (aCons (eV 12) (aCons (eC .non) aNil))))) (aCons (eOp2 ixD (eV 2) (eV 12)) aNil))))) (sRet (eC (.bl false))) sNil)
    (sIf (tNotD (tOf (eCall (m__law_alike 12) (aCons (eCall m__law_told (aCons (eC (.int 1)) (aCons (eV 8) (aCons (eV 13) (aCons (eV 14) aNil))))) (aCons (eIfD (tOfB (eOp2 ltC (eV 13) (eV 14))) (eCall m__law_repeats (aCons (eSl (eV 2) (oSo (eV 13)) (oSo (eV 14))) aNil)) (eC (.str "range"))) aNil))))) (sRet (eC (.bl false))) sNil)))
theorem l_law_2_ap (s : S) : l_law_2 s = (sSeq (sPar3 12 13 14 (eCall m__law_take (aCons (eV 1) (aCons (eV 3) aNil))) (eCall m__law_take (aCons (eV 1) (aCons (eV 3) aNil))) (eOp2 addD (eC (.int 1)) (eCall m__law_take (aCons (eV 1) (aCons (eV 3) aNil)))))
    (sSeq (sIf (tNotD (tOf (eCall (m__law_alike 12) (aCons (eCall m__law_told (aCons (eC (.int 0)) (aCons (eV 8) (aCons (eV 12) (aCons (eC .non) aNil))))) (aCons (eOp2 ixD (eV 2) (eV 12)) aNil))))) (sRet (eC (.bl false))) sNil)
    (sIf (tNotD (tOf (eCall (m__law_alike 12) (aCons (eCall m__law_told (aCons (eC (.int 1)) (aCons (eV 8) (aCons (eV 13) (aCons (eV 14) aNil))))) (aCons (eIfD (tOfB (eOp2 ltC (eV 13) (eV 14))) (eCall m__law_repeats (aCons (eSl (eV 2) (oSo (eV 13)) (oSo (eV 14))) aNil)) (eC (.str "range"))) aNil))))) (sRet (eC (.bl false))) sNil))) s := nr rfl
noncomputable def x_law_4 : EV := (eCall m__law_told (aCons (eC (.int 0)) (aCons (eV 8) (aCons (eV 6) (aCons (eC .non) aNil)))))
theorem x_law_4_ap (s : S) : x_law_4 s = (eCall m__law_told (aCons (eC (.int 0)) (aCons (eV 8) (aCons (eV 6) (aCons (eC .non) aNil))))) s := nr rfl
noncomputable def c_law_4 : EV := eComp [6] (iOf (eLst (aCons (eOp1 negD (eC (.int 1))) (aCons (eV 3) (aCons (eC .non) (aCons (eC (.bl true)) aNil)))))) (gSet 6) tTrue x_law_4
theorem c_law_4_ap (s : S) : c_law_4 s = (eComp [6] (iOf (eLst (aCons (eOp1 negD (eC (.int 1))) (aCons (eV 3) (aCons (eC .non) (aCons (eC (.bl true)) aNil)))))) (gSet 6) tTrue x_law_4) s := nr rfl
noncomputable def x_law_5 : EV := (eCall m__law_told (aCons (eC (.int 1)) (aCons (eV 8) (aCons (eV 13) (aCons (eV 14) aNil)))))
theorem x_law_5_ap (s : S) : x_law_5 s = (eCall m__law_told (aCons (eC (.int 1)) (aCons (eV 8) (aCons (eV 13) (aCons (eV 14) aNil))))) s := nr rfl
noncomputable def c_law_5 : EV := eComp [13, 14] (iOf (eLst (aCons (eTup (aCons (eOp1 negD (eC (.int 1))) (aCons (eC (.int 1)) aNil))) (aCons (eTup (aCons (eC (.int 0)) (aCons (eOp2 addD (eV 3) (eC (.int 1))) aNil))) (aCons (eTup (aCons (eC (.int 0)) (aCons (eC (.int 0)) aNil))) (aCons (eTup (aCons (eV 3) (aCons (eV 3) aNil))) aNil)))))) (gTupD (lenIs 2 (gConsD (gSet 13) (gConsD (gSet 14) gNilD)))) tTrue x_law_5
theorem c_law_5_ap (s : S) : c_law_5 s = (eComp [13, 14] (iOf (eLst (aCons (eTup (aCons (eOp1 negD (eC (.int 1))) (aCons (eC (.int 1)) aNil))) (aCons (eTup (aCons (eC (.int 0)) (aCons (eOp2 addD (eV 3) (eC (.int 1))) aNil))) (aCons (eTup (aCons (eC (.int 0)) (aCons (eC (.int 0)) aNil))) (aCons (eTup (aCons (eV 3) (aCons (eV 3) aNil))) aNil)))))) (gTupD (lenIs 2 (gConsD (gSet 13) (gConsD (gSet 14) gNilD)))) tTrue x_law_5) s := nr rfl
noncomputable def x_law_6 : EV := (eCall m__law_width (aCons (eV 6) aNil))
theorem x_law_6_ap (s : S) : x_law_6 s = (eCall m__law_width (aCons (eV 6) aNil)) s := nr rfl
noncomputable def c_law_6 : EV := eComp [6] (iOf (eV 21)) (gSet 6) tTrue x_law_6
theorem c_law_6_ap (s : S) : c_law_6 s = (eComp [6] (iOf (eV 21)) (gSet 6) tTrue x_law_6) s := nr rfl
noncomputable def x_law_7 : EV := (eCall m_width (aCons (eV 6) aNil))
theorem x_law_7_ap (s : S) : x_law_7 s = (eCall m_width (aCons (eV 6) aNil)) s := nr rfl
noncomputable def c_law_7 : EV := eComp [6] (iOf (eV 21)) (gSet 6) tTrue x_law_7
theorem c_law_7_ap (s : S) : c_law_7 s = (eComp [6] (iOf (eV 21)) (gSet 6) tTrue x_law_7) s := nr rfl
noncomputable def a_law_1 : SV := (sAsg (eCall m__law_draws (aCons (eV 0) aNil)) (gShare 1))
theorem a_law_1_ap (s : S) : a_law_1 s = (sAsg (eCall m__law_draws (aCons (eV 0) aNil)) (gShare 1)) s := nr rfl
noncomputable def a_law_2 : SV := (sAsg (eCall m__law_column (aCons (eV 1) (aCons (eOp2 ixD (eLst (aCons (eC (.int 12)) (aCons (eC (.int 200)) aNil))) (eCall m__law_take (aCons (eV 1) (aCons (eC (.int 2)) aNil)))) aNil))) (gSet 2))
theorem a_law_2_ap (s : S) : a_law_2 s = (sAsg (eCall m__law_column (aCons (eV 1) (aCons (eOp2 ixD (eLst (aCons (eC (.int 12)) (aCons (eC (.int 200)) aNil))) (eCall m__law_take (aCons (eV 1) (aCons (eC (.int 2)) aNil)))) aNil))) (gSet 2)) s := nr rfl
noncomputable def a_law_3 : SV := (sAsg (eOp1 lenD (eV 2)) (gSet 3))
theorem a_law_3_ap (s : S) : a_law_3 s = (sAsg (eOp1 lenD (eV 2)) (gSet 3)) s := nr rfl
noncomputable def a_law_4 : SV := (sAsg (eCall m__law_take (aCons (eV 1) (aCons (eV 3) aNil))) (gSet 4))
theorem a_law_4_ap (s : S) : a_law_4 s = (sAsg (eCall m__law_take (aCons (eV 1) (aCons (eV 3) aNil))) (gSet 4)) s := nr rfl
noncomputable def a_law_5 : SV := (sIf (tOrD (tNotD (tOf (eCall m__law_says (aCons (eCall m_is_column (aCons (eV 2) aNil)) (aCons (eC (.bl true)) aNil))))) (tNotD (tOf (eCall m__law_says (aCons (eCall m_is_column (aCons (eOp2 mulD (eTup (aCons (eC (.int 0)) aNil)) (eC (.int 200))) aNil)) (aCons (eC (.bl true)) aNil)))))) (sRet (eC (.bl false))) sNil)
theorem a_law_5_ap (s : S) : a_law_5 s = (sIf (tOrD (tNotD (tOf (eCall m__law_says (aCons (eCall m_is_column (aCons (eV 2) aNil)) (aCons (eC (.bl true)) aNil))))) (tNotD (tOf (eCall m__law_says (aCons (eCall m_is_column (aCons (eOp2 mulD (eTup (aCons (eC (.int 0)) aNil)) (eC (.int 200))) aNil)) (aCons (eC (.bl true)) aNil)))))) (sRet (eC (.bl false))) sNil) s := nr rfl
noncomputable def a_law_6 : SV := (sAsg (eOp2 addD (eLst (aCons (eOp1 listD (eV 2)) (aCons (eC .non) (aCons (eC (.int 5)) (aCons (eTup aNil) (aCons (eOp2 mulD (eTup (aCons (eC (.int 0)) aNil)) (eC (.int 201))) aNil)))))) c_law_1) (gSet 5))
theorem a_law_6_ap (s : S) : a_law_6 s = (sAsg (eOp2 addD (eLst (aCons (eOp1 listD (eV 2)) (aCons (eC .non) (aCons (eC (.int 5)) (aCons (eTup aNil) (aCons (eOp2 mulD (eTup (aCons (eC (.int 0)) aNil)) (eC (.int 201))) aNil)))))) c_law_1) (gSet 5)) s := nr rfl
noncomputable def a_law_7 : SV := (sIf (tOfB (eOp2 neC c_law_2 (eLst aNil))) (sRet (eC (.bl false))) sNil)
theorem a_law_7_ap (s : S) : a_law_7 s = (sIf (tOfB (eOp2 neC c_law_2 (eLst aNil))) (sRet (eC (.bl false))) sNil) s := nr rfl
noncomputable def a_law_8 : SV := (sAsg (eCall m__law_repeats (aCons (eV 2) aNil)) (gSet 8))
theorem a_law_8_ap (s : S) : a_law_8 s = (sAsg (eCall m__law_repeats (aCons (eV 2) aNil)) (gSet 8)) s := nr rfl
noncomputable def a_law_9 : SV := (sIf (tOrD (tNotD (tOf (eCall (m__law_alike 12) (aCons (eLst (aCons (eCall m_repeats_of (aCons (eV 2) aNil)) (aCons (eCall m_column_of (aCons (eV 8) aNil)) aNil))) (aCons (eLst (aCons (eV 8) (aCons (eV 2) aNil))) aNil))))) (tNotD (tOf (eCall m__law_says (aCons (eCall m_are_repeats (aCons (eV 8) aNil)) (aCons (eC (.bl true)) aNil)))))) (sRet (eC (.bl false))) sNil)
theorem a_law_9_ap (s : S) : a_law_9 s = (sIf (tOrD (tNotD (tOf (eCall (m__law_alike 12) (aCons (eLst (aCons (eCall m_repeats_of (aCons (eV 2) aNil)) (aCons (eCall m_column_of (aCons (eV 8) aNil)) aNil))) (aCons (eLst (aCons (eV 8) (aCons (eV 2) aNil))) aNil))))) (tNotD (tOf (eCall m__law_says (aCons (eCall m_are_repeats (aCons (eV 8) aNil)) (aCons (eC (.bl true)) aNil)))))) (sRet (eC (.bl false))) sNil) s := nr rfl
noncomputable def a_law_10 : SV := (sAsg (eCall m__law_take (aCons (eV 1) (aCons (eOp1 lenD (eV 8)) aNil))) (gSet 9))
theorem a_law_10_ap (s : S) : a_law_10 s = (sAsg (eCall m__law_take (aCons (eV 1) (aCons (eOp1 lenD (eV 8)) aNil))) (gSet 9)) s := nr rfl
noncomputable def a_law_11 : SV := (sAsg (eOp2 ixD (eV 8) (eV 9)) (gTupD (lenIs 2 (gConsD (gSet 7) (gConsD (gSet 10) gNilD)))))
theorem a_law_11_ap (s : S) : a_law_11 s = (sAsg (eOp2 ixD (eV 8) (eV 9)) (gTupD (lenIs 2 (gConsD (gSet 7) (gConsD (gSet 10) gNilD))))) s := nr rfl
noncomputable def a_law_12 : SV := (sAsg (eLst (aCons (eOp1 listD (eV 8)) (aCons (eC .non) (aCons (eTup aNil) (aCons (eC (.int 5)) (aCons (eOp2 addD (eV 8) (eSl (eV 8) (oSo (eOp1 negD (eC (.int 1)))) oNo)) (aCons (eOp2 addD (eOp2 addD (eSl (eV 8) oNo (oSo (eV 9))) (eTup (aCons (eTup (aCons (eV 7) (aCons (eC (.int 201)) aNil))) aNil))) (eSl (eV 8) (oSo (eOp2 addD (eV 9) (eC (.int 1)))) oNo)) (aCons (eTup (aCons (eTup (aCons (eC (.int 0)) (aCons (eC (.int 200)) aNil))) (aCons (eTup (aCons (eC (.int 1)) (aCons (eC (.int 1)) aNil))) aNil))) aNil)))))))) (gSet 5))
theorem a_law_12_ap (s : S) : a_law_12 s = (sAsg (eLst (aCons (eOp1 listD (eV 8)) (aCons (eC .non) (aCons (eTup aNil) (aCons (eC (.int 5)) (aCons (eOp2 addD (eV 8) (eSl (eV 8) (oSo (eOp1 negD (eC (.int 1)))) oNo)) (aCons (eOp2 addD (eOp2 addD (eSl (eV 8) oNo (oSo (eV 9))) (eTup (aCons (eTup (aCons (eV 7) (aCons (eC (.int 201)) aNil))) aNil))) (eSl (eV 8) (oSo (eOp2 addD (eV 9) (eC (.int 1)))) oNo)) (aCons (eTup (aCons (eTup (aCons (eC (.int 0)) (aCons (eC (.int 200)) aNil))) (aCons (eTup (aCons (eC (.int 1)) (aCons (eC (.int 1)) aNil))) aNil))) aNil)))))))) (gSet 5)) s := nr rfl
noncomputable def a_law_13 : SV := (sFor (iOf (eLst (aCons (eTup (aCons (eV 7) (aCons (eC (.int 0)) aNil))) (aCons (eTup (aCons (eV 7) (aCons (eOp1 negD (eC (.int 1))) aNil))) (aCons (eTup (aCons (eV 7) aNil)) (aCons (eTup (aCons (eV 7) (aCons (eV 10) (aCons (eC (.int 0)) aNil)))) (aCons (eLst (aCons (eV 7) (aCons (eV 10) aNil))) (aCons (eC .non) (aCons (eTup (aCons (eOp1 negD (eC (.int 1))) (aCons (eV 10) aNil))) (aCons (eTup (aCons (eOp2 addD (eOp2 powD (eC (.int 10)) (eC (.int 9))) (eC (.int 1))) (aCons (eV 10) aNil))) (aCons (eTup (aCons (eC .non) (aCons (eV 10) aNil))) (aCons (eTup (aCons (eV 7) (aCons (eC (.bl true)) aNil))) (aCons (eTup (aCons (eV 7) (aCons (eC .non) aNil))) (aCons (eTup (aCons (eC (.bl true)) (aCons (eV 10) aNil))) aNil)))))))))))))) (gSet 6) l_law_1)
theorem a_law_13_ap (s : S) : a_law_13 s = (sFor (iOf (eLst (aCons (eTup (aCons (eV 7) (aCons (eC (.int 0)) aNil))) (aCons (eTup (aCons (eV 7) (aCons (eOp1 negD (eC (.int 1))) aNil))) (aCons (eTup (aCons (eV 7) aNil)) (aCons (eTup (aCons (eV 7) (aCons (eV 10) (aCons (eC (.int 0)) aNil)))) (aCons (eLst (aCons (eV 7) (aCons (eV 10) aNil))) (aCons (eC .non) (aCons (eTup (aCons (eOp1 negD (eC (.int 1))) (aCons (eV 10) aNil))) (aCons (eTup (aCons (eOp2 addD (eOp2 powD (eC (.int 10)) (eC (.int 9))) (eC (.int 1))) (aCons (eV 10) aNil))) (aCons (eTup (aCons (eC .non) (aCons (eV 10) aNil))) (aCons (eTup (aCons (eV 7) (aCons (eC (.bl true)) aNil))) (aCons (eTup (aCons (eV 7) (aCons (eC .non) aNil))) (aCons (eTup (aCons (eC (.bl true)) (aCons (eV 10) aNil))) aNil)))))))))))))) (gSet 6) l_law_1) s := nr rfl
noncomputable def a_law_14 : SV := (sIf (tOfB (eOp2 neC c_law_3 (eLst aNil))) (sRet (eC (.bl false))) sNil)
theorem a_law_14_ap (s : S) : a_law_14 s = (sIf (tOfB (eOp2 neC c_law_3 (eLst aNil))) (sRet (eC (.bl false))) sNil) s := nr rfl
noncomputable def a_law_15 : SV := (sFor (iR1 (eC (.int 4))) (gSet 11) l_law_2)
theorem a_law_15_ap (s : S) : a_law_15 s = (sFor (iR1 (eC (.int 4))) (gSet 11) l_law_2) s := nr rfl
noncomputable def a_law_16 : SV := (sIf (tOrD (tOfB (eOp2 neC c_law_4 (eOp2 mulD (eLst (aCons (eC (.str "range")) aNil)) (eC (.int 4))))) (tOfB (eOp2 neC c_law_5 (eOp2 mulD (eLst (aCons (eC (.str "range")) aNil)) (eC (.int 4)))))) (sRet (eC (.bl false))) sNil)
theorem a_law_16_ap (s : S) : a_law_16 s = (sIf (tOrD (tOfB (eOp2 neC c_law_4 (eOp2 mulD (eLst (aCons (eC (.str "range")) aNil)) (eC (.int 4))))) (tOfB (eOp2 neC c_law_5 (eOp2 mulD (eLst (aCons (eC (.str "range")) aNil)) (eC (.int 4)))))) (sRet (eC (.bl false))) sNil) s := nr rfl
noncomputable def a_law_17 : SV := (sAsg (eCall m__law_column (aCons (eV 1) (aCons (eOp2 ixD (eLst (aCons (eC (.int 12)) (aCons (eC (.int 200)) aNil))) (eCall m__law_take (aCons (eV 1) (aCons (eC (.int 2)) aNil)))) aNil))) (gSet 15))
theorem a_law_17_ap (s : S) : a_law_17 s = (sAsg (eCall m__law_column (aCons (eV 1) (aCons (eOp2 ixD (eLst (aCons (eC (.int 12)) (aCons (eC (.int 200)) aNil))) (eCall m__law_take (aCons (eV 1) (aCons (eC (.int 2)) aNil)))) aNil))) (gSet 15)) s := nr rfl
noncomputable def a_law_18 : SV := (sAsg (eC (.str "much")) (gSet 16))
theorem a_law_18_ap (s : S) : a_law_18 s = (sAsg (eC (.str "much")) (gSet 16)) s := nr rfl
noncomputable def a_law_19 : SV := (sIf (tOfB (eOp2 leC (eOp2 addD (eV 3) (eOp1 lenD (eV 15))) (eC (.int 200)))) (sAsg (eCall m__law_repeats (aCons (eOp2 addD (eV 2) (eV 15)) aNil)) (gSet 16)) sNil)
theorem a_law_19_ap (s : S) : a_law_19 s = (sIf (tOfB (eOp2 leC (eOp2 addD (eV 3) (eOp1 lenD (eV 15))) (eC (.int 200)))) (sAsg (eCall m__law_repeats (aCons (eOp2 addD (eV 2) (eV 15)) aNil)) (gSet 16)) sNil) s := nr rfl
noncomputable def a_law_20 : SV := (sIf (tNotD (tOf (eCall (m__law_alike 12) (aCons (eCall m__law_told (aCons (eC (.int 2)) (aCons (eV 8) (aCons (eCall m__law_repeats (aCons (eV 15) aNil)) (aCons (eC .non) aNil))))) (aCons (eV 16) aNil))))) (sRet (eC (.bl false))) sNil)
theorem a_law_20_ap (s : S) : a_law_20 s = (sIf (tNotD (tOf (eCall (m__law_alike 12) (aCons (eCall m__law_told (aCons (eC (.int 2)) (aCons (eV 8) (aCons (eCall m__law_repeats (aCons (eV 15) aNil)) (aCons (eC .non) aNil))))) (aCons (eV 16) aNil))))) (sRet (eC (.bl false))) sNil) s := nr rfl
noncomputable def a_law_21 : SV := (sAsg (eOp2 min2D (eV 3) (eOp1 lenD (eV 15))) (gSet 17))
theorem a_law_21_ap (s : S) : a_law_21 s = (sAsg (eOp2 min2D (eV 3) (eOp1 lenD (eV 15))) (gSet 17)) s := nr rfl
noncomputable def a_law_22 : SV := (sAsg (eCall m__law_pairing (aCons (eSl (eV 2) oNo (oSo (eV 17))) (aCons (eSl (eV 15) oNo (oSo (eV 17))) aNil))) (gSet 18))
theorem a_law_22_ap (s : S) : a_law_22 s = (sAsg (eCall m__law_pairing (aCons (eSl (eV 2) oNo (oSo (eV 17))) (aCons (eSl (eV 15) oNo (oSo (eV 17))) aNil))) (gSet 18)) s := nr rfl
noncomputable def a_law_23 : SV := (sPar 19 20 (eCall m__law_repeats (aCons (eSl (eV 2) oNo (oSo (eV 17))) aNil)) (eCall m__law_repeats (aCons (eSl (eV 15) oNo (oSo (eV 17))) aNil)))
theorem a_law_23_ap (s : S) : a_law_23 s = (sPar 19 20 (eCall m__law_repeats (aCons (eSl (eV 2) oNo (oSo (eV 17))) aNil)) (eCall m__law_repeats (aCons (eSl (eV 15) oNo (oSo (eV 17))) aNil))) s := nr rfl
noncomputable def a_law_24 : SV := (sIf (tOrD (tNotD (tOf (eCall (m__law_alike 12) (aCons (eCall m__law_told (aCons (eC (.int 3)) (aCons (eV 19) (aCons (eV 20) (aCons (eC .non) aNil))))) (aCons (eV 18) aNil))))) (tOfB (eOp2 gtC (eOp1 lenD (eV 18)) (eOp2 subD (eOp2 addD (eOp1 lenD (eV 19)) (eOp1 lenD (eV 20))) (eC (.int 1)))))) (sRet (eC (.bl false))) sNil)
theorem a_law_24_ap (s : S) : a_law_24 s = (sIf (tOrD (tNotD (tOf (eCall (m__law_alike 12) (aCons (eCall m__law_told (aCons (eC (.int 3)) (aCons (eV 19) (aCons (eV 20) (aCons (eC .non) aNil))))) (aCons (eV 18) aNil))))) (tOfB (eOp2 gtC (eOp1 lenD (eV 18)) (eOp2 subD (eOp2 addD (eOp1 lenD (eV 19)) (eOp1 lenD (eV 20))) (eC (.int 1)))))) (sRet (eC (.bl false))) sNil) s := nr rfl
noncomputable def a_law_25 : SV := (sIf (tAndD (tOfB (eOp2 neC (eV 3) (eOp1 lenD (eV 15)))) (tOfB (eOp2 neC (eCall m__law_told (aCons (eC (.int 3)) (aCons (eV 8) (aCons (eCall m__law_repeats (aCons (eV 15) aNil)) (aCons (eC .non) aNil))))) (eC (.str "refused"))))) (sRet (eC (.bl false))) sNil)
theorem a_law_25_ap (s : S) : a_law_25 s = (sIf (tAndD (tOfB (eOp2 neC (eV 3) (eOp1 lenD (eV 15)))) (tOfB (eOp2 neC (eCall m__law_told (aCons (eC (.int 3)) (aCons (eV 8) (aCons (eCall m__law_repeats (aCons (eV 15) aNil)) (aCons (eC .non) aNil))))) (eC (.str "refused"))))) (sRet (eC (.bl false))) sNil) s := nr rfl
noncomputable def a_law_26 : SV := (sAsg (eLst (aCons (eCall m__law_take (aCons (eV 1) (aCons (eOp2 powD (eC (.int 10)) (eC (.int 9))) aNil))) (aCons (eCall m__law_take (aCons (eV 1) (aCons (eC (.int 20)) aNil))) (aCons (eOp2 powD (eC (.int 2)) (eC (.int 30))) (aCons (eOp2 subD (eOp2 powD (eC (.int 2)) (eC (.int 30))) (eC (.int 1))) aNil))))) (gSet 21))
theorem a_law_26_ap (s : S) : a_law_26 s = (sAsg (eLst (aCons (eCall m__law_take (aCons (eV 1) (aCons (eOp2 powD (eC (.int 10)) (eC (.int 9))) aNil))) (aCons (eCall m__law_take (aCons (eV 1) (aCons (eC (.int 20)) aNil))) (aCons (eOp2 powD (eC (.int 2)) (eC (.int 30))) (aCons (eOp2 subD (eOp2 powD (eC (.int 2)) (eC (.int 30))) (eC (.int 1))) aNil))))) (gSet 21)) s := nr rfl
noncomputable def a_law_27 : SV := (sRet (eCall (m__law_alike 12) (aCons c_law_7 (aCons c_law_6 aNil))))
theorem a_law_27_ap (s : S) : a_law_27 s = (sRet (eCall (m__law_alike 12) (aCons c_law_7 (aCons c_law_6 aNil)))) s := nr rfl
noncomputable def b_law : SV :=
    (sSeq a_law_1
    (sSeq a_law_2
    (sSeq a_law_3
    (sSeq a_law_4
    (sSeq a_law_5
    (sSeq a_law_6
    (sSeq a_law_7
    (sSeq a_law_8
    (sSeq a_law_9
    (sSeq a_law_10
    (sSeq a_law_11
    (sSeq a_law_12
    (sSeq a_law_13
    (sSeq a_law_14
    (sSeq a_law_15
    (sSeq a_law_16
    (sSeq a_law_17
    (sSeq a_law_18
    (sSeq a_law_19
    (sSeq a_law_20
    (sSeq a_law_21
    (sSeq a_law_22
    (sSeq a_law_23
    (sSeq a_law_24
    (sSeq a_law_25
    (sSeq a_law_26
    a_law_27))))))))))))))))))))))))))
theorem b_law_ap (s : S) : b_law s = (sSeq a_law_1
    (sSeq a_law_2
    (sSeq a_law_3
    (sSeq a_law_4
    (sSeq a_law_5
    (sSeq a_law_6
    (sSeq a_law_7
    (sSeq a_law_8
    (sSeq a_law_9
    (sSeq a_law_10
    (sSeq a_law_11
    (sSeq a_law_12
    (sSeq a_law_13
    (sSeq a_law_14
    (sSeq a_law_15
    (sSeq a_law_16
    (sSeq a_law_17
    (sSeq a_law_18
    (sSeq a_law_19
    (sSeq a_law_20
    (sSeq a_law_21
    (sSeq a_law_22
    (sSeq a_law_23
    (sSeq a_law_24
    (sSeq a_law_25
    (sSeq a_law_26
    a_law_27)))))))))))))))))))))))))) s := nr rfl
noncomputable def m_law : Fn := sld (defF 1 22 b_law)
theorem m_law_ap (args : List RV) (W : List (List D)) : m_law args W = defF 1 22 b_law args W := fn_sld _ _ _
theorem ok_law {w : World} {K : PySem.W.Frag} {mg : Str → Option Value} {base : Heap} {tb : List Addr} (B : Bl mg) (R : Rw K mg base tb) (XF0 : XF K mg T) (h__law_draws : Has prog w K mg base tb 1 "_law_draws" ["script"] m__law_draws) (h__law_take : Has prog w K mg base tb 1 "_law_take" ["draws", "bound"] m__law_take) (h__law_column : Has prog w K mg base tb 2 "_law_column" ["draws", "most"] m__law_column) (h__law_repeats : Has prog w K mg base tb 1 "_law_repeats" ["column"] m__law_repeats) (h__law_pairing : Has prog w K mg base tb 1 "_law_pairing" ["one", "other"] m__law_pairing) (h__law_alike : Has prog w K mg base tb 12 "_law_alike" ["found", "due"] (m__law_alike 12)) (h__law_says : Has prog w K mg base tb 1 "_law_says" ["told", "due"] m__law_says) (h__law_told : Has prog w K mg base tb 3 "_law_told" ["which", "one", "other", "more"] m__law_told) (h_width : Has prog w K mg base tb 1 "width" ["number"] m_width) (h__law_width : Has prog w K mg base tb 1 "_law_width" ["number"] m__law_width) (h_is_column : Has prog w K mg base tb 3 "is_column" ["value"] m_is_column) (h_are_repeats : Has prog w K mg base tb 2 "are_repeats" ["value"] m_are_repeats) (h_repeats_of : Has prog w K mg base tb 2 "repeats_of" ["column"] m_repeats_of) (h_column_of : Has prog w K mg base tb 1 "column_of" ["repeats"] m_column_of) : Has prog w K mg base tb 13 "law" ["script"] m_law :=
  Has.sld <| Has.of R.r_law sc_law fun f cdv A outer s H E G ht hr =>
    (ss_cons (sd_share (i := 1) sc_law.nd rfl (.inl rfl) (ed_callH h__law_draws hr ht takes_cx (ad_cons (ed_v 0) ad_nil) (by decide)))
    (ss_cons (sd_set (i := 2) sc_law.nd rfl (.inr rfl) (ed_callH h__law_column hr ht takes_cx (ad_cons (ed_v 1) (ad_cons (ed_ix (ed_lst (ad_cons ed_int (ad_cons ed_int ad_nil))) (ed_callH h__law_take hr ht takes_cx (ad_cons (ed_v 1) (ad_cons ed_int ad_nil)) (by decide))) ad_nil)) (by decide)))
    (ss_cons (sd_set (i := 3) sc_law.nd rfl (.inl rfl) (ed_b1 call_lenA opv_len (by rfl) B.n_len bt_len (ed_v 2)))
    (ss_cons (sd_set (i := 4) sc_law.nd rfl (.inr rfl) (ed_callH h__law_take hr ht takes_cx (ad_cons (ed_v 1) (ad_cons (ed_v 3) ad_nil)) (by decide)))
    (ss_cons (sd_if (WD.td (wd_or (td_not (td_val (ed_callH h__law_says hr ht takes_cx (ad_cons (ed_callH h_is_column hr ht takes_cx (ad_cons (ed_v 2) ad_nil) (by decide)) (ad_cons ed_bl ad_nil)) (by decide)))) (wd_or1 (td_not (td_val (ed_callH h__law_says hr ht takes_cx (ad_cons (ed_callH h_is_column hr ht takes_cx (ad_cons (ed_mul (ed_tup (ad_cons ed_int ad_nil)) ed_int) ad_nil) (by decide)) (ad_cons ed_bl ad_nil)) (by decide))))))) (ss_one (sd_ret ed_bl)) ss_nil)
    (ss_cons (sd_set (i := 5) sc_law.nd rfl (.inl rfl) (ed_add (ed_lst (ad_cons (ed_t1 call_list_of opv_list (by rfl) B.n_list bt_list (ed_v 2)) (ad_cons ed_non (ad_cons ed_int (ad_cons (ed_tup ad_nil) (ad_cons (ed_mul (ed_tup (ad_cons ed_int ad_nil)) ed_int) ad_nil)))))) (ed_comp0 [("one", 6)] rfl sc_law.nd (id_val (ed_lst (ad_cons (ed_neg ed_int) (ad_cons (ed_add (ed_pow ed_int ed_int) ed_int) (ad_cons ed_non (ad_cons ed_bl (ad_cons ed_str (ad_cons (ed_tup (ad_cons ed_int ad_nil)) ad_nil)))))))) (blk_ok (by kernel_rfl)) (fun _ _ _ _ _ => (gv_name (i := 6) (by decide) sc_law.nd rfl (.inl rfl))) (fun _ _ _ _ _ => (ed_add (ed_add (ed_sl (ed_v 2) od_no (od_so (ed_v 4))) (ed_tup (ad_cons (ed_v 6) ad_nil))) (ed_sl (ed_v 2) (od_so (ed_add (ed_v 4) ed_int)) od_no))))))
    (ss_cons (sd_if (td_cmp (op_neA (u64 hr)) opv_ne (ed_comp1 [("value", 7)] rfl sc_law.nd (id_val (ed_v 5)) (blk_ok (by kernel_rfl)) (fun _ _ _ _ _ => (gv_name (i := 7) (by decide) sc_law.nd rfl (.inl rfl))) (fun _ _ _ _ _ => (td_cmp op_isnA opv_isn (ed_callH h_is_column hr ht takesX (ad_cons (ed_v 7) ad_nil) (by decide)) ed_bl (by rfl))) (fun _ _ _ _ _ => (ed_v 7))) (ed_lst ad_nil) (by rfl)) (ss_one (sd_ret ed_bl)) ss_nil)
    (ss_cons (sd_set (i := 8) sc_law.nd rfl (.inr rfl) (ed_callH h__law_repeats hr ht takes_cx (ad_cons (ed_v 2) ad_nil) (by decide)))
    (ss_cons (sd_if (WD.td (wd_or (td_not (td_val (ed_callH h__law_alike hr ht takes_cx (ad_cons (ed_lst (ad_cons (ed_callH h_repeats_of hr ht takes_cx (ad_cons (ed_v 2) ad_nil) (by decide)) (ad_cons (ed_callH h_column_of hr ht takes_cx (ad_cons (ed_v 8) ad_nil) (by decide)) ad_nil))) (ad_cons (ed_lst (ad_cons (ed_v 8) (ad_cons (ed_v 2) ad_nil))) ad_nil)) (by decide)))) (wd_or1 (td_not (td_val (ed_callH h__law_says hr ht takes_cx (ad_cons (ed_callH h_are_repeats hr ht takes_cx (ad_cons (ed_v 8) ad_nil) (by decide)) (ad_cons ed_bl ad_nil)) (by decide))))))) (ss_one (sd_ret ed_bl)) ss_nil)
    (ss_cons (sd_set (i := 9) sc_law.nd rfl (.inl rfl) (ed_callH h__law_take hr ht takes_cx (ad_cons (ed_v 1) (ad_cons (ed_b1 call_lenA opv_len (by rfl) B.n_len bt_len (ed_v 8)) ad_nil)) (by decide)))
    (ss_cons (sd_asg (ed_ix (ed_v 8) (ed_v 9)) (gd_tup rfl (gs_cons (gd_name (i := 7) sc_law.nd rfl (.inl rfl)) (gs_cons (gd_name (i := 10) sc_law.nd rfl (.inl rfl)) gs_nil))))
    (ss_cons (sd_set (i := 5) sc_law.nd rfl (.inl rfl) (ed_lst (ad_cons (ed_t1 call_list_of opv_list (by rfl) B.n_list bt_list (ed_v 8)) (ad_cons ed_non (ad_cons (ed_tup ad_nil) (ad_cons ed_int (ad_cons (ed_add (ed_v 8) (ed_sl (ed_v 8) (od_so (ed_neg ed_int)) od_no)) (ad_cons (ed_add (ed_add (ed_sl (ed_v 8) od_no (od_so (ed_v 9))) (ed_tup (ad_cons (ed_tup (ad_cons (ed_v 7) (ad_cons ed_int ad_nil))) ad_nil))) (ed_sl (ed_v 8) (od_so (ed_add (ed_v 9) ed_int)) od_no)) (ad_cons (ed_tup (ad_cons (ed_tup (ad_cons ed_int (ad_cons ed_int ad_nil))) (ad_cons (ed_tup (ad_cons ed_int (ad_cons ed_int ad_nil))) ad_nil))) ad_nil)))))))))
    (ss_cons (sd_for owns_cx rfl (id_val (ed_lst (ad_cons (ed_tup (ad_cons (ed_v 7) (ad_cons ed_int ad_nil))) (ad_cons (ed_tup (ad_cons (ed_v 7) (ad_cons (ed_neg ed_int) ad_nil))) (ad_cons (ed_tup (ad_cons (ed_v 7) ad_nil)) (ad_cons (ed_tup (ad_cons (ed_v 7) (ad_cons (ed_v 10) (ad_cons ed_int ad_nil)))) (ad_cons (ed_lst (ad_cons (ed_v 7) (ad_cons (ed_v 10) ad_nil))) (ad_cons ed_non (ad_cons (ed_tup (ad_cons (ed_neg ed_int) (ad_cons (ed_v 10) ad_nil))) (ad_cons (ed_tup (ad_cons (ed_add (ed_pow ed_int ed_int) ed_int) (ad_cons (ed_v 10) ad_nil))) (ad_cons (ed_tup (ad_cons ed_non (ad_cons (ed_v 10) ad_nil))) (ad_cons (ed_tup (ad_cons (ed_v 7) (ad_cons ed_bl ad_nil))) (ad_cons (ed_tup (ad_cons (ed_v 7) (ad_cons ed_non ad_nil))) (ad_cons (ed_tup (ad_cons ed_bl (ad_cons (ed_v 10) ad_nil))) ad_nil)))))))))))))) (gd_name (i := 6) sc_law.nd rfl (.inl rfl)) (ss_one (sd_expr (ed_append 5 (pv 5) (ed_add (ed_add (ed_sl (ed_v 8) od_no (od_so (ed_v 9))) (ed_tup (ad_cons (ed_v 6) ad_nil))) (ed_sl (ed_v 8) (od_so (ed_add (ed_v 9) ed_int)) od_no))))))
    (ss_cons (sd_if (td_cmp (op_neA (u64 hr)) opv_ne (ed_comp1 [("one", 6)] rfl sc_law.nd (id_val (ed_v 5)) (blk_ok (by kernel_rfl)) (fun _ _ _ _ _ => (gv_name (i := 6) (by decide) sc_law.nd rfl (.inl rfl))) (fun _ _ _ _ _ => (td_cmp op_isnA opv_isn (ed_callH h_are_repeats hr ht takesX (ad_cons (ed_v 6) ad_nil) (by decide)) ed_bl (by rfl))) (fun _ _ _ _ _ => (ed_v 6))) (ed_lst ad_nil) (by rfl)) (ss_one (sd_ret ed_bl)) ss_nil)
    (ss_cons (sd_for owns_cx rfl (id_range1 (by rfl) B.n_range ed_int) (gd_name (i := 11) sc_law.nd rfl (.inl rfl)) (ss_cons (sd_par3 (i := 12) (j := 13) (l := 14) rfl sc_law.nd rfl rfl rfl (by decide) (by decide) (by decide) rfl rfl rfl (ed_callH h__law_take hr ht takes_cx (ad_cons (ed_v 1) (ad_cons (ed_v 3) ad_nil)) (by decide)) (ed_callH h__law_take hr ht takes_cx (ad_cons (ed_v 1) (ad_cons (ed_v 3) ad_nil)) (by decide)) (ed_add ed_int (ed_callH h__law_take hr ht takes_cx (ad_cons (ed_v 1) (ad_cons (ed_v 3) ad_nil)) (by decide))) (by kernel_rfl))
    (ss_cons (sd_if (td_not (td_val (ed_callH h__law_alike hr ht takes_cx (ad_cons (ed_callH h__law_told hr ht takes_cx (ad_cons ed_int (ad_cons (ed_v 8) (ad_cons (ed_v 12) (ad_cons ed_non ad_nil)))) (by decide)) (ad_cons (ed_ix (ed_v 2) (ed_v 12)) ad_nil)) (by decide)))) (ss_one (sd_ret ed_bl)) ss_nil)
    (ss_one (sd_if (td_not (td_val (ed_callH h__law_alike hr ht takes_cx (ad_cons (ed_callH h__law_told hr ht takes_cx (ad_cons ed_int (ad_cons (ed_v 8) (ad_cons (ed_v 13) (ad_cons (ed_v 14) ad_nil)))) (by decide)) (ad_cons (ed_ifE (td_cmp (op_ltA (u64 hr)) opv_lt (ed_v 13) (ed_v 14) (by rfl)) (ed_callH h__law_repeats hr ht takes_cx (ad_cons (ed_sl (ed_v 2) (od_so (ed_v 13)) (od_so (ed_v 14))) ad_nil) (by decide)) ed_str) ad_nil)) (by decide)))) (ss_one (sd_ret ed_bl)) ss_nil)))))
    (ss_cons (sd_if (WD.td (wd_or (td_cmp (op_neA (u64 hr)) opv_ne (ed_comp0 [("one", 6)] rfl sc_law.nd (id_val (ed_lst (ad_cons (ed_neg ed_int) (ad_cons (ed_v 3) (ad_cons ed_non (ad_cons ed_bl ad_nil)))))) (blk_ok (by kernel_rfl)) (fun _ _ _ _ _ => (gv_name (i := 6) (by decide) sc_law.nd rfl (.inl rfl))) (fun _ _ _ _ _ => (ed_callH h__law_told hr ht takesX (ad_cons ed_int (ad_cons (ed_v 8) (ad_cons (ed_v 6) (ad_cons ed_non ad_nil)))) (by decide)))) (ed_mul (ed_lst (ad_cons ed_str ad_nil)) ed_int) (by rfl)) (wd_or1 (td_cmp (op_neA (u64 hr)) opv_ne (ed_comp0 [("i", 13), ("j", 14)] rfl sc_law.nd (id_val (ed_lst (ad_cons (ed_tup (ad_cons (ed_neg ed_int) (ad_cons ed_int ad_nil))) (ad_cons (ed_tup (ad_cons ed_int (ad_cons (ed_add (ed_v 3) ed_int) ad_nil))) (ad_cons (ed_tup (ad_cons ed_int (ad_cons ed_int ad_nil))) (ad_cons (ed_tup (ad_cons (ed_v 3) (ad_cons (ed_v 3) ad_nil))) ad_nil)))))) (blk_ok (by kernel_rfl)) (fun _ _ _ _ _ => (gv_tup rfl (gsv_cons (gv_name (i := 13) (by decide) sc_law.nd rfl (.inl rfl)) (gsv_cons (gv_name (i := 14) (by decide) sc_law.nd rfl (.inl rfl)) gsv_nil)))) (fun _ _ _ _ _ => (ed_callH h__law_told hr ht takesX (ad_cons ed_int (ad_cons (ed_v 8) (ad_cons (ed_v 13) (ad_cons (ed_v 14) ad_nil)))) (by decide)))) (ed_mul (ed_lst (ad_cons ed_str ad_nil)) ed_int) (by rfl))))) (ss_one (sd_ret ed_bl)) ss_nil)
    (ss_cons (sd_set (i := 15) sc_law.nd rfl (.inl rfl) (ed_callH h__law_column hr ht takes_cx (ad_cons (ed_v 1) (ad_cons (ed_ix (ed_lst (ad_cons ed_int (ad_cons ed_int ad_nil))) (ed_callH h__law_take hr ht takes_cx (ad_cons (ed_v 1) (ad_cons ed_int ad_nil)) (by decide))) ad_nil)) (by decide)))
    (ss_cons (sd_set (i := 16) sc_law.nd rfl (.inl rfl) ed_str)
    (ss_cons (sd_if (td_cmp op_leA opv_le (ed_add (ed_v 3) (ed_b1 call_lenA opv_len (by rfl) B.n_len bt_len (ed_v 15))) ed_int (by rfl)) (ss_one (sd_set (i := 16) sc_law.nd rfl (.inl rfl) (ed_callH h__law_repeats hr ht takes_cx (ad_cons (ed_add (ed_v 2) (ed_v 15)) ad_nil) (by decide)))) ss_nil)
    (ss_cons (sd_if (td_not (td_val (ed_callH h__law_alike hr ht takes_cx (ad_cons (ed_callH h__law_told hr ht takes_cx (ad_cons ed_int (ad_cons (ed_v 8) (ad_cons (ed_callH h__law_repeats hr ht takes_cx (ad_cons (ed_v 15) ad_nil) (by decide)) (ad_cons ed_non ad_nil)))) (by decide)) (ad_cons (ed_v 16) ad_nil)) (by decide)))) (ss_one (sd_ret ed_bl)) ss_nil)
    (ss_cons (sd_set (i := 17) sc_law.nd rfl (.inl rfl) (ed_b2 (call_min2 rfl) opv_min2 (by rfl) B.n_min bt_min (ed_v 3) (ed_b1 call_lenA opv_len (by rfl) B.n_len bt_len (ed_v 15))))
    (ss_cons (sd_set (i := 18) sc_law.nd rfl (.inl rfl) (ed_callH h__law_pairing hr ht takes_cx (ad_cons (ed_sl (ed_v 2) od_no (od_so (ed_v 17))) (ad_cons (ed_sl (ed_v 15) od_no (od_so (ed_v 17))) ad_nil)) (by decide)))
    (ss_cons (sd_par (i := 19) (j := 20) rfl sc_law.nd rfl rfl (by decide) rfl rfl (ed_callH h__law_repeats hr ht takes_cx (ad_cons (ed_sl (ed_v 2) od_no (od_so (ed_v 17))) ad_nil) (by decide)) (ed_callH h__law_repeats hr ht takes_cx (ad_cons (ed_sl (ed_v 15) od_no (od_so (ed_v 17))) ad_nil) (by decide)) (by kernel_rfl))
    (ss_cons (sd_if (WD.td (wd_or (td_not (td_val (ed_callH h__law_alike hr ht takes_cx (ad_cons (ed_callH h__law_told hr ht takes_cx (ad_cons ed_int (ad_cons (ed_v 19) (ad_cons (ed_v 20) (ad_cons ed_non ad_nil)))) (by decide)) (ad_cons (ed_v 18) ad_nil)) (by decide)))) (wd_or1 (td_cmp op_gtA opv_gt (ed_b1 call_lenA opv_len (by rfl) B.n_len bt_len (ed_v 18)) (ed_sub (ed_add (ed_b1 call_lenA opv_len (by rfl) B.n_len bt_len (ed_v 19)) (ed_b1 call_lenA opv_len (by rfl) B.n_len bt_len (ed_v 20))) ed_int) (by rfl))))) (ss_one (sd_ret ed_bl)) ss_nil)
    (ss_cons (sd_if (WD.td (wd_and (td_cmp (op_neA (u64 hr)) opv_ne (ed_v 3) (ed_b1 call_lenA opv_len (by rfl) B.n_len bt_len (ed_v 15)) (by rfl)) (wd_and1 (td_cmp (op_neA (u64 hr)) opv_ne (ed_callH h__law_told hr ht takes_cx (ad_cons ed_int (ad_cons (ed_v 8) (ad_cons (ed_callH h__law_repeats hr ht takes_cx (ad_cons (ed_v 15) ad_nil) (by decide)) (ad_cons ed_non ad_nil)))) (by decide)) ed_str (by rfl))))) (ss_one (sd_ret ed_bl)) ss_nil)
    (ss_cons (sd_set (i := 21) sc_law.nd rfl (.inl rfl) (ed_lst (ad_cons (ed_callH h__law_take hr ht takes_cx (ad_cons (ed_v 1) (ad_cons (ed_pow ed_int ed_int) ad_nil)) (by decide)) (ad_cons (ed_callH h__law_take hr ht takes_cx (ad_cons (ed_v 1) (ad_cons ed_int ad_nil)) (by decide)) (ad_cons (ed_pow ed_int ed_int) (ad_cons (ed_sub (ed_pow ed_int ed_int) ed_int) ad_nil))))))
    (ss_one (sd_ret (ed_callH h__law_alike hr ht takes_cx (ad_cons (ed_comp0 [("one", 6)] rfl sc_law.nd (id_val (ed_v 21)) (blk_ok (by kernel_rfl)) (fun _ _ _ _ _ => (gv_name (i := 6) (by decide) sc_law.nd rfl (.inl rfl))) (fun _ _ _ _ _ => (ed_callH h_width hr ht takesX (ad_cons (ed_v 6) ad_nil) (by decide)))) (ad_cons (ed_comp0 [("one", 6)] rfl sc_law.nd (id_val (ed_v 21)) (blk_ok (by kernel_rfl)) (fun _ _ _ _ _ => (gv_name (i := 6) (by decide) sc_law.nd rfl (.inl rfl))) (fun _ _ _ _ _ => (ed_callH h__law_width hr ht takesX (ad_cons (ed_v 6) ad_nil) (by decide)))) ad_nil)) (by decide))))))))))))))))))))))))))))))
end k94
namespace k94
open PySem PySem.Spec PyProof.Rows L2 DL
/-! ### repeats, plainly -/
section
variable {K : Type} [DecidableEq K]
def fst1 (f : List (K × Nat)) (r : K × Nat) : List (K × Nat) := if r.2 = 0 then f else match f.getLast? with
  | none => f ++ [r]
  | some l => if l.1 = r.1 then f.dropLast ++ [(r.1, l.2 + r.2)] else f ++ [r]
theorem fst1_zero (f : List (K × Nat)) (k : K) : fst1 f (k, 0) = f := by unfold fst1; rw [if_pos rfl]
theorem fst1_nil {r : K × Nat} (h : r.2 ≠ 0) : fst1 [] r = [r] := by unfold fst1; rw [if_neg h]; rfl
theorem fst1_same {g : List (K × Nat)} {l r : K × Nat} (h : r.2 ≠ 0) (e : l.1 = r.1) : fst1 (g ++ [l]) r = g ++ [(r.1, l.2 + r.2)] := by
  unfold fst1; rw [if_neg h, List.getLast?_concat]
  simp [e]
theorem fst1_diff {g : List (K × Nat)} {l r : K × Nat} (h : r.2 ≠ 0) (e : ¬ l.1 = r.1) : fst1 (g ++ [l]) r = g ++ [l] ++ [r] := by
  unfold fst1; rw [if_neg h, List.getLast?_concat]
  simp [e]
def expd (f : List (K × Nat)) : List K := f.flatMap fun r => List.replicate r.2 r.1
theorem expd_app (f g : List (K × Nat)) : expd (f ++ g) = expd f ++ expd g := by unfold expd; rw [List.flatMap_append]
theorem expd_one (r : K × Nat) : expd [r] = List.replicate r.2 r.1 := by unfold expd; simp
theorem expd_cons (r : K × Nat) (f : List (K × Nat)) : expd (r :: f) = List.replicate r.2 r.1 ++ expd f := by unfold expd; rw [List.flatMap_cons]
theorem snoc_cases {α : Type} (f : List α) : f = [] ∨ ∃ g l, f = g ++ [l] := by
  rcases List.eq_nil_or_concat f with h | ⟨g, l, h⟩
  · exact .inl h
  · exact .inr ⟨g, l, by rw [h, List.concat_eq_append]⟩
theorem fst1_cases (f : List (K × Nat)) (r : K × Nat) (h : r.2 ≠ 0) : (f = [] ∧ fst1 f r = [r]) ∨ (∃ g l, f = g ++ [l] ∧ l.1 = r.1 ∧ fst1 f r = g ++ [(r.1, l.2 + r.2)]) ∨ (∃ g l, f = g ++ [l] ∧ l.1 ≠ r.1 ∧ fst1 f r = f ++ [r]) := by
  rcases snoc_cases f with rfl | ⟨g, l, rfl⟩
  · exact .inl ⟨rfl, fst1_nil h⟩
  · by_cases e : l.1 = r.1
    · exact .inr (.inl ⟨g, l, rfl, e, fst1_same h e⟩)
    · exact .inr (.inr ⟨g, l, rfl, e, fst1_diff h e⟩)
theorem expd_fst1 (f : List (K × Nat)) (r : K × Nat) : expd (fst1 f r) = expd f ++ List.replicate r.2 r.1 := by
  by_cases h : r.2 = 0
  · obtain ⟨k, n⟩ := r
    have h : n = 0 := h
    subst h
    rw [fst1_zero]; simp
  · rcases fst1_cases f r h with ⟨rfl, e⟩ | ⟨g, l, rfl, e1, e⟩ | ⟨g, l, rfl, e1, e⟩
    · rw [e, expd_one]; rfl
    · rw [e, expd_app, expd_app, expd_one, expd_one, List.append_assoc, e1]
      simp
    · rw [e, expd_app, expd_one]
theorem expd_fold : ∀ (rows f : List (K × Nat)), expd (rows.foldl fst1 f) = expd f ++ expd rows
  | [], f => by simp [expd]
  | r :: rows, f => by rw [List.foldl_cons, expd_fold rows, expd_fst1, expd_cons, List.append_assoc]
theorem fst1_add (f : List (K × Nat)) (k : K) (n : Nat) : fst1 (fst1 f (k, n)) (k, 1) = fst1 f (k, n + 1) := by
  by_cases h : n = 0
  · subst h; rw [fst1_zero]
  · have h1 : (k, 1).2 ≠ 0 := Nat.one_ne_zero
    have hn1 : (k, n + 1).2 ≠ 0 := Nat.succ_ne_zero n
    rcases fst1_cases f (k, n) h with ⟨rfl, e⟩ | ⟨g, l, rfl, e1, e⟩ | ⟨g, l, rfl, e1, e⟩
    · rw [e, fst1_nil hn1]
      exact (fst1_same (g := []) (l := (k, n)) (r := (k, 1)) h1 rfl)
    · rw [e, fst1_same (l := ((k, n).1, l.2 + (k, n).2)) h1 rfl, fst1_same hn1 e1]
      rfl
    · rw [e, fst1_same (l := (k, n)) h1 rfl, fst1_diff hn1 e1]
def rle (c : List K) : List (K × Nat) := (c.map fun k => (k, 1)).foldl fst1 []
theorem fold_rep (f : List (K × Nat)) (k : K) : ∀ n : Nat, ((List.replicate n k).map fun k => (k, 1)).foldl fst1 f = fst1 f (k, n)
  | 0 => by rw [fst1_zero]; rfl
  | n + 1 => by rw [List.replicate_succ', List.map_append, List.foldl_append, fold_rep f k n, ← fst1_add]; rfl
theorem fold_expd : ∀ (rows f : List (K × Nat)), rows.foldl fst1 f = ((expd rows).map fun k => (k, 1)).foldl fst1 f
  | [], f => rfl
  | r :: rows, f => by
    obtain ⟨k, n⟩ := r
    rw [List.foldl_cons, expd_cons, List.map_append, List.foldl_append, fold_rep, fold_expd rows]
theorem folded_eq (rows : List (K × Nat)) : rows.foldl fst1 [] = rle (expd rows) := fold_expd rows []
theorem expd_map1 : ∀ c : List K, expd (c.map fun k => (k, 1)) = c
  | [] => rfl
  | k :: c => by rw [List.map_cons, expd_cons, expd_map1 c]; rfl
theorem expd_rle (c : List K) : expd (rle c) = c := by
  unfold rle
  rw [expd_fold, expd_map1]; rfl
/-! what repeats are -/
structure Can (f : List (K × Nat)) : Prop where
  pos : ∀ r ∈ f, 1 ≤ r.2
  adj : ∀ i a b, f[i]? = some a → f[i + 1]? = some b → a.1 ≠ b.1
theorem Can.snoc {g : List (K × Nat)} {l : K × Nat} (h : Can (g ++ [l])) {r : K × Nat} (hr : 1 ≤ r.2) (hne : l.1 ≠ r.1) : Can (g ++ [l] ++ [r]) := by
  refine ⟨fun x hx => ?_, fun i a b ha hb => ?_⟩
  · rcases List.mem_append.mp hx with hx | hx
    · exact h.pos x hx
    · rw [List.mem_singleton.mp hx]; exact hr
  · by_cases hi : i + 1 < (g ++ [l]).length
    · rw [List.getElem?_append_left (by omega)] at ha
      rw [List.getElem?_append_left hi] at hb
      exact h.adj i a b ha hb
    · have hlt : i + 1 < (g ++ [l] ++ [r]).length := (List.getElem?_eq_some_iff.mp hb).1
      simp only [List.length_append, List.length_singleton] at hi hlt
      have hi2 : i = g.length := by omega
      subst hi2
      rw [List.append_assoc, List.getElem?_append_right (Nat.le_refl _), Nat.sub_self] at ha
      rw [List.append_assoc, List.getElem?_append_right (by omega), show g.length + 1 - g.length = 1 by omega] at hb
      cases ha; cases hb
      exact hne
theorem Can.fst1 {f : List (K × Nat)} (h : Can f) (r : K × Nat) : Can (fst1 f r) := by
  by_cases h0 : r.2 = 0
  · obtain ⟨k, n⟩ := r
    have h0 : n = 0 := h0
    subst h0
    rw [fst1_zero]; exact h
  · rcases fst1_cases f r h0 with ⟨rfl, e⟩ | ⟨g, l, rfl, e1, e⟩ | ⟨g, l, rfl, e1, e⟩
    · rw [e]
      refine ⟨fun x hx => by rw [List.mem_singleton.mp hx]; omega, fun i a b ha hb => ?_⟩
      have := (List.getElem?_eq_some_iff.mp hb).1
      simp at this
    · rw [e]
      refine ⟨fun x hx => ?_, fun i a b ha hb => ?_⟩
      · rcases List.mem_append.mp hx with hx | hx
        · exact h.pos x (List.mem_append_left _ hx)
        · rw [List.mem_singleton.mp hx]; show 1 ≤ l.2 + r.2; omega
      · by_cases hi : i + 1 < g.length
        · rw [List.getElem?_append_left (by omega)] at ha
          rw [List.getElem?_append_left hi] at hb
          exact h.adj i a b (by rw [List.getElem?_append_left (by omega)]; exact ha) (by rw [List.getElem?_append_left hi]; exact hb)
        · have hlt : i + 1 < (g ++ [(r.1, l.2 + r.2)]).length := (List.getElem?_eq_some_iff.mp hb).1
          simp only [List.length_append, List.length_singleton] at hlt
          have hi2 : i + 1 = g.length := by omega
          rw [List.getElem?_append_left (by omega)] at ha
          rw [hi2, List.getElem?_append_right (Nat.le_refl _), Nat.sub_self] at hb
          cases hb
          have := h.adj i a l (by rw [List.getElem?_append_left (by omega)]; exact ha) (by rw [hi2, List.getElem?_append_right (Nat.le_refl _), Nat.sub_self]; rfl)
          rw [← e1]; exact this
    · rw [e]; exact h.snoc (by omega) e1
theorem can_fold : ∀ (rows f : List (K × Nat)), Can f → Can (rows.foldl fst1 f)
  | [], _, h => h
  | r :: rows, f, h => can_fold rows _ (h.fst1 r)
theorem can_nil : Can ([] : List (K × Nat)) := ⟨by simp, by simp⟩
theorem can_rle (c : List K) : Can (rle c) := can_fold _ _ can_nil
theorem fst1_len (f : List (K × Nat)) (r : K × Nat) : (fst1 f r).length ≤ f.length + 1 := by
  by_cases h0 : r.2 = 0
  · obtain ⟨k, n⟩ := r
    have h0 : n = 0 := h0
    subst h0
    rw [fst1_zero]; omega
  · rcases fst1_cases f r h0 with ⟨rfl, e⟩ | ⟨g, l, rfl, e1, e⟩ | ⟨g, l, rfl, e1, e⟩ <;> rw [e] <;> simp
theorem fold_len : ∀ (rows f : List (K × Nat)), (rows.foldl fst1 f).length ≤ f.length + rows.length
  | [], f => Nat.le_refl _
  | r :: rows, f => by
    have h1 := fold_len rows (fst1 f r)
    have h2 := fst1_len f r
    rw [List.foldl_cons, List.length_cons]; omega
theorem rle_len (c : List K) : (rle c).length ≤ c.length := by
  have := fold_len (c.map fun k => (k, 1)) []
  simpa [rle] using this
def tot (f : List (K × Nat)) : Nat := (f.map fun r => r.2).sum
theorem expd_len : ∀ f : List (K × Nat), (expd f).length = tot f
  | [] => rfl
  | r :: f => by rw [expd_cons, List.length_append, List.length_replicate, expd_len f]; simp [tot]
theorem tot_rle (c : List K) : tot (rle c) = c.length := by rw [← expd_len, expd_rle]
theorem tot_mem {f : List (K × Nat)} {r : K × Nat} (h : r ∈ f) : r.2 ≤ tot f := by
  induction f with
  | nil => cases h
  | cons a f ih =>
    have e : tot (a :: f) = a.2 + tot f := by simp [tot]
    rw [e]
    rcases List.mem_cons.mp h with rfl | h
    · omega
    · have := ih h; omega
theorem expd_mem {f : List (K × Nat)} {k : K} : k ∈ expd f ↔ ∃ r ∈ f, r.1 = k ∧ r.2 ≠ 0 := by
  unfold expd
  rw [List.mem_flatMap]
  constructor
  · rintro ⟨r, hr, hk⟩
    rw [List.mem_replicate] at hk
    exact ⟨r, hr, hk.2.symm, hk.1⟩
  · rintro ⟨r, hr, e, h⟩
    exact ⟨r, hr, by rw [List.mem_replicate]; exact ⟨h, e.symm⟩⟩
theorem rle_key {c : List K} {r : K × Nat} (h : r ∈ rle c) : r.1 ∈ c := by
  have h1 := (can_rle c).pos r h
  have : r.1 ∈ expd (rle c) := expd_mem.mpr ⟨r, h, rfl, by omega⟩
  rwa [expd_rle] at this
theorem rle_ne {c : List K} (h : c ≠ []) : rle c ≠ [] := fun e => h (by rw [← expd_rle c, e]; rfl)
/-! a part -/
def cutR (i j : Nat) : Nat → List (K × Nat) → List (K × Nat)
  | _, [] => []
  | b, r :: f => (r.1, min j (b + r.2) - max i b) :: cutR i j (b + r.2) f
theorem cutR_expd (i j : Nat) : ∀ (b : Nat) (f : List (K × Nat)), expd (cutR i j b f) = ((expd f).take (j - b)).drop (i - b)
  | b, [] => by simp [cutR, expd]
  | b, r :: f => by
    rw [cutR, expd_cons, expd_cons, cutR_expd i j (b + r.2) f, List.take_append, List.drop_append, List.take_replicate, List.drop_replicate, List.length_replicate, List.length_replicate]
    have e1 : min (j - b) r.2 - (i - b) = min j (b + r.2) - max i b := by omega
    have e2 : j - (b + r.2) = j - b - r.2 := by omega
    rw [e1, e2]
    congr 1
    by_cases h : r.2 ≤ j - b
    · have : i - (b + r.2) = i - b - min (j - b) r.2 := by omega
      rw [this]
    · have e3 : j - b - r.2 = 0 := by omega
      rw [e3]; simp
theorem cutR_len (i j : Nat) : ∀ (b : Nat) (f : List (K × Nat)), (cutR i j b f).length = f.length
  | b, [] => rfl
  | b, r :: f => by rw [cutR, List.length_cons, List.length_cons, cutR_len]
end
/-! pairs -/
section
variable {A B : Type} [DecidableEq A] [DecidableEq B]
theorem zip_rep (v : A) (w : B) (X : List A) (Y : List B) : ∀ m t l : Nat, m ≤ t → m ≤ l → (List.replicate t v ++ X).zip (List.replicate l w ++ Y) = List.replicate m (v, w) ++ (List.replicate (t - m) v ++ X).zip (List.replicate (l - m) w ++ Y)
  | 0, t, l, _, _ => by simp
  | m + 1, t + 1, l + 1, h1, h2 => by
    rw [List.replicate_succ, List.replicate_succ, List.replicate_succ, List.cons_append, List.cons_append, List.cons_append, List.zip_cons_cons, zip_rep v w X Y m t l (by omega) (by omega)]
    have e1 : t + 1 - (m + 1) = t - m := by omega
    have e2 : l + 1 - (m + 1) = l - m := by omega
    rw [e1, e2]
end
/-! ### folded -/
theorem ixN_last (n : Nat) : ixN (n + 1) (-1) = some n := by
  unfold ixN
  rw [if_neg (by decide), if_pos (by omega)]
  congr 1; omega
theorem set_last {α : Type} (g : List α) (a b : α) : (g ++ [a]).set g.length b = g ++ [b] := by
  rw [List.set_append_right _ _ (Nat.le_refl _), Nat.sub_self]; rfl
structure KeyE {K : Type} (ke : K → List Int) : Prop where
  inj : ∀ a b, ke a = ke b → a = b
  len : ∀ a, (ke a).length ≤ 4
section
variable {K : Type} [DecidableEq K] {ke : K → List Int} {W : List (List D)}
abbrev encR (ke : K → List Int) (r : K × Nat) : D := .tup (dI (ke r.1) ++ [.int (r.2 : Int)])
theorem key_eq (hk : KeyE ke) (a b : K) : eqO (.tup (dI (ke a))) (.tup (dI (ke b))) = some (decide (a = b)) := by
  rw [eqO_tt]
  refine congrArg some (decide_eq_decide.mpr ⟨hk.inj a b, fun h => by rw [h]⟩)
theorem cut_key (k : List Int) (n : Int) : cutL (dI k ++ [D.int n]) none (some (-1)) = dI k := by
  rw [cutL_neg1, List.dropLast_concat]
theorem folded_step (hk : KeyE ke) (a : Slot) (f : List (K × Nat)) (r : K × Nat) (hl : f.length < 60000) :
    l_folded_1 ⟨[a, .ow (f.map (encR ke)), .pv (encR ke r)], W⟩ = .ok .nx ⟨[a, .ow ((fst1 f r).map (encR ke)), .pv (encR ke r)], W⟩ := by
  obtain ⟨k, n⟩ := r
  have hkl := hk.len k
  by_cases hn : n = 0
  · subst hn
    rw [fst1_zero]
    generalize f.map (encR ke) = F
    simp [l_folded_1_ap]
  · have hp : 0 < n := by omega
    have c1 := cut_key (ke k) (n : Int)
    rcases fst1_cases f (k, n) hn with ⟨rfl, e⟩ | ⟨g, l, rfl, e1, e⟩ | ⟨g, l, rfl, e1, e⟩
    · rw [e]
      simp only [List.map_nil, List.map_cons, encR]
      generalize dI (ke k) = X at *
      simp [l_folded_1_ap, hp]
    · rw [e]
      simp only [List.map_append, List.map_cons, List.map_nil, encR]
      have c2 := cut_key (ke l.1) (l.2 : Int)
      have he := key_eq hk l.1 k
      rw [decide_eq_true e1] at he
      have hix := ixN_last (g.map (encR ke)).length
      have hset := set_last (g.map (encR ke))
      have hxl : (dI (ke k)).length ≤ 4 := by rw [List.length_map]; exact hkl
      have hcast : ((l.2 + n : Nat) : Int) = (l.2 : Int) + (n : Int) := by omega
      rw [hcast]
      generalize g.map (encR ke) = G at *
      generalize dI (ke k) = X at *
      generalize dI (ke l.1) = Y at *
      have hp2 : (0 : Int) < (G.length : Int) + 1 := by omega
      have hs2 : X.length + 1 ≤ 65536 := by omega
      simp [l_folded_1_ap, hp, c1, c2, he, hix, hset, hp2, hs2]
    · rw [e]
      simp only [List.map_append, List.map_cons, List.map_nil, encR]
      have c2 := cut_key (ke l.1) (l.2 : Int)
      have he := key_eq hk l.1 k
      rw [decide_eq_false e1] at he
      have hgl : (g.map (encR ke)).length + 1 < 60000 := by simpa using hl
      generalize g.map (encR ke) = G at *
      generalize dI (ke k) = X at *
      generalize dI (ke l.1) = Y at *
      have hp2 : (0 : Int) < (G.length : Int) + 1 := by omega
      have hs2 : G.length + 1 < 65536 := by omega
      simp [l_folded_1_ap, hp, c1, c2, he, hp2, hs2]
theorem folded_ok (hk : KeyE ke) (rows : List (K × Nat)) (hl : rows.length < 50000) (arg : D) (ha : arg = .tup (rows.map (encR ke)) ∨ arg = .lst (rows.map (encR ke))) : m_folded [.pv arg] W = .ok (.pv (.tup ((rle (expd rows)).map (encR ke)))) W := by
  rw [← folded_eq]
  obtain ⟨hP, j', e⟩ := loopD_fold (g := gSet 2) (body := l_folded_1) (encR ke) (fun (f : List (K × Nat)) (j : Slot) => (⟨[.pv arg, .ow (f.map (encR ke)), j], W⟩ : S)) fst1 (fun l f => f.length ≤ l.length) rows [] .no (Nat.le_refl _) (by
    intro l x r b j hL hP
    refine ⟨?_, .pv (encR ke x), ?_⟩
    · have := fst1_len b x
      rw [List.length_append, List.length_singleton]; omega
    · have : l.length < rows.length := by rw [hL]; simp
      have e := folded_step (W := W) hk (.pv arg) b x (by omega)
      generalize b.map (encR ke) = B at *
      generalize (fst1 b x).map (encR ke) = B2 at *
      generalize encR ke x = X at *
      simp
      exact e)
  have hz : (rows.foldl fst1 []).length ≤ rows.length := hP
  generalize (rows.foldl fst1 []).map (encR ke) = R at *
  simp only [List.map_nil] at e
  rcases ha with rfl | rfl
  · generalize rows.map (encR ke) = L at *
    simp [m_folded_ap, b_folded_ap, e]
  · generalize rows.map (encR ke) = L at *
    simp [m_folded_ap, b_folded_ap, e]
end
/-! ### _law_draws, _law_take -/
theorem dr_in (W : List (List D)) (a c e g : Slot) : ∀ (xs : List D) (ds : List Int) (num : Int) (f : Slot), ds.length + xs.length < 2 ^ 20 →
    ∃ ds' num' f', ds'.length ≤ ds.length + xs.length ∧ loopD (gSet 5) l__law_draws_1 xs ⟨[a, .ow (dI ds), c, .pv (.int num), e, f, g], W⟩ = .ok .nx ⟨[a, .ow (dI ds'), c, .pv (.int num'), e, f', g], W⟩
  | [], ds, num, f, _ => ⟨ds, num, f, by simp, rfl⟩
  | x :: xs, ds, num, f, h => by
    simp only [List.length_cons] at h
    by_cases hn : 0 < num
    · obtain ⟨ds', num', f', h1, h2⟩ := dr_in W a c e g xs (ds ++ [num % 997]) (num / 997) (.pv x) (by simp; omega)
      refine ⟨ds', num', f', by simp at h1 ⊢; omega, ?_⟩
      have hz : ds.length < sizeLine := by unfold sizeLine; omega
      rw [loopD_cons]
      simp at h2
      simp [l__law_draws_1_ap, hn, hz, h2]
    · obtain ⟨ds', num', f', h1, h2⟩ := dr_in W a c e g xs ds num (.pv x) (by omega)
      refine ⟨ds', num', f', by simp at h1 ⊢; omega, ?_⟩
      rw [loopD_cons]
      simp [l__law_draws_1_ap, hn, h2]
theorem dr_out (W : List (List D)) (a g : Slot) : ∀ (xs : List Int) (ds : List Int) (c d e f : Slot), ds.length + 62 * xs.length < 2 ^ 19 →
    ∃ ds' c' d' e' f', ds'.length ≤ ds.length + 62 * xs.length ∧ loopD (gSet 2) l__law_draws_2 (dI xs) ⟨[a, .ow (dI ds), c, d, e, f, g], W⟩ = .ok .nx ⟨[a, .ow (dI ds'), c', d', e', f', g], W⟩
  | [], ds, c, d, e, f, _ => ⟨ds, c, d, e, f, by simp, rfl⟩
  | x :: xs, ds, c, d, e, f, h => by
    simp only [List.length_cons] at h
    have hz : ds.length < sizeLine := by unfold sizeLine; omega
    have hz1 : ds.length + 1 < sizeLine := by unfold sizeLine; omega
    have r60 : rOk 60 = true := by decide
    have l60 : (rngD 0 60).length = 60 := by rw [rng_len]; rfl
    generalize hnum : (if x < 0 then -x else x) = num
    by_cases hn : num < 1000000000000000000
    · obtain ⟨ds1, num1, f1, h1, h2⟩ := dr_in W a (.pv (.int x)) (.pv (.int ((num * 48271 + 11) % 2147483647))) g (rngD 0 60)
        (ds ++ [((num * 48271 + 11) % 2147483647 * 69621 + num) % 2147483629] ++ [((num * 48271 + 11) % 2147483647 + num / 7) % 1000003]) 0 f (by simp [l60]; omega)
      obtain ⟨ds', c', d', e', f', h3, h4⟩ := dr_out W a g xs ds1 (.pv (.int x)) (.pv (.int num1)) (.pv (.int ((num * 48271 + 11) % 2147483647))) f1 (by simp [l60] at h1; omega)
      refine ⟨ds', c', d', e', f', by simp [l60] at h1 h3 ⊢; omega, ?_⟩
      simp only [List.map_cons, loopD_cons]
      simp at h2
      simp [l__law_draws_2_ap, hnum, hn, mulOk, hz, hz1, r60, h2, h4]
    · obtain ⟨ds1, num1, f1, h1, h2⟩ := dr_in W a (.pv (.int x)) e g (rngD 0 60) ds num f (by simp [l60]; omega)
      obtain ⟨ds', c', d', e', f', h3, h4⟩ := dr_out W a g xs ds1 (.pv (.int x)) (.pv (.int num1)) e f1 (by simp [l60] at h1; omega)
      refine ⟨ds', c', d', e', f', by simp [l60] at h1 h3 ⊢; omega, ?_⟩
      simp only [List.map_cons, loopD_cons]
      simp [l__law_draws_2_ap, hnum, hn, mulOk, hz, hz1, r60, h2, h4]
theorem dr_seed (W : List (List D)) (a c d e : Slot) : ∀ (xs : List D) (ds : List Int) (num : Int) (f : Slot), ds.length + xs.length < 2 ^ 20 →
    ∃ ds' num' f', loopD (gSet 5) l__law_draws_3 xs ⟨[a, .ow (dI ds), c, d, e, f, .pv (.int num)], W⟩ = .ok .nx ⟨[a, .ow (dI ds'), c, d, e, f', .pv (.int num')], W⟩
  | [], ds, num, f, _ => ⟨ds, num, f, rfl⟩
  | x :: xs, ds, num, f, h => by
    simp only [List.length_cons] at h
    have hz : ds.length < sizeLine := by unfold sizeLine; omega
    obtain ⟨ds', num', f', h2⟩ := dr_seed W a c d e xs (ds ++ [(num * 48271 + 69621) % 2147483647 / 5]) ((num * 48271 + 69621) % 2147483647) (.pv x) (by simp; omega)
    refine ⟨ds', num', f', ?_⟩
    rw [loopD_cons]
    simp at h2
    simp [l__law_draws_3_ap, mulOk, hz, h2]
theorem draws_ok (ns : List Int) (hl : ns.length ≤ 63) (W : List (List D)) : ∃ ds : List Int, m__law_draws [.pv (.scr (dI ns))] W = .ok (.ow (dI ds)) W := by
  obtain ⟨ds1, c1, d1, e1, f1, h1, h2⟩ := dr_out W (.pv (.scr (dI ns))) .no ns [] .no .no .no .no (by simp; omega)
  have r900 : rOk 900 = true := by decide
  have l900 : (rngD 0 900).length = 900 := by rw [rng_len]; rfl
  have hds : ds1.length + (rngD 0 900).length < 2 ^ 20 := by simp [l900] at h1 ⊢; omega
  simp at h2
  cases ns with
  | nil =>
    obtain ⟨ds2, n2, f2, h3⟩ := dr_seed W (.pv (.scr (dI []))) c1 d1 e1 (rngD 0 900) ds1 1 f1 hds
    simp at h2
    obtain ⟨rfl, rfl, rfl, rfl, rfl⟩ := h2
    simp at h3
    refine ⟨ds2.reverse, ?_⟩
    simp [m__law_draws_ap, b__law_draws_ap, sizeLine, r900, h3]
  | cons n ns =>
    obtain ⟨ds2, n2, f2, h3⟩ := dr_seed W (.pv (.scr (dI (n :: ns)))) c1 d1 e1 (rngD 0 900) ds1 (1 + (if n < 0 then -n else n)) f1 hds
    simp at h2 h3
    refine ⟨ds2.reverse, ?_⟩
    have hp : (0 : Int) < (ns.length : Int) + 1 := by omega
    simp [m__law_draws_ap, b__law_draws_ap, sizeLine, h2, r900, h3, hp]
/-- the state of the draws -/
def Dr (W : List (List D)) : Prop := ∃ ds : List Int, W = [dI ds]
theorem take_ok {W : List (List D)} (h : Dr W) (b : Int) (hb : 0 < b) : ∃ v W', m__law_take [.lc 0, .pv (.int b)] W = .ok (.pv (.int v)) W' ∧ 0 ≤ v ∧ v < b ∧ Dr W' := by
  obtain ⟨ds, rfl⟩ := h
  rcases List.eq_nil_or_concat ds with rfl | ⟨L, n, rfl⟩
  · exact ⟨0, [dI []], by simp [m__law_take_ap, b__law_take_ap], by omega, hb, [], rfl⟩
  · refine ⟨n % b, [dI L], ?_, Int.emod_nonneg _ (by omega), Int.emod_lt_of_pos _ hb, L, rfl⟩
    have e : ¬ ((L.length : Int) + 1 = 0) := by omega
    simp [m__law_take_ap, b__law_take_ap, hb, e]
/-! ### alike, of a value with itself -/
def plainD : Nat → D → Prop
  | _, .non => True
  | _, .bl _ => True
  | _, .int _ => True
  | _, .str _ => True
  | k + 1, .tup xs => xs.length < 2 ^ 20 ∧ ∀ x ∈ xs, plainD k x
  | k + 1, .lst xs => xs.length < 2 ^ 20 ∧ ∀ x ∈ xs, plainD k x
  | _, _ => False
theorem plain_ints (k : Nat) (ns : List Int) : ∀ x ∈ dI ns, plainD k x := fun x hx => by
  obtain ⟨n, _, rfl⟩ := List.mem_map.mp hx
  cases k <;> trivial
theorem eqO_bl (b c : Bool) : eqO (.bl b) (.bl c) = some (b == c) := by cases b <;> cases c <;> decide
theorem al_loop {r : Fn} {W : List (List D)} {a : D} {xs : List D} (ha : a = .tup xs ∨ a = .lst xs) (hr : ∀ x ∈ xs, r [.pv x, .pv x] W = .ok (.pv (.bl true)) W) : ∀ (js : List Nat), (∀ j ∈ js, j < xs.length) →
    loopC [2] (gSet 2) (t__law_alike_1 r) (x__law_alike_1 r) (js.map fun (i : Nat) => D.int (i : Int)) [] ⟨[.pv a, .pv a, .no], W⟩ = .ok [] ⟨[.pv a, .pv a, .no], W⟩
  | [], _ => by simp [loopC]
  | j :: js, h => by
    have e := al_loop ha hr js (fun i hi => h i (List.mem_cons_of_mem _ hi))
    have hj := h j List.mem_cons_self
    have hx : atI xs (j : Int) = some xs[j] := atI_nt (List.getElem?_eq_getElem hj)
    have hq := hr xs[j] (List.getElem_mem hj)
    rw [List.map_cons]
    rcases ha with rfl | rfl <;> simp [loopC, t__law_alike_1_ap, hx, hq, e]
theorem alike_refl : ∀ (k : Nat) (a : D) (W : List (List D)), plainD k a → m__law_alike (k + 1) [.pv a, .pv a] W = .ok (.pv (.bl true)) W
  | k, .non, W, _ => by simp [m__law_alike_ap, b__law_alike_ap]
  | k, .bl b, W, _ => by
    have e : eqO (.bl b) (.bl b) = some true := by cases b <;> decide
    simp [m__law_alike_ap, b__law_alike_ap, e]
  | k, .int i, W, _ => by simp [m__law_alike_ap, b__law_alike_ap]
  | k, .str z, W, _ => by simp [m__law_alike_ap, b__law_alike_ap]
  | k + 1, .tup xs, W, h => by
    have e := al_loop (r := m__law_alike (k + 1)) (W := W) (a := .tup xs) (.inl rfl) (fun x hx => alike_refl k x W (h.2 x hx)) (List.range xs.length) (fun j hj => List.mem_range.mp hj)
    have h1 := rOkN (n := xs.length) (by have := h.1; omega)
    simp [m__law_alike_ap, b__law_alike_ap, c__law_alike_1_ap, eqO_bl, h1, rngD_0, e, eqO_nil]
  | k + 1, .lst xs, W, h => by
    have e := al_loop (r := m__law_alike (k + 1)) (W := W) (a := .lst xs) (.inr rfl) (fun x hx => alike_refl k x W (h.2 x hx)) (List.range xs.length) (fun j hj => List.mem_range.mp hj)
    have h1 := rOkN (n := xs.length) (by have := h.1; omega)
    simp [m__law_alike_ap, b__law_alike_ap, c__law_alike_1_ap, eqO_bl, h1, rngD_0, e, eqO_nil]
  | 0, .scr _, _, h => False.elim h
  | _ + 1, .scr _, _, h => False.elim h
  | 0, .dK _, _, h => False.elim h
  | _ + 1, .dK _, _, h => False.elim h
  | 0, .dT _, _, h => False.elim h
  | _ + 1, .dT _, _, h => False.elim h
  | 0, .glb _, _, h => False.elim h
  | _ + 1, .glb _, _, h => False.elim h
  | 0, .ty _, _, h => False.elim h
  | _ + 1, .ty _, _, h => False.elim h
  | 0, .tup _, _, h => False.elim h
  | 0, .lst _, _, h => False.elim h
/-! ### is_number -/
theorem num_D (d : D) (h : Nice d) (a b : Int) (W : List (List D)) : m_is_number [.pv d, .pv (.int a), .pv (.int b)] W = .ok (.pv (.bl (inB a b d))) W := by
  cases d with
  | int i =>
    have e : inB a b (.int i) = decide (a ≤ i ∧ i ≤ b) := rfl
    rw [e]
    by_cases h1 : a ≤ i
    · by_cases h2 : i ≤ b <;> simp [m_is_number_ap, b_is_number_ap, h1, h2]
    · simp [m_is_number_ap, b_is_number_ap, h1]
  | bl i => simp [m_is_number_ap, b_is_number_ap, inB]
  | non => simp [m_is_number_ap, b_is_number_ap, inB]
  | str x => simp [m_is_number_ap, b_is_number_ap, inB]
  | tup x => simp [m_is_number_ap, b_is_number_ap, inB]
  | lst x => simp [m_is_number_ap, b_is_number_ap, inB]
  | scr x => simp [m_is_number_ap, b_is_number_ap, inB]
  | dK _ => exact h.elim
  | dT _ => exact h.elim
  | glb _ => exact h.elim
  | ty _ => exact h.elim
theorem num_i (i a b : Int) (W : List (List D)) : m_is_number [.pv (.int i), .pv (.int a), .pv (.int b)] W = .ok (.pv (.bl (decide (a ≤ i ∧ i ≤ b)))) W := num_D (.int i) trivial a b W
def kI : Int → List Int := fun v => [v]
def kP : Int × Int → List Int := fun p => [p.1, p.2]
theorem kI_ok : KeyE kI := ⟨fun a b h => by simpa [kI] using h, fun a => by simp [kI]⟩
theorem kP_ok : KeyE kP := ⟨fun a b h => by simpa [kP, Prod.ext_iff] using h, fun a => by simp [kP]⟩
abbrev rD (f : List (Int × Nat)) : D := .tup (f.map (encR kI))
abbrev cD (c : List Int) : D := .tup (dI c)
theorem encR_I (r : Int × Nat) : encR kI r = .tup [.int r.1, .int (r.2 : Int)] := rfl
section
variable {W : List (List D)}
theorem repeats_ok (c : List Int) (hl : c.length ≤ 1000) : m_repeats_of [.pv (cD c)] W = .ok (.pv (rD (rle c))) W := by
  have ec : c_repeats_of_1 ⟨[.pv (cD c), .no], W⟩ = .ok (.ow ((c.map fun v => (v, 1)).map (encR kI))) ⟨[.pv (cD c), .no], W⟩ := by
    rw [c_repeats_of_1_ap]
    refine eComp_map D.int (fun v => encR kI (v, 1)) c (ds := dI c) (by simp) rfl (by simp) (fun v hv => ?_) (szOk (by omega)) (by rw [List.map_map]; rfl)
    simp [x_repeats_of_1_ap, encR_I]
  have ef := folded_ok (W := W) kI_ok (c.map fun v => (v, 1)) (by simp; omega) _ (.inr rfl)
  rw [expd_map1] at ef
  simp only [rD, cD] at *
  generalize (c.map fun v => (v, 1)).map (encR kI) = L at *
  generalize (rle c).map (encR kI) = R at *
  generalize dI c = C at *
  simp [m_repeats_of_ap, b_repeats_of_ap, ec, ef]
theorem col_a (a : Slot) (B Z : List D) (v n : Int) (hm : mulD (.lst [.int v]) (.int n) = some (.ow Z)) :
    (eOp2 mulD (eLst (aCons (eV 2) aNil)) (eV 3)) ⟨[a, .ow B, .pv (.int v), .pv (.int n)], W⟩ = .ok (.ow Z) ⟨[a, .ow B, .pv (.int v), .pv (.int n)], W⟩ := by
  simp [-mul_li, hm]
theorem col_b (a y z : Slot) (B Z : List D) (h : B.length + Z.length ≤ 65536) (F : EV) (hF : F ⟨[a, .ow B, y, z], W⟩ = .ok (.ow Z) ⟨[a, .ow B, y, z], W⟩) :
    (sEx (eExt 1 F)) ⟨[a, .ow B, y, z], W⟩ = .ok .nx ⟨[a, .ow (B ++ Z), y, z], W⟩ := by
  simp [hF, h]
theorem col_c (a y z : Slot) (B : List D) (v n : Int) (F : SV) (s' : S) (hF : F ⟨[a, .ow B, .pv (.int v), .pv (.int n)], W⟩ = .ok .nx s') :
    turnD (gTupD (lenIs 2 (gConsD (gSet 2) (gConsD (gSet 3) gNilD)))) F (.tup [.int v, .int n]) ⟨[a, .ow B, y, z], W⟩ = .ok .nx s' := by
  simp [hF]
theorem col_turn (a y z : Slot) (B : List D) (v : Int) (n : Nat) (h : B.length + n ≤ 65536) :
    turnD (gTupD (lenIs 2 (gConsD (gSet 2) (gConsD (gSet 3) gNilD)))) l_column_of_1 (.tup [.int v, .int (n : Int)]) ⟨[a, .ow B, y, z], W⟩ = .ok .nx ⟨[a, .ow (B ++ List.replicate n (D.int v)), .pv (.int v), .pv (.int (n : Int))], W⟩ := by
  refine col_c a y z B v n _ _ ?_
  rw [l_column_of_1_ap]
  exact col_b a _ _ B _ (by rw [List.length_replicate]; exact h) _ (col_a a B _ v n (mul_lst1 (D.int v) (by omega)))
theorem col_fold (f : List (Int × Nat)) (hl : tot f ≤ 1000) (a : Slot) : ∃ y z, loopD (gTupD (lenIs 2 (gConsD (gSet 2) (gConsD (gSet 3) gNilD)))) l_column_of_1 (f.map (encR kI)) ⟨[a, .ow [], .no, .no], W⟩ = .ok .nx ⟨[a, .ow (dI (expd f)), y, z], W⟩ := by
  obtain ⟨s', e, y, z, rfl⟩ := loopD_rel (g := gTupD (lenIs 2 (gConsD (gSet 2) (gConsD (gSet 3) gNilD)))) (body := l_column_of_1) (encR kI) (fun l s => ∃ y z : Slot, s = ⟨[a, .ow (dI (expd l)), y, z], W⟩) f (fun l x r s hL hI => by
    obtain ⟨y, z, rfl⟩ := hI
    have h1 : (dI (expd l)).length + x.2 ≤ 65536 := by
      have : tot f = tot l + (x.2 + tot r) := by rw [hL]; simp [tot]
      rw [List.length_map, expd_len]; omega
    refine ⟨.nx, _, col_turn a y z (dI (expd l)) x.1 x.2 h1, .inl rfl, .pv (.int x.1), .pv (.int (x.2 : Int)), ?_⟩
    rw [expd_app, expd_one]
    have : dI (expd l ++ List.replicate x.2 x.1) = dI (expd l) ++ List.replicate x.2 (D.int x.1) := by simp
    rw [this]) (s := ⟨[a, .ow [], .no, .no], W⟩) ⟨.no, .no, rfl⟩
  exact ⟨y, z, e⟩
theorem column_of_ok (f : List (Int × Nat)) (hl : tot f ≤ 1000) : m_column_of [.pv (rD f)] W = .ok (.pv (cD (expd f))) W := by
  obtain ⟨y, z, e⟩ := col_fold (W := W) f hl (.pv (rD f))
  simp only [rD, cD] at *
  generalize dI (expd f) = E at *
  generalize f.map (encR kI) = FF at *
  simp [m_column_of_ap, b_column_of_ap, e]
theorem sum_cast : ∀ f : List (Int × Nat), (f.map fun r => (r.2 : Int)).sum = (tot f : Int)
  | [] => rfl
  | r :: f => by rw [List.map_cons, List.sum_cons, sum_cast f]; simp [tot]
theorem length_ok (f : List (Int × Nat)) (hl : f.length ≤ 1000) : m_length [.pv (rD f)] W = .ok (.pv (.int (tot f : Int))) W := by
  have ec : c_length_1 ⟨[.pv (rD f), .no, .no], W⟩ = .ok (.ow (dI (f.map fun r => (r.2 : Int)))) ⟨[.pv (rD f), .no, .no], W⟩ := by
    rw [c_length_1_ap]
    refine eComp_map (encR kI) (fun r => .int (r.2 : Int)) f (ds := f.map (encR kI)) (by simp) rfl (by simp) (fun r hr => ?_) (szOk (by omega)) (by rw [dI, List.map_map]; rfl)
    rw [encR_I]
    simp [x_length_1_ap]
  have hs : sumA (.lst (dI (f.map fun r => (r.2 : Int)))) = some (.pv (.int (tot f : Int))) := by
    have := sumA_lst (f.map fun r => (r.2 : Int))
    rw [sum_cast] at this; exact this
  generalize dI (f.map fun r => (r.2 : Int)) = L at *
  generalize rD f = R at *
  simp [m_length_ap, b_length_ap, ec, hs]
theorem item_loop {a : Slot} : ∀ (f : List (Int × Nat)) (p : Nat) (y z : Slot), p < tot f → ∃ s', loopD (gTupD (lenIs 2 (gConsD (gSet 2) (gConsD (gSet 3) gNilD)))) l_item_at_1 (f.map (encR kI)) ⟨[a, .pv (.int (p : Int)), y, z], W⟩ = .ok (.rt (.pv (.int ((expd f).getD p 0)))) s' ∧ s'.W = W
  | [], p, y, z, h => absurd h (by simp [tot])
  | r :: f, p, y, z, h => by
    rw [List.map_cons, loopD_cons', encR_I]
    by_cases hp : p < r.2
    · refine ⟨⟨[a, .pv (.int (p : Int)), .pv (.int r.1), .pv (.int (r.2 : Int))], W⟩, ?_, rfl⟩
      have hv : (expd (r :: f)).getD p 0 = r.1 := by
        rw [expd_cons, List.getD_eq_getElem?_getD, List.getElem?_append_left (by rw [List.length_replicate]; exact hp), List.getElem?_replicate, if_pos hp]; rfl
      rw [hv]
      generalize f.map (encR kI) = F
      simp [l_item_at_1_ap, hp]
    · have ht : tot (r :: f) = r.2 + tot f := by simp [tot]
      obtain ⟨s', e, hW⟩ := item_loop (a := a) f (p - r.2) (.pv (.int r.1)) (.pv (.int (r.2 : Int))) (by omega)
      refine ⟨s', ?_, hW⟩
      have hv : (expd (r :: f)).getD p 0 = (expd f).getD (p - r.2) 0 := by
        rw [expd_cons, List.getD_eq_getElem?_getD, List.getElem?_append_right (by rw [List.length_replicate]; omega), List.length_replicate, List.getD_eq_getElem?_getD]
      rw [hv]
      have hc : ((p - r.2 : Nat) : Int) = (p : Int) - (r.2 : Int) := by omega
      rw [hc] at e
      generalize (expd f).getD (p - r.2) 0 = v at *
      generalize f.map (encR kI) = F at *
      simp [l_item_at_1_ap, hp, e]
theorem item_ok (f : List (Int × Nat)) (hl : f.length ≤ 1000) (p : Nat) (hp : p < tot f) : m_item_at [.pv (rD f), .pv (.int (p : Int))] W = .ok (.pv (.int ((expd f).getD p 0))) W := by
  have e1 := length_ok (W := W) f hl
  have e2 := num_i (p : Int) 0 ((tot f : Int) - 1) W
  rw [decide_eq_true (by omega)] at e2
  obtain ⟨⟨η, W'⟩, e3, rfl⟩ := item_loop (a := .pv (rD f)) (W := W) f p .no .no hp
  simp only [rD] at *
  generalize f.map (encR kI) = F at *
  simp [m_item_at_ap, b_item_at_ap, e1, e2, e3]
theorem item_bad (f : List (Int × Nat)) (hl : f.length ≤ 1000) (d : D) (hd : Nice d) (hb : inB 0 ((tot f : Int) - 1) d = false) : m_item_at [.pv (rD f), .pv d] W = .err "OutOfRange" W := by
  have e1 := length_ok (W := W) f hl
  have e2 := num_D d hd 0 ((tot f : Int) - 1) W
  rw [hb] at e2
  generalize rD f = R at *
  simp [m_item_at_ap, b_item_at_ap, e1, e2]
theorem cut_fold (i j : Nat) : ∀ (f F : List (Int × Nat)) (b : Nat), f.foldl (fun (q : List (Int × Nat) × Nat) r => (q.1 ++ [(r.1, min j (q.2 + r.2) - max i q.2)], q.2 + r.2)) (F, b) = (F ++ cutR i j b f, b + tot f)
  | [], F, b => by simp [cutR, tot]
  | r :: f, F, b => by
    rw [List.foldl_cons, cut_fold i j f, cutR]
    simp [tot, Nat.add_assoc]
theorem part_ok (f : List (Int × Nat)) (hl : f.length ≤ 1000) (ht : tot f ≤ 100000) (i j : Nat) (h1 : i < j) (h2 : j ≤ tot f) : m_part_of [.pv (rD f), .pv (.int (i : Int)), .pv (.int (j : Int))] W = .ok (.pv (rD (rle (((expd f).take j).drop i)))) W := by
  have e1 := length_ok (W := W) f hl
  have e2 := num_i (i : Int) 0 ((tot f : Int) - 1) W
  rw [decide_eq_true (by omega)] at e2
  have e3 := num_i (j : Int) ((i : Int) + 1) (tot f : Int) W
  rw [decide_eq_true (by omega)] at e3
  obtain ⟨hP, j', e⟩ := loopD_fold (g := gTupD (lenIs 2 (gConsD (gSet 5) (gConsD (gSet 6) gNilD)))) (body := l_part_of_1) (encR kI) (fun (q : List (Int × Nat) × Nat) (y : Slot × Slot) => (⟨[.pv (rD f), .pv (.int (i : Int)), .pv (.int (j : Int)), .ow (q.1.map (encR kI)), .pv (.int (q.2 : Int)), y.1, y.2], W⟩ : S))
    (fun (q : List (Int × Nat) × Nat) r => (q.1 ++ [(r.1, min j (q.2 + r.2) - max i q.2)], q.2 + r.2)) (fun l q => q.1.length = l.length) f ([], 0) (.no, .no) rfl (by
    intro l x r q y hL hP
    refine ⟨by simp [hP], (.pv (.int x.1), .pv (.int (x.2 : Int))), ?_⟩
    have hz : (q.1.map (encR kI)).length < 65536 := by
      have : l.length < f.length := by rw [hL]; simp
      rw [List.length_map]; omega
    have hv : (if 0 < (if (q.2 : Int) + (x.2 : Int) < (j : Int) then (q.2 : Int) + (x.2 : Int) else (j : Int)) - (if (i : Int) < (q.2 : Int) then (q.2 : Int) else (i : Int)) then (if (q.2 : Int) + (x.2 : Int) < (j : Int) then (q.2 : Int) + (x.2 : Int) else (j : Int)) - (if (i : Int) < (q.2 : Int) then (q.2 : Int) else (i : Int)) else 0) = ((min j (q.2 + x.2) - max i q.2 : Nat) : Int) := by
      split <;> split <;> split <;> omega
    simp only [List.map_append, List.map_cons, List.map_nil, encR_I]
    rw [← hv, show ((q.2 + x.2 : Nat) : Int) = (q.2 : Int) + (x.2 : Int) by omega]
    generalize q.1.map (encR kI) = Q at *
    generalize rD f = R at *
    clear hv
    simp [l_part_of_1_ap, hz])
  rw [cut_fold] at e hP
  simp only [List.nil_append, List.map_nil] at e
  have e4 := folded_ok (W := W) kI_ok (cutR i j 0 f) (by rw [cutR_len]; omega) _ (.inr rfl)
  rw [cutR_expd, Nat.sub_zero, Nat.sub_zero] at e4
  simp only [rD] at *
  generalize List.map (encR kI) (cutR i j 0 f) = F1 at *
  generalize List.map (encR kI) (rle (((expd f).take j).drop i)) = F2 at *
  have e' : loopD (gTupD (lenIs 2 (gConsD (gSet 5) (gConsD (gSet 6) gNilD)))) l_part_of_1 (f.map (encR kI)) ⟨[.pv (.tup (f.map (encR kI))), .pv (.int (i : Int)), .pv (.int (j : Int)), .ow [], .pv (.int 0), .no, .no], W⟩ = _ := e
  generalize f.map (encR kI) = F at *
  simp [m_part_of_ap, b_part_of_ap, e1, e2, e3, e', e4]
theorem part_bad (f : List (Int × Nat)) (hl : f.length ≤ 1000) (i j : Int) (h : ¬ (0 ≤ i ∧ i ≤ (tot f : Int) - 1 ∧ i + 1 ≤ j ∧ j ≤ (tot f : Int))) : m_part_of [.pv (rD f), .pv (.int i), .pv (.int j)] W = .err "OutOfRange" W := by
  have e1 := length_ok (W := W) f hl
  have e2 := num_i i 0 ((tot f : Int) - 1) W
  have e3 := num_i j (i + 1) (tot f : Int) W
  generalize rD f = R at *
  by_cases h1 : 0 ≤ i ∧ i ≤ (tot f : Int) - 1
  · have h2 : ¬ (i + 1 ≤ j ∧ j ≤ (tot f : Int)) := fun h3 => h ⟨h1.1, h1.2, h3.1, h3.2⟩
    rw [decide_eq_true h1] at e2
    rw [decide_eq_false h2] at e3
    simp [m_part_of_ap, b_part_of_ap, e1, e2, e3]
  · rw [decide_eq_false h1] at e2
    simp [m_part_of_ap, b_part_of_ap, e1, e2]
theorem behind_ok (f g : List (Int × Nat)) (hf : f.length ≤ 1000) (hg : g.length ≤ 1000) (ht : tot f + tot g ≤ 200) : m_behind [.pv (rD f), .pv (rD g)] W = .ok (.pv (rD (rle (expd f ++ expd g)))) W := by
  have e1 := length_ok (W := W) f hf
  have e2 := length_ok (W := W) g hg
  have h1 : ¬ (200 : Int) < (tot f : Int) + (tot g : Int) := by omega
  have ef := folded_ok (W := W) kI_ok (f ++ g) (by rw [List.length_append]; omega) _ (.inl rfl)
  rw [expd_app, List.map_append] at ef
  have hz : (f.map (encR kI)).length + (g.map (encR kI)).length ≤ 65536 := by rw [List.length_map, List.length_map]; omega
  simp only [rD] at *
  generalize (rle (expd f ++ expd g)).map (encR kI) = R at *
  generalize f.map (encR kI) = F at *
  generalize g.map (encR kI) = G at *
  simp [m_behind_ap, b_behind_ap, e1, e2, h1, hz, ef]
theorem behind_bad (f g : List (Int × Nat)) (hf : f.length ≤ 1000) (hg : g.length ≤ 1000) (ht : 200 < tot f + tot g) : m_behind [.pv (rD f), .pv (rD g)] W = .err "TooMuch" W := by
  have e1 := length_ok (W := W) f hf
  have e2 := length_ok (W := W) g hg
  have h1 : (200 : Int) < (tot f : Int) + (tot g : Int) := by omega
  generalize rD f = F at *
  generalize rD g = G at *
  simp [m_behind_ap, b_behind_ap, e1, e2, h1]
end
/-! ### pairing -/
section
variable {W : List (List D)}
def ob (fb : List (Int × Nat)) (a l : Nat) : List Int := List.replicate l (fb.getD a (0, 0)).1 ++ expd (fb.drop (a + 1))
structure PI (fa fb : List (Int × Nat)) (F : List ((Int × Int) × Nat)) (a l t : Nat) (v : Int) (r : List (Int × Nat)) : Prop where
  hat : a < fb.length
  zip : expd F ++ (List.replicate t v ++ expd r).zip (ob fb a l) = (expd fa).zip (expd fb)
  len : t + (expd r).length = (ob fb a l).length
  lft : l = 0 → a + 1 = fb.length
  cnt : F.length + (if t = 0 then 0 else 1) + r.length + (fb.length - a) ≤ fa.length + fb.length
theorem ob_next (fb : List (Int × Nat)) (a : Nat) (h : a + 1 < fb.length) : ob fb (a + 1) (fb.getD (a + 1) (0, 0)).2 = expd (fb.drop (a + 1)) := by
  unfold ob
  rw [List.drop_eq_getElem_cons h, expd_cons, List.getD_eq_getElem?_getD, List.getElem?_eq_getElem h]; rfl
theorem PI.step {fa fb : List (Int × Nat)} {F : List ((Int × Int) × Nat)} {a l t : Nat} {v : Int} {r : List (Int × Nat)} (h : PI fa fb F a l t v r) (ht : 0 < t) (hp : ∀ x ∈ fb, 1 ≤ x.2) :
    t - min t l < t ∧ 0 < min t l ∧ PI fa fb (F ++ [((v, (fb.getD a (0, 0)).1), min t l)]) (if l - min t l = 0 ∧ a + 1 < fb.length then a + 1 else a) (if l - min t l = 0 ∧ a + 1 < fb.length then (fb.getD (a + 1) (0, 0)).2 else l - min t l) (t - min t l) v r := by
  have hl : 0 < l := by
    rcases Nat.eq_zero_or_pos l with h0 | h0
    · have h1 := h.lft h0
      have h2 := h.len
      unfold ob at h2
      rw [h0, List.drop_eq_nil_of_le (by omega)] at h2
      simp [expd] at h2
      omega
    · exact h0
  have hz := h.zip
  unfold ob at hz
  have hlen := h.len
  unfold ob at hlen
  rw [List.length_append, List.length_replicate] at hlen
  have hcnt := h.cnt
  rw [if_neg (by omega)] at hcnt
  have hat := h.hat
  rw [zip_rep v _ _ _ (min t l) t l (by omega) (by omega), ← List.append_assoc] at hz
  have hz1 : expd (F ++ [((v, (fb.getD a (0, 0)).1), min t l)]) = expd F ++ List.replicate (min t l) (v, (fb.getD a (0, 0)).1) := by rw [expd_app, expd_one]
  rw [← hz1] at hz
  refine ⟨by omega, by omega, ?_⟩
  by_cases hc : l - min t l = 0 ∧ a + 1 < fb.length
  · rw [if_pos hc, if_pos hc]
    have ho := ob_next fb a hc.2
    refine ⟨hc.2, ?_, ?_, fun h0 => ?_, ?_⟩
    · rw [ho]
      rw [hc.1] at hz
      exact hz
    · rw [ho]; omega
    · have := hp (fb.getD (a + 1) (0, 0)) (by rw [List.getD_eq_getElem?_getD, List.getElem?_eq_getElem hc.2]; exact List.getElem_mem hc.2)
      omega
    · rw [List.length_append, List.length_singleton]
      split <;> omega
  · rw [if_neg hc, if_neg hc]
    refine ⟨hat, hz, ?_, fun h0 => ?_, ?_⟩
    · unfold ob; rw [List.length_append, List.length_replicate]; omega
    · have : ¬ a + 1 < fb.length := fun q => hc ⟨h0, q⟩
      omega
    · rw [List.length_append, List.length_singleton]
      have hd : ¬ a + 1 < fb.length → (expd (fb.drop (a + 1))).length = 0 := fun q => by rw [List.drop_eq_nil_of_le (by omega)]; rfl
      split
      · omega
      · by_cases hq : a + 1 < fb.length
        · exact absurd ⟨by omega, hq⟩ hc
        · have := hd hq
          omega
theorem PI.next {fa fb : List (Int × Nat)} {F : List ((Int × Int) × Nat)} {a l n : Nat} {v v' : Int} {r : List (Int × Nat)} (h : PI fa fb F a l 0 v ((v', n) :: r)) (hn : 1 ≤ n) : PI fa fb F a l n v' r := by
  obtain ⟨h1, h2, h3, h4, h5⟩ := h
  rw [expd_cons] at h2 h3
  refine ⟨h1, by simpa using h2, by simpa using h3, h4, ?_⟩
  rw [if_pos rfl, List.length_cons] at h5
  rw [if_neg (by omega)]; omega
theorem PI.start {fa fb : List (Int × Nat)} (hb : fb ≠ []) (ht : tot fa = tot fb) (hp : ∀ x ∈ fb, 1 ≤ x.2) (v : Int) : PI fa fb [] 0 (fb.getD 0 (0, 0)).2 0 v fa := by
  obtain ⟨b, fb, rfl⟩ := List.exists_cons_of_ne_nil hb
  have ho : ob (b :: fb) 0 ((b :: fb).getD 0 (0, 0)).2 = expd (b :: fb) := by
    unfold ob
    rw [expd_cons]; rfl
  refine ⟨by simp, by rw [ho]; simp [expd], by rw [ho, expd_len, expd_len]; omega, fun h0 => ?_, by simp⟩
  have := hp b List.mem_cons_self
  have h0 : b.2 = 0 := h0
  omega
theorem PI.fin {fa fb : List (Int × Nat)} {F : List ((Int × Int) × Nat)} {a l : Nat} {v : Int} (h : PI fa fb F a l 0 v []) : expd F = (expd fa).zip (expd fb) ∧ F.length + 1 ≤ fa.length + fb.length := by
  have h1 := h.zip
  have h2 := h.cnt
  have h3 := h.hat
  refine ⟨by simpa [expd] using h1, ?_⟩
  rw [if_pos rfl] at h2
  simp at h2; omega
theorem rd_at {fb : List (Int × Nat)} {a : Nat} (h : a < fb.length) : ixD (rD fb) (.int (a : Int)) = some (.pv (.tup [.int (fb.getD a (0, 0)).1, .int ((fb.getD a (0, 0)).2 : Int)])) := by
  refine at_get ?_
  rw [List.getElem?_map, List.getD_eq_getElem?_getD, List.getElem?_eq_getElem h]; rfl
theorem pr_a (a0 y7 : Slot) (B : D) (F : List D) (at_ l v t : Int) : (sAsg (eOp2 min2D (eV 6) (eV 4)) (gSet 7)) ⟨[a0, .pv B, .ow F, .pv (.int at_), .pv (.int l), .pv (.int v), .pv (.int t), y7], W⟩ = .ok .nx ⟨[a0, .pv B, .ow F, .pv (.int at_), .pv (.int l), .pv (.int v), .pv (.int t), .pv (.int (if l < t then l else t))], W⟩ := by
  simp
theorem pr_b (a0 : Slot) (B : D) (F : List D) (at_ l v t m w : Int) (wn : D) (hx : ixD B (.int at_) = some (.pv (.tup [.int w, wn]))) (hl : F.length < 65536) : (sEx (eApp 2 (eTup (aCons (eV 5) (aCons (eOp2 ixD (eOp2 ixD (eV 1) (eV 3)) (eC (.int 0))) (aCons (eV 7) aNil)))))) ⟨[a0, .pv B, .ow F, .pv (.int at_), .pv (.int l), .pv (.int v), .pv (.int t), .pv (.int m)], W⟩ = .ok .nx ⟨[a0, .pv B, .ow (F ++ [.tup [.int v, .int w, .int m]]), .pv (.int at_), .pv (.int l), .pv (.int v), .pv (.int t), .pv (.int m)], W⟩ := by
  simp [hx, hl]
theorem pr_c (a0 : Slot) (B : D) (F : List D) (at_ l v t m : Int) : (sPar 6 4 (eOp2 subD (eV 6) (eV 7)) (eOp2 subD (eV 4) (eV 7))) ⟨[a0, .pv B, .ow F, .pv (.int at_), .pv (.int l), .pv (.int v), .pv (.int t), .pv (.int m)], W⟩ = .ok .nx ⟨[a0, .pv B, .ow F, .pv (.int at_), .pv (.int (l - m)), .pv (.int v), .pv (.int (t - m)), .pv (.int m)], W⟩ := by
  simp
theorem pr_d (a0 : Slot) (B : D) (F : List D) (at_ l v t m n2 N : Int) (hl : lenD B = pI N) (hx : l = 0 ∧ at_ + 1 < N → ∃ w, ixD B (.int (at_ + 1)) = some (.pv (.tup [.int w, .int n2]))) :
    (sIf (tAndD (tOfB (eOp2 eqC (eV 4) (eC (.int 0)))) (tOfB (eOp2 ltC (eOp2 addD (eV 3) (eC (.int 1))) (eOp1 lenD (eV 1))))) (sSeq (sAug 3 augAdd (eC (.int 1)))
    (sAsg (eOp2 ixD (eOp2 ixD (eV 1) (eV 3)) (eC (.int 1))) (gSet 4))) sNil) ⟨[a0, .pv B, .ow F, .pv (.int at_), .pv (.int l), .pv (.int v), .pv (.int t), .pv (.int m)], W⟩ = .ok .nx ⟨[a0, .pv B, .ow F, .pv (.int (if l = 0 ∧ at_ + 1 < N then at_ + 1 else at_)), .pv (.int (if l = 0 ∧ at_ + 1 < N then n2 else l)), .pv (.int v), .pv (.int t), .pv (.int m)], W⟩ := by
  by_cases h1 : l = 0
  · by_cases h2 : at_ + 1 < N
    · obtain ⟨w, hx⟩ := hx ⟨h1, h2⟩
      simp [h1, h2, hl, hx]
    · simp [h1, h2, hl]
  · simp [h1]
theorem pr_step {fa fb : List (Int × Nat)} {F : List ((Int × Int) × Nat)} {a l t : Nat} {v : Int} {r : List (Int × Nat)} {a0 y7 : Slot} (h : PI fa fb F a l t v r) (ht : 0 < t) (hp : ∀ x ∈ fb, 1 ≤ x.2) (hz : fa.length + fb.length < 60000) :
    ∃ F' a' l' t', t' < t ∧ PI fa fb F' a' l' t' v r ∧ l_pairing_1 ⟨[a0, .pv (rD fb), .ow (F.map (encR kP)), .pv (.int (a : Int)), .pv (.int (l : Int)), .pv (.int v), .pv (.int (t : Int)), y7], W⟩ = .ok .nx ⟨[a0, .pv (rD fb), .ow (F'.map (encR kP)), .pv (.int (a' : Int)), .pv (.int (l' : Int)), .pv (.int v), .pv (.int (t' : Int)), .pv (.int ((min t l : Nat) : Int))], W⟩ := by
  obtain ⟨h1, h2, h3⟩ := h.step ht hp
  refine ⟨_, _, _, _, h1, h3, ?_⟩
  have hx := rd_at h.hat
  have hF : (F.map (encR kP)).length < 65536 := by
    have := h.cnt
    rw [List.length_map]
    have := h.hat
    omega
  have hlen : lenD (rD fb) = pI (fb.length : Int) := by show lenD (.tup _) = _; rw [len_tup, List.length_map]
  have e1 := pr_a (W := W) a0 y7 (rD fb) (F.map (encR kP)) a l v t
  have em : (if (l : Int) < (t : Int) then (l : Int) else (t : Int)) = ((min t l : Nat) : Int) := by split <;> omega
  rw [em] at e1
  have e2 := pr_b (W := W) a0 (rD fb) (F.map (encR kP)) a l v t ((min t l : Nat) : Int) _ _ hx hF
  have e3 := pr_c (W := W) a0 (rD fb) (F.map (encR kP) ++ [.tup [.int v, .int (fb.getD a (0, 0)).1, .int ((min t l : Nat) : Int)]]) a l v t ((min t l : Nat) : Int)
  have e4 := pr_d (W := W) a0 (rD fb) (F.map (encR kP) ++ [.tup [.int v, .int (fb.getD a (0, 0)).1, .int ((min t l : Nat) : Int)]]) a ((l : Int) - ((min t l : Nat) : Int)) v ((t : Int) - ((min t l : Nat) : Int)) ((min t l : Nat) : Int) ((fb.getD (a + 1) (0, 0)).2 : Int) (fb.length : Int) hlen (fun hq => ⟨_, rd_at (fb := fb) (a := a + 1) (by omega)⟩)
  rw [l_pairing_1_ap]
  refine (seq_go e1 (seq_go e2 (seq_go e3 e4))).trans ?_
  have hmap : (F ++ [((v, (fb.getD a (0, 0)).1), min t l)]).map (encR kP) = F.map (encR kP) ++ [.tup [.int v, .int (fb.getD a (0, 0)).1, .int ((min t l : Nat) : Int)]] := by
    rw [List.map_append]; rfl
  have hc : ((l : Int) - ((min t l : Nat) : Int) = 0 ∧ (a : Int) + 1 < (fb.length : Int)) ↔ (l - min t l = 0 ∧ a + 1 < fb.length) := by omega
  rw [hmap]
  by_cases hq : l - min t l = 0 ∧ a + 1 < fb.length
  · rw [if_pos hq, if_pos hq, if_pos (hc.mpr hq), if_pos (hc.mpr hq), show ((t - min t l : Nat) : Int) = (t : Int) - ((min t l : Nat) : Int) by omega, show ((a + 1 : Nat) : Int) = (a : Int) + 1 by omega]
  · rw [if_neg hq, if_neg hq, if_neg (fun q => hq (hc.mp q)), if_neg (fun q => hq (hc.mp q)), show ((t - min t l : Nat) : Int) = (t : Int) - ((min t l : Nat) : Int) by omega, show ((l - min t l : Nat) : Int) = (l : Int) - ((min t l : Nat) : Int) by omega]
theorem pr_row {fa fb : List (Int × Nat)} {F : List ((Int × Int) × Nat)} {a l t : Nat} {v : Int} {r : List (Int × Nat)} {a0 y7 : Slot} (h : PI fa fb F a l t v r) (ht2 : t < 100000) (hp : ∀ x ∈ fb, 1 ≤ x.2) (hz : fa.length + fb.length < 60000) :
    ∃ F' a' l' z6 z7, PI fa fb F' a' l' 0 v r ∧ l_pairing_2 ⟨[a0, .pv (rD fb), .ow (F.map (encR kP)), .pv (.int (a : Int)), .pv (.int (l : Int)), .pv (.int v), .pv (.int (t : Int)), y7], W⟩ = .ok .nx ⟨[a0, .pv (rD fb), .ow (F'.map (encR kP)), .pv (.int (a' : Int)), .pv (.int (l' : Int)), .pv (.int v), z6, z7], W⟩ := by
  rw [l_pairing_2_ap]
  obtain ⟨s', e, F', a', l', z6, z7, hP, rfl⟩ := while_rel (t := (tOfB (eOp2 gtC (eV 6) (eC (.int 0))))) (body := l_pairing_1) (fun m s => ∃ F a l y7, s = (⟨[a0, .pv (rD fb), .ow (F.map (encR kP)), .pv (.int ((a : Nat) : Int)), .pv (.int ((l : Nat) : Int)), .pv (.int v), .pv (.int (m : Int)), y7], W⟩ : S) ∧ PI fa fb F a l m v r)
    (fun s => ∃ F' a' l' z6 z7, PI fa fb F' a' l' 0 v r ∧ s = (⟨[a0, .pv (rD fb), .ow (F'.map (encR kP)), .pv (.int ((a' : Nat) : Int)), .pv (.int ((l' : Nat) : Int)), .pv (.int v), z6, z7], W⟩ : S)) (fun m s hI => by
    obtain ⟨F, a, l, y7, rfl, hP⟩ := hI
    by_cases hm : 0 < m
    · obtain ⟨F', a', l', t', h1, h2, h3⟩ := pr_step (W := W) (a0 := a0) (y7 := y7) hP hm hp hz
      refine .inr ⟨_, .nx, _, t', ?_, h3, .inl rfl, h1, F', a', l', _, rfl, h2⟩
      generalize F.map (encR kP) = FF
      generalize rD fb = B
      simp [hm]
    · have : m = 0 := by omega
      subst this
      refine .inl ⟨_, ?_, F, a, l, .pv (.int ((0 : Nat) : Int)), y7, hP, rfl⟩
      generalize F.map (encR kP) = FF
      generalize rD fb = B
      simp) (m := t) (by omega) ⟨F, a, l, y7, rfl, h⟩
  exact ⟨F', a', l', z6, z7, hP, e⟩
theorem pr_loop {fa fb : List (Int × Nat)} {a0 : Slot} (hp : ∀ x ∈ fb, 1 ≤ x.2) (hz : fa.length + fb.length < 60000) : ∀ (r : List (Int × Nat)) (F : List ((Int × Int) × Nat)) (a l : Nat) (v : Int) (y5 y6 y7 : Slot), (∀ x ∈ r, 1 ≤ x.2 ∧ x.2 < 100000) → PI fa fb F a l 0 v r →
    ∃ F' a' l' v' z5 z6 z7, PI fa fb F' a' l' 0 v' [] ∧ loopD (gTupD (lenIs 2 (gConsD (gSet 5) (gConsD (gSet 6) gNilD)))) l_pairing_2 (r.map (encR kI)) ⟨[a0, .pv (rD fb), .ow (F.map (encR kP)), .pv (.int (a : Int)), .pv (.int (l : Int)), y5, y6, y7], W⟩ = .ok .nx ⟨[a0, .pv (rD fb), .ow (F'.map (encR kP)), .pv (.int (a' : Int)), .pv (.int (l' : Int)), z5, z6, z7], W⟩
  | [], F, a, l, v, y5, y6, y7, _, h => ⟨F, a, l, v, y5, y6, y7, h, rfl⟩
  | x :: r, F, a, l, v, y5, y6, y7, hr, h => by
    obtain ⟨v', n⟩ := x
    have hn := hr (v', n) List.mem_cons_self
    obtain ⟨F1, a1, l1, z6, z7, h1, e1⟩ := pr_row (W := W) (a0 := a0) (y7 := y7) (h.next hn.1) hn.2 hp hz
    obtain ⟨F2, a2, l2, v2, u5, u6, u7, h2, e2⟩ := pr_loop hp hz r F1 a1 l1 v' (.pv (.int v')) z6 z7 (fun y hy => hr y (List.mem_cons_of_mem _ hy)) h1
    refine ⟨F2, a2, l2, v2, u5, u6, u7, h2, ?_⟩
    rw [List.map_cons, loopD_cons', encR_I]
    have e0 : turnD (gTupD (lenIs 2 (gConsD (gSet 5) (gConsD (gSet 6) gNilD)))) l_pairing_2 (.tup [.int v', .int (n : Int)]) ⟨[a0, .pv (rD fb), .ow (F.map (encR kP)), .pv (.int (a : Int)), .pv (.int (l : Int)), y5, y6, y7], W⟩ = .ok .nx ⟨[a0, .pv (rD fb), .ow (F1.map (encR kP)), .pv (.int (a1 : Int)), .pv (.int (l1 : Int)), .pv (.int v'), z6, z7], W⟩ := by
      rw [← e1]
      generalize F.map (encR kP) = FF
      generalize rD fb = B
      simp
    rw [e0, bind_okR]
    exact e2
theorem pairing_ok (fa fb : List (Int × Nat)) (hpa : ∀ x ∈ fa, 1 ≤ x.2) (hpb : ∀ x ∈ fb, 1 ≤ x.2) (hb : fb ≠ []) (ht : tot fa = tot fb) (h1 : tot fa ≤ 1000) (ha : fa.length ≤ 1000) (hbl : fb.length ≤ 1000) :
    m_pairing [.pv (rD fa), .pv (rD fb)] W = .ok (.pv (.tup ((rle ((expd fa).zip (expd fb))).map (encR kP)))) W ∧ (rle ((expd fa).zip (expd fb))).length + 1 ≤ fa.length + fb.length := by
  obtain ⟨F, a, l, v, z5, z6, z7, hP, e⟩ := pr_loop (W := W) (a0 := .pv (rD fa)) hpb (by omega) fa [] 0 (fb.getD 0 (0, 0)).2 0 .no .no .no (fun x hx => ⟨hpa x hx, by have := tot_mem hx; omega⟩) (PI.start hb ht hpb 0)
  obtain ⟨hF, hl⟩ := hP.fin
  have ef := folded_ok (W := W) kP_ok F (by omega) _ (.inr rfl)
  rw [hF] at ef
  constructor
  · have e1 := length_ok (W := W) fa ha
    have e2 := length_ok (W := W) fb hbl
    rw [← ht] at e2
    have hx := rd_at (fb := fb) (a := 0) (List.length_pos_iff.mpr hb)
    have hx : ixD (rD fb) (.int 0) = _ := hx
    simp only [List.map_nil] at e
    have e : loopD (gTupD (lenIs 2 (gConsD (gSet 5) (gConsD (gSet 6) gNilD)))) l_pairing_2 (fa.map (encR kI)) ⟨[.pv (rD fa), .pv (rD fb), .ow [], .pv (.int 0), .pv (.int ((fb.getD 0 (0, 0)).2 : Int)), .no, .no, .no], W⟩ = _ := e
    simp only [rD] at *
    generalize (rle ((expd fa).zip (expd fb))).map (encR kP) = R at *
    generalize F.map (encR kP) = FF at *
    generalize fa.map (encR kI) = A at *
    generalize fb.map (encR kI) = B at *
    generalize fb.getD 0 (0, 0) = b0 at *
    simp [m_pairing_ap, b_pairing_ap, e1, e2, hx, e, ef]
  · rw [← hF, ← folded_eq]
    have := fold_len F []
    simp at this; omega
theorem pairing_bad (fa fb : List (Int × Nat)) (ht : tot fa ≠ tot fb) (ha : fa.length ≤ 1000) (hbl : fb.length ≤ 1000) : m_pairing [.pv (rD fa), .pv (rD fb)] W = .err "Refused" W := by
  have e1 := length_ok (W := W) fa ha
  have e2 := length_ok (W := W) fb hbl
  have h : ¬ (tot fa : Int) = (tot fb : Int) := by omega
  generalize rD fa = A at *
  generalize rD fb = B at *
  simp [m_pairing_ap, b_pairing_ap, e1, e2, h]
end
/-! ### the law's own repeats, pairs, widths -/
section
variable {W : List (List D)}
theorem encR_eq {K : Type} [DecidableEq K] {ke : K → List Int} (hk : KeyE ke) : Eq2 1 (encR ke) := by
  have h := (Eq2.tup Eq2.int).comp (fun r : K × Nat => ke r.1 ++ [(r.2 : Int)]) (fun a b e => by
    have h1 := List.append_inj' e rfl
    have h2 : (a.2 : Int) = (b.2 : Int) := by simpa using h1.2
    exact Prod.ext (hk.inj _ _ h1.1) (by omega))
  have e : encR ke = fun r : K × Nat => D.tup ((ke r.1 ++ [(r.2 : Int)]).map D.int) := by funext r; simp [encR]
  rw [e]; exact h
theorem lst_nil {K : Type} [DecidableEq K] {ke : K → List Int} (hk : KeyE ke) (f : List (K × Nat)) : eqO (.lst (f.map (encR ke))) (.lst []) = some (decide (f = [])) := (encR_eq hk).lst.eqO f []
theorem lr_step (a : Slot) (f : List (Int × Nat)) (v : Int) (hl : f.length < 60000) :
    l__law_repeats_1 ⟨[a, .ow (f.map (encR kI)), .pv (.int v)], W⟩ = .ok .nx ⟨[a, .ow ((fst1 f (v, 1)).map (encR kI)), .pv (.int v)], W⟩ := by
  have hn := lst_nil kI_ok f
  rcases fst1_cases f (v, 1) Nat.one_ne_zero with ⟨rfl, e⟩ | ⟨g, l, rfl, e1, e⟩ | ⟨g, l, rfl, e1, e⟩
  · rw [e]
    simp only [List.map_nil, List.map_cons, encR_I] at *
    simp [l__law_repeats_1_ap, eqO_nil]
  · rw [e]
    rw [decide_eq_false (by simp)] at hn
    simp only [List.map_append, List.map_cons, List.map_nil, encR_I] at *
    have hix := ixN_last (g.map (encR kI)).length
    have hset := set_last (g.map (encR kI))
    rw [show ((l.2 + 1 : Nat) : Int) = (l.2 : Int) + 1 by omega]
    have e1 : l.1 = v := e1
    subst e1
    generalize g.map (encR kI) = G at *
    simp [l__law_repeats_1_ap, hn, hix, hset]
  · rw [e]
    rw [decide_eq_false (by simp)] at hn
    have hgl : (g.map (encR kI)).length + 1 < 65536 := by simp at hl ⊢; omega
    simp only [List.map_append, List.map_cons, List.map_nil, encR_I] at *
    have e1 : ¬ l.1 = v := e1
    generalize g.map (encR kI) = G at *
    simp [l__law_repeats_1_ap, hn, e1, hgl]
theorem law_repeats_ok (c : List Int) (hl : c.length < 50000) : m__law_repeats [.pv (cD c)] W = .ok (.pv (rD (rle c))) W := by
  obtain ⟨hP, j', e⟩ := loopD_fold (g := gSet 2) (body := l__law_repeats_1) D.int (fun (f : List (Int × Nat)) (j : Slot) => (⟨[.pv (cD c), .ow (f.map (encR kI)), j], W⟩ : S)) (fun f v => fst1 f (v, 1)) (fun l f => f.length ≤ l.length) c [] .no (Nat.le_refl _) (by
    intro l x r b j hL hP
    refine ⟨?_, .pv (.int x), ?_⟩
    · have := fst1_len b (x, 1)
      rw [List.length_append, List.length_singleton]; omega
    · have : l.length < c.length := by rw [hL]; simp
      have e := lr_step (W := W) (.pv (cD c)) b x (by omega)
      generalize b.map (encR kI) = B at *
      generalize (fst1 b (x, 1)).map (encR kI) = B2 at *
      generalize cD c = C at *
      simp
      exact e)
  have hf : c.foldl (fun f v => fst1 f (v, 1)) [] = rle c := by unfold rle; rw [List.foldl_map]
  rw [hf] at e
  simp only [List.map_nil, rD, cD, dI] at *
  generalize (rle c).map (encR kI) = R at *
  generalize List.map D.int c = C at *
  simp [m__law_repeats_ap, b__law_repeats_ap, e]
theorem lp_step (a b : D) (f : List ((Int × Int) × Nat)) (k : Nat) (v w : Int) (ha : ixD a (.int (k : Int)) = some (.pv (.int v))) (hb : ixD b (.int (k : Int)) = some (.pv (.int w))) (hl : f.length < 60000) :
    l__law_pairing_1 ⟨[.pv a, .pv b, .ow (f.map (encR kP)), .pv (.int (k : Int))], W⟩ = .ok .nx ⟨[.pv a, .pv b, .ow ((fst1 f ((v, w), 1)).map (encR kP)), .pv (.int (k : Int))], W⟩ := by
  have hn := lst_nil kP_ok f
  have encP : ∀ r : (Int × Int) × Nat, encR kP r = .tup [.int r.1.1, .int r.1.2, .int (r.2 : Int)] := fun r => rfl
  have c2 : ∀ x y z : D, cutL [x, y, z] none (some 2) = [x, y] := fun x y z => by rw [cutL_hi (by decide)]; rfl
  have he : ∀ l : (Int × Int) × Nat, eqO (.tup [.int l.1.1, .int l.1.2]) (.tup [.int v, .int w]) = some (decide (l.1 = (v, w))) := fun l => by
    have := eqO_tt [l.1.1, l.1.2] [v, w]
    refine this.trans (congrArg some (decide_eq_decide.mpr ?_))
    rw [Prod.ext_iff]; simp
  rcases fst1_cases f ((v, w), 1) Nat.one_ne_zero with ⟨rfl, e⟩ | ⟨g, l, rfl, e1, e⟩ | ⟨g, l, rfl, e1, e⟩
  · rw [e]
    simp only [List.map_nil, List.map_cons, encP] at *
    simp [l__law_pairing_1_ap, eqO_nil, ha, hb]
  · rw [e]
    rw [decide_eq_false (by simp)] at hn
    have he := he l
    rw [decide_eq_true e1] at he
    simp only [List.map_append, List.map_cons, List.map_nil, encP] at *
    have hix := ixN_last (g.map (encR kP)).length
    have hset := set_last (g.map (encR kP))
    rw [show ((l.2 + 1 : Nat) : Int) = (l.2 : Int) + 1 by omega]
    generalize g.map (encR kP) = G at *
    simp [l__law_pairing_1_ap, hn, hix, hset, he, c2, ha, hb]
  · rw [e]
    rw [decide_eq_false (by simp)] at hn
    have he := he l
    rw [decide_eq_false e1] at he
    have hgl : (g.map (encR kP)).length + 1 < 65536 := by simp at hl ⊢; omega
    simp only [List.map_append, List.map_cons, List.map_nil, encP] at *
    generalize g.map (encR kP) = G at *
    simp [l__law_pairing_1_ap, hn, he, c2, ha, hb, hgl]
theorem law_pairing_ok (c o : List Int) (hl : c.length < 50000) (ho : c.length = o.length) : m__law_pairing [.pv (cD c), .pv (cD o)] W = .ok (.pv (.tup ((rle (c.zip o)).map (encR kP)))) W := by
  have hq := rngD_nat 0 c.length
  rw [Nat.sub_zero] at hq
  obtain ⟨s', e, h1, j', rfl⟩ := loopD_nat (g := gSet 3) (body := l__law_pairing_1) (fun k s => (rle ((c.zip o).take k)).length ≤ k ∧ ∃ j : Slot, s = (⟨[.pv (cD c), .pv (cD o), .ow ((rle ((c.zip o).take k)).map (encR kP)), j], W⟩ : S)) 0 c.length (by
    rintro k s _ hk ⟨hP, j, rfl⟩
    have hkc : k < (c.zip o).length := by rw [List.length_zip]; omega
    have ht : (c.zip o).take (k + 1) = (c.zip o).take k ++ [(c.zip o)[k]] := by rw [List.take_append_getElem]
    have hr : rle ((c.zip o).take (k + 1)) = fst1 (rle ((c.zip o).take k)) ((c.zip o)[k], 1) := by
      rw [ht]; unfold rle; rw [List.map_append, List.foldl_append]; rfl
    have ha : ixD (cD c) (.int (k : Int)) = some (.pv (.int c[k])) := at_get (by rw [List.getElem?_map, List.getElem?_eq_getElem (by omega)]; rfl)
    have hb : ixD (cD o) (.int (k : Int)) = some (.pv (.int o[k])) := at_get (by rw [List.getElem?_map, List.getElem?_eq_getElem (by omega)]; rfl)
    have hz : (c.zip o)[k] = (c[k], o[k]) := by rw [List.getElem_zip]
    refine ⟨.nx, _, ?_, .inl rfl, ?_, .pv (.int (k : Int)), rfl⟩
    · rw [hr, hz]
      have e := lp_step (W := W) (cD c) (cD o) (rle ((c.zip o).take k)) k _ _ ha hb (by omega)
      generalize (fst1 (rle ((c.zip o).take k)) ((c[k], o[k]), 1)).map (encR kP) = R2 at *
      generalize (rle ((c.zip o).take k)).map (encR kP) = R at *
      generalize cD c = C at *
      generalize cD o = O at *
      simp
      exact e
    · rw [hr]
      have := fst1_len (rle ((c.zip o).take k)) ((c.zip o)[k], 1)
      omega) (s := ⟨[.pv (cD c), .pv (cD o), .ow [], .no], W⟩) ⟨Nat.zero_le _, .no, rfl⟩
  have hfull : (c.zip o).take (0 + c.length) = c.zip o := List.take_of_length_le (by rw [List.length_zip]; omega)
  rw [hfull] at e
  have e : loopD (gSet 3) l__law_pairing_1 (rngD 0 (c.length : Int)) ⟨[.pv (cD c), .pv (cD o), .ow [], .no], W⟩ = _ := (congrArg (fun l => loopD _ _ l _) hq).trans e
  have hlen : lenD (cD c) = pI (c.length : Int) := by show lenD (.tup _) = _; rw [len_tup, List.length_map]
  have hro : rOk (c.length : Int) = true := rOkN (by omega)
  generalize (rle (c.zip o)).map (encR kP) = R at *
  generalize cD c = C at *
  generalize cD o = O at *
  simp [m__law_pairing_ap, b__law_pairing_ap, hlen, hro, e]
def wd (n : Nat) : Nat := if n = 0 then 0 else n.log2 + 1
theorem wd_lt (n f : Nat) : f < wd n ↔ 2 ^ f ≤ n := by
  unfold wd
  by_cases h : n = 0
  · subst h
    have := Nat.two_pow_pos f
    simp
  · rw [if_neg h, ← Nat.le_log2 h]; omega
theorem wd_half (n : Nat) (h : 0 < n) : wd n = wd (n / 2) + 1 := by
  unfold wd
  rw [if_neg (by omega), Nat.log2_def]
  by_cases h2 : 2 ≤ n
  · rw [if_pos h2, if_neg (by omega)]
  · rw [if_neg h2, if_pos (by omega)]
theorem width_ok (n : Nat) (h : n < 2 ^ 64) : m_width [.pv (.int (n : Int))] W = .ok (.pv (.int (wd n : Int))) W := by
  have hw : wd n ≤ 64 := by
    have := (wd_lt n 64)
    have h2 : ¬ 2 ^ 64 ≤ n := by omega
    have := mt this.mp h2
    omega
  obtain ⟨s', e, rfl⟩ := while_rel (t := (tOfB (eOp2 geC (eV 0) (eOp2 shlD (eC (.int 1)) (eV 1))))) (body := l_width_1) (fun m s => ∃ f : Nat, f + m = wd n ∧ s = (⟨[.pv (.int (n : Int)), .pv (.int (f : Int))], W⟩ : S)) (fun s => s = (⟨[.pv (.int (n : Int)), .pv (.int (wd n : Int))], W⟩ : S)) (fun m s hI => by
    obtain ⟨f, hf, rfl⟩ := hI
    have hsh : shlD (.int 1) (.int (f : Int)) = some (.pv (.int (((2 ^ f : Nat) : Int)))) := by
      rw [shl_ii, gd_ap, if_pos]
      · simp
      · rw [decide_eq_true_iff]; exact ⟨by omega, by omega, by decide⟩
    have hc : decide (((2 ^ f : Nat) : Int) ≤ (n : Int)) = decide (f < wd n) := decide_eq_decide.mpr (by rw [wd_lt]; omega)
    have ht : (tOfB (eOp2 geC (eV 0) (eOp2 shlD (eC (.int 1)) (eV 1)))) ⟨[.pv (.int (n : Int)), .pv (.int (f : Int))], W⟩ = .ok (decide (f < wd n)) ⟨[.pv (.int (n : Int)), .pv (.int (f : Int))], W⟩ := by
      rw [← hc]
      generalize ((2 ^ f : Nat) : Int) = P at *
      generalize (n : Int) = N at *
      simp [-shl_ii, hsh]
    by_cases hm : f < wd n
    · rw [decide_eq_true hm] at ht
      refine .inr ⟨_, .nx, _, m - 1, ht, ?_, .inl rfl, by omega, f + 1, by omega, rfl⟩
      rw [show ((f + 1 : Nat) : Int) = (f : Int) + 1 by omega]
      generalize (n : Int) = N at *
      simp [l_width_1_ap]
    · rw [decide_eq_false hm] at ht
      have : f = wd n := by omega
      subst this
      exact .inl ⟨_, ht, rfl⟩) (m := wd n) (s := ⟨[.pv (.int (n : Int)), .pv (.int 0)], W⟩) (by omega) ⟨0, by omega, rfl⟩
  generalize (n : Int) = N at *
  generalize (wd n : Int) = D1 at *
  simp at e
  simp [m_width_ap, b_width_ap, e]
theorem law_width_ok (n : Nat) (h : n < 2 ^ 62) : m__law_width [.pv (.int (n : Int))] W = .ok (.pv (.int (wd n : Int))) W := by
  obtain ⟨s', e, y, rfl⟩ := while_rel (t := (tOfB (eOp2 gtC (eV 0) (eC (.int 0))))) (body := l__law_width_1) (fun m s => ∃ f : Nat, f + wd m = wd n ∧ s = (⟨[.pv (.int (m : Int)), .pv (.int (f : Int))], W⟩ : S)) (fun s => ∃ y : Slot, s = (⟨[y, .pv (.int (wd n : Int))], W⟩ : S)) (fun m s hI => by
    obtain ⟨f, hf, rfl⟩ := hI
    by_cases hm : 0 < m
    · refine .inr ⟨⟨[.pv (.int (m : Int)), .pv (.int (f : Int))], W⟩, .nx, _, m / 2, (by simp [hm]), ?_, .inl rfl, by omega, f + 1, ?_, rfl⟩
      · rw [show ((f + 1 : Nat) : Int) = (f : Int) + 1 by omega, show ((m / 2 : Nat) : Int) = (m : Int) / 2 by omega]
        generalize (m : Int) = M at *
        simp [l__law_width_1_ap]
      · have := wd_half m hm
        omega
    · have : m = 0 := by omega
      subst this
      have hf : f = wd n := by simpa [wd] using hf
      subst hf
      exact .inl ⟨⟨[.pv (.int ((0 : Nat) : Int)), .pv (.int (wd n : Int))], W⟩, (by simp), .pv (.int ((0 : Nat) : Int)), rfl⟩) (m := n) (s := ⟨[.pv (.int (n : Int)), .pv (.int 0)], W⟩) (by omega) ⟨0, by omega, rfl⟩
  generalize (n : Int) = N at *
  generalize (wd n : Int) = D1 at *
  simp at e
  simp [m__law_width_ap, b__law_width_ap, e]
end
/-! ### judged -/
section
variable {W : List (List D)}
def colB : D → Bool
  | .tup xs => decide (1 ≤ xs.length ∧ xs.length ≤ 200) && xs.all (inB 0 1000000000)
  | _ => false
theorem colB_tup (xs : List D) : colB (.tup xs) = (decide (1 ≤ xs.length ∧ xs.length ≤ 200) && xs.all (inB 0 1000000000)) := rfl
theorem is_column_ok (d : D) (h1 : Nice d) (h2 : ∀ x ∈ kids d, Nice x) : m_is_column [.pv d] W = .ok (.pv (.bl (colB d))) W := by
  cases d with
  | tup xs =>
    have h2 : ∀ x ∈ xs, Nice x := h2
    have e1 : c_is_column_1 ⟨[.pv (.tup xs), .no], W⟩ = .ok (.pv (.bl (xs.all (inB 0 1000000000)))) ⟨[.pv (.tup xs), .no], W⟩ := by
      rw [c_is_column_1_ap]
      exact eAgg_all id (inB 0 1000000000) xs (ds := xs) (by simp) (by simp) (by simp) (fun x hx => by
        have e := num_D x (h2 x hx) 0 1000000000 W
        simp [x_is_column_1_ap, e]) rfl
    rw [colB_tup]
    generalize xs.all (inB 0 1000000000) = b at *
    by_cases hl : 1 ≤ xs.length ∧ xs.length ≤ 200
    · have z2 : (1 : Int) ≤ (xs.length : Int) := by omega
      have z3 : (xs.length : Int) ≤ 200 := by omega
      rw [decide_eq_true hl]
      simp [m_is_column_ap, b_is_column_ap, e1, z2, z3]
    · rw [decide_eq_false hl]
      by_cases z2 : (1 : Int) ≤ (xs.length : Int)
      · have z3 : ¬ (xs.length : Int) ≤ 200 := by omega
        simp [m_is_column_ap, b_is_column_ap, z2, z3]
      · simp [m_is_column_ap, b_is_column_ap, z2]
  | int i => simp [m_is_column_ap, b_is_column_ap, colB]
  | bl i => simp [m_is_column_ap, b_is_column_ap, colB]
  | non => simp [m_is_column_ap, b_is_column_ap, colB]
  | str x => simp [m_is_column_ap, b_is_column_ap, colB]
  | lst x => simp [m_is_column_ap, b_is_column_ap, colB]
  | scr x => simp [m_is_column_ap, b_is_column_ap, colB]
  | dK _ => exact h1.elim
  | dT _ => exact h1.elim
  | glb _ => exact h1.elim
  | ty _ => exact h1.elim
/-! repeats -/
def pOk : D → Bool
  | .tup [a, b] => inB 0 1000000000 a && inB 1 200 b
  | _ => false
def fI : D → Int
  | .tup (a :: _) => valI a
  | _ => 0
def sI : D → Int
  | .tup [_, b] => valI b
  | _ => 0
def arP (xs : List D) (p : D × Nat) : Bool := pOk p.1 && !(decide (0 < p.2) && decide (fI (xs.getD (p.2 - 1) .non) = fI p.1))
def arB : D → Bool
  | .tup xs => !xs.isEmpty && xs.zipIdx.all (arP xs) && decide ((xs.map sI).sum ≤ 200)
  | _ => false
theorem pOk_of {d : D} (h : pOk d = true) : ∃ a b : Int, d = .tup [.int a, .int b] ∧ 0 ≤ a ∧ a ≤ 1000000000 ∧ 1 ≤ b ∧ b ≤ 200 := by
  unfold pOk at h
  split at h
  · rename_i a b
    rw [Bool.and_eq_true] at h
    cases a with
    | int a =>
      cases b with
      | int b =>
        have h1 := of_decide_eq_true h.1
        have h2 := of_decide_eq_true h.2
        exact ⟨a, b, rfl, h1.1, h1.2, h2.1, h2.2⟩
      | _ => exact absurd h.2 (by simp [inB])
    | _ => exact absurd h.1 (by simp [inB])
  · cases h
abbrev gAr : GV := gTupD (lenIs 2 (gConsD (gSet 2) (gConsD (gSet 3) gNilD)))
/-- one pair is looked at -/
theorem ar_turn (xs : List D) (i : Nat) (d : D) (w : Int) (y z : Slot) (hi : i ≤ xs.length) (hd : Nice d) (hk : ∀ x ∈ kids d, Nice x) (hprev : ∀ j, j < i → pOk (xs.getD j .non) = true) :
    (arP xs (d, i) = true ∧ turnD gAr l_are_repeats_1 (.tup [.int (i : Int), d]) ⟨[.pv (.tup xs), .pv (.int w), y, z], W⟩ = .ok .nx ⟨[.pv (.tup xs), .pv (.int (w + sI d)), .pv (.int (i : Int)), .pv d], W⟩) ∨
    (arP xs (d, i) = false ∧ turnD gAr l_are_repeats_1 (.tup [.int (i : Int), d]) ⟨[.pv (.tup xs), .pv (.int w), y, z], W⟩ = .ok (.rt (.pv (.bl false))) ⟨[.pv (.tup xs), .pv (.int w), .pv (.int (i : Int)), .pv d], W⟩) := by
  cases d with
  | tup ys =>
    have hk : ∀ x ∈ ys, Nice x := hk
    rcases ys with _ | ⟨a, _ | ⟨b, _ | ⟨c, r⟩⟩⟩
    · exact .inr ⟨by simp [arP, pOk], by simp [l_are_repeats_1_ap]⟩
    · exact .inr ⟨by simp [arP, pOk], by simp [l_are_repeats_1_ap]⟩
    · have e1 := num_D a (hk a (by simp)) 0 1000000000 W
      have e2 := num_D b (hk b (by simp)) 1 200 W
      by_cases h1 : inB 0 1000000000 a = true
      · by_cases h2 : inB 1 200 b = true
        · have hp : pOk (.tup [a, b]) = true := by show (_ && _) = true; rw [h1, h2]; rfl
          obtain ⟨v, n, e, _⟩ := pOk_of hp
          cases e
          rw [h1] at e1
          rw [h2] at e2
          by_cases hi0 : 0 < i
          · have hpr := hprev (i - 1) (by omega)
            obtain ⟨v2, n2, e3, _⟩ := pOk_of hpr
            have hx : atI xs ((i : Int) - 1) = some (.tup [.int v2, .int n2]) := by
              rw [show (i : Int) - 1 = ((i - 1 : Nat) : Int) by omega]
              refine atI_nt ?_
              rw [List.getD_eq_getElem?_getD, List.getElem?_eq_getElem (by omega)] at e3
              rw [List.getElem?_eq_getElem (by omega)]
              exact congrArg some e3
            have hf : fI (xs.getD (i - 1) .non) = v2 := by rw [e3]; rfl
            by_cases hv : v2 = v
            · refine .inr ⟨?_, ?_⟩
              · unfold arP
                rw [hf, hp]
                simp [fI, valI, hi0, hv]
              · simp [l_are_repeats_1_ap, e1, e2, hi0, hx, hv]
            · refine .inl ⟨?_, ?_⟩
              · unfold arP
                rw [hf, hp]
                simp [fI, valI, hv]
              · simp [l_are_repeats_1_ap, e1, e2, hi0, hx, hv, sI, valI]
          · have : i = 0 := by omega
            subst this
            refine .inl ⟨?_, ?_⟩
            · unfold arP
              rw [hp]; rfl
            · simp [l_are_repeats_1_ap, e1, e2, sI, valI]
        · have h2 : inB 1 200 b = false := by simpa using h2
          have hp : pOk (.tup [a, b]) = false := by show (_ && _) = false; rw [h2, Bool.and_false]
          rw [h1] at e1
          rw [h2] at e2
          refine .inr ⟨by unfold arP; rw [hp]; rfl, ?_⟩
          simp [l_are_repeats_1_ap, e1, e2]
      · have h1 : inB 0 1000000000 a = false := by simpa using h1
        have hp : pOk (.tup [a, b]) = false := by show (_ && _) = false; rw [h1]; rfl
        rw [h1] at e1
        refine .inr ⟨by unfold arP; rw [hp]; rfl, ?_⟩
        simp [l_are_repeats_1_ap, e1]
    · have hz : ¬ ((r.length : Int) + 1 + 1 + 1 = 2) := by omega
      exact .inr ⟨by simp [arP, pOk], by simp [l_are_repeats_1_ap, hz]⟩
  | int i => exact .inr ⟨by simp [arP, pOk], by simp [l_are_repeats_1_ap]⟩
  | bl i => exact .inr ⟨by simp [arP, pOk], by simp [l_are_repeats_1_ap]⟩
  | non => exact .inr ⟨by simp [arP, pOk], by simp [l_are_repeats_1_ap]⟩
  | str x => exact .inr ⟨by simp [arP, pOk], by simp [l_are_repeats_1_ap]⟩
  | lst x => exact .inr ⟨by simp [arP, pOk], by simp [l_are_repeats_1_ap]⟩
  | scr x => exact .inr ⟨by simp [arP, pOk], by simp [l_are_repeats_1_ap]⟩
  | dK _ => exact hd.elim
  | dT _ => exact hd.elim
  | glb _ => exact hd.elim
  | ty _ => exact hd.elim
theorem ar_loop (xs : List D) : ∀ (L : List D) (i : Nat) (w : Int) (y z : Slot), xs.drop i = L → i ≤ xs.length → (∀ d ∈ L, Nice d ∧ ∀ x ∈ kids d, Nice x) → (∀ j, j < i → pOk (xs.getD j .non) = true) →
    ((L.zipIdx i).all (arP xs) = true ∧ ∃ y' z', loopD gAr l_are_repeats_1 ((L.zipIdx i).map fun p => D.tup [.int (p.2 : Int), p.1]) ⟨[.pv (.tup xs), .pv (.int w), y, z], W⟩ = .ok .nx ⟨[.pv (.tup xs), .pv (.int (w + (L.map sI).sum)), y', z'], W⟩) ∨
    ((L.zipIdx i).all (arP xs) = false ∧ ∃ s', loopD gAr l_are_repeats_1 ((L.zipIdx i).map fun p => D.tup [.int (p.2 : Int), p.1]) ⟨[.pv (.tup xs), .pv (.int w), y, z], W⟩ = .ok (.rt (.pv (.bl false))) s' ∧ s'.W = W)
  | [], i, w, y, z, _, _, _, _ => .inl ⟨rfl, y, z, by simp⟩
  | d :: L, i, w, y, z, hd, hi, hn, hp => by
    have hlt : i < xs.length := by
      rcases Nat.lt_or_ge i xs.length with h | h
      · exact h
      · rw [List.drop_eq_nil_of_le h] at hd; cases hd
    have hd2 : xs.drop (i + 1) = L := by rw [← List.tail_drop, hd]; rfl
    have hdi : xs.getD i .non = d := by
      have : xs[i]? = some d := by rw [← List.head?_drop, hd]; rfl
      rw [List.getD_eq_getElem?_getD, this]; rfl
    rw [List.zipIdx_cons, List.all_cons, List.map_cons, loopD_cons']
    rcases ar_turn (W := W) xs i d w y z (by omega) (hn d (by simp)).1 (hn d (by simp)).2 hp with ⟨h1, e⟩ | ⟨h1, e⟩
    · rw [e, bind_okR, h1, Bool.true_and, List.map_cons, List.sum_cons, ← Int.add_assoc]
      exact ar_loop xs L (i + 1) (w + sI d) _ _ hd2 hlt (fun x hx => hn x (List.mem_cons_of_mem _ hx)) fun j hj => by
        by_cases hji : j = i
        · subst hji
          rw [hdi]
          unfold arP at h1
          rw [Bool.and_eq_true] at h1
          exact h1.1
        · exact hp j (by omega)
    · rw [e, bind_okR, h1, Bool.false_and]
      exact .inr ⟨rfl, _, rfl, rfl⟩
theorem are_repeats_ok (d : D) (h1 : Nice d) (h2 : ∀ x ∈ kids d, Nice x ∧ ∀ y ∈ kids x, Nice y) : m_are_repeats [.pv d] W = .ok (.pv (.bl (arB d))) W := by
  cases d with
  | tup xs =>
    have h2 : ∀ x ∈ xs, Nice x ∧ ∀ y ∈ kids x, Nice y := h2
    have eb : arB (.tup xs) = (!xs.isEmpty && xs.zipIdx.all (arP xs) && decide ((xs.map sI).sum ≤ 200)) := rfl
    have en : enumD xs = (xs.zipIdx 0).map fun p => D.tup [.int (p.2 : Int), p.1] := rfl
    rw [eb]
    by_cases hx : xs = []
    · subst hx
      simp [m_are_repeats_ap, b_are_repeats_ap]
    · have hne : ¬ ((xs.length : Int) = 0) := by
        have := List.length_pos_iff.mpr hx
        omega
      have hemp : xs.isEmpty = false := by simpa using hx
      rw [hemp]
      rcases ar_loop (W := W) xs xs 0 0 .no .no rfl (Nat.zero_le _) h2 (fun j hj => by omega) with ⟨ha, y', z', e⟩ | ⟨ha, ⟨η, W'⟩, e, rfl⟩
      · rw [ha]
        rw [← en] at e
        generalize (xs.map sI).sum = q at *
        simp at e
        simp [m_are_repeats_ap, b_are_repeats_ap, hx, e]
      · rw [ha]
        rw [← en] at e
        simp [m_are_repeats_ap, b_are_repeats_ap, hx, e]
  | int i => simp [m_are_repeats_ap, b_are_repeats_ap, arB]
  | bl i => simp [m_are_repeats_ap, b_are_repeats_ap, arB]
  | non => simp [m_are_repeats_ap, b_are_repeats_ap, arB]
  | str x => simp [m_are_repeats_ap, b_are_repeats_ap, arB]
  | lst x => simp [m_are_repeats_ap, b_are_repeats_ap, arB]
  | scr x => simp [m_are_repeats_ap, b_are_repeats_ap, arB]
  | dK _ => exact h1.elim
  | dT _ => exact h1.elim
  | glb _ => exact h1.elim
  | ty _ => exact h1.elim
end
/-! ### good and wrong repeats -/
section
theorem arB_tup (xs : List D) : arB (.tup xs) = (!xs.isEmpty && xs.zipIdx.all (arP xs) && decide ((xs.map sI).sum ≤ 200)) := rfl
theorem sI_sum : ∀ f : List (Int × Nat), ((f.map (encR kI)).map sI).sum = (tot f : Int)
  | [] => rfl
  | r :: f => by
    rw [List.map_cons, List.map_cons, List.sum_cons, sI_sum f]
    have : sI (encR kI r) = (r.2 : Int) := rfl
    rw [this]; simp [tot]
structure ColOk (c : List Int) : Prop where
  ne : c ≠ []
  len : c.length ≤ 200
  rng : ∀ v ∈ c, 0 ≤ v ∧ v ≤ 1000000000
theorem pOk_rle {c : List Int} (h : ColOk c) {r : Int × Nat} (hr : r ∈ rle c) : pOk (encR kI r) = true := by
  have h1 := h.rng r.1 (rle_key hr)
  have h2 := (can_rle c).pos r hr
  have h3 := tot_mem hr
  rw [tot_rle] at h3
  have := h.len
  show (inB 0 1000000000 (.int r.1) && inB 1 200 (.int (r.2 : Int))) = true
  rw [Bool.and_eq_true]
  exact ⟨decide_eq_true h1, decide_eq_true ⟨by omega, by omega⟩⟩
theorem arB_good {c : List Int} (h : ColOk c) : arB (rD (rle c)) = true := by
  have hne := rle_ne h.ne
  rw [arB_tup, Bool.and_eq_true, Bool.and_eq_true]
  refine ⟨⟨by simpa using hne, ?_⟩, ?_⟩
  · rw [List.all_eq_true]
    intro p hp
    obtain ⟨i, hi⟩ := List.mem_iff_getElem?.mp hp
    rw [List.getElem?_zipIdx, List.getElem?_map] at hi
    cases hr : (rle c)[i]? with
    | none => rw [hr] at hi; cases hi
    | some r =>
      rw [hr] at hi
      have hi : p = (encR kI r, 0 + i) := (Option.some.inj hi).symm
      rw [hi, Nat.zero_add]
      unfold arP
      rw [Bool.and_eq_true]
      refine ⟨pOk_rle h (List.mem_of_getElem? hr), ?_⟩
      by_cases h0 : 0 < i
      · have hlt : i < (rle c).length := (List.getElem?_eq_some_iff.mp hr).1
        have hpv : (rle c)[i - 1]? = some (rle c)[i - 1] := List.getElem?_eq_getElem (by omega)
        have := (can_rle c).adj (i - 1) _ r hpv (by rw [show i - 1 + 1 = i by omega]; exact hr)
        have e : fI ((List.map (encR kI) (rle c)).getD (i - 1) .non) = (rle c)[i - 1].1 := by
          rw [List.getD_eq_getElem?_getD, List.getElem?_map, hpv]; rfl
        have e2 : fI (encR kI r) = r.1 := rfl
        simp only [e, e2, decide_eq_false this, Bool.and_false, Bool.not_false]
      · simp [h0]
  · rw [sI_sum, tot_rle, decide_eq_true_iff]
    have := h.len
    omega
theorem ar_bad {xs : List D} {i : Nat} {d : D} (hx : xs[i]? = some d) (h : arP xs (d, i) = false) : arB (.tup xs) = false := by
  have : xs.zipIdx.all (arP xs) = false := by
    rw [List.all_eq_false]
    refine ⟨(d, i), ?_, by rw [h]; simp⟩
    rw [List.mem_iff_getElem?]
    exact ⟨i, by rw [List.getElem?_zipIdx, hx]; simp⟩
  rw [arB_tup, this, Bool.and_false, Bool.false_and]
theorem ar_mid {xs : List D} {k : Nat} {d : D} (hk : k ≤ xs.length) (h : pOk d = false) : arB (.tup (xs.take k ++ [d] ++ xs.drop (k + 1))) = false := by
  refine ar_bad (i := k) (d := d) ?_ (by unfold arP; rw [h]; rfl)
  rw [List.append_assoc, List.getElem?_append_right (by rw [List.length_take]; omega), List.length_take, show k - min k xs.length = 0 by omega]; rfl
theorem ar_twice (g : List D) (l : D) : arB (.tup (g ++ [l] ++ [l])) = false := by
  refine ar_bad (i := g.length + 1) (d := l) ?_ ?_
  · rw [List.getElem?_append_right (by simp), List.length_append]; simp
  · unfold arP
    have : (g ++ [l] ++ [l]).getD (g.length + 1 - 1) .non = l := by
      rw [List.getD_eq_getElem?_getD, List.append_assoc, Nat.add_sub_cancel, List.getElem?_append_right (Nat.le_refl _)]; simp
    simp only [this]
    simp
theorem col_good {c : List Int} (h : ColOk c) : colB (cD c) = true := by
  rw [colB_tup, List.length_map, Bool.and_eq_true, decide_eq_true_iff, List.all_eq_true]
  refine ⟨⟨List.length_pos_iff.mpr h.ne, h.len⟩, fun d hd => ?_⟩
  obtain ⟨v, hv, rfl⟩ := List.mem_map.mp hd
  exact decide_eq_true (h.rng v hv)
theorem col_mid {xs ys : List D} {d : D} (h : inB 0 1000000000 d = false) : colB (.tup (xs ++ [d] ++ ys)) = false := by
  rw [colB_tup, List.all_append, List.all_append]
  simp [h]
end
/-! ### the drawn column -/
section
variable {s0 s1 s2 y : Slot} {W : List (List D)}
theorem tk3 {W : List (List D)} (hW : Dr W) (η : List Slot) (h0 : η[0]? = some (.lc 0)) (a b c : Int) (ha : 0 < a) (hb : 0 < b) (hc : 0 < c) (ha2 : a ≤ 1000000000) (hb2 : b ≤ 1000000000) (hc2 : c ≤ 1000000000) (L : EV) (hL : ∀ W, L ⟨η, W⟩ = .ok (.ow [.int a, .int b, .int c]) ⟨η, W⟩) :
    ∃ v W', 0 ≤ v ∧ v < 1000000000 ∧ Dr W' ∧ (eCall m__law_take (aCons (eV 0) (aCons (eOp2 ixD L (eCall m__law_take (aCons (eV 0) (aCons (eC (.int 3)) aNil)))) aNil))) ⟨η, W⟩ = .ok (.pv (.int v)) ⟨η, W'⟩ := by
  obtain ⟨v, W1, e1, h1, h2, hW1⟩ := take_ok hW 3 (by decide)
  have hL := hL W
  rcases (by omega : v = 0 ∨ v = 1 ∨ v = 2) with rfl | rfl | rfl
  · obtain ⟨u, W2, e2, g1, g2, hW2⟩ := take_ok hW1 a ha
    exact ⟨u, W2, g1, by omega, hW2, by simp [h0, hL, e1, e2]⟩
  · obtain ⟨u, W2, e2, g1, g2, hW2⟩ := take_ok hW1 b hb
    exact ⟨u, W2, g1, by omega, hW2, by simp [h0, hL, e1, e2]⟩
  · obtain ⟨u, W2, e2, g1, g2, hW2⟩ := take_ok hW1 c hc
    exact ⟨u, W2, g1, by omega, hW2, by simp [h0, hL, e1, e2]⟩
theorem column_last {W : List (List D)} (hW : Dr W) (kind last : Int) (hl : 0 ≤ last ∧ last ≤ 1000000000) (F : List D) (hF : F.length < 60000) : ∃ (v : Int) (W' : List (List D)), 0 ≤ v ∧ v ≤ 1000000000 ∧ Dr W' ∧
    l__law_column_1 ⟨[.lc 0, s1, s2, .pv (.int kind), .ow F, .pv (.int last), y], W⟩ = .ok .nx ⟨[.lc 0, s1, s2, .pv (.int kind), .ow (F ++ [.int v]), .pv (.int v), y], W'⟩ := by
  by_cases k0 : kind = 0
  · subst k0
    obtain ⟨v, W', h1, h2, hW', e⟩ := tk3 hW [.lc 0, s1, s2, .pv (.int 0), .ow F, .pv (.int last), y] rfl 2 4 1000000000 (by decide) (by decide) (by decide) (by decide) (by decide) (by decide) (eLst (aCons (eC (.int 2)) (aCons (eC (.int 4)) (aCons (eOp2 powD (eC (.int 10)) (eC (.int 9))) aNil)))) (fun W => by simp)
    refine ⟨v, W', h1, by omega, hW', ?_⟩
    rw [l__law_column_1_ap]
    generalize (eCall m__law_take (aCons (eV 0) (aCons (eOp2 ixD (eLst (aCons (eC (.int 2)) (aCons (eC (.int 4)) (aCons (eOp2 powD (eC (.int 10)) (eC (.int 9))) aNil)))) (eCall m__law_take (aCons (eV 0) (aCons (eC (.int 3)) aNil)))) aNil))) = E at *
    have hz : F.length < 65536 := by omega
    simp [e, hz]
  · have hz : F.length < 65536 := by omega
    by_cases k1 : kind = 1
    · subst k1
      obtain ⟨v, W1, e1, h1, h2, hW1⟩ := take_ok hW 4 (by decide)
      by_cases hv : v = 0
      · subst hv
        obtain ⟨u, W2, e2, g1, g2, hW2⟩ := take_ok hW1 9 (by decide)
        exact ⟨u, W2, g1, by omega, hW2, by simp [l__law_column_1_ap, e1, e2, hz]⟩
      · exact ⟨last, W1, hl.1, hl.2, hW1, by simp [l__law_column_1_ap, e1, hv, hz]⟩
    · by_cases k2 : kind = 2
      · subst k2
        obtain ⟨u, W1, e1, h1, h2, hW1⟩ := take_ok hW 9 (by decide)
        refine ⟨if (if 0 < last + u - 3 then last + u - 3 else 0) < 1000000000 then (if 0 < last + u - 3 then last + u - 3 else 0) else 1000000000, W1, ?_, ?_, hW1, ?_⟩
        · split <;> split <;> omega
        · split <;> split <;> omega
        · simp [l__law_column_1_ap, e1, hz]
      · obtain ⟨u, W1, e1, h1, h2, hW1⟩ := take_ok hW 4 (by decide)
        obtain ⟨w, hx, hw⟩ : ∃ w : Int, atI [D.int 7, .int 7, .int 7, .int 100] u = some (.int w) ∧ 0 ≤ w := by
          rcases (by omega : u = 0 ∨ u = 1 ∨ u = 2 ∨ u = 3) with rfl | rfl | rfl | rfl
          · exact ⟨7, atI_get (by decide) rfl, by decide⟩
          · exact ⟨7, atI_get (by decide) rfl, by decide⟩
          · exact ⟨7, atI_get (by decide) rfl, by decide⟩
          · exact ⟨100, atI_get (by decide) rfl, by decide⟩
        refine ⟨if last + w < 1000000000 then last + w else 1000000000, W1, ?_, ?_, hW1, ?_⟩
        · split <;> omega
        · split <;> omega
        · simp [l__law_column_1_ap, e1, hz, k0, k1, k2, hx]
theorem column_draw {W : List (List D)} (hW : Dr W) (most : Int) (hm : most = 12 ∨ most = 200) : ∃ (c : List Int) (W' : List (List D)), ColOk c ∧ Dr W' ∧ m__law_column [.lc 0, .pv (.int most)] W = .ok (.pv (cD c)) W' := by
  obtain ⟨n, W1, e1, h1, h2, hW1⟩ := take_ok hW most (by omega)
  obtain ⟨kind, W2, e2, h3, h4, hW2⟩ := take_ok hW1 4 (by decide)
  obtain ⟨last, W3, h5, h6, hW3, e3⟩ := tk3 hW2 [.lc 0, .pv (.int most), .pv (.int (1 + n)), .pv (.int kind), .ow [], .no, .no] rfl 5 1000 1000000000 (by decide) (by decide) (by decide) (by decide) (by decide) (by decide) (eLst (aCons (eC (.int 5)) (aCons (eC (.int 1000)) (aCons (eOp2 powD (eC (.int 10)) (eC (.int 9))) aNil)))) (fun W => by simp)
  obtain ⟨m, hmn⟩ : ∃ m : Nat, 1 + n = (m : Int) := ⟨(1 + n).toNat, by omega⟩
  have hq := rngD_nat 0 m
  rw [Nat.sub_zero] at hq
  obtain ⟨s', e, c, v, W', y, g1, g2, g3, g4, rfl⟩ := loopD_nat (g := gSet 6) (body := l__law_column_1) (fun k s => ∃ (c : List Int) (v : Int) (W' : List (List D)) (y : Slot), c.length = k ∧ (∀ v ∈ c, 0 ≤ v ∧ v ≤ 1000000000) ∧ (0 ≤ v ∧ v ≤ 1000000000) ∧ Dr W' ∧ s = (⟨[.lc 0, .pv (.int most), .pv (.int (m : Int)), .pv (.int kind), .ow (dI c), .pv (.int v), y], W'⟩ : S)) 0 m (by
    rintro k s _ hk ⟨c, v, W', y, g1, g2, g3, g4, rfl⟩
    obtain ⟨v', W2, q1, q2, hW2, e⟩ := column_last (s1 := .pv (.int most)) (s2 := .pv (.int (m : Int))) (y := .pv (.int (k : Int))) g4 kind v g3 (dI c) (by rw [List.length_map]; omega)
    refine ⟨.nx, ⟨[.lc 0, .pv (.int most), .pv (.int (m : Int)), .pv (.int kind), .ow (dI c ++ [.int v']), .pv (.int v'), .pv (.int (k : Int))], W2⟩, ?_, .inl rfl, c ++ [v'], v', W2, .pv (.int (k : Int)), by simp [g1], ?_, ⟨q1, q2⟩, hW2, by simp⟩
    · generalize dI c = C at *
      simp
      exact e
    · intro x hx
      rcases List.mem_append.mp hx with hx | hx
      · exact g2 x hx
      · rw [List.mem_singleton.mp hx]; exact ⟨q1, q2⟩) (s := ⟨[.lc 0, .pv (.int most), .pv (.int (m : Int)), .pv (.int kind), .ow [], .pv (.int last), .no], W3⟩) ⟨[], last, W3, .no, rfl, by simp, ⟨h5, by omega⟩, hW3, rfl⟩
  refine ⟨c, W', ⟨?_, by omega, g2⟩, g4, ?_⟩
  · intro h; rw [h] at g1; simp at g1; omega
  have e : loopD (gSet 6) l__law_column_1 (rngD 0 (m : Int)) ⟨[.lc 0, .pv (.int most), .pv (.int (m : Int)), .pv (.int kind), .ow [], .pv (.int last), .no], W3⟩ = _ := (congrArg (fun l => loopD _ _ l _) hq).trans e
  have hro : rOk (m : Int) = true := rOkN (by omega)
  rw [hmn] at e3
  refine run_def (m__law_column_ap _ _) rfl ?_
  rw [b__law_column_ap]
  generalize (eCall m__law_take (aCons (eV 0) (aCons (eOp2 ixD (eLst (aCons (eC (.int 5)) (aCons (eC (.int 1000)) (aCons (eOp2 powD (eC (.int 10)) (eC (.int 9))) aNil)))) (eCall m__law_take (aCons (eV 0) (aCons (eC (.int 3)) aNil)))) aNil))) = E at *
  simp only [cD]
  generalize dI c = C at *
  simp [e1, e2, hmn, e3, hro, e]
end
/-! ### told -/
section
variable {W : List (List D)}
theorem word_range (W : List (List D)) : m__law_word "OutOfRange" W = .ok (.pv (.str "range")) W := by
  have hi : idxD (.lst [.bl true, .bl false, .bl false, .bl false, .bl false]) (.bl true) = some (.pv (.int 0)) := by kernel_rfl
  simp [m__law_word_ap, b__law_word_ap, c__law_word_1_ap, t__law_word_1_ap, x__law_word_1_ap, loopC, hi]
theorem word_refused (W : List (List D)) : m__law_word "Refused" W = .ok (.pv (.str "refused")) W := by
  have hi : idxD (.lst [.bl false, .bl false, .bl false, .bl true, .bl false]) (.bl true) = some (.pv (.int 3)) := by kernel_rfl
  simp [m__law_word_ap, b__law_word_ap, c__law_word_1_ap, t__law_word_1_ap, x__law_word_1_ap, loopC, hi]
theorem word_much (W : List (List D)) : m__law_word "TooMuch" W = .ok (.pv (.str "much")) W := by
  have hi : idxD (.lst [.bl false, .bl false, .bl false, .bl false, .bl true]) (.bl true) = some (.pv (.int 4)) := by kernel_rfl
  simp [m__law_word_ap, b__law_word_ap, c__law_word_1_ap, t__law_word_1_ap, x__law_word_1_ap, loopC, hi]
/-- what the suite gives -/
theorem told_of {w a b c v : D} (h : y__law_told_1 ⟨[.pv w, .pv a, .pv b, .pv c, .no], W⟩ = .ok (.rt (.pv v)) ⟨[.pv w, .pv a, .pv b, .pv c, .no], W⟩) : m__law_told [.pv w, .pv a, .pv b, .pv c] W = .ok (.pv v) W := by
  refine run_def (m__law_told_ap _ _) rfl ?_
  exact (congrArg outF ((b__law_told_ap _).trans (sTry_ok h))).trans (by simp)
theorem told_err {w a b c : D} {nm r : PySem.Str} (hT : T nm "PageError" = some true) (hw : m__law_word nm W = .ok (.pv (.str r)) W) (h : y__law_told_1 ⟨[.pv w, .pv a, .pv b, .pv c, .no], W⟩ = .err nm ⟨[.pv w, .pv a, .pv b, .pv c, .no], W⟩) : m__law_told [.pv w, .pv a, .pv b, .pv c] W = .ok (.pv (.str r)) W := by
  refine run_def (m__law_told_ap _ _) rfl ?_
  refine (congrArg outF ((b__law_told_ap _).trans (sTry_err (fl := .rt (.pv (.str r))) (s2 := ⟨[.pv w, .pv a, .pv b, .pv c, .ex], W⟩) h hT (by simp) ?_))).trans (by simp)
  simp [q__law_told_2_ap, hw]
theorem told_0 {a b c v : D} (h : m_item_at [.pv a, .pv b] W = .ok (.pv v) W) : m__law_told [.pv (.int 0), .pv a, .pv b, .pv c] W = .ok (.pv v) W := told_of (by simp [y__law_told_1_ap, h])
theorem told_0e {a b c : D} (h : m_item_at [.pv a, .pv b] W = .err "OutOfRange" W) : m__law_told [.pv (.int 0), .pv a, .pv b, .pv c] W = .ok (.pv (.str "range")) W := told_err (nm := "OutOfRange") (by simp) (word_range W) (by simp [y__law_told_1_ap, h])
theorem told_1 {a b c v : D} (h : m_part_of [.pv a, .pv b, .pv c] W = .ok (.pv v) W) : m__law_told [.pv (.int 1), .pv a, .pv b, .pv c] W = .ok (.pv v) W := told_of (by simp [y__law_told_1_ap, h])
theorem told_1e {a b c : D} (h : m_part_of [.pv a, .pv b, .pv c] W = .err "OutOfRange" W) : m__law_told [.pv (.int 1), .pv a, .pv b, .pv c] W = .ok (.pv (.str "range")) W := told_err (nm := "OutOfRange") (by simp) (word_range W) (by simp [y__law_told_1_ap, h])
theorem sel_2 (a b c : D) : (eOp2 ixD (eLst (aCons (eC (.glb "behind")) (aCons (eC (.glb "pairing")) aNil))) (eOp2 subD (eV 0) (eC (.int 2)))) ⟨[.pv (.int 2), .pv a, .pv b, .pv c, .no], W⟩ = .ok (.pv (.glb "behind")) ⟨[.pv (.int 2), .pv a, .pv b, .pv c, .no], W⟩ := by simp
theorem sel_3 (a b c : D) : (eOp2 ixD (eLst (aCons (eC (.glb "behind")) (aCons (eC (.glb "pairing")) aNil))) (eOp2 subD (eV 0) (eC (.int 2)))) ⟨[.pv (.int 3), .pv a, .pv b, .pv c, .no], W⟩ = .ok (.pv (.glb "pairing")) ⟨[.pv (.int 3), .pv a, .pv b, .pv c, .no], W⟩ := by simp
theorem y_sel {w : Int} {a b c : D} {nm : PySem.Str} {F : Fn} (h0 : w ≠ 0) (h1 : w ≠ 1) (hs : (eOp2 ixD (eLst (aCons (eC (.glb "behind")) (aCons (eC (.glb "pairing")) aNil))) (eOp2 subD (eV 0) (eC (.int 2)))) ⟨[.pv (.int w), .pv a, .pv b, .pv c, .no], W⟩ = .ok (.pv (.glb nm)) ⟨[.pv (.int w), .pv a, .pv b, .pv c, .no], W⟩)
    (hl : List.lookup nm [(("behind" : PySem.Str), m_behind), ("pairing", m_pairing)] = some F) : y__law_told_1 ⟨[.pv (.int w), .pv a, .pv b, .pv c, .no], W⟩ = (sRet (eCall F (aCons (eV 1) (aCons (eV 2) aNil)))) ⟨[.pv (.int w), .pv a, .pv b, .pv c, .no], W⟩ := by
  have e := eCallV_run (fs := (aCons (eV 1) (aCons (eV 2) aNil))) hs hl
  rw [y__law_told_1_ap]
  generalize (eOp2 ixD (eLst (aCons (eC (.glb "behind")) (aCons (eC (.glb "pairing")) aNil))) (eOp2 subD (eV 0) (eC (.int 2)))) = E at *
  generalize eCallV E [(("behind" : PySem.Str), m_behind), ("pairing", m_pairing)] (aCons (eV 1) (aCons (eV 2) aNil)) = EE at *
  rw [sRet_ap, ← e]
  simp [h0, h1]
theorem told_2 {a b c v : D} (h : m_behind [.pv a, .pv b] W = .ok (.pv v) W) : m__law_told [.pv (.int 2), .pv a, .pv b, .pv c] W = .ok (.pv v) W := told_of (by
  rw [y_sel (F := m_behind) (by decide) (by decide) (sel_2 a b c) (by kernel_rfl)]
  simp [h])
theorem told_2e {a b c : D} (h : m_behind [.pv a, .pv b] W = .err "TooMuch" W) : m__law_told [.pv (.int 2), .pv a, .pv b, .pv c] W = .ok (.pv (.str "much")) W := told_err (nm := "TooMuch") (by simp) (word_much W) (by
  rw [y_sel (F := m_behind) (by decide) (by decide) (sel_2 a b c) (by kernel_rfl)]
  simp [h])
theorem told_3 {a b c v : D} (h : m_pairing [.pv a, .pv b] W = .ok (.pv v) W) : m__law_told [.pv (.int 3), .pv a, .pv b, .pv c] W = .ok (.pv v) W := told_of (by
  rw [y_sel (F := m_pairing) (by decide) (by decide) (sel_3 a b c) (by kernel_rfl)]
  simp [h])
theorem told_3e {a b c : D} (h : m_pairing [.pv a, .pv b] W = .err "Refused" W) : m__law_told [.pv (.int 3), .pv a, .pv b, .pv c] W = .ok (.pv (.str "refused")) W := told_err (nm := "Refused") (by simp) (word_refused W) (by
  rw [y_sel (F := m_pairing) (by decide) (by decide) (sel_3 a b c) (by kernel_rfl)]
  simp [h])
end
/-! ### the law, statement by statement -/
theorem says_true (b : Bool) (W : List (List D)) : m__law_says [.pv (.bl b), .pv (.bl true)] W = .ok (.pv (.bl b)) W := by
  cases b <;> simp [m__law_says_ap, b__law_says_ap]
theorem alike_ok {a : D} {W : List (List D)} (h : plainD 11 a) : m__law_alike 12 [.pv a, .pv a] W = .ok (.pv (.bl true)) W := alike_refl 11 a W h
theorem plain_cD {c : List Int} (h : c.length < 2 ^ 20) (k : Nat) : plainD (k + 1) (cD c) := ⟨by rw [List.length_map]; exact h, plain_ints k c⟩
theorem plain_encR {K : Type} [DecidableEq K] {ke : K → List Int} (hk : KeyE ke) (k : Nat) (r : K × Nat) : plainD (k + 1) (encR ke r) := ⟨by
    rw [List.length_append, List.length_map]
    have := hk.len r.1
    simp; omega, fun x hx => by
    rcases List.mem_append.mp hx with hx | hx
    · exact plain_ints k _ x hx
    · rw [List.mem_singleton.mp hx]; cases k <;> trivial⟩
theorem plain_rows {K : Type} [DecidableEq K] {ke : K → List Int} (hk : KeyE ke) {f : List (K × Nat)} (h : f.length < 2 ^ 20) (k : Nat) : plainD (k + 2) (.tup (f.map (encR ke))) := ⟨by rw [List.length_map]; exact h, fun x hx => by
    obtain ⟨r, _, rfl⟩ := List.mem_map.mp hx
    exact plain_encR hk k r⟩
section
variable {s0 s1 s2 s3 s4 s5 s6 s7 s8 s9 s10 s11 s12 s13 s14 s15 s16 s17 s18 s19 s20 s21 : Slot} {W : List (List D)}
theorem A2 (hW : Dr W) : ∃ (c : List Int) (W' : List (List D)), ColOk c ∧ Dr W' ∧ a_law_2 ⟨[s0, .lc 0, s2, s3, s4, s5, s6, s7, s8, s9, s10, s11, s12, s13, s14, s15, s16, s17, s18, s19, s20, s21], W⟩ = .ok .nx ⟨[s0, .lc 0, .pv (cD c), s3, s4, s5, s6, s7, s8, s9, s10, s11, s12, s13, s14, s15, s16, s17, s18, s19, s20, s21], W'⟩ := by
  obtain ⟨v, W1, e1, h1, h2, hW1⟩ := take_ok hW 2 (by decide)
  obtain ⟨most, hm, hx⟩ : ∃ most : Int, (most = 12 ∨ most = 200) ∧ atI [D.int 12, .int 200] v = some (.int most) := by
    rcases (by omega : v = 0 ∨ v = 1) with rfl | rfl
    · exact ⟨12, .inl rfl, atI_get (by decide) rfl⟩
    · exact ⟨200, .inr rfl, atI_get (by decide) rfl⟩
  obtain ⟨c, W2, hc, hW2, e2⟩ := column_draw hW1 most hm
  refine ⟨c, W2, hc, hW2, ?_⟩
  generalize cD c = C at *
  simp [a_law_2_ap, e1, hx, e2]
theorem A17 (hW : Dr W) : ∃ (c : List Int) (W' : List (List D)), ColOk c ∧ Dr W' ∧ a_law_17 ⟨[s0, .lc 0, s2, s3, s4, s5, s6, s7, s8, s9, s10, s11, s12, s13, s14, s15, s16, s17, s18, s19, s20, s21], W⟩ = .ok .nx ⟨[s0, .lc 0, s2, s3, s4, s5, s6, s7, s8, s9, s10, s11, s12, s13, s14, .pv (cD c), s16, s17, s18, s19, s20, s21], W'⟩ := by
  obtain ⟨v, W1, e1, h1, h2, hW1⟩ := take_ok hW 2 (by decide)
  obtain ⟨most, hm, hx⟩ : ∃ most : Int, (most = 12 ∨ most = 200) ∧ atI [D.int 12, .int 200] v = some (.int most) := by
    rcases (by omega : v = 0 ∨ v = 1) with rfl | rfl
    · exact ⟨12, .inl rfl, atI_get (by decide) rfl⟩
    · exact ⟨200, .inr rfl, atI_get (by decide) rfl⟩
  obtain ⟨c, W2, hc, hW2, e2⟩ := column_draw hW1 most hm
  refine ⟨c, W2, hc, hW2, ?_⟩
  generalize cD c = C at *
  simp [a_law_17_ap, e1, hx, e2]
theorem len_cD (c : List Int) : lenD (cD c) = pI (c.length : Int) := by show lenD (.tup _) = _; rw [len_tup, List.length_map]
theorem len_rD (f : List (Int × Nat)) : lenD (rD f) = pI (f.length : Int) := by show lenD (.tup _) = _; rw [len_tup, List.length_map]
theorem A3 (c : List Int) : a_law_3 ⟨[s0, s1, .pv (cD c), s3, s4, s5, s6, s7, s8, s9, s10, s11, s12, s13, s14, s15, s16, s17, s18, s19, s20, s21], W⟩ = .ok .nx ⟨[s0, s1, .pv (cD c), .pv (.int (c.length : Int)), s4, s5, s6, s7, s8, s9, s10, s11, s12, s13, s14, s15, s16, s17, s18, s19, s20, s21], W⟩ := by
  have h := len_cD c
  generalize cD c = C at *
  simp [a_law_3_ap, h]
theorem A4 (hW : Dr W) (n : Nat) (hn : 0 < n) : ∃ (k : Nat) (W' : List (List D)), k < n ∧ Dr W' ∧ a_law_4 ⟨[s0, .lc 0, s2, .pv (.int (n : Int)), s4, s5, s6, s7, s8, s9, s10, s11, s12, s13, s14, s15, s16, s17, s18, s19, s20, s21], W⟩ = .ok .nx ⟨[s0, .lc 0, s2, .pv (.int (n : Int)), .pv (.int (k : Int)), s5, s6, s7, s8, s9, s10, s11, s12, s13, s14, s15, s16, s17, s18, s19, s20, s21], W'⟩ := by
  obtain ⟨v, W1, e1, h1, h2, hW1⟩ := take_ok hW (n : Int) (by omega)
  obtain ⟨k, rfl⟩ : ∃ k : Nat, v = (k : Int) := ⟨v.toNat, by omega⟩
  exact ⟨k, W1, by omega, hW1, by simp [a_law_4_ap, e1]⟩
theorem niceInts (c : List Int) : ∀ x ∈ kids (cD c), Nice x := fun x hx => by
  obtain ⟨v, _, rfl⟩ := List.mem_map.mp (show x ∈ c.map D.int from hx); trivial
theorem A5 {c : List Int} (h : ColOk c) : a_law_5 ⟨[s0, s1, .pv (cD c), s3, s4, s5, s6, s7, s8, s9, s10, s11, s12, s13, s14, s15, s16, s17, s18, s19, s20, s21], W⟩ = .ok .nx ⟨[s0, s1, .pv (cD c), s3, s4, s5, s6, s7, s8, s9, s10, s11, s12, s13, s14, s15, s16, s17, s18, s19, s20, s21], W⟩ := by
  have e1 := is_column_ok (W := W) (cD c) trivial (niceInts c)
  rw [col_good h] at e1
  have h2 : ColOk (List.replicate 200 (0 : Int)) := ⟨by decide, by simp, fun v hv => by rw [List.eq_of_mem_replicate hv]; decide⟩
  have e2 := is_column_ok (W := W) (cD (List.replicate 200 (0 : Int))) trivial (niceInts _)
  rw [col_good h2] at e2
  have hm : cD (List.replicate 200 (0 : Int)) = .tup (List.replicate 200 (.int 0)) := by show D.tup (List.map _ _) = _; rw [List.map_replicate]
  rw [hm] at e2
  have e3 := says_true true W
  generalize cD c = C at *
  simp [-List.reduceReplicate, a_law_5_ap, e1, e2, e3]
def six : List D := [.int (-1), .int 1000000001, .non, .bl true, .str "1", .tup [.int 1]]
def odL (c : List Int) (k : Nat) : List D := [.lst (dI c), .non, .int 5, .tup [], .tup (List.replicate 201 (.int 0))] ++ six.map fun d => .tup ((dI c).take k ++ [d] ++ (dI c).drop (k + 1))
theorem A6 (c : List Int) (k : Nat) (hk : k < c.length) (hl : c.length ≤ 200) : a_law_6 ⟨[s0, s1, .pv (cD c), s3, .pv (.int (k : Int)), s5, .no, s7, s8, s9, s10, s11, s12, s13, s14, s15, s16, s17, s18, s19, s20, s21], W⟩ = .ok .nx ⟨[s0, s1, .pv (cD c), s3, .pv (.int (k : Int)), .ow (odL c k), .no, s7, s8, s9, s10, s11, s12, s13, s14, s15, s16, s17, s18, s19, s20, s21], W⟩ := by
  have e1 : c_law_1 ⟨[s0, s1, .pv (cD c), s3, .pv (.int (k : Int)), s5, .no, s7, s8, s9, s10, s11, s12, s13, s14, s15, s16, s17, s18, s19, s20, s21], W⟩ = .ok (.ow (six.map fun d => .tup ((dI c).take k ++ [d] ++ (dI c).drop (k + 1)))) ⟨[s0, s1, .pv (cD c), s3, .pv (.int (k : Int)), s5, .no, s7, s8, s9, s10, s11, s12, s13, s14, s15, s16, s17, s18, s19, s20, s21], W⟩ := by
    rw [c_law_1_ap]
    refine eComp_map id (fun d => .tup ((dI c).take k ++ [d] ++ (dI c).drop (k + 1))) six (ds := six) (by simp [six]) (by simp) (by simp) (fun d hd => ?_) (szOk (by decide)) rfl
    have h1 : cutL (dI c) none (some (k : Int)) = (dI c).take k := by rw [cutL_hi (by omega), Int.toNat_natCast]
    have h2 : cutL (dI c) (some ((k : Int) + 1)) none = (dI c).drop (k + 1) := by rw [cutL_lo (by omega)]; congr 1
    have z1 : ((dI c).take k).length + 1 ≤ 65536 := by rw [List.length_take, List.length_map]; omega
    have z2 : ((dI c).take k).length + (1 + ((dI c).drop (k + 1)).length) ≤ 65536 := by rw [List.length_take, List.length_drop, List.length_map]; omega
    have z3 : ((dI c).take k).length + 1 + ((dI c).drop (k + 1)).length ≤ 65536 := by omega
    simp only [cD]
    generalize (dI c).take k = A at *
    generalize (dI c).drop (k + 1) = B at *
    generalize dI c = C at *
    simp [x_law_1_ap, h1, h2, z1, z2, z3]
  have hod : odL c k = [D.lst (dI c), .non, .int 5, .tup [], .tup (List.replicate 201 (.int 0))] ++ six.map fun d => .tup ((dI c).take k ++ [d] ++ (dI c).drop (k + 1)) := rfl
  have hz : 5 + (six.map fun d => D.tup ((dI c).take k ++ [d] ++ (dI c).drop (k + 1))).length ≤ 65536 := by rw [List.length_map]; decide
  rw [hod]
  generalize six.map (fun d => D.tup ((dI c).take k ++ [d] ++ (dI c).drop (k + 1))) = S6 at *
  simp only [cD] at *
  generalize dI c = C at *
  simp [-List.reduceReplicate, a_law_6_ap, e1, hz]
theorem od_ok {c : List Int} (k : Nat) : ∀ d ∈ odL c k, Nice d ∧ (∀ x ∈ kids d, Nice x) ∧ colB d = false := by
  intro d hd
  rcases List.mem_append.mp hd with hd | hd
  · simp only [List.mem_cons, List.not_mem_nil, or_false] at hd
    rcases hd with rfl | rfl | rfl | rfl | rfl
    · exact ⟨trivial, by simp [kids], rfl⟩
    · exact ⟨trivial, by simp [kids], rfl⟩
    · exact ⟨trivial, by simp [kids], rfl⟩
    · exact ⟨trivial, by simp [kids], rfl⟩
    · refine ⟨trivial, fun x hx => ?_, ?_⟩
      · rw [List.eq_of_mem_replicate (show x ∈ List.replicate 201 (D.int 0) from hx)]; trivial
      · rw [colB_tup, List.length_replicate]; rfl
  · obtain ⟨e, he, rfl⟩ := List.mem_map.mp hd
    have hn : Nice e ∧ inB 0 1000000000 e = false := by
      simp only [six, List.mem_cons, List.not_mem_nil, or_false] at he
      rcases he with rfl | rfl | rfl | rfl | rfl | rfl <;> exact ⟨trivial, by simp [inB]⟩
    refine ⟨trivial, fun x hx => ?_, col_mid hn.2⟩
    have hx : x ∈ (dI c).take k ++ [e] ++ (dI c).drop (k + 1) := hx
    rw [List.append_assoc] at hx
    rcases List.mem_append.mp hx with hx | hx
    · obtain ⟨v, _, rfl⟩ := List.mem_map.mp (List.mem_of_mem_take hx); trivial
    · rcases List.mem_append.mp hx with hx | hx
      · rw [List.mem_singleton.mp hx]; exact hn.1
      · obtain ⟨v, _, rfl⟩ := List.mem_map.mp (List.mem_of_mem_drop hx); trivial
theorem A7 (c : List Int) (k : Nat) : a_law_7 ⟨[s0, s1, s2, s3, s4, .ow (odL c k), s6, .no, s8, s9, s10, s11, s12, s13, s14, s15, s16, s17, s18, s19, s20, s21], W⟩ = .ok .nx ⟨[s0, s1, s2, s3, s4, .pv (.lst (odL c k)), s6, .no, s8, s9, s10, s11, s12, s13, s14, s15, s16, s17, s18, s19, s20, s21], W⟩ := by
  have ho := od_ok (c := c) k
  have hl : (odL c k).length = 11 := rfl
  have e1 : c_law_2 ⟨[s0, s1, s2, s3, s4, .ow (odL c k), s6, .no, s8, s9, s10, s11, s12, s13, s14, s15, s16, s17, s18, s19, s20, s21], W⟩ = .ok (.ow []) ⟨[s0, s1, s2, s3, s4, .pv (.lst (odL c k)), s6, .no, s8, s9, s10, s11, s12, s13, s14, s15, s16, s17, s18, s19, s20, s21], W⟩ := by
    generalize odL c k = L at *
    rw [c_law_2_ap]
    refine eComp_fil id colB id L (ds := L) (by simp) (by simp) (by simp) (fun d hd => ?_) (szOk (by omega)) (by rw [all_false _ _ fun d hd => (ho d hd).2.2]; rfl)
    have e := is_column_ok (W := W) d (ho d hd).1 (ho d hd).2.1
    rw [(ho d hd).2.2] at e
    simp [t_law_2_ap, e, (ho d hd).2.2]
  have en := eqO_nil
  generalize odL c k = L at *
  simp [a_law_7_ap, e1, en]
theorem A8 (c : List Int) (hl : c.length ≤ 200) : a_law_8 ⟨[s0, s1, .pv (cD c), s3, s4, s5, s6, s7, s8, s9, s10, s11, s12, s13, s14, s15, s16, s17, s18, s19, s20, s21], W⟩ = .ok .nx ⟨[s0, s1, .pv (cD c), s3, s4, s5, s6, s7, .pv (rD (rle c)), s9, s10, s11, s12, s13, s14, s15, s16, s17, s18, s19, s20, s21], W⟩ := by
  have e := law_repeats_ok (W := W) c (by omega)
  generalize cD c = C at *
  generalize rD (rle c) = R at *
  simp [a_law_8_ap, e]
theorem kidsR {f : List (Int × Nat)} : ∀ x ∈ kids (rD f), Nice x ∧ ∀ y ∈ kids x, Nice y := fun x hx => by
  obtain ⟨r, _, rfl⟩ := List.mem_map.mp (show x ∈ f.map (encR kI) from hx)
  refine ⟨trivial, fun y hy => ?_⟩
  have hy : y ∈ [D.int r.1, .int (r.2 : Int)] := hy
  simp only [List.mem_cons, List.not_mem_nil, or_false] at hy
  rcases hy with rfl | rfl <;> trivial
theorem A9 {c : List Int} (h : ColOk c) : a_law_9 ⟨[s0, s1, .pv (cD c), s3, s4, s5, s6, s7, .pv (rD (rle c)), s9, s10, s11, s12, s13, s14, s15, s16, s17, s18, s19, s20, s21], W⟩ = .ok .nx ⟨[s0, s1, .pv (cD c), s3, s4, s5, s6, s7, .pv (rD (rle c)), s9, s10, s11, s12, s13, s14, s15, s16, s17, s18, s19, s20, s21], W⟩ := by
  have hl := h.len
  have hrl := rle_len c
  have e1 := repeats_ok (W := W) c (by omega)
  have e2 := column_of_ok (W := W) (rle c) (by rw [tot_rle]; omega)
  rw [expd_rle] at e2
  have e3 := alike_ok (W := W) (a := .lst [rD (rle c), cD c]) ⟨by simp, fun x hx => by
    simp only [List.mem_cons, List.not_mem_nil, or_false] at hx
    rcases hx with rfl | rfl
    · exact plain_rows kI_ok (by omega) 8
    · exact plain_cD (by omega) 9⟩
  have e4 := are_repeats_ok (W := W) (rD (rle c)) trivial kidsR
  rw [arB_good h] at e4
  have e5 := says_true true W
  generalize cD c = C at *
  generalize rD (rle c) = R at *
  simp [a_law_9_ap, e1, e2, e3, e4, e5]
theorem A10 (hW : Dr W) (f : List (Int × Nat)) (hf : f ≠ []) : ∃ (k : Nat) (W' : List (List D)), k < f.length ∧ Dr W' ∧ a_law_10 ⟨[s0, .lc 0, s2, s3, s4, s5, s6, s7, .pv (rD f), s9, s10, s11, s12, s13, s14, s15, s16, s17, s18, s19, s20, s21], W⟩ = .ok .nx ⟨[s0, .lc 0, s2, s3, s4, s5, s6, s7, .pv (rD f), .pv (.int (k : Int)), s10, s11, s12, s13, s14, s15, s16, s17, s18, s19, s20, s21], W'⟩ := by
  have hp := List.length_pos_iff.mpr hf
  obtain ⟨v, W1, e1, h1, h2, hW1⟩ := take_ok hW (f.length : Int) (by omega)
  obtain ⟨k, rfl⟩ : ∃ k : Nat, v = (k : Int) := ⟨v.toNat, by omega⟩
  have hl := len_rD f
  refine ⟨k, W1, by omega, hW1, ?_⟩
  generalize rD f = R at *
  simp [a_law_10_ap, hl, e1]
theorem A11 (f : List (Int × Nat)) (k : Nat) (hk : k < f.length) : a_law_11 ⟨[s0, s1, s2, s3, s4, s5, s6, s7, .pv (rD f), .pv (.int (k : Int)), s10, s11, s12, s13, s14, s15, s16, s17, s18, s19, s20, s21], W⟩ = .ok .nx ⟨[s0, s1, s2, s3, s4, s5, s6, .pv (.int (f.getD k (0, 0)).1), .pv (rD f), .pv (.int (k : Int)), .pv (.int ((f.getD k (0, 0)).2 : Int)), s11, s12, s13, s14, s15, s16, s17, s18, s19, s20, s21], W⟩ := by
  have hx := rd_at hk
  generalize f.getD k (0, 0) = b at *
  generalize rD f = R at *
  simp [a_law_11_ap, hx]
end
section
variable {s0 s1 s2 s3 s4 s5 s6 s7 s8 s9 s10 s11 s12 s13 s14 s15 s16 s17 s18 s19 s20 s21 : Slot} {W : List (List D)}
abbrev prD (v t : Int) : D := .tup [.int v, .int t]
def bad12 (v t : Int) : List D := [prD v 0, prD v (-1), .tup [.int v], .tup [.int v, .int t, .int 0], .lst [.int v, .int t], .non, prD (-1) t, prD 1000000001 t, .tup [.non, .int t], .tup [.int v, .bl true], .tup [.int v, .non], .tup [.bl true, .int t]]
def od2 (xs : List D) (k : Nat) (v : Int) : List D := [.lst xs, .non, .tup [], .int 5, .tup (xs ++ cutL xs (some (-1)) none), .tup (xs.take k ++ [prD v 201] ++ xs.drop (k + 1)), .tup [prD 0 200, prD 1 1]]
theorem A12 (xs : List D) (k : Nat) (v : Int) (hk : k < xs.length) (hl : xs.length ≤ 200) (hc : (cutL xs (some (-1)) none).length ≤ 200) : a_law_12 ⟨[s0, s1, s2, s3, s4, s5, s6, .pv (.int v), .pv (.tup xs), .pv (.int (k : Int)), s10, s11, s12, s13, s14, s15, s16, s17, s18, s19, s20, s21], W⟩ = .ok .nx ⟨[s0, s1, s2, s3, s4, .ow (od2 xs k v), s6, .pv (.int v), .pv (.tup xs), .pv (.int (k : Int)), s10, s11, s12, s13, s14, s15, s16, s17, s18, s19, s20, s21], W⟩ := by
  have h1 : cutL xs none (some (k : Int)) = xs.take k := by rw [cutL_hi (by omega), Int.toNat_natCast]
  have h2 : cutL xs (some ((k : Int) + 1)) none = xs.drop (k + 1) := by rw [cutL_lo (by omega)]; congr 1
  have z0 : xs.length + (cutL xs (some (-1)) none).length ≤ 65536 := by omega
  have z1 : (xs.take k).length + 1 ≤ 65536 := by rw [List.length_take]; omega
  have z2 : (xs.take k).length + (1 + (xs.drop (k + 1)).length) ≤ 65536 := by rw [List.length_take, List.length_drop]; omega
  have z3 : (xs.take k).length + 1 + (xs.drop (k + 1)).length ≤ 65536 := by omega
  unfold od2
  generalize hZ : cutL xs (some (-1)) none = Z at *
  generalize xs.take k = A at *
  generalize xs.drop (k + 1) = B at *
  simp [a_law_12_ap, hZ, h1, h2, z0, z1, z2, z3]
def midL (xs : List D) (k : Nat) (d : D) : D := .tup (xs.take k ++ [d] ++ xs.drop (k + 1))
theorem l1_run (xs : List D) (k : Nat) (O : List D) (d : D) (hk : k < xs.length) (hl : xs.length ≤ 200) (hO : O.length ≤ 200) : l_law_1 ⟨[s0, s1, s2, s3, s4, .ow O, .pv d, s7, .pv (.tup xs), .pv (.int (k : Int)), s10, s11, s12, s13, s14, s15, s16, s17, s18, s19, s20, s21], W⟩ = .ok .nx ⟨[s0, s1, s2, s3, s4, .ow (O ++ [midL xs k d]), .pv d, s7, .pv (.tup xs), .pv (.int (k : Int)), s10, s11, s12, s13, s14, s15, s16, s17, s18, s19, s20, s21], W⟩ := by
  have h1 : cutL xs none (some (k : Int)) = xs.take k := by rw [cutL_hi (by omega), Int.toNat_natCast]
  have h2 : cutL xs (some ((k : Int) + 1)) none = xs.drop (k + 1) := by rw [cutL_lo (by omega)]; congr 1
  have z1 : (xs.take k).length + 1 ≤ 65536 := by rw [List.length_take]; omega
  have z2 : (xs.take k).length + (1 + (xs.drop (k + 1)).length) ≤ 65536 := by rw [List.length_take, List.length_drop]; omega
  have z3 : (xs.take k).length + 1 + (xs.drop (k + 1)).length ≤ 65536 := by omega
  have z4 : O.length < 65536 := by omega
  unfold midL
  generalize xs.take k = A at *
  generalize xs.drop (k + 1) = B at *
  simp [l_law_1_ap, h1, h2, z1, z2, z3, z4]
theorem A13 (xs : List D) (k : Nat) (v t : Int) (O : List D) (hk : k < xs.length) (hl : xs.length ≤ 200) (hO : O.length ≤ 100) : ∃ d6 : D, a_law_13 ⟨[s0, s1, s2, s3, s4, .ow O, s6, .pv (.int v), .pv (.tup xs), .pv (.int (k : Int)), .pv (.int t), s11, s12, s13, s14, s15, s16, s17, s18, s19, s20, s21], W⟩ = .ok .nx ⟨[s0, s1, s2, s3, s4, .ow (O ++ (bad12 v t).map (midL xs k)), .pv d6, .pv (.int v), .pv (.tup xs), .pv (.int (k : Int)), .pv (.int t), s11, s12, s13, s14, s15, s16, s17, s18, s19, s20, s21], W⟩ := by
  obtain ⟨s', e, hI⟩ := loopD_rel (g := gSet 6) (body := l_law_1) id (fun l s => l.length ≤ 12 ∧ ∃ y, s = (⟨[s0, s1, s2, s3, s4, .ow (O ++ l.map (midL xs k)), y, .pv (.int v), .pv (.tup xs), .pv (.int (k : Int)), .pv (.int t), s11, s12, s13, s14, s15, s16, s17, s18, s19, s20, s21], W⟩ : S) ∧ (l ≠ [] → ∃ d, y = .pv d)) (bad12 v t) (fun l x r s hL hI => by
    obtain ⟨h1, y, rfl, _⟩ := hI
    have hl12 : l.length + 1 ≤ 12 := by
      have : (bad12 v t).length = 12 := rfl
      rw [hL] at this; simp at this; omega
    refine ⟨.nx, _, ?_, .inl rfl, by rw [List.length_append, List.length_singleton]; exact hl12, .pv x, rfl, fun _ => ⟨x, rfl⟩⟩
    have e := l1_run (W := W) (s0 := s0) (s1 := s1) (s2 := s2) (s3 := s3) (s4 := s4) (s7 := .pv (.int v)) (s10 := .pv (.int t)) (s11 := s11) (s12 := s12) (s13 := s13) (s14 := s14) (s15 := s15) (s16 := s16) (s17 := s17) (s18 := s18) (s19 := s19) (s20 := s20) (s21 := s21) xs k (O ++ l.map (midL xs k)) x hk hl (by rw [List.length_append, List.length_map]; omega)
    rw [List.map_append, List.map_cons, List.map_nil, ← List.append_assoc]
    generalize O ++ l.map (midL xs k) = O2 at *
    generalize midL xs k x = X at *
    simp
    exact e) (s := ⟨[s0, s1, s2, s3, s4, .ow O, s6, .pv (.int v), .pv (.tup xs), .pv (.int (k : Int)), .pv (.int t), s11, s12, s13, s14, s15, s16, s17, s18, s19, s20, s21], W⟩) ⟨by simp, s6, by simp, by simp⟩
  obtain ⟨_, y, rfl, hy⟩ := hI
  obtain ⟨d, rfl⟩ := hy (by simp [bad12])
  refine ⟨d, ?_⟩
  have e := e
  rw [List.map_id] at e
  generalize O ++ (bad12 v t).map (midL xs k) = O2 at *
  unfold bad12 at e
  simp [a_law_13_ap, e]
theorem cut_last (g : List D) (l : D) : cutL (g ++ [l]) (some (-1)) none = [l] := by
  unfold cutL
  have h1 : HT.sIx (g ++ [l]).length 0 (some (-1)) = g.length := by
    unfold HT.sIx
    simp
    omega
  have h2 : HT.sIx (g ++ [l]).length (g ++ [l]).length none = (g ++ [l]).length := rfl
  rw [h1, h2]
  simp
theorem od2_ok {c : List Int} (h : ColOk c) {k : Nat} (hk : k < (rle c).length) (v t : Int) (hv : 0 ≤ v) : ∀ d ∈ od2 ((rle c).map (encR kI)) k v ++ (bad12 v t).map (midL ((rle c).map (encR kI)) k), Nice d ∧ (∀ x ∈ kids d, Nice x ∧ ∀ y ∈ kids x, Nice y) ∧ arB d = false := by
  have hkids : ∀ x ∈ (rle c).map (encR kI), Nice x ∧ ∀ y ∈ kids x, Nice y := kidsR
  have hmid : ∀ d, Nice d → (∀ y ∈ kids d, Nice y) → pOk d = false → Nice (midL ((rle c).map (encR kI)) k d) ∧ (∀ x ∈ kids (midL ((rle c).map (encR kI)) k d), Nice x ∧ ∀ y ∈ kids x, Nice y) ∧ arB (midL ((rle c).map (encR kI)) k d) = false := fun d h1 h2 h3 => by
    refine ⟨trivial, fun x hx => ?_, ar_mid (by rw [List.length_map]; omega) h3⟩
    have hx : x ∈ ((rle c).map (encR kI)).take k ++ [d] ++ ((rle c).map (encR kI)).drop (k + 1) := hx
    rw [List.append_assoc] at hx
    rcases List.mem_append.mp hx with hx | hx
    · exact hkids x (List.mem_of_mem_take hx)
    · rcases List.mem_append.mp hx with hx | hx
      · rw [List.mem_singleton.mp hx]; exact ⟨h1, h2⟩
      · exact hkids x (List.mem_of_mem_drop hx)
  intro d hd
  rcases List.mem_append.mp hd with hd | hd
  · simp only [od2, List.mem_cons, List.not_mem_nil, or_false] at hd
    rcases hd with rfl | rfl | rfl | rfl | rfl | rfl | rfl
    · exact ⟨trivial, by simp [kids], rfl⟩
    · exact ⟨trivial, by simp [kids], rfl⟩
    · exact ⟨trivial, by simp [kids], rfl⟩
    · exact ⟨trivial, by simp [kids], rfl⟩
    · rcases snoc_cases ((rle c).map (encR kI)) with h0 | ⟨g, l, hg⟩
      · exact absurd h0 (by simpa using rle_ne h.ne)
      · rw [hg] at hkids ⊢
        rw [cut_last]
        refine ⟨trivial, fun x hx => ?_, ar_twice g l⟩
        rcases List.mem_append.mp (show x ∈ g ++ [l] ++ [l] from hx) with hx | hx
        · exact hkids x hx
        · exact hkids x (List.mem_append_right _ hx)
    · exact hmid (prD v 201) trivial (by simp [kids, Nice]) (by simp [pOk, inB])
    · refine ⟨trivial, fun x hx => ?_, ?_⟩
      · have hx : x ∈ [prD 0 200, prD 1 1] := hx
        simp only [List.mem_cons, List.not_mem_nil, or_false] at hx
        rcases hx with rfl | rfl <;> exact ⟨trivial, by simp [kids, Nice]⟩
      · rw [arB_tup]
        have : ¬ ((([prD 0 200, prD 1 1] : List D).map sI).sum ≤ 200) := by
          simp [sI, valI]
        rw [decide_eq_false this, Bool.and_false]
  · obtain ⟨e, he, rfl⟩ := List.mem_map.mp hd
    have hv2 : ¬ v < 0 := by omega
    simp only [bad12, List.mem_cons, List.not_mem_nil, or_false] at he
    rcases he with rfl | rfl | rfl | rfl | rfl | rfl | rfl | rfl | rfl | rfl | rfl | rfl
    all_goals refine hmid _ trivial (by simp [kids, Nice]) (by simp [pOk, inB])
theorem A14 {L : List D} {d6 : D} (h : ∀ d ∈ L, Nice d ∧ (∀ x ∈ kids d, Nice x ∧ ∀ y ∈ kids x, Nice y) ∧ arB d = false) (hl : L.length ≤ 1000) : a_law_14 ⟨[s0, s1, s2, s3, s4, .ow L, .pv d6, s7, s8, s9, s10, s11, s12, s13, s14, s15, s16, s17, s18, s19, s20, s21], W⟩ = .ok .nx ⟨[s0, s1, s2, s3, s4, .pv (.lst L), .pv d6, s7, s8, s9, s10, s11, s12, s13, s14, s15, s16, s17, s18, s19, s20, s21], W⟩ := by
  have e1 : c_law_3 ⟨[s0, s1, s2, s3, s4, .ow L, .pv d6, s7, s8, s9, s10, s11, s12, s13, s14, s15, s16, s17, s18, s19, s20, s21], W⟩ = .ok (.ow []) ⟨[s0, s1, s2, s3, s4, .pv (.lst L), .pv d6, s7, s8, s9, s10, s11, s12, s13, s14, s15, s16, s17, s18, s19, s20, s21], W⟩ := by
    rw [c_law_3_ap]
    refine eComp_fil id arB id L (ds := L) (by simp) (by simp) (by simp) (fun d hd => ?_) (szOk (by omega)) (by rw [all_false _ _ fun d hd => (h d hd).2.2]; rfl)
    have e := are_repeats_ok (W := W) d (h d hd).1 (h d hd).2.1
    rw [(h d hd).2.2] at e
    simp [t_law_3_ap, e, (h d hd).2.2]
  have en := eqO_nil
  simp [a_law_14_ap, e1, en]
theorem col_at {c : List Int} {p : Nat} (h : p < c.length) : ixD (cD c) (.int (p : Int)) = some (.pv (.int (c.getD p 0))) := by
  show Option.map _ (atI (dI c) (p : Int)) = _
  rw [atI_gd h]; rfl
theorem col_cut (c : List Int) (i j : Nat) : slD (cD c) (some (i : Int)) (some (j : Int)) = some (.pv (cD ((c.take j).drop i))) := by
  show slD (.tup _) _ _ = _
  rw [DL.sl_tup, cutL_map, cutL_nn (by omega) (by omega), Int.toNat_natCast, Int.toNat_natCast, List.drop_take]
theorem B1 {c : List Int} (h : ColOk c) (p i j : Nat) (hp : p < c.length) (hi : i < c.length) (hj : 1 ≤ j) (hj2 : j ≤ c.length) :
    (sSeq (sIf (tNotD (tOf (eCall (m__law_alike 12) (aCons (eCall m__law_told (aCons (eC (.int 0)) (aCons (eV 8) (aCons (eV 12) (aCons (eC .non) aNil))))) (aCons (eOp2 ixD (eV 2) (eV 12)) aNil))))) (sRet (eC (.bl false))) sNil)
    (sIf (tNotD (tOf (eCall (m__law_alike 12) (aCons (eCall m__law_told (aCons (eC (.int 1)) (aCons (eV 8) (aCons (eV 13) (aCons (eV 14) aNil))))) (aCons (eIfD (tOfB (eOp2 ltC (eV 13) (eV 14))) (eCall m__law_repeats (aCons (eSl (eV 2) (oSo (eV 13)) (oSo (eV 14))) aNil)) (eC (.str "range"))) aNil))))) (sRet (eC (.bl false))) sNil)) ⟨[s0, s1, .pv (cD c), s3, s4, s5, s6, s7, .pv (rD (rle c)), s9, s10, s11, .pv (.int (p : Int)), .pv (.int (i : Int)), .pv (.int (j : Int)), s15, s16, s17, s18, s19, s20, s21], W⟩ = .ok .nx ⟨[s0, s1, .pv (cD c), s3, s4, s5, s6, s7, .pv (rD (rle c)), s9, s10, s11, .pv (.int (p : Int)), .pv (.int (i : Int)), .pv (.int (j : Int)), s15, s16, s17, s18, s19, s20, s21], W⟩ := by
  have hl := h.len
  have hrl := rle_len c
  have e1 := item_ok (W := W) (rle c) (by omega) p (by rw [tot_rle]; exact hp)
  rw [expd_rle] at e1
  have e1 := told_0 (c := .non) e1
  have e2 := col_at hp
  have e3 := alike_ok (W := W) (a := .int (c.getD p 0)) trivial
  generalize c.getD p 0 = v at *
  by_cases hij : i < j
  · have f1 := part_ok (W := W) (rle c) (by omega) (by rw [tot_rle]; omega) i j hij (by rw [tot_rle]; exact hj2)
    rw [expd_rle] at f1
    have f1 := told_1 f1
    have f2 := col_cut c i j
    have f3 := law_repeats_ok (W := W) ((c.take j).drop i) (by rw [List.length_drop, List.length_take]; omega)
    have hzl := rle_len ((c.take j).drop i)
    have f4 := alike_ok (W := W) (a := rD (rle ((c.take j).drop i))) (plain_rows kI_ok (by rw [List.length_drop, List.length_take] at hzl; omega) 9)
    generalize rD (rle ((c.take j).drop i)) = Z at *
    generalize cD ((c.take j).drop i) = Y at *
    generalize rD (rle c) = R at *
    generalize cD c = C at *
    simp [e1, e2, e3, f1, f2, f3, f4, hij]
  · have f1 := part_bad (W := W) (rle c) (by omega) (i : Int) (j : Int) (by omega)
    have f1 := told_1e f1
    have f4 := alike_ok (W := W) (a := .str "range") trivial
    generalize rD (rle c) = R at *
    generalize cD c = C at *
    simp [e1, e2, e3, f1, f4, hij]
theorem B0 (hW : Dr W) (n : Nat) (hn : 0 < n) : ∃ (p i j : Nat) (W' : List (List D)), p < n ∧ i < n ∧ 1 ≤ j ∧ j ≤ n ∧ Dr W' ∧ (sPar3 12 13 14 (eCall m__law_take (aCons (eV 1) (aCons (eV 3) aNil))) (eCall m__law_take (aCons (eV 1) (aCons (eV 3) aNil))) (eOp2 addD (eC (.int 1)) (eCall m__law_take (aCons (eV 1) (aCons (eV 3) aNil))))) ⟨[s0, .lc 0, s2, .pv (.int (n : Int)), s4, s5, s6, s7, s8, s9, s10, s11, s12, s13, s14, s15, s16, s17, s18, s19, s20, s21], W⟩ = .ok .nx ⟨[s0, .lc 0, s2, .pv (.int (n : Int)), s4, s5, s6, s7, s8, s9, s10, s11, .pv (.int (p : Int)), .pv (.int (i : Int)), .pv (.int (j : Int)), s15, s16, s17, s18, s19, s20, s21], W'⟩ := by
  obtain ⟨v1, W1, e1, h1, h2, hW1⟩ := take_ok hW (n : Int) (by omega)
  obtain ⟨v2, W2, e2, h3, h4, hW2⟩ := take_ok hW1 (n : Int) (by omega)
  obtain ⟨v3, W3, e3, h5, h6, hW3⟩ := take_ok hW2 (n : Int) (by omega)
  obtain ⟨p, rfl⟩ : ∃ k : Nat, v1 = (k : Int) := ⟨v1.toNat, by omega⟩
  obtain ⟨i, rfl⟩ : ∃ k : Nat, v2 = (k : Int) := ⟨v2.toNat, by omega⟩
  obtain ⟨j, hj⟩ : ∃ k : Nat, 1 + v3 = (k : Int) := ⟨(1 + v3).toNat, by omega⟩
  refine ⟨p, i, j, W3, by omega, by omega, by omega, by omega, hW3, ?_⟩
  simp [e1, e2, e3, hj]
theorem A15 {c : List Int} (h : ColOk c) (hW : Dr W) : ∃ (y11 : Slot) (d12 d13 d14 : D) (W' : List (List D)), Dr W' ∧ a_law_15 ⟨[s0, .lc 0, .pv (cD c), .pv (.int (c.length : Int)), s4, s5, s6, s7, .pv (rD (rle c)), s9, s10, s11, s12, s13, s14, s15, s16, s17, s18, s19, s20, s21], W⟩ = .ok .nx ⟨[s0, .lc 0, .pv (cD c), .pv (.int (c.length : Int)), s4, s5, s6, s7, .pv (rD (rle c)), s9, s10, y11, .pv d12, .pv d13, .pv d14, s15, s16, s17, s18, s19, s20, s21], W'⟩ := by
  obtain ⟨s', e, y11, y12, y13, y14, W', hW', rfl, hy⟩ := loopD_nat (g := gSet 11) (body := l_law_2) (fun k s => ∃ (y11 y12 y13 y14 : Slot) (W' : List (List D)), Dr W' ∧ s = (⟨[s0, .lc 0, .pv (cD c), .pv (.int (c.length : Int)), s4, s5, s6, s7, .pv (rD (rle c)), s9, s10, y11, y12, y13, y14, s15, s16, s17, s18, s19, s20, s21], W'⟩ : S) ∧ (0 < k → ∃ d12 d13 d14 : D, y12 = .pv d12 ∧ y13 = .pv d13 ∧ y14 = .pv d14)) 0 4 (by
    rintro k s _ hk ⟨y11, y12, y13, y14, W1, hW1, rfl, _⟩
    obtain ⟨p, i, j, W2, h1, h2, h3, h4, hW2, e⟩ := B0 (s0 := s0) (s2 := .pv (cD c)) (s4 := s4) (s5 := s5) (s6 := s6) (s7 := s7) (s8 := .pv (rD (rle c))) (s9 := s9) (s10 := s10) (s11 := .pv (.int (k : Int))) (s12 := y12) (s13 := y13) (s14 := y14) (s15 := s15) (s16 := s16) (s17 := s17) (s18 := s18) (s19 := s19) (s20 := s20) (s21 := s21) hW1 c.length (List.length_pos_iff.mpr h.ne)
    have e2 := B1 (W := W2) (s0 := s0) (s1 := .lc 0) (s3 := .pv (.int (c.length : Int))) (s4 := s4) (s5 := s5) (s6 := s6) (s7 := s7) (s9 := s9) (s10 := s10) (s11 := .pv (.int (k : Int))) (s15 := s15) (s16 := s16) (s17 := s17) (s18 := s18) (s19 := s19) (s20 := s20) (s21 := s21) h p i j h1 h2 h3 h4
    refine ⟨.nx, _, ?_, .inl rfl, .pv (.int (k : Int)), .pv (.int (p : Int)), .pv (.int (i : Int)), .pv (.int (j : Int)), W2, hW2, rfl, fun _ => ⟨_, _, _, rfl, rfl, rfl⟩⟩
    have e3 := seq_go e e2
    rw [turnD_ap]
    have hg : (gSet 11 (.pv (.int (k : Int))) (⟨[s0, .lc 0, .pv (cD c), .pv (.int (c.length : Int)), s4, s5, s6, s7, .pv (rD (rle c)), s9, s10, y11, y12, y13, y14, s15, s16, s17, s18, s19, s20, s21], W1⟩ : S)) = .ok () ⟨[s0, .lc 0, .pv (cD c), .pv (.int (c.length : Int)), s4, s5, s6, s7, .pv (rD (rle c)), s9, s10, .pv (.int (k : Int)), y12, y13, y14, s15, s16, s17, s18, s19, s20, s21], W1⟩ := by
      generalize rD (rle c) = R at *
      generalize cD c = C at *
      simp
    rw [hg, bind_okR, l_law_2_ap]
    exact e3) (s := ⟨[s0, .lc 0, .pv (cD c), .pv (.int (c.length : Int)), s4, s5, s6, s7, .pv (rD (rle c)), s9, s10, s11, s12, s13, s14, s15, s16, s17, s18, s19, s20, s21], W⟩) ⟨s11, s12, s13, s14, W, hW, rfl, fun h => by omega⟩
  obtain ⟨d12, d13, d14, rfl, rfl, rfl⟩ := hy (by omega)
  refine ⟨y11, d12, d13, d14, W', hW', ?_⟩
  have hq := rngD_nat 0 4
  have e : loopD (gSet 11) l_law_2 (rngD 0 4) _ = _ := (congrArg (fun l => loopD _ _ l _) hq).trans e
  generalize rD (rle c) = R at *
  generalize cD c = C at *
  simp [a_law_15_ap, e]
end
theorem rep4 (W : List (List D)) (η : List Slot) : (eOp2 mulD (eLst (aCons (eC (.str "range")) aNil)) (eC (.int 4))) ⟨η, W⟩ = .ok (.ow [.str "range", .str "range", .str "range", .str "range"]) ⟨η, W⟩ := by
  have h := mul_lst1 (D.str "range") (n := 4) (by decide)
  have h : mulD (.lst [D.str "range"]) (.int 4) = some (.ow [.str "range", .str "range", .str "range", .str "range"]) := h
  simp [-mul_li, h]
theorem eq4 : eqO (.lst [.str "range", .str "range", .str "range", .str "range"]) (.lst [.str "range", .str "range", .str "range", .str "range"]) = some true := by
  kernel_rfl
section
variable {s0 s1 s2 s3 s4 s5 s6 s7 s8 s9 s10 s11 s12 s13 s14 s15 s16 s17 s18 s19 s20 s21 : Slot} {W : List (List D)}
def bad4 (n : Int) : List D := [.int (-1), .int n, .non, .bl true]
def bad4p (n : Int) : List (Int × Int) := [(-1, 1), (0, n + 1), (0, 0), (n, n)]
theorem A16 {c : List Int} (h : ColOk c) (d6 d13 d14 : D) : a_law_16 ⟨[s0, s1, s2, .pv (.int (c.length : Int)), s4, s5, .pv d6, s7, .pv (rD (rle c)), s9, s10, s11, s12, .pv d13, .pv d14, s15, s16, s17, s18, s19, s20, s21], W⟩ = .ok .nx ⟨[s0, s1, s2, .pv (.int (c.length : Int)), s4, s5, .pv d6, s7, .pv (rD (rle c)), s9, s10, s11, s12, .pv d13, .pv d14, s15, s16, s17, s18, s19, s20, s21], W⟩ := by
  have hl := h.len
  have hpos := List.length_pos_iff.mpr h.ne
  have hrl := rle_len c
  have e1 : c_law_4 ⟨[s0, s1, s2, .pv (.int (c.length : Int)), s4, s5, .pv d6, s7, .pv (rD (rle c)), s9, s10, s11, s12, .pv d13, .pv d14, s15, s16, s17, s18, s19, s20, s21], W⟩ = .ok (.ow [.str "range", .str "range", .str "range", .str "range"]) ⟨[s0, s1, s2, .pv (.int (c.length : Int)), s4, s5, .pv d6, s7, .pv (rD (rle c)), s9, s10, s11, s12, .pv d13, .pv d14, s15, s16, s17, s18, s19, s20, s21], W⟩ := by
    rw [c_law_4_ap]
    refine eComp_map id (fun _ => .str "range") (bad4 (c.length : Int)) (ds := bad4 (c.length : Int)) ?_ (by simp) (by simp) (fun d hd => ?_) (szOk (by simp [bad4])) rfl
    · generalize rD (rle c) = R
      simp [bad4]
    · have hd2 : Nice d ∧ inB 0 ((tot (rle c) : Int) - 1) d = false := by
        rw [tot_rle]
        simp only [bad4, List.mem_cons, List.not_mem_nil, or_false] at hd
        rcases hd with rfl | rfl | rfl | rfl
        · exact ⟨trivial, by simp [inB]⟩
        · exact ⟨trivial, by simp [inB]; omega⟩
        · exact ⟨trivial, rfl⟩
        · exact ⟨trivial, rfl⟩
      have e := told_0e (c := .non) (item_bad (W := W) (rle c) (by omega) d hd2.1 hd2.2)
      generalize rD (rle c) = R at *
      simp [x_law_4_ap, e]
  have e2 : c_law_5 ⟨[s0, s1, s2, .pv (.int (c.length : Int)), s4, s5, .pv d6, s7, .pv (rD (rle c)), s9, s10, s11, s12, .pv d13, .pv d14, s15, s16, s17, s18, s19, s20, s21], W⟩ = .ok (.ow [.str "range", .str "range", .str "range", .str "range"]) ⟨[s0, s1, s2, .pv (.int (c.length : Int)), s4, s5, .pv d6, s7, .pv (rD (rle c)), s9, s10, s11, s12, .pv d13, .pv d14, s15, s16, s17, s18, s19, s20, s21], W⟩ := by
    rw [c_law_5_ap]
    refine eComp_map (fun p : Int × Int => D.tup [.int p.1, .int p.2]) (fun _ => .str "range") (bad4p (c.length : Int)) (ds := (bad4p (c.length : Int)).map (fun p : Int × Int => D.tup [.int p.1, .int p.2])) ?_ rfl (by simp) (fun p hp => ?_) (szOk (by simp [bad4p])) rfl
    · generalize rD (rle c) = R
      simp [bad4p]
    · have hb : ¬ (0 ≤ p.1 ∧ p.1 ≤ (tot (rle c) : Int) - 1 ∧ p.1 + 1 ≤ p.2 ∧ p.2 ≤ (tot (rle c) : Int)) := by
        rw [tot_rle]
        simp only [bad4p, List.mem_cons, List.not_mem_nil, or_false] at hp
        rcases hp with rfl | rfl | rfl | rfl <;> simp <;> omega
      have e := told_1e (part_bad (W := W) (rle c) (by omega) p.1 p.2 hb)
      generalize rD (rle c) = R at *
      simp [x_law_5_ap, e]
  have e3 := rep4
  have e4 := eq4
  rw [a_law_16_ap]
  generalize rD (rle c) = R at *
  generalize (eOp2 mulD (eLst (aCons (eC (.str "range")) aNil)) (eC (.int 4))) = E at *
  simp [e1, e2, e3, e4]
theorem A18 : a_law_18 ⟨[s0, s1, s2, s3, s4, s5, s6, s7, s8, s9, s10, s11, s12, s13, s14, s15, s16, s17, s18, s19, s20, s21], W⟩ = .ok .nx ⟨[s0, s1, s2, s3, s4, s5, s6, s7, s8, s9, s10, s11, s12, s13, s14, s15, .pv (.str "much"), s17, s18, s19, s20, s21], W⟩ := by
  simp [a_law_18_ap]
def whl (c o : List Int) : D := if c.length + o.length ≤ 200 then rD (rle (c ++ o)) else .str "much"
theorem A19 (c o : List Int) (h1 : c.length ≤ 200) (h2 : o.length ≤ 200) : a_law_19 ⟨[s0, s1, .pv (cD c), .pv (.int (c.length : Int)), s4, s5, s6, s7, s8, s9, s10, s11, s12, s13, s14, .pv (cD o), .pv (.str "much"), s17, s18, s19, s20, s21], W⟩ = .ok .nx ⟨[s0, s1, .pv (cD c), .pv (.int (c.length : Int)), s4, s5, s6, s7, s8, s9, s10, s11, s12, s13, s14, .pv (cD o), .pv (whl c o), s17, s18, s19, s20, s21], W⟩ := by
  have e1 := len_cD o
  have e2 := law_repeats_ok (W := W) (c ++ o) (by rw [List.length_append]; omega)
  have e3 : cD (c ++ o) = .tup (dI c ++ dI o) := by show D.tup (List.map _ _) = _; rw [List.map_append]
  rw [e3] at e2
  have z : (dI c).length + (dI o).length ≤ 65536 := by rw [List.length_map, List.length_map]; omega
  unfold whl
  simp only [cD] at *
  generalize rD (rle (c ++ o)) = R at *
  by_cases h : c.length + o.length ≤ 200
  · have h' : (c.length : Int) + (o.length : Int) ≤ 200 := by omega
    rw [if_pos h]
    generalize (c.length : Int) = n at *
    generalize (o.length : Int) = m at *
    generalize dI c = C at *
    generalize dI o = O at *
    simp [-len_tup, a_law_19_ap, e1, e2, h', z]
  · have h' : ¬ (c.length : Int) + (o.length : Int) ≤ 200 := by omega
    rw [if_neg h]
    generalize (c.length : Int) = n at *
    generalize (o.length : Int) = m at *
    generalize dI c = C at *
    generalize dI o = O at *
    simp [-len_tup, a_law_19_ap, e1, h']
theorem A20 {c o : List Int} (h1 : ColOk c) (h2 : ColOk o) : a_law_20 ⟨[s0, s1, s2, s3, s4, s5, s6, s7, .pv (rD (rle c)), s9, s10, s11, s12, s13, s14, .pv (cD o), .pv (whl c o), s17, s18, s19, s20, s21], W⟩ = .ok .nx ⟨[s0, s1, s2, s3, s4, s5, s6, s7, .pv (rD (rle c)), s9, s10, s11, s12, s13, s14, .pv (cD o), .pv (whl c o), s17, s18, s19, s20, s21], W⟩ := by
  have hl1 := h1.len
  have hl2 := h2.len
  have r1 := rle_len c
  have r2 := rle_len o
  have e1 := law_repeats_ok (W := W) o (by omega)
  have e2 : m__law_told [.pv (.int 2), .pv (rD (rle c)), .pv (rD (rle o)), .pv .non] W = .ok (.pv (whl c o)) W := by
    unfold whl
    by_cases h : c.length + o.length ≤ 200
    · rw [if_pos h]
      have := behind_ok (W := W) (rle c) (rle o) (by omega) (by omega) (by rw [tot_rle, tot_rle]; exact h)
      rw [expd_rle, expd_rle] at this
      exact told_2 this
    · rw [if_neg h]
      exact told_2e (behind_bad (rle c) (rle o) (by omega) (by omega) (by rw [tot_rle, tot_rle]; omega))
  have e3 : m__law_alike 12 [.pv (whl c o), .pv (whl c o)] W = .ok (.pv (.bl true)) W := by
    refine alike_ok ?_
    unfold whl
    by_cases h : c.length + o.length ≤ 200
    · rw [if_pos h]
      have := rle_len (c ++ o)
      rw [List.length_append] at this
      exact plain_rows kI_ok (by omega) 9
    · rw [if_neg h]; trivial
  generalize whl c o = Wh at *
  generalize rD (rle c) = R at *
  generalize rD (rle o) = R2 at *
  generalize cD o = O at *
  simp [a_law_20_ap, e1, e2, e3]
theorem A21 (c o : List Int) : a_law_21 ⟨[s0, s1, s2, .pv (.int (c.length : Int)), s4, s5, s6, s7, s8, s9, s10, s11, s12, s13, s14, .pv (cD o), s16, s17, s18, s19, s20, s21], W⟩ = .ok .nx ⟨[s0, s1, s2, .pv (.int (c.length : Int)), s4, s5, s6, s7, s8, s9, s10, s11, s12, s13, s14, .pv (cD o), s16, .pv (.int ((min c.length o.length : Nat) : Int)), s18, s19, s20, s21], W⟩ := by
  have e1 := len_cD o
  have e2 : (if (o.length : Int) < (c.length : Int) then (o.length : Int) else (c.length : Int)) = ((min c.length o.length : Nat) : Int) := by split <;> omega
  rw [← e2]
  generalize cD o = O at *
  simp [a_law_21_ap, e1]
theorem cut_hi (c : List Int) (m : Nat) : slD (cD c) none (some (m : Int)) = some (.pv (cD (c.take m))) := by
  show slD (.tup _) _ _ = _
  rw [DL.sl_tup, cutL_map, cutL_hi (by omega), Int.toNat_natCast]
abbrev prsD (c o : List Int) (m : Nat) : D := .tup ((rle ((c.take m).zip (o.take m))).map (encR kP))
theorem A22 (c o : List Int) (m : Nat) (h1 : m ≤ c.length) (h2 : m ≤ o.length) (h3 : c.length ≤ 200) : a_law_22 ⟨[s0, s1, .pv (cD c), s3, s4, s5, s6, s7, s8, s9, s10, s11, s12, s13, s14, .pv (cD o), s16, .pv (.int (m : Int)), s18, s19, s20, s21], W⟩ = .ok .nx ⟨[s0, s1, .pv (cD c), s3, s4, s5, s6, s7, s8, s9, s10, s11, s12, s13, s14, .pv (cD o), s16, .pv (.int (m : Int)), .pv (prsD c o m), s19, s20, s21], W⟩ := by
  have e1 := cut_hi c m
  have e2 := cut_hi o m
  have e3 := law_pairing_ok (W := W) (c.take m) (o.take m) (by rw [List.length_take]; omega) (by rw [List.length_take, List.length_take]; omega)
  simp only [prsD]
  generalize (rle ((c.take m).zip (o.take m))).map (encR kP) = R at *
  generalize cD (c.take m) = C1 at *
  generalize cD (o.take m) = O1 at *
  generalize cD c = C at *
  generalize cD o = O at *
  simp [a_law_22_ap, e1, e2, e3]
theorem A23 (c o : List Int) (m : Nat) (h3 : c.length ≤ 200) (h4 : o.length ≤ 200) : a_law_23 ⟨[s0, s1, .pv (cD c), s3, s4, s5, s6, s7, s8, s9, s10, s11, s12, s13, s14, .pv (cD o), s16, .pv (.int (m : Int)), s18, s19, s20, s21], W⟩ = .ok .nx ⟨[s0, s1, .pv (cD c), s3, s4, s5, s6, s7, s8, s9, s10, s11, s12, s13, s14, .pv (cD o), s16, .pv (.int (m : Int)), s18, .pv (rD (rle (c.take m))), .pv (rD (rle (o.take m))), s21], W⟩ := by
  have e1 := cut_hi c m
  have e2 := cut_hi o m
  have e3 := law_repeats_ok (W := W) (c.take m) (by rw [List.length_take]; omega)
  have e4 := law_repeats_ok (W := W) (o.take m) (by rw [List.length_take]; omega)
  generalize rD (rle (c.take m)) = R1 at *
  generalize rD (rle (o.take m)) = R2 at *
  generalize cD (c.take m) = C1 at *
  generalize cD (o.take m) = O1 at *
  generalize cD c = C at *
  generalize cD o = O at *
  simp [a_law_23_ap, e1, e2, e3, e4]
theorem A24 (c o : List Int) (m : Nat) (h0 : 0 < m) (h1 : m ≤ c.length) (h2 : m ≤ o.length) (h3 : c.length ≤ 200) : a_law_24 ⟨[s0, s1, s2, s3, s4, s5, s6, s7, s8, s9, s10, s11, s12, s13, s14, s15, s16, s17, .pv (prsD c o m), .pv (rD (rle (c.take m))), .pv (rD (rle (o.take m))), s21], W⟩ = .ok .nx ⟨[s0, s1, s2, s3, s4, s5, s6, s7, s8, s9, s10, s11, s12, s13, s14, s15, s16, s17, .pv (prsD c o m), .pv (rD (rle (c.take m))), .pv (rD (rle (o.take m))), s21], W⟩ := by
  have l1 : (c.take m).length = m := by rw [List.length_take]; omega
  have l2 : (o.take m).length = m := by rw [List.length_take]; omega
  have r1 := rle_len (c.take m)
  have r2 := rle_len (o.take m)
  have hne : o.take m ≠ [] := fun e => by rw [e] at l2; simp at l2; omega
  obtain ⟨e1, hlen⟩ := pairing_ok (W := W) (rle (c.take m)) (rle (o.take m)) (can_rle _).pos (can_rle _).pos (rle_ne hne) (by rw [tot_rle, tot_rle, l1, l2]) (by rw [tot_rle]; omega) (by omega) (by omega)
  rw [expd_rle, expd_rle] at e1 hlen
  have e1 := told_3 (c := .non) e1
  have e2 := alike_ok (W := W) (a := prsD c o m) (plain_rows kP_ok (by omega) 9)
  have q1 := len_rD (rle (c.take m))
  have q2 := len_rD (rle (o.take m))
  have q3 : lenD (prsD c o m) = pI ((rle ((c.take m).zip (o.take m))).length : Int) := by show lenD (.tup _) = _; rw [len_tup, List.length_map]
  have hq : ¬ ((rle (c.take m)).length : Int) + ((rle (o.take m)).length : Int) - 1 < ((rle ((c.take m).zip (o.take m))).length : Int) := by omega
  generalize ((rle ((c.take m).zip (o.take m))).length : Int) = n3 at *
  generalize ((rle (c.take m)).length : Int) = n1 at *
  generalize ((rle (o.take m)).length : Int) = n2 at *
  have e1 : m__law_told [.pv (.int 3), .pv (rD (rle (c.take m))), .pv (rD (rle (o.take m))), .pv .non] W = .ok (.pv (prsD c o m)) W := e1
  generalize prsD c o m = P at *
  generalize rD (rle (c.take m)) = R1 at *
  generalize rD (rle (o.take m)) = R2 at *
  simp [a_law_24_ap, e1, e2, q1, q2, q3, hq]
theorem A25 {c o : List Int} (h1 : ColOk c) (h2 : ColOk o) : a_law_25 ⟨[s0, s1, s2, .pv (.int (c.length : Int)), s4, s5, s6, s7, .pv (rD (rle c)), s9, s10, s11, s12, s13, s14, .pv (cD o), s16, s17, s18, s19, s20, s21], W⟩ = .ok .nx ⟨[s0, s1, s2, .pv (.int (c.length : Int)), s4, s5, s6, s7, .pv (rD (rle c)), s9, s10, s11, s12, s13, s14, .pv (cD o), s16, s17, s18, s19, s20, s21], W⟩ := by
  have hl1 := h1.len
  have hl2 := h2.len
  have r1 := rle_len c
  have r2 := rle_len o
  have e1 := law_repeats_ok (W := W) o (by omega)
  have q1 := len_cD o
  by_cases h : c.length = o.length
  · have h' : (c.length : Int) = (o.length : Int) := by omega
    rw [h'] at *
    generalize rD (rle c) = R1 at *
    generalize rD (rle o) = R2 at *
    generalize cD o = O at *
    simp [a_law_25_ap, q1]
  · have h' : ¬ (c.length : Int) = (o.length : Int) := by omega
    have e2 := told_3e (c := .non) (pairing_bad (W := W) (rle c) (rle o) (by rw [tot_rle, tot_rle]; exact h) (by omega) (by omega))
    generalize rD (rle c) = R1 at *
    generalize rD (rle o) = R2 at *
    generalize cD o = O at *
    simp [a_law_25_ap, q1, e1, e2, h']
def num4 (a b : Nat) : List Nat := [a, b, 1073741824, 1073741823]
theorem A26 (hW : Dr W) : ∃ (a b : Nat) (W' : List (List D)), a < 1000000000 ∧ b < 20 ∧ a_law_26 ⟨[s0, .lc 0, s2, s3, s4, s5, s6, s7, s8, s9, s10, s11, s12, s13, s14, s15, s16, s17, s18, s19, s20, s21], W⟩ = .ok .nx ⟨[s0, .lc 0, s2, s3, s4, s5, s6, s7, s8, s9, s10, s11, s12, s13, s14, s15, s16, s17, s18, s19, s20, .ow (nI (num4 a b))], W'⟩ := by
  obtain ⟨v1, W1, e1, h1, h2, hW1⟩ := take_ok hW 1000000000 (by decide)
  obtain ⟨v2, W2, e2, h3, h4, hW2⟩ := take_ok hW1 20 (by decide)
  obtain ⟨p, rfl⟩ : ∃ k : Nat, v1 = (k : Int) := ⟨v1.toNat, by omega⟩
  obtain ⟨i, rfl⟩ : ∃ k : Nat, v2 = (k : Int) := ⟨v2.toNat, by omega⟩
  refine ⟨p, i, W2, by omega, by omega, ?_⟩
  unfold num4
  simp [a_law_26_ap, e1, e2]
theorem A27 (a b : Nat) (h1 : a < 1000000000) (h2 : b < 20) (d6 : D) : ∃ s', a_law_27 ⟨[s0, s1, s2, s3, s4, s5, .pv d6, s7, s8, s9, s10, s11, s12, s13, s14, s15, s16, s17, s18, s19, s20, .ow (nI (num4 a b))], W⟩ = .ok (.rt (.pv (.bl true))) s' := by
  have hn : ∀ n ∈ num4 a b, n < 2 ^ 62 := fun n hn => by
    simp only [num4, List.mem_cons, List.not_mem_nil, or_false] at hn
    omega
  have hl : (num4 a b).length = 4 := rfl
  have e1 : c_law_7 ⟨[s0, s1, s2, s3, s4, s5, .pv d6, s7, s8, s9, s10, s11, s12, s13, s14, s15, s16, s17, s18, s19, s20, .ow (nI (num4 a b))], W⟩ = .ok (.ow (nI ((num4 a b).map wd))) ⟨[s0, s1, s2, s3, s4, s5, .pv d6, s7, s8, s9, s10, s11, s12, s13, s14, s15, s16, s17, s18, s19, s20, .pv (.lst (nI (num4 a b)))], W⟩ := by
    rw [c_law_7_ap]
    generalize num4 a b = L at *
    refine eComp_map (fun (n : Nat) => D.int (n : Int)) (fun n => D.int (wd n : Int)) L (ds := nI L) (by simp) rfl (by simp) (fun n hn' => ?_) (szOk (by omega)) (by rw [nI, List.map_map]; rfl)
    have e := width_ok (W := W) n (by have := hn n hn'; omega)
    generalize nI L = NL
    generalize (n : Int) = N at *
    simp [x_law_7_ap, e]
  have e2 : c_law_6 ⟨[s0, s1, s2, s3, s4, s5, .pv d6, s7, s8, s9, s10, s11, s12, s13, s14, s15, s16, s17, s18, s19, s20, .pv (.lst (nI (num4 a b)))], W⟩ = .ok (.ow (nI ((num4 a b).map wd))) ⟨[s0, s1, s2, s3, s4, s5, .pv d6, s7, s8, s9, s10, s11, s12, s13, s14, s15, s16, s17, s18, s19, s20, .pv (.lst (nI (num4 a b)))], W⟩ := by
    rw [c_law_6_ap]
    generalize num4 a b = L at *
    refine eComp_map (fun (n : Nat) => D.int (n : Int)) (fun n => D.int (wd n : Int)) L (ds := nI L) (by simp) rfl (by simp) (fun n hn' => ?_) (szOk (by omega)) (by rw [nI, List.map_map]; rfl)
    have e := law_width_ok (W := W) n (hn n hn')
    generalize nI L = NL
    generalize (n : Int) = N at *
    simp [x_law_6_ap, e]
  have e3 := alike_ok (W := W) (a := .lst (nI ((num4 a b).map wd))) ⟨by rw [List.length_map, List.length_map]; simp [num4], fun x hx => by
    obtain ⟨n, _, rfl⟩ := List.mem_map.mp hx; trivial⟩
  refine ⟨⟨[s0, s1, s2, s3, s4, s5, .pv d6, s7, s8, s9, s10, s11, s12, s13, s14, s15, s16, s17, s18, s19, s20, .pv (.lst (nI (num4 a b)))], W⟩, ?_⟩
  generalize nI ((num4 a b).map wd) = X at *
  generalize nI (num4 a b) = Y at *
  simp [a_law_27_ap, e1, e2, e3]
end
theorem law_true : ∀ ns : List Int, ns.length ≤ 63 → (∀ z ∈ ns, Builtin.Int.intBits z ≤ 1048576) → ∃ W', m_law [.pv (.scr (ns.map D.int))] [] = .ok (.pv (.bl true)) W' := by
  intro ns hn _
  obtain ⟨ds, e1⟩ := draws_ok ns hn []
  have hW : Dr [dI ds] := ⟨ds, rfl⟩
  refine run_gx (m_law_ap _ _) rfl ?_
  rw [b_law_ap]
  have g1 : a_law_1 ⟨[.pv (.scr (dI ns)), .no, .no, .no, .no, .no, .no, .no, .no, .no, .no, .no, .no, .no, .no, .no, .no, .no, .no, .no, .no, .no], []⟩ = .ok .nx ⟨[.pv (.scr (dI ns)), .lc 0, .no, .no, .no, .no, .no, .no, .no, .no, .no, .no, .no, .no, .no, .no, .no, .no, .no, .no, .no, .no], [dI ds]⟩ := by
    generalize D.scr (dI ns) = sc at *
    generalize dI ds = dd at *
    simp [a_law_1_ap, e1]
  refine seq_gx g1 ?_
  obtain ⟨c, W1, hc, hW1, g2⟩ := A2 (s0 := .pv (.scr (dI ns))) (s2 := .no) (s3 := .no) (s4 := .no) (s5 := .no) (s6 := .no) (s7 := .no) (s8 := .no) (s9 := .no) (s10 := .no) (s11 := .no) (s12 := .no) (s13 := .no) (s14 := .no) (s15 := .no) (s16 := .no) (s17 := .no) (s18 := .no) (s19 := .no) (s20 := .no) (s21 := .no) hW
  refine seq_gx g2 (seq_gx (A3 c) ?_)
  have hpos := List.length_pos_iff.mpr hc.ne
  have hcl := hc.len
  obtain ⟨k, W2, hk, hW2, g4⟩ := A4 (s0 := .pv (.scr (dI ns))) (s2 := .pv (cD c)) (s4 := .no) (s5 := .no) (s6 := .no) (s7 := .no) (s8 := .no) (s9 := .no) (s10 := .no) (s11 := .no) (s12 := .no) (s13 := .no) (s14 := .no) (s15 := .no) (s16 := .no) (s17 := .no) (s18 := .no) (s19 := .no) (s20 := .no) (s21 := .no) hW1 c.length hpos
  refine seq_gx g4 (seq_gx (A5 hc) (seq_gx (A6 c k hk hcl) (seq_gx (A7 c k) (seq_gx (A8 c hcl) (seq_gx (A9 hc) ?_)))))
  have hrne := rle_ne hc.ne
  obtain ⟨q, W3, hq, hW3, g10⟩ := A10 (s0 := .pv (.scr (dI ns))) (s2 := .pv (cD c)) (s3 := .pv (.int (c.length : Int))) (s4 := .pv (.int (k : Int))) (s5 := .pv (.lst (odL c k))) (s6 := .no) (s7 := .no) (s9 := .no) (s10 := .no) (s11 := .no) (s12 := .no) (s13 := .no) (s14 := .no) (s15 := .no) (s16 := .no) (s17 := .no) (s18 := .no) (s19 := .no) (s20 := .no) (s21 := .no) hW2 (rle c) hrne
  have hrl := rle_len c
  have hml : ((rle c).map (encR kI)).length = (rle c).length := by simp
  refine seq_gx g10 (seq_gx (A11 (rle c) q hq) ?_)
  have hcut : (cutL ((rle c).map (encR kI)) (some (-1)) none).length ≤ 200 := by
    have := cutL_len ((rle c).map (encR kI)) (some (-1)) none
    omega
  refine seq_gx (A12 ((rle c).map (encR kI)) q ((rle c).getD q (0, 0)).1 (by omega) (by omega) hcut) ?_
  obtain ⟨d6, g13⟩ := A13 (s0 := .pv (.scr (dI ns))) (s1 := .lc 0) (s2 := .pv (cD c)) (s3 := .pv (.int (c.length : Int))) (s4 := .pv (.int (k : Int))) (s6 := .no) (s11 := .no) (s12 := .no) (s13 := .no) (s14 := .no) (s15 := .no) (s16 := .no) (s17 := .no) (s18 := .no) (s19 := .no) (s20 := .no) (s21 := .no) (W := W3) ((rle c).map (encR kI)) q ((rle c).getD q (0, 0)).1 ((rle c).getD q (0, 0)).2 (od2 ((rle c).map (encR kI)) q ((rle c).getD q (0, 0)).1) (by omega) (by omega) (by simp [od2])
  have hmem : ((rle c).getD q (0, 0)) ∈ rle c := by rw [List.getD_eq_getElem?_getD, List.getElem?_eq_getElem hq]; exact List.getElem_mem hq
  have hv := (hc.rng _ (rle_key hmem)).1
  refine seq_gx g13 (seq_gx (A14 (od2_ok hc hq _ _ hv) (by rw [List.length_append, List.length_map]; simp [od2, bad12])) ?_)
  obtain ⟨y11, d12, d13, d14, W4, hW4, g15⟩ := A15 (s0 := .pv (.scr (dI ns))) (s4 := .pv (.int (k : Int))) (s5 := .pv (.lst (od2 ((rle c).map (encR kI)) q ((rle c).getD q (0, 0)).1 ++ (bad12 ((rle c).getD q (0, 0)).1 ((rle c).getD q (0, 0)).2).map (midL ((rle c).map (encR kI)) q)))) (s6 := .pv d6) (s7 := .pv (.int ((rle c).getD q (0, 0)).1)) (s9 := .pv (.int (q : Int))) (s10 := .pv (.int ((rle c).getD q (0, 0)).2)) (s11 := .no) (s12 := .no) (s13 := .no) (s14 := .no) (s15 := .no) (s16 := .no) (s17 := .no) (s18 := .no) (s19 := .no) (s20 := .no) (s21 := .no) hc hW3
  refine seq_gx g15 (seq_gx (A16 hc d6 d13 d14) ?_)
  obtain ⟨o, W5, ho, hW5, g17⟩ := A17 (s0 := .pv (.scr (dI ns))) (s2 := .pv (cD c)) (s3 := .pv (.int (c.length : Int))) (s4 := .pv (.int (k : Int))) (s5 := .pv (.lst (od2 ((rle c).map (encR kI)) q ((rle c).getD q (0, 0)).1 ++ (bad12 ((rle c).getD q (0, 0)).1 ((rle c).getD q (0, 0)).2).map (midL ((rle c).map (encR kI)) q)))) (s6 := .pv d6) (s7 := .pv (.int ((rle c).getD q (0, 0)).1)) (s8 := .pv (rD (rle c))) (s9 := .pv (.int (q : Int))) (s10 := .pv (.int ((rle c).getD q (0, 0)).2)) (s11 := y11) (s12 := .pv d12) (s13 := .pv d13) (s14 := .pv d14) (s15 := .no) (s16 := .no) (s17 := .no) (s18 := .no) (s19 := .no) (s20 := .no) (s21 := .no) hW4
  have hol := ho.len
  have hopos := List.length_pos_iff.mpr ho.ne
  refine seq_gx g17 (seq_gx A18 (seq_gx (A19 c o hcl hol) (seq_gx (A20 hc ho) (seq_gx (A21 c o) (seq_gx (A22 c o (min c.length o.length) (by omega) (by omega) hcl) (seq_gx (A23 c o (min c.length o.length) hcl hol) (seq_gx (A24 c o (min c.length o.length) (by omega) (by omega) (by omega) hcl) (seq_gx (A25 hc ho) ?_))))))))
  obtain ⟨a, b, W6, h1, h2, g26⟩ := A26 (s0 := .pv (.scr (dI ns))) (s2 := .pv (cD c)) (s3 := .pv (.int (c.length : Int))) (s4 := .pv (.int (k : Int))) (s5 := .pv (.lst (od2 ((rle c).map (encR kI)) q ((rle c).getD q (0, 0)).1 ++ (bad12 ((rle c).getD q (0, 0)).1 ((rle c).getD q (0, 0)).2).map (midL ((rle c).map (encR kI)) q)))) (s6 := .pv d6) (s7 := .pv (.int ((rle c).getD q (0, 0)).1)) (s8 := .pv (rD (rle c))) (s9 := .pv (.int (q : Int))) (s10 := .pv (.int ((rle c).getD q (0, 0)).2)) (s11 := y11) (s12 := .pv d12) (s13 := .pv d13) (s14 := .pv d14) (s15 := .pv (cD o)) (s16 := .pv (whl c o)) (s17 := .pv (.int ((min c.length o.length : Nat) : Int))) (s18 := .pv (prsD c o (min c.length o.length))) (s19 := .pv (rD (rle (c.take (min c.length o.length))))) (s20 := .pv (rD (rle (o.take (min c.length o.length))))) (s21 := .no) hW5
  refine seq_gx g26 ?_
  obtain ⟨⟨η, W7⟩, g27⟩ := A27 (s0 := .pv (.scr (dI ns))) (s1 := .lc 0) (s2 := .pv (cD c)) (s3 := .pv (.int (c.length : Int))) (s4 := .pv (.int (k : Int))) (s5 := .pv (.lst (od2 ((rle c).map (encR kI)) q ((rle c).getD q (0, 0)).1 ++ (bad12 ((rle c).getD q (0, 0)).1 ((rle c).getD q (0, 0)).2).map (midL ((rle c).map (encR kI)) q)))) (s7 := .pv (.int ((rle c).getD q (0, 0)).1)) (s8 := .pv (rD (rle c))) (s9 := .pv (.int (q : Int))) (s10 := .pv (.int ((rle c).getD q (0, 0)).2)) (s11 := y11) (s12 := .pv d12) (s13 := .pv d13) (s14 := .pv d14) (s15 := .pv (cD o)) (s16 := .pv (whl c o)) (s17 := .pv (.int ((min c.length o.length : Nat) : Int))) (s18 := .pv (prsD c o (min c.length o.length))) (s19 := .pv (rD (rle (c.take (min c.length o.length))))) (s20 := .pv (rD (rle (o.take (min c.length o.length))))) (W := W6) a b h1 h2 d6
  exact ⟨η, W7, g27⟩
end k94
namespace k94
open PySem PySem.Spec PyProof.Rows L2 DL
theorem all_ok {w : World} {K : PySem.W.Frag} {mg : Str → Option Value} {base : Heap} {tb : List Addr} (B : Bl mg) (R : Rw K mg base tb) (C : Ct mg) (XF0 : XF K mg T) : Has prog w K mg base tb 13 "law" ["script"] m_law := by
  obtain ⟨t_MOST_ITEMS, c_MOST_ITEMS⟩ := C.c_MOST_ITEMS
  obtain ⟨t_MOST_VALUE, c_MOST_VALUE⟩ := C.c_MOST_VALUE
  have h__law_draws := ok__law_draws (w := w) (K := K) (base := base) (tb := tb) B R XF0
  have h__law_take := ok__law_take (w := w) (K := K) (base := base) (tb := tb) B R XF0
  have h__law_column := ok__law_column (w := w) (K := K) (base := base) (tb := tb) B R XF0 h__law_take
  have h__law_repeats := ok__law_repeats (w := w) (K := K) (base := base) (tb := tb) B R XF0
  have h__law_pairing := ok__law_pairing (w := w) (K := K) (base := base) (tb := tb) B R XF0
  have h__law_alike : Has prog w K mg base tb 12 "_law_alike" ["found", "due"] (m__law_alike 12) := ok__law_alike B R XF0 12
  have h__law_says := ok__law_says (w := w) (K := K) (base := base) (tb := tb) B R XF0
  have h_is_number := ok_is_number (w := w) (K := K) (base := base) (tb := tb) B R XF0
  have h_length := ok_length (w := w) (K := K) (base := base) (tb := tb) B R XF0
  have h_item_at := ok_item_at (w := w) (K := K) (base := base) (tb := tb) B R XF0 h_is_number h_length
  have h_folded := ok_folded (w := w) (K := K) (base := base) (tb := tb) B R XF0
  have h_part_of := ok_part_of (w := w) (K := K) (base := base) (tb := tb) B R XF0 h_is_number h_length h_folded
  have h__law_word := ok__law_word (w := w) (K := K) (base := base) (tb := tb) B R XF0
  have h_behind := ok_behind (w := w) (K := K) (base := base) (tb := tb) B R XF0 c_MOST_ITEMS h_length h_folded
  have h_pairing := ok_pairing (w := w) (K := K) (base := base) (tb := tb) B R XF0 h_length h_folded
  have h__law_told := ok__law_told (w := w) (K := K) (base := base) (tb := tb) B R XF0 h_item_at h_part_of h__law_word h_behind h_pairing
  have h_width := ok_width (w := w) (K := K) (base := base) (tb := tb) B R XF0
  have h__law_width := ok__law_width (w := w) (K := K) (base := base) (tb := tb) B R XF0
  have h_is_column := ok_is_column (w := w) (K := K) (base := base) (tb := tb) B R XF0 c_MOST_ITEMS c_MOST_VALUE h_is_number
  have h_are_repeats := ok_are_repeats (w := w) (K := K) (base := base) (tb := tb) B R XF0 c_MOST_ITEMS c_MOST_VALUE h_is_number
  have h_repeats_of := ok_repeats_of (w := w) (K := K) (base := base) (tb := tb) B R XF0 h_folded
  have h_column_of := ok_column_of (w := w) (K := K) (base := base) (tb := tb) B R XF0
  have h_law := ok_law (w := w) (K := K) (base := base) (tb := tb) B R XF0 h__law_draws h__law_take h__law_column h__law_repeats h__law_pairing h__law_alike h__law_says h__law_told h_width h__law_width h_is_column h_are_repeats h_repeats_of h_column_of
  exact h_law
def hfn : List He.DefD := [⟨("_law_draws", none), "_law_draws", "_law_draws", defArgs s__law_draws, defBody s__law_draws, defScope s__law_draws, [], []⟩,
  ⟨("_law_take", none), "_law_take", "_law_take", defArgs s__law_take, defBody s__law_take, defScope s__law_take, [], []⟩,
  ⟨("_law_column", none), "_law_column", "_law_column", defArgs s__law_column, defBody s__law_column, defScope s__law_column, [], []⟩,
  ⟨("_law_repeats", none), "_law_repeats", "_law_repeats", defArgs s__law_repeats, defBody s__law_repeats, defScope s__law_repeats, [], []⟩,
  ⟨("_law_pairing", none), "_law_pairing", "_law_pairing", defArgs s__law_pairing, defBody s__law_pairing, defScope s__law_pairing, [], []⟩,
  ⟨("_law_alike", none), "_law_alike", "_law_alike", defArgs s__law_alike, defBody s__law_alike, defScope s__law_alike, [], []⟩,
  ⟨("_law_says", none), "_law_says", "_law_says", defArgs s__law_says, defBody s__law_says, defScope s__law_says, [], []⟩,
  ⟨("is_number", none), "is_number", "is_number", defArgs s_is_number, defBody s_is_number, defScope s_is_number, [], []⟩,
  ⟨("length", none), "length", "length", defArgs s_length, defBody s_length, defScope s_length, [], []⟩,
  ⟨("item_at", none), "item_at", "item_at", defArgs s_item_at, defBody s_item_at, defScope s_item_at, [], []⟩,
  ⟨("folded", none), "folded", "folded", defArgs s_folded, defBody s_folded, defScope s_folded, [], []⟩,
  ⟨("part_of", none), "part_of", "part_of", defArgs s_part_of, defBody s_part_of, defScope s_part_of, [], []⟩,
  ⟨("_law_word", none), "_law_word", "_law_word", defArgs s__law_word, defBody s__law_word, defScope s__law_word, [], []⟩,
  ⟨("behind", none), "behind", "behind", defArgs s_behind, defBody s_behind, defScope s_behind, [], []⟩,
  ⟨("pairing", none), "pairing", "pairing", defArgs s_pairing, defBody s_pairing, defScope s_pairing, [], []⟩,
  ⟨("_law_told", none), "_law_told", "_law_told", defArgs s__law_told, defBody s__law_told, defScope s__law_told, [], []⟩,
  ⟨("width", none), "width", "width", defArgs s_width, defBody s_width, defScope s_width, [], []⟩,
  ⟨("_law_width", none), "_law_width", "_law_width", defArgs s__law_width, defBody s__law_width, defScope s__law_width, [], []⟩,
  ⟨("is_column", none), "is_column", "is_column", defArgs s_is_column, defBody s_is_column, defScope s_is_column, [], []⟩,
  ⟨("are_repeats", none), "are_repeats", "are_repeats", defArgs s_are_repeats, defBody s_are_repeats, defScope s_are_repeats, [], []⟩,
  ⟨("repeats_of", none), "repeats_of", "repeats_of", defArgs s_repeats_of, defBody s_repeats_of, defScope s_repeats_of, [], []⟩,
  ⟨("column_of", none), "column_of", "column_of", defArgs s_column_of, defBody s_column_of, defScope s_column_of, [], []⟩,
  ⟨("law", none), "law", "law", defArgs s_law, defBody s_law, defScope s_law, [], []⟩]
def hfa : List He.Fa := [.glo "_law_draws", .glo "_law_take", .glo "_law_column", .glo "_law_repeats", .glo "_law_pairing", .glo "_law_alike", .glo "_law_says", .glo "is_number", .glo "length", .glo "item_at", .glo "folded", .glo "part_of", .glo "_law_word", .glo "behind", .glo "pairing", .glo "_law_told", .glo "width", .glo "_law_width", .glo "is_column", .glo "are_repeats", .glo "repeats_of", .glo "column_of", .glo "law", .glo "PageError", .glo "OutOfRange", .glo "Malformed", .glo "NotThere", .glo "Refused", .glo "TooMuch", .free "ValueError", .free "abs", .free "all", .free "bool", .free "enumerate", .free "int", .free "isinstance", .free "len", .free "list", .free "max", .free "min", .free "range", .free "reversed", .free "str", .free "sum", .free "tuple", .int "MOST_ITEMS" 200, .int "MOST_VALUE" 1000000000]
def htf : List He.Defn := [("is_column", none)]
abbrev hk : PySem.W.Hook := He.hookX 4 hfa hfn [] htf (exB xns xtb)
def hob (s : PySem.W.SharedT) : He.AlX := He.obsX 4 hfa hfn [] htf (exB xns xtb) (HandSHeadRun.getT s)
theorem hob_eq (s : PySem.W.SharedT) : hob s = hk.obs s.abs := He.obsX_eq (HandSHeadRun.getT_eq s)
abbrev RR : PySem.W.OpenRow := PySem.W.OpenLaw.row PySem.Challenge.rw_pageskept_k94_whole_columns_and_repeats
def nm0 : List PySem.Str := ["PageError", "OutOfRange", "Malformed", "NotThere", "Refused", "TooMuch", "is_number", "MOST_ITEMS", "MOST_VALUE", "is_column", "width", "are_repeats"]
def nm1 : List PySem.Str := ["folded", "repeats_of", "column_of", "length", "item_at", "part_of", "behind", "pairing", "_law_draws", "_law_take", "_law_says", "_law_alike"]
def nm2 : List PySem.Str := ["_law_word", "_law_column", "_law_repeats", "_law_width", "_law_told", "_law_pairing"]
abbrev nms : List PySem.Str := nm0 ++ nm1 ++ nm2
theorem hrun (w : World) : HandSHeadRun.RunEq RR (PySem.W.view RR.prog [34]) hk hob 4000 nms w := by
  intro os
  kernel_rfl
theorem facts {w : World} {K : PySem.W.Frag} {h : Heap} {mg : Str → Option Value} {fa : Addr} (X : K.In h) (G : h.Ns mainGlobals mg) (hmg : mg ("law" : Str) = some (.ref fa)) (c : He.SaysX hfa hfn [] htf (exB xns xtb) w h K) : LamX.LawAtS PySem.Challenge.rw_pageskept_k94_whole_columns_and_repeats w K (L2N.CX prog w) 13 63 "script" mg fa h := by
  obtain ⟨fd0, F0⟩ := c.t.d.def_ 0 rfl
  obtain ⟨fd1, F1⟩ := c.t.d.def_ 1 rfl
  obtain ⟨fd2, F2⟩ := c.t.d.def_ 2 rfl
  obtain ⟨fd3, F3⟩ := c.t.d.def_ 3 rfl
  obtain ⟨fd4, F4⟩ := c.t.d.def_ 4 rfl
  obtain ⟨fd5, F5⟩ := c.t.d.def_ 5 rfl
  obtain ⟨fd6, F6⟩ := c.t.d.def_ 6 rfl
  obtain ⟨fd7, F7⟩ := c.t.d.def_ 7 rfl
  obtain ⟨fd8, F8⟩ := c.t.d.def_ 8 rfl
  obtain ⟨fd9, F9⟩ := c.t.d.def_ 9 rfl
  obtain ⟨fd10, F10⟩ := c.t.d.def_ 10 rfl
  obtain ⟨fd11, F11⟩ := c.t.d.def_ 11 rfl
  obtain ⟨fd12, F12⟩ := c.t.d.def_ 12 rfl
  obtain ⟨fd13, F13⟩ := c.t.d.def_ 13 rfl
  obtain ⟨fd14, F14⟩ := c.t.d.def_ 14 rfl
  obtain ⟨fd15, F15⟩ := c.t.d.def_ 15 rfl
  obtain ⟨fd16, F16⟩ := c.t.d.def_ 16 rfl
  obtain ⟨fd17, F17⟩ := c.t.d.def_ 17 rfl
  obtain ⟨fd18, F18⟩ := c.t.d.def_ 18 rfl
  obtain ⟨fd19, F19⟩ := c.t.d.def_ 19 rfl
  obtain ⟨fd20, F20⟩ := c.t.d.def_ 20 rfl
  obtain ⟨fd21, F21⟩ := c.t.d.def_ 21 rfl
  obtain ⟨fd22, F22⟩ := c.t.d.def_ 22 rfl
  have g0 := He.glo_ok X G (c.t.d.fact 0 (f := .glo "_law_draws") rfl)
  have g1 := He.glo_ok X G (c.t.d.fact 1 (f := .glo "_law_take") rfl)
  have g2 := He.glo_ok X G (c.t.d.fact 2 (f := .glo "_law_column") rfl)
  have g3 := He.glo_ok X G (c.t.d.fact 3 (f := .glo "_law_repeats") rfl)
  have g4 := He.glo_ok X G (c.t.d.fact 4 (f := .glo "_law_pairing") rfl)
  have g5 := He.glo_ok X G (c.t.d.fact 5 (f := .glo "_law_alike") rfl)
  have g6 := He.glo_ok X G (c.t.d.fact 6 (f := .glo "_law_says") rfl)
  have g7 := He.glo_ok X G (c.t.d.fact 7 (f := .glo "is_number") rfl)
  have g8 := He.glo_ok X G (c.t.d.fact 8 (f := .glo "length") rfl)
  have g9 := He.glo_ok X G (c.t.d.fact 9 (f := .glo "item_at") rfl)
  have g10 := He.glo_ok X G (c.t.d.fact 10 (f := .glo "folded") rfl)
  have g11 := He.glo_ok X G (c.t.d.fact 11 (f := .glo "part_of") rfl)
  have g12 := He.glo_ok X G (c.t.d.fact 12 (f := .glo "_law_word") rfl)
  have g13 := He.glo_ok X G (c.t.d.fact 13 (f := .glo "behind") rfl)
  have g14 := He.glo_ok X G (c.t.d.fact 14 (f := .glo "pairing") rfl)
  have g15 := He.glo_ok X G (c.t.d.fact 15 (f := .glo "_law_told") rfl)
  have g16 := He.glo_ok X G (c.t.d.fact 16 (f := .glo "width") rfl)
  have g17 := He.glo_ok X G (c.t.d.fact 17 (f := .glo "_law_width") rfl)
  have g18 := He.glo_ok X G (c.t.d.fact 18 (f := .glo "is_column") rfl)
  have g19 := He.glo_ok X G (c.t.d.fact 19 (f := .glo "are_repeats") rfl)
  have g20 := He.glo_ok X G (c.t.d.fact 20 (f := .glo "repeats_of") rfl)
  have g21 := He.glo_ok X G (c.t.d.fact 21 (f := .glo "column_of") rfl)
  have g22 := He.glo_ok X G (c.t.d.fact 22 (f := .glo "law") rfl)
  have g23 := He.glo_ok X G (c.t.d.fact 23 (f := .glo "PageError") rfl)
  have g24 := He.glo_ok X G (c.t.d.fact 24 (f := .glo "OutOfRange") rfl)
  have g25 := He.glo_ok X G (c.t.d.fact 25 (f := .glo "Malformed") rfl)
  have g26 := He.glo_ok X G (c.t.d.fact 26 (f := .glo "NotThere") rfl)
  have g27 := He.glo_ok X G (c.t.d.fact 27 (f := .glo "Refused") rfl)
  have g28 := He.glo_ok X G (c.t.d.fact 28 (f := .glo "TooMuch") rfl)
  refine lawAtX (st := s_law) (m := m_law) X c (row_of F22 g22 (fun _ _ _ _ _ _ us hl => match us, hl with | [_], _ => rfl)) hmg (fun base TB => ?_) law_true
  have A := all_ok (w := w) (K := K) (mg := mg) (base := base) (tb := htf.map fun p => (He.cT K p).2) ⟨He.free_ok X G (c.t.d.fact 29 (f := .free "ValueError") rfl), He.free_ok X G (c.t.d.fact 30 (f := .free "abs") rfl), He.free_ok X G (c.t.d.fact 31 (f := .free "all") rfl), He.free_ok X G (c.t.d.fact 32 (f := .free "bool") rfl), He.free_ok X G (c.t.d.fact 33 (f := .free "enumerate") rfl), He.free_ok X G (c.t.d.fact 34 (f := .free "int") rfl), He.free_ok X G (c.t.d.fact 35 (f := .free "isinstance") rfl), He.free_ok X G (c.t.d.fact 36 (f := .free "len") rfl), He.free_ok X G (c.t.d.fact 37 (f := .free "list") rfl), He.free_ok X G (c.t.d.fact 38 (f := .free "max") rfl), He.free_ok X G (c.t.d.fact 39 (f := .free "min") rfl), He.free_ok X G (c.t.d.fact 40 (f := .free "range") rfl), He.free_ok X G (c.t.d.fact 41 (f := .free "reversed") rfl), He.free_ok X G (c.t.d.fact 42 (f := .free "str") rfl), He.free_ok X G (c.t.d.fact 43 (f := .free "sum") rfl), He.free_ok X G (c.t.d.fact 44 (f := .free "tuple") rfl)⟩ ⟨row_of F0 g0 (fun _ _ _ _ _ _ us hl => match us, hl with | [_], _ => rfl),
    row_of F1 g1 (fun _ _ _ _ _ _ us hl => match us, hl with | [_, _], _ => rfl),
    row_of F2 g2 (fun _ _ _ _ _ _ us hl => match us, hl with | [_, _], _ => rfl),
    row_of F3 g3 (fun _ _ _ _ _ _ us hl => match us, hl with | [_], _ => rfl),
    row_of F4 g4 (fun _ _ _ _ _ _ us hl => match us, hl with | [_, _], _ => rfl),
    row_of F5 g5 (fun _ _ _ _ _ _ us hl => match us, hl with | [_, _], _ => rfl),
    row_of F6 g6 (fun _ _ _ _ _ _ us hl => match us, hl with | [_, _], _ => rfl),
    row_of F7 g7 (fun _ _ _ _ _ _ us hl => match us, hl with | [_, _, _], _ => rfl),
    row_of F8 g8 (fun _ _ _ _ _ _ us hl => match us, hl with | [_], _ => rfl),
    row_of F9 g9 (fun _ _ _ _ _ _ us hl => match us, hl with | [_, _], _ => rfl),
    row_of F10 g10 (fun _ _ _ _ _ _ us hl => match us, hl with | [_], _ => rfl),
    row_of F11 g11 (fun _ _ _ _ _ _ us hl => match us, hl with | [_, _, _], _ => rfl),
    row_of F12 g12 (fun _ _ _ _ _ _ us hl => match us, hl with | [_], _ => rfl),
    row_of F13 g13 (fun _ _ _ _ _ _ us hl => match us, hl with | [_, _], _ => rfl),
    row_of F14 g14 (fun _ _ _ _ _ _ us hl => match us, hl with | [_, _], _ => rfl),
    row_of F15 g15 (fun _ _ _ _ _ _ us hl => match us, hl with | [_, _, _, _], _ => rfl),
    row_of F16 g16 (fun _ _ _ _ _ _ us hl => match us, hl with | [_], _ => rfl),
    row_of F17 g17 (fun _ _ _ _ _ _ us hl => match us, hl with | [_], _ => rfl),
    rowG_of F18 g18 (fun _ _ _ _ _ _ us hl => match us, hl with | [_], _ => rfl) (TB _ (.head _)) (List.mem_map.mpr ⟨_, .head _, rfl⟩),
    row_of F19 g19 (fun _ _ _ _ _ _ us hl => match us, hl with | [_], _ => rfl),
    row_of F20 g20 (fun _ _ _ _ _ _ us hl => match us, hl with | [_], _ => rfl),
    row_of F21 g21 (fun _ _ _ _ _ _ us hl => match us, hl with | [_], _ => rfl),
    row_of F22 g22 (fun _ _ _ _ _ _ us hl => match us, hl with | [_], _ => rfl)⟩ ⟨He.int_ok X G (c.t.d.fact 45 (f := .int "MOST_ITEMS" 200) rfl), He.int_ok X G (c.t.d.fact 46 (f := .int "MOST_VALUE" 1000000000) rfl)⟩ (xf_of c.more (fun x hx => by simp only [xns, List.mem_cons, List.not_mem_nil, or_false] at hx; rcases hx with rfl | rfl | rfl | rfl | rfl | rfl <;> assumption) (He.free_ok X G (c.t.d.fact 29 (f := .free "ValueError") rfl)) (by decide +kernel))
  exact A
end k94
open PySem PySem.W PySem.Calls PyProof.Rows
theorem PySem.Challenge.cw_pageskept_k94_whole_columns_and_repeats_holds : PySem.Challenge.rw_pageskept_k94_whole_columns_and_repeats.Holds := by
  w_on; o_law
  refine HandSHeadRun.head_any (r := OpenLaw.row PySem.Challenge.rw_pageskept_k94_whole_columns_and_repeats) (q := view (OpenLaw.row PySem.Challenge.rw_pageskept_k94_whole_columns_and_repeats).prog [34]) (H := k94.hk) (ob := k94.hob) (M := 4000) (loose := k94.nms) (d := HandSHeadRun.topDef (OpenLaw.row PySem.Challenge.rw_pageskept_k94_whole_columns_and_repeats).prog 34) (kwd := []) k94.hob_eq
    (by kernel_rfl) (fun s => by kernel_rfl) k94.hrun (by kernel_rfl) (by kernel_rfl) (by kernel_rfl) (by rfl) (by first | assumption | decide +kernel) (by decide +kernel) ⟨rfl, rfl, rfl, rfl, rfl, by decide +kernel⟩ ?hw ?hc
  case hw => w_witness2
  case hc =>
    refine LamX.walk_ofTsE (l := PySem.Challenge.rw_pageskept_k94_whole_columns_and_repeats) (n := 63) (k := 13) (x := "script") (CX := fun w => L2N.CX PySem.Challenge.pw_pageskept_k94_whole_columns_and_repeats w) rfl (by decide) (by kernel_rfl) ⟨rfl, by decide, by decide⟩ ?F (fun _ _ _ _ _ h => DL.cx_none h)
    intro w mg fa h Y G hmg0
    obtain ⟨K, KX, c⟩ := Y
    have hmg : mg ("law" : PySem.Str) = some (.ref fa) := by
      have e : (HandSHeadRun.topDef (OpenLaw.row PySem.Challenge.rw_pageskept_k94_whole_columns_and_repeats).prog 34).name = ("law" : PySem.Str) := by kernel_rfl
      rw [← e]
      exact hmg0
    exact ⟨K, KX, k94.facts KX G hmg c⟩
