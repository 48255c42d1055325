import PyProof.Rows.All
import HandS.ForMost
import HandS.ForExc
import HandS.IsInst
import HandS.AnyAll
import HandS.Lambda
import HandS.EndTab
import HandS.SortInts
import HandS.TupAny
import HandS.Wide
import HandS.TupLe
import HandS.Deep
import HandS.Flow
import HandS.TupMul
import HandS.Text
import HandS.ExcCtx
import HandS.HotCalls
import HandS.Rev
import HandS.Star
import HandS.Zip
import HandS.Style
import PyProof.EnumMake
import PyProof.Draws
import HandS.GenList
import HandS.HeadHook4
import HandS.HeadWalk
import HandS.NestedK
import HandS.Head0
import HandS.Head1
import HandS.Head2
import HandS.HeadEnd
import HandS.ExcIs
import PyProof.ExcBaseAll.ValueError
import HandS.Hot
import HandS.SetFor
import HandS.Dict
import HandS.SortRule
import HandS.RevTup
import HandS.Strs
import HandS.Conv
import HandS.More
import HandS.DictComp
import HandS.Comp
import KE.BitLaws
import PySem.Challenge.RW_pageskept_k58_whole_keepers
set_option Elab.async false
set_option linter.all false
set_option maxRecDepth 100000
set_option maxHeartbeats 0
namespace DL
open PySem PySem.Spec PyProof.Rows L2
/-- data trees -/
inductive D where
  | non | bl (b : Bool) | int (i : Int) | str (s : Str)
  | tup (xs : List D) | lst (xs : List D) | scr (xs : List D)
  | dK (kvs : List (Key × D)) | dT (kvs : List (List Key × D))
  | glb (x : Str) | ty (n : String)
/-- what an expression hands out -/
inductive RV where
  | pv (d : D) | ow (ds : List D) | vr (i : Nat) | lc (n : Nat)
/-- what a slot holds -/
inductive Slot where
  | no | pv (d : D) | ow (ds : List D) | lc (n : Nat) | ex | od (kvs : List (Key × D))
/-- the state: the slots, the shared lists -/
structure S where
  η : List Slot
  W : List (List D)
inductive Rs (α : Type) where
  | ok (a : α) (s : S) | err (c : Str) (s : S) | bad
def Rs.bind {α β : Type} (x : Rs α) (f : α → S → Rs β) : Rs β :=
  match x with
  | .ok a s => f a s
  | .err c s => .err c s
  | .bad => .bad
inductive Fl where
  | nx | rt (r : RV) | bk | ct
abbrev EV := S → Rs RV
abbrev EVs := S → Rs (List D)
abbrev SV := S → Rs Fl
/-- the ground of a running def -/
structure Gm where
  H0 : Hp
  L0 : List Addr
  tb : List Addr
  /-- the exception that is handled -/
  xa : Addr := 0
def Plain (o : HO) : Prop := ∀ ps, o ≠ .tbl ps
def Bd (P : Addr → Prop) (A : List (Option Addr)) (L : List Addr) (a : Addr) : Prop := some a ∈ A ∨ a ∈ L ∨ P a
def TupOk (K : PySem.W.Frag) (B : Addr → Prop) (H : Hp) (a : Addr) (vs : List V) : Prop :=
  (Rd H a (.tup vs) ∧ ¬ B a) ∨
    ∃ (o : Obj) (its : Array Value) (n : Nat), K.lookup a = some o ∧ o.cls = .type "tuple" ∧ o.data = .seq its n ∧ its.size ≤ sizeLine ∧ Vals vs its.toList
theorem TupOk.sq {K : PySem.W.Frag} {B : Addr → Prop} {H : Hp} {a : Addr} {vs : List V} (h : TupOk K B H a vs) : SqT K H a vs := by
  rcases h with h | h
  · exact .inl h.1
  · exact .inr h
/-- a list that is read alone (the script, a list of the module's own) -/
def ScrOk (K : PySem.W.Frag) (B : Addr → Prop) (H : Hp) (a : Addr) (vs : List V) : Prop :=
  (Rd H a (.lst vs) ∧ ¬ B a) ∨
    ∃ (o : Obj) (its : Array Value) (n : Nat), K.lookup a = some o ∧ o.cls = .type "list" ∧ o.dict = none ∧ o.data = .seq its n ∧ its.size ≤ sizeLine ∧ Vals vs its.toList
theorem ScrOk.sq {K : PySem.W.Frag} {B : Addr → Prop} {H : Hp} {a : Addr} {vs : List V} (h : ScrOk K B H a vs) : SqL K H a vs := by
  rcases h with h | h
  · exact .inl h.1
  · exact .inr h
mutual
def Rep (K : PySem.W.Frag) (mg : Str → Option Value) (B : Addr → Prop) (H : Hp) : D → V → Prop
  | .non, v => v = .non
  | .bl b, v => v = .bl b
  | .int i, v => v = .int i
  | .str x, v => v = .str x
  | .tup ds, v => ∃ a vs, v = .ref a ∧ TupOk K B H a vs ∧ Reps K mg B H ds vs
  | .lst ds, v => ∃ a vs, v = .ref a ∧ H a = some (.lst vs) ∧ ¬ B a ∧ Reps K mg B H ds vs
  | .scr ds, v => ∃ a vs, v = .ref a ∧ ScrOk K B H a vs ∧ Reps K mg B H ds vs
  | .dK kvs, v => ∃ a ws, v = .ref a ∧ H a = some (.dK ws) ∧ ¬ B a ∧ RepK K mg B H kvs ws
  | .dT kvs, v => ∃ a ws, v = .ref a ∧ H a = some (.dT ws) ∧ ¬ B a ∧ RepT K mg B H kvs ws
  | .glb x, v => ∃ a, mg x = some (.ref a) ∧ v = .ref a
  | .ty n, v => v = .ty n
def Reps (K : PySem.W.Frag) (mg : Str → Option Value) (B : Addr → Prop) (H : Hp) : List D → List V → Prop
  | [], vs => vs = []
  | d :: ds, vs => ∃ v r, vs = v :: r ∧ Rep K mg B H d v ∧ Reps K mg B H ds r
def RepK (K : PySem.W.Frag) (mg : Str → Option Value) (B : Addr → Prop) (H : Hp) : List (Key × D) → List (Key × V) → Prop
  | [], vs => vs = []
  | (k, d) :: ds, vs => ∃ v r, vs = (k, v) :: r ∧ Rep K mg B H d v ∧ RepK K mg B H ds r
def RepT (K : PySem.W.Frag) (mg : Str → Option Value) (B : Addr → Prop) (H : Hp) : List (List Key × D) → List (List Key × V) → Prop
  | [], vs => vs = []
  | (k, d) :: ds, vs => ∃ v r, vs = (k, v) :: r ∧ Rep K mg B H d v ∧ RepT K mg B H ds r
end
/-! ### moving data to another heap -/
mutual
theorem Rep.move {K : PySem.W.Frag} {mg : Str → Option Value} {B B' : Addr → Prop} {H H' : Hp} (k : ∀ a o, H a = some o → ¬ B a → Plain o → H' a = some o ∧ ¬ B' a) :
    ∀ {d : D} {v : V}, Rep K mg B H d v → Rep K mg B' H' d v
  | .non, _, h | .bl _, _, h | .int _, _, h | .str _, _, h | .ty _, _, h | .glb _, _, h => by simpa [Rep] using h
  | .tup ds, v, h => by
    unfold Rep at h ⊢
    obtain ⟨a, vs, e, t, r⟩ := h
    refine ⟨a, vs, e, ?_, Reps.move k r⟩
    rcases t with ⟨t | ⟨o, t⟩, nb⟩ | t
    · have z := k a _ t nb (fun _ => nofun)
      exact .inl ⟨.inl z.1, z.2⟩
    · have z := k a _ t nb (fun _ => nofun)
      exact .inl ⟨.inr ⟨o, z.1⟩, z.2⟩
    · exact .inr t
  | .lst ds, v, h => by
    unfold Rep at h ⊢
    obtain ⟨a, vs, e, t, nb, r⟩ := h
    have z := k a _ t nb (fun _ => nofun)
    exact ⟨a, vs, e, z.1, z.2, Reps.move k r⟩
  | .scr ds, v, h => by
    unfold Rep at h ⊢
    obtain ⟨a, vs, e, t, r⟩ := h
    refine ⟨a, vs, e, ?_, Reps.move k r⟩
    rcases t with ⟨t | ⟨o, t⟩, nb⟩ | t
    · have z := k a _ t nb (fun _ => nofun)
      exact .inl ⟨.inl z.1, z.2⟩
    · have z := k a _ t nb (fun _ => nofun)
      exact .inl ⟨.inr ⟨o, z.1⟩, z.2⟩
    · exact .inr t
  | .dK ds, v, h => by
    unfold Rep at h ⊢
    obtain ⟨a, vs, e, t, nb, r⟩ := h
    have z := k a _ t nb (fun _ => nofun)
    exact ⟨a, vs, e, z.1, z.2, RepK.move k r⟩
  | .dT ds, v, h => by
    unfold Rep at h ⊢
    obtain ⟨a, vs, e, t, nb, r⟩ := h
    have z := k a _ t nb (fun _ => nofun)
    exact ⟨a, vs, e, z.1, z.2, RepT.move k r⟩
theorem Reps.move {K : PySem.W.Frag} {mg : Str → Option Value} {B B' : Addr → Prop} {H H' : Hp} (k : ∀ a o, H a = some o → ¬ B a → Plain o → H' a = some o ∧ ¬ B' a) :
    ∀ {ds : List D} {vs : List V}, Reps K mg B H ds vs → Reps K mg B' H' ds vs
  | [], _, h => by simpa [Reps] using h
  | d :: ds, vs, h => by
    unfold Reps at h ⊢
    obtain ⟨v, r, e, h1, h2⟩ := h
    exact ⟨v, r, e, Rep.move k h1, Reps.move k h2⟩
theorem RepK.move {K : PySem.W.Frag} {mg : Str → Option Value} {B B' : Addr → Prop} {H H' : Hp} (k : ∀ a o, H a = some o → ¬ B a → Plain o → H' a = some o ∧ ¬ B' a) :
    ∀ {ds : List (Key × D)} {vs : List (Key × V)}, RepK K mg B H ds vs → RepK K mg B' H' ds vs
  | [], _, h => by simpa [RepK] using h
  | (x, d) :: ds, vs, h => by
    unfold RepK at h ⊢
    obtain ⟨v, r, e, h1, h2⟩ := h
    exact ⟨v, r, e, Rep.move k h1, RepK.move k h2⟩
theorem RepT.move {K : PySem.W.Frag} {mg : Str → Option Value} {B B' : Addr → Prop} {H H' : Hp} (k : ∀ a o, H a = some o → ¬ B a → Plain o → H' a = some o ∧ ¬ B' a) :
    ∀ {ds : List (List Key × D)} {vs : List (List Key × V)}, RepT K mg B H ds vs → RepT K mg B' H' ds vs
  | [], _, h => by simpa [RepT] using h
  | (x, d) :: ds, vs, h => by
    unfold RepT at h ⊢
    obtain ⟨v, r, e, h1, h2⟩ := h
    exact ⟨v, r, e, Rep.move k h1, RepT.move k h2⟩
end
/-- one heap behind another: what is neither owned nor shared is kept -/
structure Step (A : List (Option Addr)) (L : List Addr) (H : Hp) (A' : List (Option Addr)) (L' : List Addr) (H' : Hp) : Prop where
  frm : ∀ a o, H a = some o → some a ∉ A → a ∉ L → Plain o → H' a = some o
  new : ∀ a, some a ∈ A' ∨ a ∈ L' → some a ∈ A ∨ a ∈ L ∨ H a = none
  pre : ∃ r, L' = L ++ r
  there : ∀ a o, H a = some o → ∃ o', H' a = some o'
  tab : ∀ a, GxR.TabG H a → GxR.TabG H' a
theorem Step.refl (A : List (Option Addr)) (L : List Addr) (H : Hp) : Step A L H A L H :=
  ⟨fun _ _ h _ _ _ => h, fun a h => h.elim .inl fun h => .inr (.inl h), ⟨[], by simp⟩, fun _ o h => ⟨o, h⟩, fun _ h => h⟩
section
variable {A A' A'' : List (Option Addr)} {L L' L'' : List Addr} {H H' H'' : Hp}
theorem Step.out (x : Step A L H A' L' H') {a : Addr} {o : HO} (h : H a = some o) (hA : some a ∉ A) (hL : a ∉ L) : some a ∉ A' ∧ a ∉ L' := by
  refine ⟨fun z => ?_, fun z => ?_⟩
  · rcases x.new a (.inl z) with q | q | q
    · exact hA q
    · exact hL q
    · rw [h] at q; cases q
  · rcases x.new a (.inr z) with q | q | q
    · exact hA q
    · exact hL q
    · rw [h] at q; cases q
theorem Step.trans (x : Step A L H A' L' H') (y : Step A' L' H' A'' L'' H'') : Step A L H A'' L'' H'' where
  frm := fun a o h hA hL p => by
    have z := x.out h hA hL
    exact y.frm a o (x.frm a o h hA hL p) z.1 z.2 p
  new := fun a h => by
    rcases y.new a h with q | q | q
    · exact x.new a (.inl q)
    · exact x.new a (.inr q)
    · refine .inr (.inr ?_)
      cases e : H a with
      | none => rfl
      | some o =>
        obtain ⟨o', e'⟩ := x.there a o e
        rw [e'] at q; cases q
  pre := by
    obtain ⟨r, e⟩ := x.pre
    obtain ⟨r', e'⟩ := y.pre
    exact ⟨r ++ r', by rw [e', e, List.append_assoc]⟩
  there := fun a o h => let ⟨o', h'⟩ := x.there a o h; y.there a o' h'
  tab := fun a h => y.tab a (x.tab a h)
theorem Step.mv (x : Step A L H A' L' H') {P : Addr → Prop} : ∀ a o, H a = some o → ¬ Bd P A L a → Plain o → H' a = some o ∧ ¬ Bd P A' L' a := fun a o h nb p => by
  have hA : some a ∉ A := fun z => nb (.inl z)
  have hL : a ∉ L := fun z => nb (.inr (.inl z))
  have z := x.out h hA hL
  exact ⟨x.frm a o h hA hL p, fun q => q.elim z.1 fun q => q.elim z.2 fun q => nb (.inr (.inr q))⟩
end
/-- what an owner may change: a list, a dict -/
def Mut (o : HO) : Prop := (∃ xs, o = .lst xs) ∨ ∃ kvs, o = .dK kvs
theorem Mut.plain {o : HO} (m : Mut o) : Plain o := fun ps e => by rcases m with ⟨_, m⟩ | ⟨_, m⟩ <;> (rw [m] at e; cases e)
section
variable (K : PySem.W.Frag) (mg : Str → Option Value) (G : Gm)
def SlotOk (B : Addr → Prop) (H : Hp) (L : List Addr) (ov : Option V) (oa : Option Addr) : Slot → Prop
  | .no => oa = none
  | .ex => oa = none
  | .pv d => oa = none ∧ ∃ v, ov = some v ∧ Rep K mg B H d v
  | .ow ds => ∃ a vs, oa = some a ∧ ov = some (.ref a) ∧ H a = some (.lst vs) ∧ Reps K mg B H ds vs
  | .lc n => oa = none ∧ ∃ a, L[n]? = some a ∧ ov = some (.ref a)
  | .od kvs => ∃ a xs, oa = some a ∧ ov = some (.ref a) ∧ H a = some (.dK xs) ∧ RepK K mg B H kvs xs
/-- the state stands in the slots and the heap; P: what is in other hands -/
structure SR (P : Addr → Prop) (A : List (Option Addr)) (L : List Addr) (s : S) (σ : L2.St) (H : Hp) : Prop where
  lenσ : σ.length = s.η.length
  lenA : A.length = s.η.length
  slot : ∀ (i : Nat) (x : Slot), s.η[i]? = some x → ∃ ov oa, σ[i]? = some ov ∧ A[i]? = some oa ∧ SlotOk K mg (Bd P A L) H L ov oa x
  uniq : ∀ (i j : Nat) (a : Addr), A[i]? = some (some a) → A[j]? = some (some a) → i = j
  apart : ∀ a, some a ∈ A → a ∉ L
  nd : L.Nodup
  lenL : L.length = s.W.length
  loc : ∀ (n : Nat) (ds : List D), s.W[n]? = some ds → ∃ a vs, L[n]? = some a ∧ H a = some (.lst vs) ∧ Reps K mg (Bd P A L) H ds vs
  own : ∀ a, some a ∈ A → ∃ o, H a = some o ∧ Mut o
  tab : ∀ a ∈ G.tb, GxR.TabG H a
  ent : Step [] G.L0 G.H0 [] L H
  ownNew : ∀ a, some a ∈ A → G.H0 a = none
  pOk : ∀ a, P a → (∃ o, H a = some o) ∧ some a ∉ A ∧ a ∉ L
  exn : ∀ i : Nat, s.η[i]? = some .ex → σ[i]? = some (some (.ref G.xa))
def RVOk (P : Addr → Prop) (A : List (Option Addr)) (L : List Addr) (σ : L2.St) (H : Hp) : RV → V → Prop
  | .pv d, v => Rep K mg (Bd P A L) H d v
  | .ow ds, v => ∃ a vs, v = .ref a ∧ H a = some (.lst vs) ∧ Reps K mg (fun b => b = a ∨ Bd P A L b) H ds vs ∧ some a ∉ A ∧ a ∉ L ∧ G.H0 a = none
  | .vr i, v => σ[i]? = some (some v)
  | .lc n, v => ∃ a, L[n]? = some a ∧ v = .ref a
end
/-- a new list that nobody else has -/
def Own (r : RV) (v : V) (a : Addr) : Prop := (∃ ds, r = .ow ds) ∧ v = .ref a
def Wi (P : Addr → Prop) (r : RV) (v : V) : Addr → Prop := fun a => P a ∨ Own r v a
def OwNew (A : List (Option Addr)) (H : Hp) (r : RV) (v : V) : Prop := ∀ a, Own r v a → some a ∈ A ∨ H a = none
/-- what follows a run -/
def Run {α : Type} (K : PySem.W.Frag) (mg : Str → Option Value) (G : Gm) (Wx : WX) (P : Addr → Prop) (A : List (Option Addr)) (L : List Addr) (H : Hp) (σ : L2.St) (x : Rs α)
    (Q : α → S → Prop) : Prop :=
  match x with
  | .ok a s' => Q a s'
  | .err c s' => ∀ A' L' H' C, SR K mg G P A' L' s' σ H' → Step A L H A' L' H' → mg c = some (.ref C) → Wx (.ref C) none σ H'
  | .bad => False
section
variable {α β : Type} {K : PySem.W.Frag} {mg : Str → Option Value} {G : Gm} {Wx : WX} {P P' : Addr → Prop} {A A' : List (Option Addr)} {L L' : List Addr} {H H' : Hp} {σ : L2.St} {s : S}
theorem Bd.mono (h : ∀ a, P a → P' a) {a : Addr} (x : Bd P A L a) : Bd P' A L a := x.elim .inl fun x => x.elim (fun x => .inr (.inl x)) fun x => .inr (.inr (h a x))
theorem Rep.less {B B' : Addr → Prop} (h : ∀ a, B' a → B a) {d : D} {v : V} (x : Rep K mg B H d v) : Rep K mg B' H d v := x.move fun a o e n _ => ⟨e, fun z => n (h a z)⟩
theorem Reps.less {B B' : Addr → Prop} (h : ∀ a, B' a → B a) {d : List D} {v : List V} (x : Reps K mg B H d v) : Reps K mg B' H d v := x.move fun a o e n _ => ⟨e, fun z => n (h a z)⟩
theorem SlotOk.move {B B' : Addr → Prop} {ov : Option V} {oa : Option Addr} {x : Slot} (k : ∀ a o, H a = some o → ¬ B a → Plain o → H' a = some o ∧ ¬ B' a)
    (ko : ∀ a o, oa = some a → Mut o → H a = some o → H' a = some o) (kl : ∀ (n : Nat) (a : Addr), L[n]? = some a → L'[n]? = some a) (h : SlotOk K mg B H L ov oa x) : SlotOk K mg B' H' L' ov oa x := by
  cases x with
  | no => exact h
  | ex => exact h
  | pv d => exact ⟨h.1, let ⟨v, e, r⟩ := h.2; ⟨v, e, r.move k⟩⟩
  | ow ds => obtain ⟨a, vs, e1, e2, e3, r⟩ := h; exact ⟨a, vs, e1, e2, ko a _ e1 (.inl ⟨vs, rfl⟩) e3, r.move k⟩
  | od kvs => obtain ⟨a, xs, e1, e2, e3, r⟩ := h; exact ⟨a, xs, e1, e2, ko a _ e1 (.inr ⟨xs, rfl⟩) e3, r.move k⟩
  | lc n => exact ⟨h.1, let ⟨a, e1, e2⟩ := h.2; ⟨a, kl _ _ e1, e2⟩⟩
theorem SR.lessP (x : SR K mg G P' A L s σ H) (h : ∀ a, P a → P' a) : SR K mg G P A L s σ H :=
  { x with
    slot := fun i y e => let ⟨ov, oa, e1, e2, q⟩ := x.slot i y e; ⟨ov, oa, e1, e2, q.move (fun a o e n _ => ⟨e, fun z => n (z.mono h)⟩) (fun _ _ _ _ e => e) fun _ _ e => e⟩
    loc := fun n ds e => let ⟨a, vs, e1, e2, r⟩ := x.loc n ds e; ⟨a, vs, e1, e2, r.less fun _ z => z.mono h⟩
    pOk := fun a z => x.pOk a (h a z) }
theorem Run.bind {x : Rs α} {k : α → S → Rs β} {Q : β → S → Prop} (h : Run K mg G Wx P A L H σ (x.bind k) Q) :
    Run K mg G Wx P A L H σ x fun a s1 => Run K mg G Wx P A L H σ (k a s1) Q := by
  cases x <;> exact h
theorem Run.imp {x : Rs α} {Q Q' : α → S → Prop} (h : Run K mg G Wx P A L H σ x Q) (q : ∀ a s', x = .ok a s' → Q a s' → Q' a s') : Run K mg G Wx P A L H σ x Q' := by
  cases x with
  | bad => exact h
  | err c s1 => exact h
  | ok a s1 => exact q a s1 rfl h
theorem Run.on {x : Rs α} {Q : α → S → Prop} (h : Run K mg G Wx P A L H σ x Q) (st : Step A L H A' L' H') (hp : ∀ a, P a → P' a) : Run K mg G Wx P' A' L' H' σ x Q := by
  cases x with
  | bad => exact h
  | ok a s1 => exact h
  | err c s1 => exact fun A2 L2 H2 C hs2 st2 hc => h A2 L2 H2 C (hs2.lessP hp) (st.trans st2) hc
theorem Rep.step {d : D} {v : V} (h : Rep K mg (Bd P A L) H d v) (x : Step A L H A' L' H') : Rep K mg (Bd P A' L') H' d v := h.move x.mv
theorem Reps.step {d : List D} {v : List V} (h : Reps K mg (Bd P A L) H d v) (x : Step A L H A' L' H') : Reps K mg (Bd P A' L') H' d v := h.move x.mv
theorem Step.loc (x : Step A L H A' L' H') {n : Nat} {a : Addr} (h : L[n]? = some a) : L'[n]? = some a := by
  obtain ⟨r, e⟩ := x.pre
  rw [e, List.getElem?_append_left (List.getElem?_eq_some_iff.mp h).1]; exact h
theorem RVOk.step {r : RV} {v : V} (h : RVOk K mg G P A L σ H r v) (x : Step A L H A' L' H') : RVOk K mg G P A' L' σ H' r v := by
  cases r with
  | pv d => exact Rep.step h x
  | vr i => exact h
  | lc n => obtain ⟨a, h1, h2⟩ := h; exact ⟨a, x.loc h1, h2⟩
  | ow ds =>
    obtain ⟨a, vs, e, h1, h2, h3, h4, h5⟩ := h
    have z := x.out h1 h3 h4
    refine ⟨a, vs, e, x.frm a _ h1 h3 h4 (fun _ => nofun), h2.move (fun b o q n p => ?_), z.1, z.2, h5⟩
    have y := x.mv (P := P) b o q (fun w => n (.inr w)) p
    exact ⟨y.1, fun w => w.elim (fun w => n (.inl w)) y.2⟩
end
/-- a value that has come out -/
structure At (K : PySem.W.Frag) (mg : Str → Option Value) (G : Gm) (P : Addr → Prop) (A0 : List (Option Addr)) (L0 : List Addr) (H0 : Hp) (σ : L2.St) (A : List (Option Addr)) (L : List Addr) (s : S) (H : Hp) (r : RV) (v : V) : Prop where
  sr : SR K mg G (Wi P r v) A L s σ H
  ok : RVOk K mg G P A L σ H r v
  new : OwNew A0 H0 r v
  st : Step A0 L0 H0 A L H
  p0 : ∀ a, P a → (∃ o, H0 a = some o) ∧ some a ∉ A0
/-- behind an expression -/
def PostE (K : PySem.W.Frag) (mg : Str → Option Value) (G : Gm) (P : Addr → Prop) (A : List (Option Addr)) (L : List Addr) (H : Hp) (σ : L2.St) (Q : VK) (r : RV) (s' : S) : Prop :=
  ∀ A' L' v H', At K mg G P A L H σ A' L' s' H' r v → Q v H'
def tE (K : PySem.W.Frag) (mg : Str → Option Value) (G : Gm) (Wx : WX) (f : EV) : TE := fun σ H Q => ∃ P A L s, SR K mg G P A L s σ H ∧
  Run K mg G Wx P A L H σ (f s) (PostE K mg G P A L H σ Q)
/-- an expression's judgement -/
structure ED (X : Cx) (G : Gm) (Wx : WX) (e : Expr) (f : EV) : Prop where
  pe : PE X e (tE X.K X.mg G Wx f)
theorem PE.imp {X : Cx} {e : Expr} {t t' : TE} (h : PE X e t) (q : ∀ σ H Q, t' σ H Q → t σ H Q) : PE X e t' := ⟨fun pins s σ H Q I hw => h.run pins s σ H Q I (q σ H Q hw)⟩
section
variable {K : PySem.W.Frag} {mg : Str → Option Value} {G : Gm} {P P1 : Addr → Prop} {A A0 : List (Option Addr)} {L L0 : List Addr} {H H0 : Hp} {σ σ' : L2.St} {s s' : S} {r r' : RV} {v : V} {d : D} {i : Nat} {x : Slot} {ov : Option V} {oa : Option Addr}
theorem mem_set {A : List (Option Addr)} {i : Nat} {oa : Option Addr} {a : Addr} (h : some a ∈ A.set i oa) : some a ∈ A ∨ oa = some a := by
  rcases List.mem_or_eq_of_mem_set h with h | h
  · exact .inl h
  · exact .inr h.symm
/-- a slot is changed -/
theorem SR.set (hs : SR K mg G P1 A L s σ H) (hi : i < s.η.length) (hP : ∀ a, P a → P1 a) (ho : ∀ a, oa = some a → P1 a ∧ ¬ P a ∧ (∃ o, H a = some o ∧ Mut o) ∧ G.H0 a = none)
    (hσ : σ'.length = σ.length ∧ σ'[i]? = some ov ∧ ∀ j : Nat, j ≠ i → σ'[j]? = σ[j]?) (hx : SlotOk K mg (Bd P (A.set i oa) L) H L ov oa x) (hex : x = .ex → ov = some (.ref G.xa) := by first | nofun | (intro _; rfl)) :
    SR K mg G P (A.set i oa) L { s with η := s.η.set i x } σ' H := by
  have hB : ∀ a, Bd P (A.set i oa) L a → Bd P1 A L a := fun a z => by
    rcases z with z | z | z
    · rcases mem_set z with z | z
      · exact .inl z
      · exact .inr (.inr (ho a z).1)
    · exact .inr (.inl z)
    · exact .inr (.inr (hP a z))
  have mem : ∀ a, some a ∈ A.set i oa → some a ∈ A ∨ (P1 a ∧ ¬ P a ∧ (∃ o, H a = some o ∧ Mut o) ∧ G.H0 a = none) := fun a z => (mem_set z).imp id (ho a)
  have lA := hs.lenA
  have iA : i < A.length := by rw [lA]; exact hi
  refine ⟨?_, ?_, fun j y e => ?_, fun j k a e1 e2 => ?_, fun a z => ?_, hs.nd, hs.lenL, fun n ds e => ?_, fun a z => ?_, hs.tab, hs.ent, fun a z => ?_, fun a z => ?_, fun j e => ?_⟩
  · rw [hσ.1, hs.lenσ]; simp
  · simp [lA]
  · by_cases hj : j = i
    · subst hj
      simp only [List.getElem?_set_self hi, Option.some.injEq] at e
      subst e
      exact ⟨ov, oa, hσ.2.1, by simp [List.getElem?_set_self iA], hx⟩
    · simp only [List.getElem?_set_ne (Ne.symm hj)] at e
      obtain ⟨ov', oa', e1, e2, q⟩ := hs.slot j y e
      refine ⟨ov', oa', by rw [hσ.2.2 j hj]; exact e1, by rw [List.getElem?_set_ne (Ne.symm hj)]; exact e2, q.move (fun a o h n _ => ⟨h, fun z => n (hB a z)⟩) (fun _ _ _ _ h => h) fun _ _ h => h⟩
  · by_cases hj : j = i
    · subst hj
      rw [List.getElem?_set_self iA] at e1
      have e1 : oa = some a := Option.some.inj e1
      by_cases hk : k = j
      · exact hk.symm
      · rw [List.getElem?_set_ne (Ne.symm hk)] at e2
        exact absurd (List.mem_of_getElem? e2) (hs.pOk a (ho a e1).1).2.1
    · rw [List.getElem?_set_ne (Ne.symm hj)] at e1
      by_cases hk : k = i
      · subst hk
        rw [List.getElem?_set_self iA] at e2
        have e2 : oa = some a := Option.some.inj e2
        exact absurd (List.mem_of_getElem? e1) (hs.pOk a (ho a e2).1).2.1
      · rw [List.getElem?_set_ne (Ne.symm hk)] at e2
        exact hs.uniq j k a e1 e2
  · rcases mem a z with z | z
    · exact hs.apart a z
    · exact (hs.pOk a z.1).2.2
  · obtain ⟨a, vs, e1, e2, r⟩ := hs.loc n ds e
    exact ⟨a, vs, e1, e2, r.less hB⟩
  · rcases mem a z with z | z
    · exact hs.own a z
    · exact z.2.2.1
  · rcases mem a z with z | z
    · exact hs.ownNew a z
    · exact z.2.2.2
  · have q := hs.pOk a (hP a z)
    exact ⟨q.1, fun w => (mem a w).elim q.2.1 fun w => w.2.1 z, q.2.2⟩
  · by_cases hj : j = i
    · subst hj
      simp only [List.getElem?_set_self hi, Option.some.injEq] at e
      rw [hσ.2.1, hex e]
    · simp only [List.getElem?_set_ne (Ne.symm hj)] at e
      rw [hσ.2.2 j hj]; exact hs.exn j e
theorem SR.slot' (hs : SR K mg G P A L s σ H) {y : Slot} (e : s.η[i]? = some y) : i < s.η.length ∧ ∃ ov oa, σ[i]? = some ov ∧ A[i]? = some oa ∧ SlotOk K mg (Bd P A L) H L ov oa y :=
  ⟨(List.getElem?_eq_some_iff.mp e).1, hs.slot i y e⟩
theorem same_slot {ov : Option V} (h : σ[i]? = some ov) : σ.length = σ.length ∧ σ[i]? = some ov ∧ ∀ j : Nat, j ≠ i → σ[j]? = σ[j]? := ⟨rfl, h, fun _ _ => rfl⟩
/-- one owner less -/
theorem Step.drop : Step A L H (A.set i none) L H :=
  ⟨fun _ _ h _ _ _ => h, fun a h => h.elim (fun z => (mem_set z).elim .inl nofun) fun h => .inr (.inl h), ⟨[], by simp⟩, fun _ o h => ⟨o, h⟩, fun _ h => h⟩
/-- the slot's list is nobody's to change from now on -/
theorem SR.freeze (hs : SR K mg G P A L s σ H) {ds : List D} (e : s.η[i]? = some (.ow ds)) : ∃ v, σ[i]? = some (some v) ∧ SR K mg G P (A.set i none) L { s with η := s.η.set i (.pv (.lst ds)) } σ H ∧
    Rep K mg (Bd P (A.set i none) L) H (.lst ds) v := by
  obtain ⟨hi, ov, oa, e1, e2, a, vs, rfl, rfl, e3, r⟩ := hs.slot' e
  have na : ¬ Bd P (A.set i none) L a := fun z => by
    rcases z with z | z | z
    · obtain ⟨j, hj, ej⟩ := List.getElem_of_mem z
      have ej' : (A.set i none)[j]? = some (some a) := by rw [List.getElem?_eq_getElem hj, ej]
      by_cases h : j = i
      · subst h
        rw [List.getElem?_set_self (by rw [hs.lenA]; exact hi)] at ej'
        cases ej'
      · rw [List.getElem?_set_ne (Ne.symm h)] at ej'
        exact h (hs.uniq j i a ej' e2)
    · exact hs.apart a (List.mem_of_getElem? e2) z
    · exact (hs.pOk a z).2.1 (List.mem_of_getElem? e2)
  have rr : Rep K mg (Bd P (A.set i none) L) H (.lst ds) (.ref a) := by
    unfold Rep
    exact ⟨a, vs, rfl, e3, na, Reps.step r Step.drop⟩
  exact ⟨_, e1, hs.set hi (fun _ z => z) (fun _ z => nomatch z) (same_slot e1) ⟨rfl, _, rfl, rr⟩, rr⟩
end
/-- a name is resolved; what it owns is frozen -/
def keepI (i : Nat) (s : S) : Option (RV × S) := match s.η[i]? with
  | some (.pv d) => some (.pv d, s)
  | some (.ow ds) => some (.pv (.lst ds), { s with η := s.η.set i (.pv (.lst ds)) })
  | some (.lc n) => some (.lc n, s)
  | _ => none
def keepR : RV → S → Option (RV × S)
  | .vr i, s => keepI i s
  | .pv d, s => some (.pv d, s)
  | .ow ds, s => some (.ow ds, s)
  | .lc n, s => some (.lc n, s)
def fz (r : RV) (s : S) : Option (D × S) := match keepR r s with
  | some (.pv d, s') => some (d, s')
  | some (.ow ds, s') => some (.lst ds, s')
  | _ => none
/-- looked at, without being handed on -/
def rd : RV → S → Option D
  | .pv d, _ => some d
  | .ow ds, _ => some (.lst ds)
  | .vr i, s => match s.η[i]? with
    | some (.pv d) => some d
    | some (.ow ds) => some (.lst ds)
    | some (.lc n) => (s.W[n]?).map .lst
    | _ => none
  | .lc n, s => (s.W[n]?).map .lst
section
variable {K : PySem.W.Frag} {mg : Str → Option Value} {G : Gm} {P : Addr → Prop} {A A0 : List (Option Addr)} {L L0 : List Addr} {H H0 : Hp} {σ : L2.St} {s s' : S} {r r' : RV} {v : V} {d : D}
theorem Wi.pv {P : Addr → Prop} {r : RV} {v : V} (h : ∀ ds, r ≠ .ow ds) : ∀ a, Wi P r v a → P a := fun a z => z.elim id fun z => (let ⟨ds, e⟩ := z.1; absurd e (h ds))
theorem OwNew.of (h : ∀ ds, r ≠ .ow ds) : OwNew A0 H0 r v := fun a z => (let ⟨ds, e⟩ := z.1; absurd e (h ds))
theorem At.keep (h : At K mg G P A0 L0 H0 σ A L s H r v) (e : keepR r s = some (r', s')) : (∀ i, r' ≠ .vr i) ∧ ∃ A', At K mg G P A0 L0 H0 σ A' L s' H r' v := by
  cases r with
  | pv d => cases e; exact ⟨nofun, A, h⟩
  | ow ds => cases e; exact ⟨nofun, A, h⟩
  | lc n => cases e; exact ⟨nofun, A, h⟩
  | vr i =>
    have hs := h.sr.lessP (P := P) fun a z => .inl z
    have e9 : σ[i]? = some (some v) := h.ok
    have e : keepI i s = some (r', s') := e
    unfold keepI at e
    cases q : s.η[i]? with
    | none => rw [q] at e; cases e
    | some y =>
      rw [q] at e
      cases y with
      | no => cases e
      | ex => cases e
      | od _ => cases e
      | pv d =>
        cases e
        obtain ⟨hi, ov, oa, e1, e2, rfl, u, rfl, r⟩ := hs.slot' q
        rw [e9] at e1; cases e1
        exact ⟨nofun, A, hs.lessP (Wi.pv nofun), r, OwNew.of nofun, h.st, h.p0⟩
      | lc n =>
        cases e
        obtain ⟨hi, ov, oa, e1, e2, rfl, a, e3, rfl⟩ := hs.slot' q
        rw [e9] at e1; cases e1
        exact ⟨nofun, A, hs.lessP (Wi.pv nofun), ⟨a, e3, rfl⟩, OwNew.of nofun, h.st, h.p0⟩
      | ow ds =>
        cases e
        obtain ⟨u, e1, hs2, rr⟩ := hs.freeze q
        rw [e9] at e1; cases e1
        exact ⟨nofun, _, hs2.lessP (Wi.pv nofun), rr, OwNew.of nofun, h.st.trans Step.drop, h.p0⟩
theorem At.frz (h : At K mg G P A0 L0 H0 σ A L s H r v) (e : fz r s = some (d, s')) : ∃ A', SR K mg G P A' L s' σ H ∧ Rep K mg (Bd P A' L) H d v ∧ Step A0 L0 H0 A' L H := by
  unfold fz at e
  split at e
  · rename_i d' s1 q
    cases e
    obtain ⟨_, A', a⟩ := h.keep q
    exact ⟨A', a.sr.lessP fun _ z => .inl z, a.ok, a.st⟩
  · rename_i ds s1 q
    cases e
    obtain ⟨_, A', a⟩ := h.keep q
    obtain ⟨b, vs, e1, e2, e3, e4, e5, e6⟩ := a.ok
    refine ⟨A', a.sr.lessP fun _ z => .inl z, ?_, a.st⟩
    unfold Rep
    refine ⟨b, vs, e1, e2, fun z => ?_, e3.less fun _ z => .inr z⟩
    rcases z with z | z | z
    · exact e4 z
    · exact e5 z
    · have p := a.p0 b z
      rcases a.new b ⟨⟨ds, rfl⟩, e1⟩ with q | q
      · exact p.2 q
      · obtain ⟨o, ho⟩ := p.1
        rw [ho] at q; cases q
  · cases e
end
end DL
namespace DL
open PySem PySem.Spec PyProof.Rows L2
section
variable {K : PySem.W.Frag} {mg : Str → Option Value} {G : Gm} {Wx : WX} {P P' : Addr → Prop} {A A0 A1 : List (Option Addr)} {L L0 L1 : List Addr} {H H0 H1 H' : Hp} {σ : L2.St} {s s' s1 : S} {r r' : RV} {v x y : V} {d : D} {B : Addr → Prop} {α : Type}
/-! ### looking at a value -/
def PRep (K : PySem.W.Frag) (mg : Str → Option Value) (B : Addr → Prop) (H : Hp) (d : D) (v : V) : Prop :=
  Rep K mg B H d v ∨ ∃ ds a vs, d = .lst ds ∧ v = .ref a ∧ H a = some (.lst vs) ∧ Reps K mg B H ds vs
theorem PRep.int {i : Int} (h : PRep K mg B H (.int i) v) : v = .int i := by
  rcases h with h | ⟨_, _, _, e, _⟩
  · unfold Rep at h; exact h
  · cases e
theorem PRep.str {i : Str} (h : PRep K mg B H (.str i) v) : v = .str i := by
  rcases h with h | ⟨_, _, _, e, _⟩
  · unfold Rep at h; exact h
  · cases e
theorem PRep.bl {i : Bool} (h : PRep K mg B H (.bl i) v) : v = .bl i := by
  rcases h with h | ⟨_, _, _, e, _⟩
  · unfold Rep at h; exact h
  · cases e
theorem PRep.non (h : PRep K mg B H .non v) : v = .non := by
  rcases h with h | ⟨_, _, _, e, _⟩
  · unfold Rep at h; exact h
  · cases e
theorem PRep.ty {n : String} (h : PRep K mg B H (.ty n) v) : v = .ty n := by
  rcases h with h | ⟨_, _, _, e, _⟩
  · unfold Rep at h; exact h
  · cases e
theorem PRep.glb {n : Str} (h : PRep K mg B H (.glb n) v) : ∃ a, mg n = some (.ref a) ∧ v = .ref a := by
  rcases h with h | ⟨_, _, _, e, _⟩
  · unfold Rep at h; exact h
  · cases e
theorem PRep.tup {ds : List D} (h : PRep K mg B H (.tup ds) v) : ∃ a vs, v = .ref a ∧ TupOk K B H a vs ∧ Reps K mg B H ds vs := by
  rcases h with h | ⟨_, _, _, e, _⟩
  · unfold Rep at h; exact h
  · cases e
theorem PRep.lst {ds : List D} (h : PRep K mg B H (.lst ds) v) : ∃ a vs, v = .ref a ∧ H a = some (.lst vs) ∧ Reps K mg B H ds vs := by
  rcases h with h | ⟨ds', a, vs, e, e1, e2, e3⟩
  · unfold Rep at h
    obtain ⟨a, vs, e1, e2, _, e3⟩ := h
    exact ⟨a, vs, e1, e2, e3⟩
  · cases e
    exact ⟨a, vs, e1, e2, e3⟩
theorem PRep.scr {ds : List D} (h : PRep K mg B H (.scr ds) v) : ∃ a vs, v = .ref a ∧ ScrOk K B H a vs ∧ Reps K mg B H ds vs := by
  rcases h with h | ⟨_, _, _, e, _⟩
  · unfold Rep at h; exact h
  · cases e
theorem PRep.dK {ds : List (Key × D)} (h : PRep K mg B H (.dK ds) v) : ∃ a vs, v = .ref a ∧ H a = some (.dK vs) ∧ ¬ B a ∧ RepK K mg B H ds vs := by
  rcases h with h | ⟨_, _, _, e, _⟩
  · unfold Rep at h; exact h
  · cases e
theorem PRep.dT {ds : List (List Key × D)} (h : PRep K mg B H (.dT ds) v) : ∃ a vs, v = .ref a ∧ H a = some (.dT vs) ∧ ¬ B a ∧ RepT K mg B H ds vs := by
  rcases h with h | ⟨_, _, _, e, _⟩
  · unfold Rep at h; exact h
  · cases e
theorem Reps.length : ∀ {ds : List D} {vs : List V}, Reps K mg B H ds vs → ds.length = vs.length
  | [], _, h => by unfold Reps at h; rw [h]; rfl
  | d :: ds, _, h => by unfold Reps at h; obtain ⟨v, r, rfl, _, h2⟩ := h; simp [Reps.length h2]
theorem Reps.get : ∀ {ds : List D} {vs : List V} {i : Nat} {d : D}, Reps K mg B H ds vs → ds[i]? = some d → ∃ v, vs[i]? = some v ∧ Rep K mg B H d v
  | [], _, _, _, _, e => by simp at e
  | d :: ds, _, 0, _, h, e => by unfold Reps at h; obtain ⟨v, r, rfl, h1, h2⟩ := h; simp at e; subst e; exact ⟨v, rfl, h1⟩
  | d :: ds, _, i + 1, _, h, e => by
    unfold Reps at h; obtain ⟨v, r, rfl, h1, h2⟩ := h
    obtain ⟨w, e1, e2⟩ := Reps.get (i := i) h2 (by simpa using e)
    exact ⟨w, by simpa using e1, e2⟩
theorem Reps.append : ∀ {ds es : List D} {vs ws : List V}, Reps K mg B H ds vs → Reps K mg B H es ws → Reps K mg B H (ds ++ es) (vs ++ ws)
  | [], _, _, _, h, h' => by unfold Reps at h; subst h; simpa using h'
  | d :: ds, _, _, _, h, h' => by
    unfold Reps at h; obtain ⟨v, r, rfl, h1, h2⟩ := h
    simp only [List.cons_append]
    unfold Reps
    exact ⟨v, r ++ _, rfl, h1, Reps.append h2 h'⟩
theorem Reps.nil : Reps K mg B H [] [] := by unfold Reps; rfl
theorem Reps.cons {ds : List D} {vs : List V} (h1 : Rep K mg B H d v) (h2 : Reps K mg B H ds vs) : Reps K mg B H (d :: ds) (v :: vs) := by unfold Reps; exact ⟨v, vs, rfl, h1, h2⟩
theorem Reps.one (h1 : Rep K mg B H d v) : Reps K mg B H [d] [v] := Reps.cons h1 Reps.nil
theorem Reps.take : ∀ {ds : List D} {vs : List V} (n : Nat), Reps K mg B H ds vs → Reps K mg B H (ds.take n) (vs.take n)
  | _, _, 0, _ => by simpa using Reps.nil
  | [], _, n + 1, h => by unfold Reps at h; subst h; simpa using Reps.nil
  | d :: ds, _, n + 1, h => by unfold Reps at h; obtain ⟨v, r, rfl, h1, h2⟩ := h; exact Reps.cons h1 (Reps.take n h2)
theorem Reps.drop : ∀ {ds : List D} {vs : List V} (n : Nat), Reps K mg B H ds vs → Reps K mg B H (ds.drop n) (vs.drop n)
  | _, _, 0, h => by simpa using h
  | [], _, n + 1, h => by unfold Reps at h; subst h; simpa using Reps.nil
  | d :: ds, _, n + 1, h => by unfold Reps at h; obtain ⟨v, r, rfl, h1, h2⟩ := h; simpa using Reps.drop n h2
theorem Reps.reverse : ∀ {ds : List D} {vs : List V}, Reps K mg B H ds vs → Reps K mg B H ds.reverse vs.reverse
  | [], _, h => by unfold Reps at h; subst h; simpa using Reps.nil
  | d :: ds, _, h => by unfold Reps at h; obtain ⟨v, r, rfl, h1, h2⟩ := h; simpa using (Reps.reverse h2).append (Reps.one h1)
theorem Reps.rep {ds : List D} {vs : List V} (h : Reps K mg B H ds vs) : ∀ n : Nat, Reps K mg B H (List.replicate n ds).flatten (List.replicate n vs).flatten
  | 0 => by simpa using Reps.nil
  | n + 1 => by simpa [List.replicate_succ] using h.append (Reps.rep h n)
theorem Reps.set : ∀ {ds : List D} {vs : List V} (i : Nat), Reps K mg B H ds vs → Rep K mg B H d v → Reps K mg B H (ds.set i d) (vs.set i v)
  | [], _, _, h, _ => by unfold Reps at h; subst h; simpa using Reps.nil
  | d :: ds, _, 0, h, q => by unfold Reps at h; obtain ⟨v, r, rfl, h1, h2⟩ := h; exact Reps.cons q h2
  | d :: ds, _, i + 1, h, q => by unfold Reps at h; obtain ⟨v, r, rfl, h1, h2⟩ := h; exact Reps.cons h1 (Reps.set i h2 q)
theorem Reps.ints : ∀ {ns : List Int} {vs : List V}, Reps K mg B H (ns.map D.int) vs → vs = ns.map V.int
  | [], _, h => by simpa [Reps] using h
  | n :: ns, _, h => by
    simp only [List.map_cons] at h; unfold Reps at h; obtain ⟨v, r, rfl, h1, h2⟩ := h
    unfold Rep at h1
    rw [h1, Reps.ints h2]; rfl
theorem Reps.ofInts : ∀ {ns : List Int}, Reps K mg B H (ns.map D.int) (ns.map V.int)
  | [] => by simpa using Reps.nil
  | n :: ns => Reps.cons (by unfold Rep; rfl) Reps.ofInts
theorem RVOk.lessP (h : ∀ a, P a → P' a) (x : RVOk K mg G P' A L σ H r v) : RVOk K mg G P A L σ H r v := by
  cases r with
  | pv d => exact Rep.less (fun a z => z.mono h) x
  | vr i => exact x
  | lc n => exact x
  | ow ds =>
    obtain ⟨a, vs, e, h1, h2, h3⟩ := x
    exact ⟨a, vs, e, h1, h2.less (fun b z => z.imp id fun z => z.mono h), h3⟩
theorem SR.there (hs : SR K mg G P A L s σ H) : ∀ a, Bd P A L a → ∃ o, H a = some o := fun a z => by
  rcases z with z | z | z
  · obtain ⟨o, e, _⟩ := hs.own a z; exact ⟨_, e⟩
  · obtain ⟨n, hn, rfl⟩ := List.getElem_of_mem z
    have : n < s.W.length := by rw [← hs.lenL]; exact hn
    obtain ⟨a, vs, e1, e2, _⟩ := hs.loc n _ (List.getElem?_eq_getElem this)
    rw [List.getElem?_eq_getElem hn] at e1
    cases e1
    exact ⟨_, e2⟩
  · exact (hs.pOk a z).1
theorem rd_ok (hs : SR K mg G P A L s σ H) (ok : RVOk K mg G P A L σ H r v) (e : rd r s = some d) : PRep K mg (Bd P A L) H d v := by
  have loc : ∀ {n : Nat} {a : Addr} {d : D}, L[n]? = some a → (s.W[n]?).map D.lst = some d → PRep K mg (Bd P A L) H d (.ref a) := fun {n a d} h e => by
    obtain ⟨ds, e1, rfl⟩ := Option.map_eq_some_iff.mp e
    obtain ⟨b, vs, e2, e3, e4⟩ := hs.loc n ds e1
    rw [h] at e2; cases e2
    exact .inr ⟨ds, _, vs, rfl, rfl, e3, e4⟩
  cases r with
  | pv d' => cases e; exact .inl ok
  | ow ds =>
    cases e
    obtain ⟨a, vs, e1, h1, h2, _⟩ := ok
    exact .inr ⟨ds, a, vs, rfl, e1, h1, h2.less fun b z => .inr z⟩
  | lc n =>
    obtain ⟨a, h1, rfl⟩ := ok
    exact loc h1 e
  | vr i =>
    have ok : σ[i]? = some (some v) := ok
    have e : (match s.η[i]? with
      | some (.pv d) => some d
      | some (.ow ds) => some (.lst ds)
      | some (.lc n) => (s.W[n]?).map .lst
      | _ => none) = some d := e
    cases q : s.η[i]? with
    | none => rw [q] at e; cases e
    | some y =>
      obtain ⟨hi, ov, oa, e1, e2, so⟩ := hs.slot' q
      rw [ok] at e1; cases e1
      rw [q] at e
      cases y with
      | no => cases e
      | ex => cases e
      | od _ => cases e
      | pv d' =>
        cases e
        obtain ⟨_, w, e3, r⟩ := so
        cases e3
        exact .inl r
      | ow ds =>
        cases e
        obtain ⟨a, vs, _, e3, e4, r⟩ := so
        cases e3
        exact .inr ⟨ds, a, vs, rfl, rfl, e4, r⟩
      | lc n =>
        obtain ⟨_, a, e3, e4⟩ := so
        cases e4
        exact loc e3 e
/-! ### one, two expressions -/
theorem SR.p0 (hs : SR K mg G P A L s σ H) : ∀ a, P a → (∃ o, H a = some o) ∧ some a ∉ A := fun a z => ⟨(hs.pOk a z).1, (hs.pOk a z).2.1⟩
theorem tE_one {fa : EV} {k : RV → S → Rs α} {Qf : α → S → Prop} (hs : SR K mg G P A L s σ H) (h : Run K mg G Wx P A L H σ ((fa s).bind k) Qf) :
    tE K mg G Wx fa σ H fun v H1 => ∃ A1 L1 s1 r, At K mg G P A L H σ A1 L1 s1 H1 r v ∧ Run K mg G Wx P A L H σ (k r s1) Qf :=
  ⟨P, A, L, s, hs, (Run.bind h).imp fun r s1 _ hk A' L' v H' a => ⟨A', L', s1, r, a, hk⟩⟩
theorem tE_two {fa fb : EV} {k : RV → RV → S → Rs α} {Qf : α → S → Prop} (hs : SR K mg G P A L s σ H) (h : Run K mg G Wx P A L H σ ((fa s).bind fun ra s1 => (fb s1).bind fun rb s2 => k ra rb s2) Qf) :
    tE K mg G Wx fa σ H fun x H1 => tE K mg G Wx fb σ H1 fun y H2 => ∃ A2 L2 s2 ra rb, SR K mg G P A2 L2 s2 σ H2 ∧ RVOk K mg G P A2 L2 σ H2 ra x ∧ RVOk K mg G P A2 L2 σ H2 rb y ∧ Step A L H A2 L2 H2 ∧
      Run K mg G Wx P A L H σ (k ra rb s2) Qf :=
  ⟨P, A, L, s, hs, (Run.bind h).imp fun ra s1 _ hk A1 L1 x H1 a1 =>
    ⟨Wi P ra x, A1, L1, s1, a1.sr, ((Run.bind hk).on a1.st fun a z => .inl z).imp fun rb s2 _ hk2 A2 L2 y H2 a2 =>
      ⟨A2, L2, s2, ra, rb, a2.sr.lessP fun a z => .inl (.inl z), (a1.ok.step a2.st), a2.ok.lessP fun a z => .inl z, a1.st.trans a2.st, hk2⟩⟩⟩
/-! ### what a plain step hands out -/
structure ResOk (K : PySem.W.Frag) (mg : Str → Option Value) (B : Addr → Prop) (H H' : Hp) (r : RV) (v : V) : Prop where
  keep : ∀ a o, H a = some o → H' a = some o
  rep : match r with
    | .pv d => Rep K mg B H' d v
    | .ow ds => ∃ a vs, v = .ref a ∧ H' a = some (.lst vs) ∧ H a = none ∧ Reps K mg (fun b => b = a ∨ B b) H' ds vs
    | _ => False
theorem Step.keep (k : ∀ a o, H a = some o → H' a = some o) : Step A L H A L H' :=
  ⟨fun a o h _ _ _ => k a o h, fun a h => h.elim .inl fun h => .inr (.inl h), ⟨[], by simp⟩, fun a o h => ⟨o, k a o h⟩, fun a ⟨ps, h, t⟩ => ⟨ps, k a _ h, t⟩⟩
theorem Step.nilA (x : Step A L H A1 L1 H') : True := trivial
/-- all that is tracked is kept; more is in other hands -/
theorem SR.keep (hs : SR K mg G P A L s σ H) (k : ∀ a o, H a = some o → H' a = some o) (hp : ∀ a, P' a → P a ∨ ((∃ o, H' a = some o) ∧ H a = none)) : SR K mg G P' A L s σ H' := by
  have mv : ∀ a o, H a = some o → ¬ Bd P A L a → Plain o → H' a = some o ∧ ¬ Bd P' A L a := fun a o h nb _ => ⟨k a o h, fun z => by
    rcases z with z | z | z
    · exact nb (.inl z)
    · exact nb (.inr (.inl z))
    · rcases hp a z with q | q
      · exact nb (.inr (.inr q))
      · rw [h] at q; cases q.2⟩
  exact { hs with
    slot := fun i x e => let ⟨ov, oa, e1, e2, q⟩ := hs.slot i x e; ⟨ov, oa, e1, e2, q.move mv (fun a o _ _ h => k a _ h) fun _ _ h => h⟩
    loc := fun n ds e => let ⟨a, vs, e1, e2, r⟩ := hs.loc n ds e; ⟨a, vs, e1, k a _ e2, r.move mv⟩
    own := fun a z => let ⟨o, e, m⟩ := hs.own a z; ⟨o, k a _ e, m⟩
    tab := fun a z => let ⟨ps, h, t⟩ := hs.tab a z; ⟨ps, k a _ h, t⟩
    ent := hs.ent.trans (Step.keep k)
    pOk := fun a z => by
      rcases hp a z with q | ⟨q, n⟩
      · have w := hs.pOk a q
        exact ⟨let ⟨o, e⟩ := w.1; ⟨o, k a o e⟩, w.2⟩
      · refine ⟨q, fun w => ?_, fun w => ?_⟩
        · obtain ⟨o, e, _⟩ := hs.own a w
          rw [n] at e; cases e
        · obtain ⟨o, e⟩ := hs.there a (.inr (.inl w))
          rw [n] at e; cases e }
theorem At.mk' (hs : SR K mg G P A1 L1 s1 σ H1) (st : Step A L H A1 L1 H1) (p0 : ∀ a, P a → (∃ o, H a = some o) ∧ some a ∉ A) (h : ResOk K mg (Bd P A1 L1) H1 H' r v) : At K mg G P A L H σ A1 L1 s1 H' r v := by
  have own : ∀ a, Own r v a → (∃ o, H' a = some o) ∧ H1 a = none := fun a ⟨⟨ds, e⟩, e'⟩ => by
    subst e
    obtain ⟨b, vs, e1, e2, e3, _⟩ := h.rep
    rw [e1] at e'; cases e'
    exact ⟨⟨_, e2⟩, e3⟩
  refine ⟨hs.keep h.keep fun a z => z.imp id (own a), ?_, fun a z => ?_, st.trans (Step.keep h.keep), p0⟩
  · cases r with
    | pv d => exact h.rep
    | vr i => exact h.rep.elim
    | lc n => exact h.rep.elim
    | ow ds =>
      obtain ⟨b, vs, e1, e2, e3, e4⟩ := h.rep
      refine ⟨b, vs, e1, e2, e4, fun z => ?_, fun z => ?_, ?_⟩
      · obtain ⟨o, e⟩ := hs.there b (.inl z)
        rw [e3] at e; cases e
      · obtain ⟨o, e⟩ := hs.there b (.inr (.inl z))
        rw [e3] at e; cases e
      · cases e : G.H0 b with
        | none => rfl
        | some o =>
          obtain ⟨o', e'⟩ := hs.ent.there b o e
          rw [e3] at e'; cases e'
  · have n := (own a z).2
    cases e : H a with
    | none => exact .inr rfl
    | some o =>
      obtain ⟨o', e'⟩ := st.there a o e
      rw [n] at e'; cases e'
theorem keep_upd {p : Addr} {o : HO} (h : H p = none) : ∀ a u, H a = some u → upd H p o a = some u := fun a u e => by rw [upd_ne (ne_of_none e h)]; exact e
theorem Reps.laid {p : Addr} {o : HO} {ds : List D} {vs : List V} (h : H p = none) (r : Reps K mg B H ds vs) : Reps K mg (fun b => b = p ∨ B b) (upd H p o) ds vs := r.move fun a u e nb _ => ⟨keep_upd h a u e, fun z => by
  rcases z with z | z
  · subst z; rw [h] at e; cases e
  · exact nb z⟩
theorem ResOk.same (h : Rep K mg B H d v) : ResOk K mg B H H (.pv d) v := ⟨fun _ _ h => h, h⟩
theorem ResOk.tup {p : Addr} {ds : List D} {vs : List V} (hB : ∀ a, B a → ∃ o, H a = some o) (h : H p = none) (r : Reps K mg B H ds vs) : ResOk K mg B H (upd H p (.tup vs)) (.pv (.tup ds)) (.ref p) := by
  refine ⟨keep_upd h, ?_⟩
  show Rep K mg B (upd H p (.tup vs)) (.tup ds) (.ref p)
  unfold Rep
  refine ⟨p, vs, rfl, .inl ⟨.inl upd_same, fun z => ?_⟩, (r.laid h).less fun _ z => .inr z⟩
  obtain ⟨o, e⟩ := hB p z
  rw [h] at e; cases e
theorem ResOk.lst {p : Addr} {ds : List D} {vs : List V} (h : H p = none) (r : Reps K mg B H ds vs) : ResOk K mg B H (upd H p (.lst vs)) (.ow ds) (.ref p) :=
  ⟨keep_upd h, p, vs, rfl, upd_same, h, r.laid h⟩
end
end DL
namespace L2
open PySem PySem.Spec PyProof.Rows
theorem tuple_mul1W (l : Addr) (items : Array Value) (n : Nat) (dd : Option Addr) (sl : Array (Option Value)) (u : Tok) (c1 : (items.isEmpty || (1 : Int) == 1) = true) :
    Meets (Builtin.«tuple.__mul__» ⟨[.ref l, .int 1 u], []⟩) (fun _ R s => s.heap.get? l = some { cls := .type "tuple", dict := dd, data := .seq items n, slots := sl } ∧
      R (.ok (.ret (Value.ref l))) s) :=
  .of_wp fun prog w A R s h => by
    obtain ⟨hp, g, d, tk, os⟩ := s
    obtain ⟨hl, h⟩ := h
    have f1 := AutoSeq1.idx_int
    wp_walk using wpAny_loadPart' hl
    repeat (first
      | (refine wpAny_ite_true (decide_eq_true c1) ?_; wp_walk using wpAny_loadPart' hl)
      | (refine wpAny_ite_false (by decide) ?_; wp_walk using wpAny_loadPart' hl))
    exact ⟨_, rfl, h⟩
def rRep1 (K : PySem.W.Frag) : R2 := fun x y H Q => ∃ l xs, x = .ref l ∧ y = .int 1 ∧ SqT K H l xs ∧ Q (.ref l) H
section
variable {X : Cx}
theorem op_rep1 : OpR X (binaryOp .Mult) (rRep1 X.K) := by
  intro pins s σ H x y v u Q I rx ry h
  obtain ⟨l, xs, rfl, rfl, hT, q⟩ := h
  cases rx
  obtain ⟨t, rfl⟩ := ry
  obtain ⟨its, r, ⟨⟨cls, dd, data, sl⟩, ho, hc, n, hd⟩, hs⟩ := I.tuple hT
  simp only at hc hd
  subst hc hd
  have c1 : (its.toArray.isEmpty || (1 : Int) == 1) = true := by simp
  refine wpAny_binaryOp_repeat_ref (T := "tuple") (U := "int") (by decide) ⟨_, ho, rfl⟩ (fun s' => typeIs_int s' 1 t) noFill_tuple_mul F.fills_int_mul F.slot_int_rmul repeat_tuple F.slot_int_index.lookup
    (call_meets F.slot_int_rmul (typeIs_int s 1 t) F.entry_int_rmul (F.args_int_rmul_2 _ _) (int_rmul_tuple 1 t l its.toArray n dd sl)
      ⟨ho, rfl, ⟨_, ho, rfl⟩, call_meets F.slot_tuple_mul ⟨_, ho, rfl⟩ F.entry_tuple_mul (F.args_tuple_mul_2 _ _) (tuple_mul1W l its.toArray n dd sl t c1) ⟨ho, ?_⟩⟩)
  exact ⟨.ref l, H, I, rfl, q⟩
end
end L2
namespace DL
open PySem PySem.Spec PyProof.Rows L2
/-! ### plain data -/
mutual
def pyD : D → PyData
  | .non => .none
  | .bl b => .bool b
  | .int i => .int i
  | .str x => .str x
  | .tup xs => .tuple (pyDs xs)
  | .lst xs => .list (pyDs xs)
  | .scr xs => .list (pyDs xs)
  | .dK _ => .dict []
  | .dT _ => .dict []
  | .glb _ => .dict []
  | .ty _ => .dict []
def pyDs : List D → List PyData
  | [] => []
  | x :: xs => pyD x :: pyDs xs
end
def okE (d : D) : Bool := SeqAt.shaped (pyD d)
def eqD (a b : D) : Bool := PyData.eqv (pyD a) (pyD b)
mutual
theorem Rep.dp {K : PySem.W.Frag} {mg : Str → Option Value} {B : Addr → Prop} {H : Hp} : ∀ {d : D} {v : V}, Rep K mg B H d v → (pyD d).canLay0 = true → Dp K H v (pyD d)
  | .non, _, h, _ => by unfold Rep at h; subst h; exact .non
  | .bl b, _, h, _ => by unfold Rep at h; subst h; exact .bl b
  | .int b, _, h, _ => by unfold Rep at h; subst h; exact .int b
  | .str b, _, h, _ => by unfold Rep at h; subst h; exact .str b
  | .tup ds, _, h, c => by
    unfold Rep at h
    obtain ⟨a, vs, rfl, h1, h2⟩ := h
    exact .tup h1.sq (Reps.dp h2 c)
  | .lst ds, _, h, c => by
    unfold Rep at h
    obtain ⟨a, vs, rfl, h1, _, h2⟩ := h
    exact .lst (SqL.of h1) (Reps.dp h2 c)
  | .scr ds, _, h, c => by
    unfold Rep at h
    obtain ⟨a, vs, rfl, h1, h2⟩ := h
    exact .lst h1.sq (Reps.dp h2 c)
  | .dK _, _, _, c | .dT _, _, _, c | .glb _, _, _, c | .ty _, _, _, c => by simp [pyD, PyData.canLay0] at c
theorem Reps.dp {K : PySem.W.Frag} {mg : Str → Option Value} {B : Addr → Prop} {H : Hp} : ∀ {ds : List D} {vs : List V}, Reps K mg B H ds vs → PyData.canLayAll0 (pyDs ds) = true → DpAll K H vs (pyDs ds)
  | [], _, h, _ => by unfold Reps at h; subst h; exact .nil
  | d :: ds, _, h, c => by
    unfold Reps at h
    obtain ⟨v, r, rfl, h1, h2⟩ := h
    have c' : ((pyD d).canLay0 && PyData.canLayAll0 (pyDs ds)) = true := c
    rw [Bool.and_eq_true] at c'
    exact .cons (Rep.dp h1 c'.1) (Reps.dp h2 c'.2)
end
theorem PRep.dp {K : PySem.W.Frag} {mg : Str → Option Value} {B : Addr → Prop} {H : Hp} {d : D} {v : V} (h : PRep K mg B H d v) (c : okE d = true) : Dp K H v (pyD d) := by
  have c := SeqAt.canLay_of_shaped c
  rcases h with h | ⟨ds, a, vs, rfl, rfl, h1, h2⟩
  · exact h.dp c
  · exact .lst (SqL.of h1) (Reps.dp h2 c)
/-! ### the operators by values -/
abbrev Ob2 := D → D → Option RV
def pI (i : Int) : Option RV := some (.pv (.int i))
def pB (b : Bool) : Option RV := some (.pv (.bl b))
def gd (c : Bool) (r : Option RV) : Option RV := if c = true then r else none
def mulOk (i j : Int) : Bool := decide (-(2 ^ 64) < i ∧ i < 2 ^ 64) || decide (-(2 ^ 64) < j ∧ j < 2 ^ 64) || decide (i.natAbs.log2 + j.natAbs.log2 < 1000000)
def addD : Ob2
  | .int i, .int j => pI (i + j)
  | .str i, .str j => gd (decide (i.length + j.length ≤ sizeLine)) (some (.pv (.str (i ++ j))))
  | .tup i, .tup j => gd (decide (i.length + j.length ≤ sizeLine)) (some (.pv (.tup (i ++ j))))
  | .lst i, .lst j => gd (decide (i.length + j.length ≤ sizeLine)) (some (.ow (i ++ j)))
  | .int i, .bl k => pI (i + b2i k)
  | _, _ => none
def subD : Ob2
  | .int i, .int j => pI (i - j)
  | _, _ => none
def mulD : Ob2
  | .int i, .int j => gd (mulOk i j) (pI (i * j))
  | .lst i, .int k => gd (decide (-(2 ^ 63) ≤ k ∧ k < 2 ^ 63 ∧ i.length * k.toNat ≤ sizeLine)) (some (.ow (List.replicate k.toNat i).flatten))
  | .tup i, .int k => if k = 1 then some (.pv (.tup i)) else gd (decide (i ≠ [] ∧ 2 ≤ k ∧ k ≤ 1000 ∧ i.length ≤ 1000)) (some (.pv (.tup (List.replicate k.toNat i).flatten)))
  | _, _ => none
def fdivD : Ob2
  | .int i, .int j => gd (decide (0 < j ∧ j.natAbs.log2 < 9000)) (pI (i / j))
  | _, _ => none
def modD : Ob2
  | .int i, .int j => gd (decide (0 < j)) (pI (i % j))
  | _, _ => none
def powD : Ob2
  | .int i, .int j => gd (decide (0 ≤ j ∧ j ≤ 1000000 ∧ i.natAbs < 2 ^ 64)) (pI (i ^ j.toNat))
  | _, _ => none
def shlD : Ob2
  | .int i, .int j => gd (decide (0 ≤ j ∧ j ≤ 1000000 ∧ i.natAbs < 2 ^ 64)) (pI (i * 2 ^ j.toNat))
  | _, _ => none
def shrD : Ob2
  | .int i, .int j => gd (decide (0 ≤ j)) (pI (i / 2 ^ j.toNat))
  | _, _ => none
def andD : Ob2
  | .int i, .int j => pI (Builtin.bitAnd i j)
  | _, _ => none
def orD : Ob2
  | .int i, .int j => pI (Builtin.bitOr i j)
  | _, _ => none
def xorD : Ob2
  | .int i, .int j => pI (Builtin.bitXor i j)
  | _, _ => none
/-- an operation's answer is enough for the layer's question -/
def OpV (K : PySem.W.Frag) (mg : Str → Option Value) (r : R2) (f : Ob2) : Prop := ∀ (B : Addr → Prop) (H : Hp) (x y : V) (a b : D) (res : RV) (Q : VK), (∀ a, B a → ∃ o, H a = some o) → PRep K mg B H a x → PRep K mg B H b y → f a b = some res →
  (∀ v H', ResOk K mg B H H' res v → Q v H') → r x y H Q
section
variable {K : PySem.W.Frag} {mg : Str → Option Value}
theorem gd_some {c : Bool} {r : Option RV} {x : RV} (h : gd c r = some x) : c = true ∧ r = some x := by
  unfold gd at h
  split at h
  · exact ⟨by assumption, h⟩
  · cases h
theorem ResOk.int {B : Addr → Prop} {H : Hp} {i : Int} : ResOk K mg B H H (.pv (.int i)) (.int i) := .same (by unfold Rep; rfl)
theorem ResOk.bl {B : Addr → Prop} {H : Hp} {i : Bool} : ResOk K mg B H H (.pv (.bl i)) (.bl i) := .same (by unfold Rep; rfl)
theorem ResOk.str {B : Addr → Prop} {H : Hp} {i : Str} : ResOk K mg B H H (.pv (.str i)) (.str i) := .same (by unfold Rep; rfl)
/-- two ints, no condition -/
theorem opv_I0 {g : Int → Int → Int} {f : Ob2} (hf : ∀ a b res, f a b = some res → ∃ i j, a = .int i ∧ b = .int j ∧ res = .pv (.int (g i j))) : OpV K mg (rI0 fun i j => .int (g i j)) f := by
  intro B H x y a b res Q hB ha hb e q
  obtain ⟨i, j, rfl, rfl, rfl⟩ := hf a b res e
  exact ⟨i, j, ha.int, hb.int, q _ _ .int⟩
theorem opv_I {C : Int → Int → Prop} {g : Int → Int → Int} {f : Ob2} (hf : ∀ a b res, f a b = some res → ∃ i j, a = .int i ∧ b = .int j ∧ C i j ∧ res = .pv (.int (g i j))) : OpV K mg (rI C fun i j => .int (g i j)) f := by
  intro B H x y a b res Q hB ha hb e q
  obtain ⟨i, j, rfl, rfl, c, rfl⟩ := hf a b res e
  exact ⟨i, j, ha.int, hb.int, c, q _ _ .int⟩
theorem ii {f : Ob2} {P : Int → Int → RV → Prop} (h0 : ∀ i j res, f (.int i) (.int j) = some res → P i j res) (h1 : ∀ a b, (∀ i j, ¬ (a = .int i ∧ b = .int j)) → f a b = none) :
    ∀ a b res, f a b = some res → ∃ i j, a = .int i ∧ b = .int j ∧ P i j res := by
  intro a b res e
  by_cases h : ∃ i j, a = .int i ∧ b = .int j
  · obtain ⟨i, j, rfl, rfl⟩ := h
    exact ⟨i, j, rfl, rfl, h0 i j res e⟩
  · rw [h1 a b fun i j z => h ⟨i, j, z⟩] at e
    cases e
end
section
variable {X : Cx}
def rAdd (K : PySem.W.Frag) : R2 := fun x y H Q => rI0 (fun i j => .int (i + j)) x y H Q ∨ (∃ i j, x = .str i ∧ y = .str j ∧ i.length + j.length ≤ sizeLine ∧ Q (.str (i ++ j)) H) ∨ rCatA K x y H Q ∨ rCat x y H Q ∨
  ∃ i k, x = .int i ∧ y = .bl k ∧ Q (.int (i + b2i k)) H
theorem op_addA : OpR X (binaryOp .Add) (rAdd X.K) := op_add.or (op_add_str.or (op_catA.or (op_cat.or op_add_ib)))
theorem opv_add {K : PySem.W.Frag} {mg : Str → Option Value} : OpV K mg (rAdd K) addD := by
  intro B H x y a b res Q hB ha hb e q
  unfold addD at e
  split at e
  · cases e
    exact .inl ⟨_, _, ha.int, hb.int, q _ _ .int⟩
  · obtain ⟨c, e⟩ := gd_some e
    cases e
    exact .inr (.inl ⟨_, _, ha.str, hb.str, of_decide_eq_true c, q _ _ .str⟩)
  · rename_i i j
    obtain ⟨c, e⟩ := gd_some e
    cases e
    obtain ⟨p, vs, rfl, t, r⟩ := ha.tup
    obtain ⟨p', vs', rfl, t', r'⟩ := hb.tup
    have l := r.length
    have l' := r'.length
    refine .inr (.inr (.inl ⟨p, p', vs, vs', rfl, rfl, t.sq, t'.sq, by rw [← l, ← l']; exact of_decide_eq_true c, fun e => ?_, fun _ e => ?_, fun _ _ o ho => ?_⟩))
    · subst e
      have : i = [] := List.eq_nil_of_length_eq_zero (by rw [l]; rfl)
      subst this
      refine q _ _ (.same ?_)
      rw [List.nil_append]
      unfold Rep
      exact ⟨_, _, rfl, t', r'⟩
    · subst e
      have : j = [] := List.eq_nil_of_length_eq_zero (by rw [l']; rfl)
      subst this
      refine q _ _ (.same ?_)
      rw [List.append_nil]
      unfold Rep
      exact ⟨_, _, rfl, t, r⟩
    · exact q _ _ (.tup hB ho (r.append r'))
  · obtain ⟨c, e⟩ := gd_some e
    cases e
    obtain ⟨p, vs, rfl, t, r⟩ := ha.lst
    obtain ⟨p', vs', rfl, t', r'⟩ := hb.lst
    refine .inr (.inr (.inr (.inl ⟨p, p', vs, vs', rfl, rfl, t, t', by rw [← r.length, ← r'.length]; exact of_decide_eq_true c, fun o ho => q _ _ (.lst ho (r.append r'))⟩)))
  · cases e
    exact .inr (.inr (.inr (.inr ⟨_, _, ha.int, hb.bl, q _ _ .int⟩)))
  · cases e
def rMul (K : PySem.W.Frag) : R2 := fun x y H Q => rI CMul (fun i j => .int (i * j)) x y H Q ∨ rI CMulW (fun i j => .int (i * j)) x y H Q ∨ rRep x y H Q ∨ rRepT K x y H Q ∨ rRep1 K x y H Q
theorem op_mulA : OpR X (binaryOp .Mult) (rMul X.K) := op_mul.or (op_mulW.or (op_rep.or (op_repT.or op_rep1)))
theorem opv_mul {K : PySem.W.Frag} {mg : Str → Option Value} : OpV K mg (rMul K) mulD := by
  intro B H x y a b res Q hB ha hb e q
  unfold mulD at e
  split at e
  · obtain ⟨c, e⟩ := gd_some e
    cases e
    unfold mulOk at c
    rw [Bool.or_eq_true, Bool.or_eq_true] at c
    rcases c with (c | c) | c
    · exact .inl ⟨_, _, ha.int, hb.int, .inl (of_decide_eq_true c), q _ _ .int⟩
    · exact .inl ⟨_, _, ha.int, hb.int, .inr (of_decide_eq_true c), q _ _ .int⟩
    · have c := of_decide_eq_true c
      exact .inr (.inl ⟨_, _, ha.int, hb.int, c, q _ _ .int⟩)
  · obtain ⟨c, e⟩ := gd_some e
    cases e
    have c := of_decide_eq_true c
    obtain ⟨p, vs, rfl, t, r⟩ := ha.lst
    exact .inr (.inr (.inl ⟨p, _, vs, rfl, hb.int, t, c.1, c.2.1, by rw [← r.length]; exact c.2.2, fun o ho => q _ _ (.lst ho (r.rep _))⟩))
  · split at e
    · rename_i hk
      subst hk
      cases e
      obtain ⟨p, vs, rfl, t, r⟩ := ha.tup
      exact .inr (.inr (.inr (.inr ⟨p, vs, rfl, hb.int, t.sq, q _ _ (.same (by unfold Rep; exact ⟨p, vs, rfl, t, r⟩))⟩)))
    obtain ⟨c, e⟩ := gd_some e
    cases e
    have c := of_decide_eq_true c
    obtain ⟨p, vs, rfl, t, r⟩ := ha.tup
    refine .inr (.inr (.inr (.inl ⟨p, _, vs, rfl, hb.int, t.sq, fun z => c.1 (List.eq_nil_of_length_eq_zero ?_), c.2.1, c.2.2.1, by rw [← r.length]; exact c.2.2.2, fun o ho => q _ _ (.tup hB ho (r.rep _))⟩)))
    rw [r.length, z]; rfl
  · cases e
end
end DL
namespace DL
open PySem PySem.Spec PyProof.Rows L2
section
variable {K : PySem.W.Frag} {mg : Str → Option Value}
theorem ii_none {f : Ob2} {a b : D} (h : ∀ i j, ¬ (a = .int i ∧ b = .int j)) (hf : ∀ a b, (∀ i j, a = .int i → b = .int j → False) → f a b = none) : f a b = none := hf a b fun i j e1 e2 => h i j ⟨e1, e2⟩
theorem opv_sub : OpV K mg (rI0 fun i j => .int (i - j)) subD := opv_I0 fun a b res e => by
  unfold subD at e
  split at e
  · cases e; exact ⟨_, _, rfl, rfl, rfl⟩
  · cases e
theorem opv_and : OpV K mg (rI0 fun i j => .int (Builtin.bitAnd i j)) andD := opv_I0 fun a b res e => by
  unfold andD at e
  split at e
  · cases e; exact ⟨_, _, rfl, rfl, rfl⟩
  · cases e
theorem opv_or : OpV K mg (rI0 fun i j => .int (Builtin.bitOr i j)) orD := opv_I0 fun a b res e => by
  unfold orD at e
  split at e
  · cases e; exact ⟨_, _, rfl, rfl, rfl⟩
  · cases e
theorem opv_xor : OpV K mg (rI0 fun i j => .int (Builtin.bitXor i j)) xorD := opv_I0 fun a b res e => by
  unfold xorD at e
  split at e
  · cases e; exact ⟨_, _, rfl, rfl, rfl⟩
  · cases e
theorem opv_fdiv : OpV K mg (rI CDivW fun i j => .int (i / j)) fdivD := opv_I fun a b res e => by
  unfold fdivD at e
  split at e
  · obtain ⟨c, e⟩ := gd_some e
    have c := of_decide_eq_true c
    cases e; exact ⟨_, _, rfl, rfl, c, rfl⟩
  · cases e
theorem opv_mod : OpV K mg (rI (fun _ j => 0 < j) fun i j => .int (i % j)) modD := opv_I fun a b res e => by
  unfold modD at e
  split at e
  · obtain ⟨c, e⟩ := gd_some e
    have c := of_decide_eq_true c
    cases e; exact ⟨_, _, rfl, rfl, c, rfl⟩
  · cases e
theorem opv_pow : OpV K mg (rI CPow fun i j => .int (i ^ j.toNat)) powD := opv_I fun a b res e => by
  unfold powD at e
  split at e
  · obtain ⟨c, e⟩ := gd_some e
    have c := of_decide_eq_true c
    cases e; exact ⟨_, _, rfl, rfl, c, rfl⟩
  · cases e
theorem opv_shl : OpV K mg (rI CPow fun i j => .int (i * 2 ^ j.toNat)) shlD := opv_I fun a b res e => by
  unfold shlD at e
  split at e
  · obtain ⟨c, e⟩ := gd_some e
    have c := of_decide_eq_true c
    cases e; exact ⟨_, _, rfl, rfl, c, rfl⟩
  · cases e
theorem opv_shr : OpV K mg (rI (fun _ j => 0 ≤ j) fun i j => .int (i / 2 ^ j.toNat)) shrD := opv_I fun a b res e => by
  unfold shrD at e
  split at e
  · obtain ⟨c, e⟩ := gd_some e
    have c := of_decide_eq_true c
    cases e; exact ⟨_, _, rfl, rfl, c, rfl⟩
  · cases e
end
/-! ### comparisons by values -/
/-- sets of text, whether a text stands in another: by the library's own look -/
def inStr (i j : Str) : Bool := !(Builtin.Str.occurrences j i 0 j.length 1).isEmpty
def eqO (a b : D) : Option Bool := match a, b with
  | .int i, .int j => some (i == j)
  | .str i, .str j => some (i == j)
  | a, b => if (okE a && okE b) = true then some (eqD a b) else none
def oB (o : Option Bool) : Option RV := o.map fun b => .pv (.bl b)
def eqC : Ob2 := fun a b => oB (eqO a b)
def neC : Ob2 := fun a b => oB ((eqO a b).map not)
def allI : List D → Option (List Int)
  | [] => some []
  | .int i :: r => (allI r).map fun t => i :: t
  | _ => none
def ltC : Ob2
  | .int i, .int j => pB (decide (i < j))
  | .str i, .str j => pB (decide (i.cps.toList < j.cps.toList))
  | .tup xs, .tup ys => match allI xs, allI ys with
    | some ns, some ms => pB (HT.lexLt ns ms)
    | _, _ => none
  | _, _ => none
def leC : Ob2
  | .int i, .int j => pB (decide (i ≤ j))
  | .str i, .str j => pB (!decide (j.cps.toList < i.cps.toList))
  | _, _ => none
def gtC : Ob2
  | .int i, .int j => pB (decide (j < i))
  | .str i, .str j => pB (decide (j.cps.toList < i.cps.toList))
  | _, _ => none
def geC : Ob2
  | .int i, .int j => pB (decide (j ≤ i))
  | .str i, .str j => pB (!decide (i.cps.toList < j.cps.toList))
  | _, _ => none
def inO (a b : D) : Option Bool := match b with
  | .str j => match a with
    | .str i => some (inStr i j)
    | _ => none
  | .lst ds => if (okE a && okE b) = true then some (ds.any fun z => eqD z a) else none
  | .tup ds => if (a :: ds).all (fun d => match d with | .non => true | .bl _ => true | .int _ => true | .str _ => true | _ => false) = true then some (ds.any fun z => eqD z a) else none
  | _ => none
def inC : Ob2 := fun a b => oB (inO a b)
def niC : Ob2 := fun a b => oB ((inO a b).map not)
def isO (a b : D) : Option Bool := match b with
  | .non => some (match a with | .non => true | _ => false)
  | .bl c => some (match a with | .bl d => d == c | _ => false)
  | _ => none
def isC : Ob2 := fun a b => oB (isO a b)
def isnC : Ob2 := fun a b => oB ((isO a b).map not)
section
variable {K : PySem.W.Frag} {mg : Str → Option Value} {X : Cx}
theorem oB_some {o : Option Bool} {res : RV} (h : oB o = some res) : ∃ b, o = some b ∧ res = .pv (.bl b) := by
  obtain ⟨b, e, rfl⟩ := Option.map_eq_some_iff.mp h
  exact ⟨b, e, rfl⟩
theorem allI_some : ∀ {xs : List D} {ns : List Int}, allI xs = some ns → xs = ns.map D.int
  | [], ns, h => by unfold allI at h; cases h; rfl
  | x :: xs, ns, h => by
    unfold allI at h
    split at h
    · rename_i e; cases e
    · rename_i i r e
      cases e
      obtain ⟨t, e1, rfl⟩ := Option.map_eq_some_iff.mp h
      rw [allI_some e1]; rfl
    · cases h
theorem allI_map (ns : List Int) : allI (ns.map D.int) = some ns := by
  induction ns with
  | nil => rfl
  | cons n ns ih => simp [allI, ih]
def rEqA (K : PySem.W.Frag) : R2 := fun x y H Q => rEq x y H Q ∨ rEqD K x y H Q
theorem op_eqA (hu : X.A.units + 64 < cLine) : OpR X (compareOp .Eq) (rEqA X.K) := op_eq.or (op_eqD hu)
def rNeA (K : PySem.W.Frag) : R2 := fun x y H Q => rNe x y H Q ∨ rNeD K x y H Q
theorem op_neA (hu : X.A.units + 64 < cLine) : OpR X (compareOp .NotEq) (rNeA X.K) := op_ne.or (op_neD hu)
theorem eqO_cases {a b : D} {c : Bool} (h : eqO a b = some c) : (∃ i j, a = .int i ∧ b = .int j ∧ c = (i == j)) ∨ (∃ i j, a = .str i ∧ b = .str j ∧ c = (i == j)) ∨ (okE a = true ∧ okE b = true ∧ c = eqD a b) := by
  unfold eqO at h
  split at h
  · cases h; exact .inl ⟨_, _, rfl, rfl, rfl⟩
  · cases h; exact .inr (.inl ⟨_, _, rfl, rfl, rfl⟩)
  · split at h
    · rename_i e
      rw [Bool.and_eq_true] at e
      cases h
      exact .inr (.inr ⟨e.1, e.2, rfl⟩)
    · cases h
theorem opv_eq : OpV K mg (rEqA K) eqC := by
  intro B H x y a b res Q hB ha hb e0 q
  obtain ⟨c, e, rfl⟩ := oB_some e0
  have q' := q (.bl c) H .bl
  rcases eqO_cases e with ⟨i, j, rfl, rfl, rfl⟩ | ⟨i, j, rfl, rfl, rfl⟩ | ⟨h1, h2, rfl⟩
  · refine .inl ⟨by rw [ha.int, hb.int]; rfl, ?_⟩
    rw [ha.int, hb.int, dec_int]; exact q'
  · refine .inl ⟨by rw [ha.str, hb.str]; rfl, ?_⟩
    rw [ha.str, hb.str, dec_str]; exact q'
  · exact .inr ⟨_, _, ha.dp h1, hb.dp h2, h1, h2, q'⟩
theorem opv_ne : OpV K mg (rNeA K) neC := by
  intro B H x y a b res Q hB ha hb e0 q
  obtain ⟨c0, e9, rfl⟩ := oB_some e0
  obtain ⟨c, e, rfl⟩ := Option.map_eq_some_iff.mp e9
  have q' := q (.bl (!c)) H .bl
  rcases eqO_cases e with ⟨i, j, rfl, rfl, rfl⟩ | ⟨i, j, rfl, rfl, rfl⟩ | ⟨h1, h2, rfl⟩
  · refine .inl ⟨by rw [ha.int, hb.int]; rfl, ?_⟩
    rw [ha.int, hb.int, dec_int]; exact q'
  · refine .inl ⟨by rw [ha.str, hb.str]; rfl, ?_⟩
    rw [ha.str, hb.str, dec_str]; exact q'
  · exact .inr ⟨_, _, ha.dp h1, hb.dp h2, h1, h2, q'⟩
def rLtA (K : PySem.W.Frag) : R2 := fun x y H Q => rI0 (fun i j => .bl (decide (i < j))) x y H Q ∨ (∃ i j, x = .str i ∧ y = .str j ∧ Q (.bl (decide (i.cps.toList < j.cps.toList))) H) ∨ rLtT K x y H Q
theorem op_ltA (hu : X.A.units + 64 < cLine) : OpR X (compareOp .Lt) (rLtA X.K) := op_lt.or (op_lt_str.or (op_ltT (by omega)))
theorem opv_lt : OpV K mg (rLtA K) ltC := by
  intro B H x y a b res Q hB ha hb e q
  unfold ltC at e
  split at e
  · cases e; exact .inl ⟨_, _, ha.int, hb.int, q _ _ .bl⟩
  · cases e; exact .inr (.inl ⟨_, _, ha.str, hb.str, q _ _ .bl⟩)
  · split at e
    · rename_i ns ms h1 h2
      cases e
      rw [allI_some h1] at ha
      rw [allI_some h2] at hb
      obtain ⟨p, vs, rfl, t, r⟩ := ha.tup
      obtain ⟨p', vs', rfl, t', r'⟩ := hb.tup
      rw [r.ints] at t
      rw [r'.ints] at t'
      exact .inr (.inr ⟨_, _, ns, ms, rfl, rfl, t.sq, t'.sq, q _ _ .bl⟩)
    · cases e
  · cases e
def rLeA (K : PySem.W.Frag) : R2 := fun x y H Q => rI0 (fun i j => .bl (decide (i ≤ j))) x y H Q ∨ ∃ i j, x = .str i ∧ y = .str j ∧ Q (.bl (!decide (j.cps.toList < i.cps.toList))) H
theorem op_leA {X : Cx} : OpR X (compareOp .LtE) (rLeA X.K) := op_le.or op_le_str
theorem opv_le : OpV K mg (rLeA K) leC := by
  intro B H x y a b res Q hB ha hb e q
  unfold leC at e
  split at e
  · cases e; exact .inl ⟨_, _, ha.int, hb.int, q _ _ .bl⟩
  · cases e; exact .inr ⟨_, _, ha.str, hb.str, q _ _ .bl⟩
  · cases e
def rGtA (K : PySem.W.Frag) : R2 := fun x y H Q => rI0 (fun i j => .bl (decide (j < i))) x y H Q ∨ ∃ i j, x = .str i ∧ y = .str j ∧ Q (.bl (decide (j.cps.toList < i.cps.toList))) H
theorem op_gtA {X : Cx} : OpR X (compareOp .Gt) (rGtA X.K) := op_gt.or op_gt_str
theorem opv_gt : OpV K mg (rGtA K) gtC := by
  intro B H x y a b res Q hB ha hb e q
  unfold gtC at e
  split at e
  · cases e; exact .inl ⟨_, _, ha.int, hb.int, q _ _ .bl⟩
  · cases e; exact .inr ⟨_, _, ha.str, hb.str, q _ _ .bl⟩
  · cases e
def rGeA (K : PySem.W.Frag) : R2 := fun x y H Q => rI0 (fun i j => .bl (decide (j ≤ i))) x y H Q ∨ ∃ i j, x = .str i ∧ y = .str j ∧ Q (.bl (!decide (i.cps.toList < j.cps.toList))) H
theorem op_geA {X : Cx} : OpR X (compareOp .GtE) (rGeA X.K) := op_ge.or op_ge_str
theorem opv_ge : OpV K mg (rGeA K) geC := by
  intro B H x y a b res Q hB ha hb e q
  unfold geC at e
  split at e
  · cases e; exact .inl ⟨_, _, ha.int, hb.int, q _ _ .bl⟩
  · cases e; exact .inr ⟨_, _, ha.str, hb.str, q _ _ .bl⟩
  · cases e
/-! is -/
def isV (x : V) (y : V) : Bool := match y with
  | .non => decide (x = .non)
  | .bl c => decide (x = .bl c)
  | _ => false
def rIs (neg : Bool) : R2 := fun x y H Q => (y = .non ∨ ∃ c, y = .bl c) ∧ Q (.bl (neg != isV x y)) H
theorem isV_ok {x y : V} {v u : Value} (rx : RelV x v) (ry : RelV y u) (h : y = .non ∨ ∃ c, y = .bl c) : plainIs v u = true ∧ (v == u) = isV x y := by
  rcases h with rfl | ⟨c, rfl⟩
  · cases ry
    cases x with
    | non => cases rx; exact ⟨rfl, rfl⟩
    | bl _ => cases rx; exact ⟨rfl, rfl⟩
    | int _ => obtain ⟨t, rfl⟩ := rx; exact ⟨rfl, rfl⟩
    | str _ => obtain ⟨t, rfl⟩ := rx; exact ⟨rfl, rfl⟩
    | byt _ => obtain ⟨t, rfl⟩ := rx; exact ⟨rfl, rfl⟩
    | flt _ => obtain ⟨t, rfl⟩ := rx; exact ⟨rfl, rfl⟩
    | ref _ => cases rx; exact ⟨rfl, rfl⟩
    | ty _ => cases rx; exact ⟨rfl, rfl⟩
  · cases ry
    cases x with
    | non => cases rx; exact ⟨rfl, rfl⟩
    | bl d =>
      cases rx
      refine ⟨rfl, ?_⟩
      cases c <;> cases d <;> rfl
    | int _ => obtain ⟨t, rfl⟩ := rx; exact ⟨rfl, rfl⟩
    | str _ => obtain ⟨t, rfl⟩ := rx; exact ⟨rfl, rfl⟩
    | byt _ => obtain ⟨t, rfl⟩ := rx; exact ⟨rfl, rfl⟩
    | flt _ => obtain ⟨t, rfl⟩ := rx; exact ⟨rfl, rfl⟩
    | ref _ => cases rx; exact ⟨rfl, rfl⟩
    | ty _ => cases rx; exact ⟨rfl, rfl⟩
theorem op_isA : OpR X (compareOp .Is) (rIs false) := by
  intro pins s σ H x y v u Q I rx ry ⟨h, q⟩
  obtain ⟨h1, h2⟩ := isV_ok rx ry h
  refine wpAny_is_plain h1 ⟨.bl _, H, I, rfl, ?_⟩
  rw [h2]; simpa using q
theorem op_isnA : OpR X (compareOp .IsNot) (rIs true) := by
  intro pins s σ H x y v u Q I rx ry ⟨h, q⟩
  obtain ⟨h1, h2⟩ := isV_ok rx ry h
  refine wpAny_isNot_plain h1 ⟨.bl _, H, I, rfl, ?_⟩
  rw [h2]; simpa using q
theorem isO_ok {B : Addr → Prop} {H : Hp} {a b : D} {x y : V} {c : Bool} (ha : PRep K mg B H a x) (hb : PRep K mg B H b y) (e : isO a b = some c) : (y = .non ∨ ∃ c, y = .bl c) ∧ isV x y = c := by
  have nr : ∀ {d : D} {w : V} {p : Addr}, PRep K mg B H d w → w = .ref p → (∀ b, d ≠ .bl b) ∧ d ≠ .non := fun {d w p} h e => by
    subst e
    refine ⟨fun b z => ?_, fun z => ?_⟩
    · subst z; have := h.bl; cases this
    · subst z; have := h.non; cases this
  unfold isO at e
  split at e
  · cases e
    have := hb.non; subst this
    refine ⟨.inl rfl, ?_⟩
    unfold isV
    cases a with
    | non => rw [ha.non]; rfl
    | bl _ => rw [ha.bl]; rfl
    | int _ => rw [ha.int]; rfl
    | str _ => rw [ha.str]; rfl
    | ty _ => rw [ha.ty]; rfl
    | glb _ => obtain ⟨a, _, rfl⟩ := ha.glb; rfl
    | tup _ => obtain ⟨p, _, rfl, _⟩ := ha.tup; rfl
    | lst _ => obtain ⟨p, _, rfl, _⟩ := ha.lst; rfl
    | scr _ => obtain ⟨p, _, rfl, _⟩ := ha.scr; rfl
    | dK _ => obtain ⟨p, _, rfl, _⟩ := ha.dK; rfl
    | dT _ => obtain ⟨p, _, rfl, _⟩ := ha.dT; rfl
  · cases e
    have := hb.bl; subst this
    refine ⟨.inr ⟨_, rfl⟩, ?_⟩
    unfold isV
    cases a with
    | non => rw [ha.non]; rfl
    | bl d => rw [ha.bl]; rename_i c; cases c <;> cases d <;> rfl
    | int _ => rw [ha.int]; rfl
    | str _ => rw [ha.str]; rfl
    | ty _ => rw [ha.ty]; rfl
    | glb _ => obtain ⟨a, _, rfl⟩ := ha.glb; rfl
    | tup _ => obtain ⟨p, _, rfl, _⟩ := ha.tup; rfl
    | lst _ => obtain ⟨p, _, rfl, _⟩ := ha.lst; rfl
    | scr _ => obtain ⟨p, _, rfl, _⟩ := ha.scr; rfl
    | dK _ => obtain ⟨p, _, rfl, _⟩ := ha.dK; rfl
    | dT _ => obtain ⟨p, _, rfl, _⟩ := ha.dT; rfl
  · cases e
theorem opv_is : OpV K mg (rIs false) isC := by
  intro B H x y a b res Q hB ha hb e0 q
  obtain ⟨c, e, rfl⟩ := oB_some e0
  obtain ⟨h1, h2⟩ := isO_ok ha hb e
  refine ⟨h1, ?_⟩
  rw [h2]; simpa using q (.bl c) H .bl
theorem opv_isn : OpV K mg (rIs true) isnC := by
  intro B H x y a b res Q hB ha hb e0 q
  obtain ⟨c0, e9, rfl⟩ := oB_some e0
  obtain ⟨c, e, rfl⟩ := Option.map_eq_some_iff.mp e9
  obtain ⟨h1, h2⟩ := isO_ok ha hb e
  refine ⟨h1, ?_⟩
  rw [h2]; simpa using q (.bl (!c)) H .bl
/-! in -/
def rInA (K : PySem.W.Frag) : R2 := fun x y H Q => (∃ i j, x = .str i ∧ y = .str j ∧ Q (.bl (inStr i j)) H) ∨ rInD K x y H Q ∨ rIn K false x y H Q
theorem op_inA (hu : X.A.units + 65 < cLine) : OpR X (compareOp .In) (rInA X.K) := op_in_str.or ((op_inD hu).or op_in_seq)
def rNiA (K : PySem.W.Frag) : R2 := fun x y H Q => (∃ i j, x = .str i ∧ y = .str j ∧ Q (.bl (!inStr i j)) H) ∨ rNotInD K x y H Q ∨ rIn K true x y H Q
theorem op_niA (hu : X.A.units + 65 < cLine) : OpR X (compareOp .NotIn) (rNiA X.K) := op_notin_str.or ((op_notInD hu).or op_notIn_seq)
def flatD (d : D) : Bool := match d with | .non => true | .bl _ => true | .int _ => true | .str _ => true | _ => false
theorem flat_rep {B : Addr → Prop} {H : Hp} {d : D} {v : V} (h : Rep K mg B H d v) (f : flatD d = true) : flatV v = true := by
  cases d <;> first | (simp [flatD] at f; done) | (unfold Rep at h; subst h; rfl)
theorem flat_eq {B : Addr → Prop} {H : Hp} {d e : D} {v u : V} (h : Rep K mg B H d v) (h' : Rep K mg B H e u) (f : flatD d = true) (f' : flatD e = true) : eqV v u = eqD d e := by
  cases d <;> cases e <;> first | (simp [flatD] at f; done) | (simp [flatD] at f'; done) | (unfold Rep at h h'; subst h; subst h'; first | rfl | (simp [eqV, eqD, pyD, PyData.eqv]))
theorem flat_all {B : Addr → Prop} {H : Hp} : ∀ {ds : List D} {vs : List V}, Reps K mg B H ds vs → ds.all flatD = true → vs.all flatV = true
  | [], _, h, _ => by unfold Reps at h; subst h; rfl
  | d :: ds, _, h, f => by
    unfold Reps at h; obtain ⟨v, r, rfl, h1, h2⟩ := h
    simp only [List.all_cons, Bool.and_eq_true] at f ⊢
    exact ⟨flat_rep h1 f.1, flat_all h2 f.2⟩
theorem flat_any {B : Addr → Prop} {H : Hp} {a : D} {x : V} (ha : Rep K mg B H a x) (fa : flatD a = true) : ∀ {ds : List D} {vs : List V}, Reps K mg B H ds vs → ds.all flatD = true → inV x vs = ds.any fun z => eqD z a
  | [], _, h, _ => by unfold Reps at h; subst h; rfl
  | d :: ds, _, h, f => by
    unfold Reps at h; obtain ⟨v, r, rfl, h1, h2⟩ := h
    simp only [List.all_cons, Bool.and_eq_true] at f
    have := flat_any ha fa h2 f.2
    unfold inV at this ⊢
    simp only [List.any_cons, this, flat_eq h1 ha f.1 fa]
theorem pyDs_map (ds : List D) : pyDs ds = ds.map pyD := by
  induction ds with
  | nil => rfl
  | cons d ds ih => simp [pyDs, ih]
theorem inO_cases {B : Addr → Prop} {H : Hp} {a b : D} {x y : V} {c : Bool} (ha : PRep K mg B H a x) (hb : PRep K mg B H b y) (e : inO a b = some c) : (∃ i j, x = .str i ∧ y = .str j ∧ c = inStr i j) ∨
    (∃ d ds, Dp K H x d ∧ Dp K H y (.list ds) ∧ SeqAt.shaped d = true ∧ SeqAt.shaped (.list ds) = true ∧ c = (ds.any fun z => PyData.eqv z d)) ∨
    (∃ p xs, y = .ref p ∧ (SqL K H p xs ∨ SqT K H p xs) ∧ flatV x = true ∧ xs.all flatV = true ∧ c = inV x xs) := by
  unfold inO at e
  split at e
  · split at e
    · cases e; exact .inl ⟨_, _, ha.str, hb.str, rfl⟩
    · cases e
  · split at e
    · rename_i ds h
      rw [Bool.and_eq_true] at h
      cases e
      refine .inr (.inl ⟨_, _, ha.dp h.1, hb.dp h.2, h.1, h.2, ?_⟩)
      rw [pyDs_map, List.any_map]; rfl
    · cases e
  · split at e
    · rename_i ds h
      cases e
      have h' : flatD a = true ∧ ds.all flatD = true := by
        have : (a :: ds).all flatD = true := h
        simpa only [List.all_cons, Bool.and_eq_true] using this
      have ra : Rep K mg B H a x := by
        rcases ha with ha | ⟨_, _, _, rfl, _⟩
        · exact ha
        · exact absurd h'.1 (by simp [flatD])
      obtain ⟨p, vs, rfl, t, r⟩ := hb.tup
      exact .inr (.inr ⟨p, vs, rfl, .inr t.sq, flat_rep ra h'.1, flat_all r h'.2, (flat_any ra h'.1 r h'.2).symm⟩)
    · cases e
  · cases e
theorem opv_in : OpV K mg (rInA K) inC := by
  intro B H x y a b res Q hB ha hb e0 q
  obtain ⟨c, e, rfl⟩ := oB_some e0
  have q' := q (.bl c) H .bl
  rcases inO_cases ha hb e with ⟨i, j, e1, e2, rfl⟩ | ⟨d, ds, e1, e2, e3, e4, rfl⟩ | ⟨p, xs, e1, e2, e3, e4, rfl⟩
  · exact .inl ⟨i, j, e1, e2, q'⟩
  · exact .inr (.inl ⟨d, ds, e1, e2, e3, e4, q'⟩)
  · exact .inr (.inr ⟨p, xs, e1, e2, e3, e4, q'⟩)
theorem opv_ni : OpV K mg (rNiA K) niC := by
  intro B H x y a b res Q hB ha hb e0 q
  obtain ⟨c0, e9, rfl⟩ := oB_some e0
  obtain ⟨c, e, rfl⟩ := Option.map_eq_some_iff.mp e9
  have q' := q (.bl (!c)) H .bl
  rcases inO_cases ha hb e with ⟨i, j, e1, e2, rfl⟩ | ⟨d, ds, e1, e2, e3, e4, rfl⟩ | ⟨p, xs, e1, e2, e3, e4, rfl⟩
  · exact .inl ⟨i, j, e1, e2, q'⟩
  · exact .inr (.inl ⟨d, ds, e1, e2, e3, e4, q'⟩)
  · exact .inr (.inr ⟨p, xs, e1, e2, e3, e4, q'⟩)
end
end DL
namespace DL
open PySem PySem.Spec PyProof.Rows L2
section
variable {K : PySem.W.Frag} {mg : Str → Option Value} {X : Cx} {G : Gm} {Wx : WX} {a b c e : Expr} {fa fb fc fe : EV} {pos : Pos}
theorem tE.mono {f : EV} {σ : L2.St} {H : Hp} {Q Q' : VK} (h : tE K mg G Wx f σ H Q) (q : ∀ v H, Q v H → Q' v H) : tE K mg G Wx f σ H Q' := by
  obtain ⟨P, A, L, s, hs, h⟩ := h
  exact ⟨P, A, L, s, hs, h.imp fun r s' _ p A' L' v H' a => q _ _ (p A' L' v H' a)⟩
/-! ### leaves -/
def eC (d : D) : EV := fun s => .ok (.pv d) s
def eV (i : Nat) : EV := fun s => match s.η[i]? with
  | some (.pv d) => .ok (.pv d) s
  | some (.ow _) => .ok (.vr i) s
  | some (.lc n) => .ok (.lc n) s
  | _ => .bad
theorem tE_pure {P : Addr → Prop} {A : List (Option Addr)} {L : List Addr} {s : S} {σ : L2.St} {H : Hp} {d : D} {v : V} {Q : VK} (hs : SR K mg G P A L s σ H) (h : Run K mg G Wx P A L H σ (.ok (.pv d) s) (PostE K mg G P A L H σ Q))
    (r : Rep K mg (Bd P A L) H d v) : Q v H := h A L v H (At.mk' hs (Step.refl A L H) hs.p0 (ResOk.same r))
theorem ed_int {i j pos} : ED X G Wx (.Constant (.int i) j pos) (eC (.int i)) := ⟨PE.imp pe_int fun σ H Q ⟨P, A, L, s, hs, h⟩ => tE_pure hs h (by unfold Rep; rfl)⟩
theorem ed_str {i j pos} : ED X G Wx (.Constant (.str i) j pos) (eC (.str i)) := ⟨PE.imp pe_str fun σ H Q ⟨P, A, L, s, hs, h⟩ => tE_pure hs h (by unfold Rep; rfl)⟩
theorem ed_bl {i j pos} : ED X G Wx (.Constant (.bool i) j pos) (eC (.bl i)) := ⟨PE.imp pe_bl fun σ H Q ⟨P, A, L, s, hs, h⟩ => tE_pure hs h (by unfold Rep; rfl)⟩
theorem ed_non {j pos} : ED X G Wx (.Constant .none j pos) (eC .non) := ⟨PE.imp pe_non fun σ H Q ⟨P, A, L, s, hs, h⟩ => tE_pure hs h (by unfold Rep; rfl)⟩
/-- a module's constant -/
theorem ed_glob {x : Str} {v : V} {u : Value} {d : D} (hg : Gl X x) (hm : X.mg x = some u) (r : RelV v u) (hr : ∀ B H, Rep X.K X.mg B H d v) (hd : (x == ("__debug__" : Str)) = false := by decide) : ED X G Wx (.Name x pos) (eC d) :=
  ⟨PE.imp (pe_glob hg hm r hd) fun σ H Q ⟨P, A, L, s, hs, h⟩ => tE_pure hs h (hr _ _)⟩
theorem ed_globI {x : Str} {i : Int} {t : Tok} (hg : Gl X x) (hm : X.mg x = some (.int i t)) (hd : (x == ("__debug__" : Str)) = false := by decide) : ED X G Wx (.Name x pos) (eC (.int i)) :=
  ed_glob (v := .int i) hg hm ⟨t, rfl⟩ (fun _ _ => by unfold Rep; rfl) hd
theorem ed_globS {x : Str} {i : Str} {t : Tok} (hg : Gl X x) (hm : X.mg x = some (.str i t)) (hd : (x == ("__debug__" : Str)) = false := by decide) : ED X G Wx (.Name x pos) (eC (.str i)) :=
  ed_glob (v := .str i) hg hm ⟨t, rfl⟩ (fun _ _ => by unfold Rep; rfl) hd
theorem ed_globR {x : Str} {f : Addr} (hg : Gl X x) (hm : X.mg x = some (.ref f)) (hd : (x == ("__debug__" : Str)) = false := by decide) : ED X G Wx (.Name x pos) (eC (.glb x)) :=
  ed_glob (v := .ref f) hg hm rfl (fun _ _ => by unfold Rep; exact ⟨f, hm, rfl⟩) hd
/-- a built-in class as a value -/
theorem ed_ty {x : Str} {n : String} (hg : Gl X x) (hm : X.mg x = none) (hv : bootBuiltins x = some (.type n)) (hn : x ≠ "__name__" := by decide) (hd : (x == ("__debug__" : Str)) = false := by decide) : ED X G Wx (.Name x pos) (eC (.ty n)) :=
  ⟨PE.imp (pe_bltn (v := .ty n) hg hm hv rfl hn hd) fun σ H Q ⟨P, A, L, s, hs, h⟩ => tE_pure hs h (by unfold Rep; rfl)⟩
theorem ed_v (i : Nat) {x : Str} (hN : X.N[i]? = some x := by rfl) (hv : Vis X.env.scope x := by first | exact Or.inl rfl | exact Or.inr (Or.inl rfl) | exact Or.inr (Or.inr rfl)) (hd : (x == ("__debug__" : Str)) = false := by decide)
    (hcd : (x == ("__classdict__" : Str)) = false := by decide) : ED X G Wx (.Name x pos) (eV i) := by
  refine ⟨PE.imp (pe_var hN hv hd hcd) fun σ H Q ⟨P, A, L, s, hs, h⟩ => ?_⟩
  unfold eV at h
  cases q : s.η[i]? with
  | none => rw [q] at h; exact h.elim
  | some y =>
    rw [q] at h
    obtain ⟨hi, ov, oa, e1, e2, so⟩ := hs.slot' q
    cases y with
    | no => exact h.elim
    | ex => exact h.elim
    | od _ => exact h.elim
    | pv d =>
      obtain ⟨_, v, rfl, r⟩ := so
      exact ⟨v, e1, tE_pure hs h r⟩
    | ow ds =>
      obtain ⟨p, vs, _, rfl, _, _⟩ := so
      exact ⟨_, e1, h A L _ H ⟨hs.lessP (Wi.pv nofun), e1, OwNew.of nofun, Step.refl _ _ _, hs.p0⟩⟩
    | lc n =>
      obtain ⟨_, p, e3, rfl⟩ := so
      exact ⟨_, e1, h A L _ H ⟨hs.lessP (Wi.pv nofun), ⟨p, e3, rfl⟩, OwNew.of nofun, Step.refl _ _ _, hs.p0⟩⟩
/-! ### operators -/
def fin1 (f : D → Option RV) (ra : RV) (s : S) : Rs RV := match rd ra s with
  | some a => match f a with
    | some r => .ok r s
    | none => .bad
  | none => .bad
def fin2 (f : Ob2) (ra rb : RV) (s : S) : Rs RV := match rd ra s, rd rb s with
  | some a, some b => match f a b with
    | some r => .ok r s
    | none => .bad
  | _, _ => .bad
def eOp1 (f : D → Option RV) (fa : EV) : EV := fun s => (fa s).bind fun ra s1 => fin1 f ra s1
def eOp2 (f : Ob2) (fa fb : EV) : EV := fun s => (fa s).bind fun ra s1 => (fb s1).bind fun rb s2 => fin2 f ra rb s2
def OpV1 (K : PySem.W.Frag) (mg : Str → Option Value) (r : V → Hp → VK → Prop) (f : D → Option RV) : Prop := ∀ (B : Addr → Prop) (H : Hp) (x : V) (a : D) (res : RV) (Q : VK), (∀ a, B a → ∃ o, H a = some o) → PRep K mg B H a x → f a = some res →
  (∀ v H', ResOk K mg B H H' res v → Q v H') → r x H Q
section
variable {P : Addr → Prop} {A A2 : List (Option Addr)} {s s2 : S} {σ : L2.St} {L L2 : List Addr} {H H2 : Hp} {ra rb : RV} {x y : V} {Q : VK}
theorem run_fin1 {r : V → Hp → VK → Prop} {f : D → Option RV} (hv : OpV1 K mg r f) (hs : SR K mg G P A2 L2 s2 σ H2) (p0 : ∀ a, P a → (∃ o, H a = some o) ∧ some a ∉ A) (oa : RVOk K mg G P A2 L2 σ H2 ra x) (st : Step A L H A2 L2 H2)
    (h : Run K mg G Wx P A L H σ (fin1 f ra s2) (PostE K mg G P A L H σ Q)) : r x H2 Q := by
  unfold fin1 at h
  cases e1 : rd ra s2 with
  | none => rw [e1] at h; exact h.elim
  | some a =>
    rw [e1] at h
    simp only at h
    cases e3 : f a with
    | none => rw [e3] at h; exact h.elim
    | some res =>
      rw [e3] at h
      exact hv _ H2 x a res Q hs.there (rd_ok hs oa e1) e3 fun v H' ro => h A2 L2 v H' (At.mk' hs st p0 ro)
theorem run_fin2 {r : R2} {f : Ob2} (hv : OpV K mg r f) (hs : SR K mg G P A2 L2 s2 σ H2) (p0 : ∀ a, P a → (∃ o, H a = some o) ∧ some a ∉ A) (oa : RVOk K mg G P A2 L2 σ H2 ra x) (ob : RVOk K mg G P A2 L2 σ H2 rb y) (st : Step A L H A2 L2 H2)
    (h : Run K mg G Wx P A L H σ (fin2 f ra rb s2) (PostE K mg G P A L H σ Q)) : r x y H2 Q := by
  unfold fin2 at h
  cases e1 : rd ra s2 with
  | none => rw [e1] at h; exact h.elim
  | some a =>
    cases e2 : rd rb s2 with
    | none => rw [e1, e2] at h; exact h.elim
    | some b =>
      rw [e1, e2] at h
      simp only at h
      cases e3 : f a b with
      | none => rw [e3] at h; exact h.elim
      | some res =>
        rw [e3] at h
        exact hv _ H2 x y a b res Q hs.there (rd_ok hs oa e1) (rd_ok hs ob e2) e3 fun v H' ro => h A2 L2 v H' (At.mk' hs st p0 ro)
end
theorem tE_op2 {r : R2} {f : Ob2} (hv : OpV K mg r f) {σ : L2.St} {H : Hp} {Q : VK} (h : tE K mg G Wx (eOp2 f fa fb) σ H Q) : tOp r (tE K mg G Wx fa) (tE K mg G Wx fb) σ H Q := by
  obtain ⟨P, A, L, s, hs, h⟩ := h
  exact (tE_two hs h).mono fun x H1 h1 => h1.mono fun y H2 ⟨A2, L2, s2, ra, rb, hs2, oa, ob, st, h2⟩ => run_fin2 hv hs2 hs.p0 oa ob st h2
theorem ed_op2 {op : Operator} {r : R2} {f : Ob2} (ho : OpR X (binaryOp op) r) (hv : OpV X.K X.mg r f) (ha : ED X G Wx a fa) (hb : ED X G Wx b fb) : ED X G Wx (.BinOp a op b pos) (eOp2 f fa fb) :=
  ⟨PE.imp (pe_op ho ha.pe hb.pe) fun σ H Q h => tE_op2 hv h⟩
theorem ed_add (ha : ED X G Wx a fa) (hb : ED X G Wx b fb) : ED X G Wx (.BinOp a .Add b pos) (eOp2 addD fa fb) := ed_op2 op_addA opv_add ha hb
theorem ed_sub (ha : ED X G Wx a fa) (hb : ED X G Wx b fb) : ED X G Wx (.BinOp a .Sub b pos) (eOp2 subD fa fb) := ed_op2 op_sub opv_sub ha hb
theorem ed_mul (ha : ED X G Wx a fa) (hb : ED X G Wx b fb) : ED X G Wx (.BinOp a .Mult b pos) (eOp2 mulD fa fb) := ed_op2 op_mulA opv_mul ha hb
theorem ed_fdiv (ha : ED X G Wx a fa) (hb : ED X G Wx b fb) : ED X G Wx (.BinOp a .FloorDiv b pos) (eOp2 fdivD fa fb) := ed_op2 op_fdivW opv_fdiv ha hb
theorem ed_mod (ha : ED X G Wx a fa) (hb : ED X G Wx b fb) : ED X G Wx (.BinOp a .Mod b pos) (eOp2 modD fa fb) := ed_op2 op_mod opv_mod ha hb
theorem ed_pow (ha : ED X G Wx a fa) (hb : ED X G Wx b fb) : ED X G Wx (.BinOp a .Pow b pos) (eOp2 powD fa fb) := ed_op2 op_pow opv_pow ha hb
theorem ed_shl (ha : ED X G Wx a fa) (hb : ED X G Wx b fb) : ED X G Wx (.BinOp a .LShift b pos) (eOp2 shlD fa fb) := ed_op2 op_shl opv_shl ha hb
theorem ed_shr (ha : ED X G Wx a fa) (hb : ED X G Wx b fb) : ED X G Wx (.BinOp a .RShift b pos) (eOp2 shrD fa fb) := ed_op2 op_shr opv_shr ha hb
theorem ed_and_ (ha : ED X G Wx a fa) (hb : ED X G Wx b fb) : ED X G Wx (.BinOp a .BitAnd b pos) (eOp2 andD fa fb) := ed_op2 op_and opv_and ha hb
theorem ed_or_ (ha : ED X G Wx a fa) (hb : ED X G Wx b fb) : ED X G Wx (.BinOp a .BitOr b pos) (eOp2 orD fa fb) := ed_op2 op_or opv_or ha hb
theorem ed_xor (ha : ED X G Wx a fa) (hb : ED X G Wx b fb) : ED X G Wx (.BinOp a .BitXor b pos) (eOp2 xorD fa fb) := ed_op2 op_xor opv_xor ha hb
def negD : D → Option RV
  | .int i => pI (-i)
  | _ => none
theorem ed_neg (ha : ED X G Wx a fa) : ED X G Wx (.UnaryOp .USub a pos) (eOp1 negD fa) :=
  ⟨PE.imp (pe_un un_neg ha.pe) fun σ H Q ⟨P, A, L, s, hs, h⟩ => (tE_one hs h).mono fun x H1 ⟨A1, L1, s1, r, at1, h1⟩ =>
    run_fin1 (f := negD) (r := rU fun i => .int (-i)) (fun B H x a res Q _ ha e q => by
      unfold negD at e
      split at e
      · cases e; exact ⟨_, ha.int, q _ _ .int⟩
      · cases e) (at1.sr.lessP fun _ z => .inl z) hs.p0 at1.ok at1.st h1⟩
/-! ### tests -/
def PostT (K : PySem.W.Frag) (mg : Str → Option Value) (G : Gm) (P : Addr → Prop) (A : List (Option Addr)) (L : List Addr) (H : Hp) (σ : L2.St) (Q : Bool → Hp → Prop) (b : Bool) (s' : S) : Prop :=
  ∀ A' L' H', SR K mg G P A' L' s' σ H' → Step A L H A' L' H' → Q b H'
abbrev TV := S → Rs Bool
def tT (K : PySem.W.Frag) (mg : Str → Option Value) (G : Gm) (Wx : WX) (f : TV) : TT := fun σ H Q => ∃ P A L s, SR K mg G P A L s σ H ∧ Run K mg G Wx P A L H σ (f s) (PostT K mg G P A L H σ Q)
structure TD (X : Cx) (G : Gm) (Wx : WX) (e : Expr) (f : TV) : Prop where
  pt : PT X e (tT X.K X.mg G Wx f)
structure WD (X : Cx) (G : Gm) (Wx : WX) (e : Expr) (f : TV) : Prop where
  pw : PW X e (tT X.K X.mg G Wx f)
theorem PT.imp {X : Cx} {e : Expr} {t t' : TT} (h : PT X e t) (q : ∀ σ H Q, t' σ H Q → t σ H Q) : PT X e t' := ⟨fun pins s σ H Q I hw => h.run pins s σ H Q I (q σ H Q hw)⟩
theorem PW.imp {X : Cx} {e : Expr} {t t' : TT} (h : PW X e t) (q : ∀ σ H Q, t' σ H Q → t σ H Q) : PW X e t' := ⟨fun w pins s σ H Q I hw => h.run w pins s σ H Q I (q σ H Q hw)⟩
theorem WD.td {f : TV} (h : WD X G Wx e f) : TD X G Wx e f := ⟨h.pw.pt⟩
def toB (r : RV) (s : S) : Rs Bool := match r with
  | .pv (.bl b) => .ok b s
  | _ => .bad
def truD : D → Option Bool
  | .non => some false
  | .bl b => some b
  | .int i => some (i != 0)
  | .str y => if y.length ≤ sizeLine then some ((y.length : Int) != 0) else none
  | .tup xs => some (!xs.isEmpty)
  | .lst xs => some (!xs.isEmpty)
  | .scr xs => some (!xs.isEmpty)
  | .dK kvs => some (!kvs.isEmpty)
  | _ => none
def finT (r : RV) (s : S) : Rs Bool := match rd r s with
  | some d => match truD d with
    | some b => .ok b s
    | none => .bad
  | none => .bad
def tOfB (fe : EV) : TV := fun s => (fe s).bind toB
def tOf (fe : EV) : TV := fun s => (fe s).bind finT
theorem Reps.isEmpty {B : Addr → Prop} {H : Hp} {ds : List D} {vs : List V} (r : Reps K mg B H ds vs) : ds.isEmpty = vs.isEmpty := by
  have := r.length
  cases ds <;> cases vs <;> simp_all
theorem RepK.length {B : Addr → Prop} {H : Hp} : ∀ {ds : List (Key × D)} {vs : List (Key × V)}, RepK K mg B H ds vs → ds.length = vs.length
  | [], _, h => by unfold RepK at h; rw [h]; rfl
  | (k, d) :: ds, _, h => by unfold RepK at h; obtain ⟨v, r, rfl, _, h2⟩ := h; simp [RepK.length h2]
theorem tru_ok' {B : Addr → Prop} {H : Hp} {d : D} {x : V} {b : Bool} (h : PRep K mg B H d x) (e : truD d = some b) : TruV K x H b := by
  cases d with
  | non => cases e; rw [h.non]; rfl
  | bl c => cases e; rw [h.bl]; rfl
  | int c => cases e; rw [h.int]; rfl
  | str y =>
    rw [h.str]
    have e : (if y.length ≤ sizeLine then some ((y.length : Int) != 0) else none) = some b := e
    split at e
    · cases e; exact ⟨by assumption, rfl⟩
    · cases e
  | tup xs =>
    cases e
    obtain ⟨p, vs, rfl, t, r⟩ := h.tup
    exact .inr (.inl ⟨vs, t.sq, by rw [r.isEmpty]⟩)
  | lst xs =>
    cases e
    obtain ⟨p, vs, rfl, t, r⟩ := h.lst
    exact .inl ⟨vs, SqL.of t, by rw [r.isEmpty]⟩
  | scr xs =>
    cases e
    obtain ⟨p, vs, rfl, t, r⟩ := h.scr
    exact .inl ⟨vs, t.sq, by rw [r.isEmpty]⟩
  | dK kvs =>
    cases e
    obtain ⟨p, vs, rfl, t, _, r⟩ := h.dK
    refine .inr (.inr ⟨vs, t, ?_⟩)
    have := r.length
    cases kvs <;> cases vs <;> simp_all
  | dT _ => cases e
  | glb _ => cases e
  | ty _ => cases e
theorem td_cmp {op : CmpOp} {r : R2} {f : Ob2} (ho : OpR X (compareOp op) r) (hv : OpV X.K X.mg r f) (ha : ED X G Wx a fa) (hb : ED X G Wx b fb) (hm : behindInMarks op b = false) : TD X G Wx (.Compare a [op] [b] pos) (tOfB (eOp2 f fa fb)) := by
  refine ⟨PT.imp (pt_cmpR ho ha.pe hb.pe hm) fun σ H Q ⟨P, A, L, s, hs, h⟩ => ?_⟩
  refine tE_op2 hv ⟨P, A, L, s, hs, (Run.bind h).imp fun r s' _ p A' L' v H' at' => ?_⟩
  unfold toB at p
  split at p
  · rename_i b0 _
    have e : v = .bl b0 := by have := at'.ok; unfold RVOk Rep at this; exact this
    exact ⟨b0, e, p A' L' H' (at'.sr.lessP fun _ z => .inl z) at'.st⟩
  · exact p.elim
theorem ed_cmp {op : CmpOp} {r : R2} {f : Ob2} (ho : OpR X (compareOp op) r) (hv : OpV X.K X.mg r f) (ha : ED X G Wx a fa) (hb : ED X G Wx b fb) (hm : behindInMarks op b = false) : ED X G Wx (.Compare a [op] [b] pos) (eOp2 f fa fb) :=
  ⟨PE.imp (pe_cmpR ho ha.pe hb.pe hm) fun σ H Q h => tE_op2 hv h⟩
/-- any expression as a test -/
theorem td_val (he : ED X G Wx e fe) (hi : ∀ whole, isTrue e X.env whole = (do let v ← whole; standAt e.pos; holding [v] (truthy v)) := by intro _; rfl) : TD X G Wx e (tOf fe) := by
  refine ⟨PT.imp (pt_truth he.pe hi) fun σ H Q ⟨P, A, L, s, hs, h⟩ => ?_⟩
  refine ⟨P, A, L, s, hs, (Run.bind h).imp fun r s' _ p A' L' v H' at' => ?_⟩
  unfold finT at p
  have sr := at'.sr.lessP (P := P) fun _ z => .inl z
  cases e1 : rd r s' with
  | none => rw [e1] at p; exact p.elim
  | some d =>
    rw [e1] at p
    simp only at p
    cases e2 : truD d with
    | none => rw [e2] at p; exact p.elim
    | some b =>
      rw [e2] at p
      exact ⟨b, tru_ok' (rd_ok sr at'.ok e1) e2, p A' L' H' sr at'.st⟩
def tAndD (f g : TV) : TV := fun s => (f s).bind fun b s1 => if b = true then g s1 else .ok false s1
def tOrD (f g : TV) : TV := fun s => (f s).bind fun b s1 => if b = true then .ok true s1 else g s1
def tNotD (f : TV) : TV := fun s => (f s).bind fun b s1 => .ok (!b) s1
variable {f g : TV} {rest : List Expr}
theorem Run.shift {α : Type} {P : Addr → Prop} {A A1 : List (Option Addr)} {L L1 : List Addr} {H H1 : Hp} {σ : L2.St} {x : Rs α} {Qf Qf' : α → S → Prop} (h : Run K mg G Wx P A L H σ x Qf) (st : Step A L H A1 L1 H1) (q : ∀ a s', x = .ok a s' → Qf a s' → Qf' a s') :
    Run K mg G Wx P A1 L1 H1 σ x Qf' := (h.on st fun _ z => z).imp q
theorem PostT.shift {P : Addr → Prop} {A A1 : List (Option Addr)} {L L1 : List Addr} {H H1 : Hp} {σ : L2.St} {Q : Bool → Hp → Prop} {b : Bool} {s : S} (h : PostT K mg G P A L H σ Q b s) (st : Step A L H A1 L1 H1) : PostT K mg G P A1 L1 H1 σ Q b s :=
  fun A' L' H' hs st' => h A' L' H' hs (st.trans st')
theorem tT_and {σ : L2.St} {H : Hp} {Q : Bool → Hp → Prop} (h : tT K mg G Wx (tAndD f g) σ H Q) : tAnd (tT K mg G Wx f) (tT K mg G Wx g) σ H Q := by
  obtain ⟨P, A, L, s, hs, h⟩ := h
  refine ⟨P, A, L, s, hs, (Run.bind h).imp fun b s' _ p A' L' H' hs' st => ?_⟩
  cases b with
  | true => rw [if_pos rfl] at p ⊢; exact ⟨P, A', L', s', hs', p.shift st fun b s2 _ q => q.shift st⟩
  | false => rw [if_neg (by decide)] at p ⊢; exact p A' L' H' hs' st
theorem tT_or {σ : L2.St} {H : Hp} {Q : Bool → Hp → Prop} (h : tT K mg G Wx (tOrD f g) σ H Q) : tOr (tT K mg G Wx f) (tT K mg G Wx g) σ H Q := by
  obtain ⟨P, A, L, s, hs, h⟩ := h
  refine ⟨P, A, L, s, hs, (Run.bind h).imp fun b s' _ p A' L' H' hs' st => ?_⟩
  cases b with
  | true => rw [if_pos rfl] at p ⊢; exact p A' L' H' hs' st
  | false => rw [if_neg (by decide)] at p ⊢; exact ⟨P, A', L', s', hs', p.shift st fun b s2 _ q => q.shift st⟩
theorem wd_and1 (ha : TD X G Wx a f) : WD X G Wx (.BoolOp .And [a] pos) f := ⟨pw_and1 ha.pt⟩
theorem wd_or1 (ha : TD X G Wx a f) : WD X G Wx (.BoolOp .Or [a] pos) f := ⟨pw_or1 ha.pt⟩
theorem wd_and (ha : TD X G Wx a f) (hb : WD X G Wx (.BoolOp .And (b :: rest) pos) g) : WD X G Wx (.BoolOp .And (a :: b :: rest) pos) (tAndD f g) := ⟨PW.imp (pw_and ha.pt hb.pw) fun _ _ _ h => tT_and h⟩
theorem wd_or (ha : TD X G Wx a f) (hb : WD X G Wx (.BoolOp .Or (b :: rest) pos) g) : WD X G Wx (.BoolOp .Or (a :: b :: rest) pos) (tOrD f g) := ⟨PW.imp (pw_or ha.pt hb.pw) fun _ _ _ h => tT_or h⟩
theorem td_not (ha : TD X G Wx a f) : TD X G Wx (.UnaryOp .Not a pos) (tNotD f) :=
  ⟨PT.imp (pt_not ha.pt) fun σ H Q ⟨P, A, L, s, hs, h⟩ => ⟨P, A, L, s, hs, (Run.bind h).imp fun b s' _ p A' L' H' hs' st => p A' L' H' hs' st⟩⟩
/-! ### and, or, not as values; a if t else b -/
def eAndD (fa fb : EV) : EV := fun s => (fa s).bind fun r s1 => (finT r s1).bind fun b s2 => if b = true then fb s2 else .ok r s2
def eOrD (fa fb : EV) : EV := fun s => (fa s).bind fun r s1 => (finT r s1).bind fun b s2 => if b = true then .ok r s2 else fb s2
def notD (d : D) : Option RV := (truD d).map fun b => .pv (.bl (!b))
def eIfD (t : TV) (fa fb : EV) : EV := fun s => (t s).bind fun b s1 => if b = true then fa s1 else fb s1
theorem PostE.shift {P : Addr → Prop} {A A1 : List (Option Addr)} {L L1 : List Addr} {H H1 : Hp} {σ : L2.St} {Q : VK} {r : RV} {s : S} (h : PostE K mg G P A L H σ Q r s) (st : Step A L H A1 L1 H1) (p0 : ∀ a, P a → (∃ o, H a = some o) ∧ some a ∉ A) : PostE K mg G P A1 L1 H1 σ Q r s :=
  fun A' L' v H' a => h A' L' v H' ⟨a.sr, a.ok, (fun b z => by
    rcases a.new b z with q | q
    · rcases st.new b (.inl q) with w | w | w
      · exact .inl w
      · exfalso
        obtain ⟨i, hi, rfl⟩ := List.getElem_of_mem w
        obtain ⟨⟨ds, rfl⟩, rfl⟩ := z
        obtain ⟨b, vs, e1, _, _, _, e5, _⟩ := a.ok
        cases e1
        obtain ⟨r1, e2⟩ := (st.trans a.st).pre
        exact e5 (by rw [e2]; exact List.mem_append_left _ w)
      · exact .inr w
    · cases e : H b with
      | none => exact .inr rfl
      | some o =>
        obtain ⟨o', e'⟩ := st.there b o e
        rw [q] at e'; cases e'), st.trans a.st, p0⟩
theorem run_finT {P : Addr → Prop} {A A1 : List (Option Addr)} {L L1 : List Addr} {s1 : S} {σ : L2.St} {H H1 : Hp} {r : RV} {v : V} {α : Type} {k : Bool → S → Rs α} {Qf : α → S → Prop} (hs : SR K mg G P A1 L1 s1 σ H1) (ok : RVOk K mg G P A1 L1 σ H1 r v)
    (h : Run K mg G Wx P A L H σ ((finT r s1).bind k) Qf) : ∃ b, TruV K v H1 b ∧ Run K mg G Wx P A L H σ (k b s1) Qf := by
  unfold finT at h
  cases e1 : rd r s1 with
  | none => rw [e1] at h; exact h.elim
  | some d =>
    rw [e1] at h
    simp only at h
    cases e2 : truD d with
    | none => rw [e2] at h; exact h.elim
    | some b =>
      rw [e2] at h
      exact ⟨b, tru_ok' (rd_ok hs ok e1) e2, h⟩
theorem At.weak {P : Addr → Prop} {A A1 : List (Option Addr)} {L L1 : List Addr} {s1 : S} {σ : L2.St} {H H1 : Hp} {r : RV} {v : V} (a : At K mg G P A L H σ A1 L1 s1 H1 r v) : SR K mg G P A1 L1 s1 σ H1 := a.sr.lessP fun _ z => .inl z
theorem ed_andV (ha : ED X G Wx a fa) (hb : ED X G Wx (.BoolOp .And (b :: rest) pos) fb) : ED X G Wx (.BoolOp .And (a :: b :: rest) pos) (eAndD fa fb) := by
  refine ⟨PE.imp (pe_andT ha.pe hb.pe) fun σ H Q ⟨P, A, L, s, hs, h⟩ => (tE_one hs h).mono fun x H1 ⟨A1, L1, s1, r, a1, h1⟩ => ?_⟩
  obtain ⟨b, t, h2⟩ := run_finT a1.weak a1.ok h1
  refine ⟨b, t, ?_⟩
  cases b with
  | true => rw [if_pos rfl] at h2 ⊢; exact ⟨P, A1, L1, s1, a1.weak, h2.shift a1.st fun r s2 _ q => q.shift a1.st hs.p0⟩
  | false => rw [if_neg (by decide)] at h2 ⊢; exact h2 A1 L1 x H1 a1
theorem ed_orV (ha : ED X G Wx a fa) (hb : ED X G Wx (.BoolOp .Or (b :: rest) pos) fb) : ED X G Wx (.BoolOp .Or (a :: b :: rest) pos) (eOrD fa fb) := by
  refine ⟨PE.imp (pe_orT ha.pe hb.pe) fun σ H Q ⟨P, A, L, s, hs, h⟩ => (tE_one hs h).mono fun x H1 ⟨A1, L1, s1, r, a1, h1⟩ => ?_⟩
  obtain ⟨b, t, h2⟩ := run_finT a1.weak a1.ok h1
  refine ⟨b, t, ?_⟩
  cases b with
  | true => rw [if_pos rfl] at h2 ⊢; exact h2 A1 L1 x H1 a1
  | false => rw [if_neg (by decide)] at h2 ⊢; exact ⟨P, A1, L1, s1, a1.weak, h2.shift a1.st fun r s2 _ q => q.shift a1.st hs.p0⟩
theorem ed_oneV {op : BoolOp} (ha : ED X G Wx a fa) : ED X G Wx (.BoolOp op [a] pos) fa := ⟨pe_one ha.pe⟩
theorem ed_notV (ha : ED X G Wx a fa) : ED X G Wx (.UnaryOp .Not a pos) (eOp1 notD fa) := by
  refine ⟨PE.imp (pe_notT ha.pe) fun σ H Q ⟨P, A, L, s, hs, h⟩ => (tE_one hs h).mono fun x H1 ⟨A1, L1, s1, r, a1, h1⟩ => ?_⟩
  refine run_fin1 (f := notD) (r := fun x H1 Q => ∃ k, TruV X.K x H1 k ∧ Q (.bl (!k)) H1) (fun B H x a res Q _ ha e q => ?_) a1.weak hs.p0 a1.ok a1.st h1
  obtain ⟨b, e1, rfl⟩ := Option.map_eq_some_iff.mp e
  exact ⟨b, tru_ok' ha e1, q _ _ .bl⟩
theorem ed_ifE (hc : TD X G Wx c f) (ha : ED X G Wx a fa) (hb : ED X G Wx b fb) : ED X G Wx (.IfExp c a b pos) (eIfD f fa fb) := by
  refine ⟨PE.imp (pe_ifExp hc.pt ha.pe hb.pe) fun σ H Q ⟨P, A, L, s, hs, h⟩ => ⟨P, A, L, s, hs, (Run.bind h).imp fun b s' _ p A' L' H' hs' st => ?_⟩⟩
  cases b with
  | true => rw [if_pos rfl] at p ⊢; exact ⟨P, A', L', s', hs', p.shift st fun r s2 _ q => q.shift st hs.p0⟩
  | false => rw [if_neg (by decide)] at p ⊢; exact ⟨P, A', L', s', hs', p.shift st fun r s2 _ q => q.shift st hs.p0⟩
end
end DL
namespace DL
open PySem PySem.Spec PyProof.Rows L2
section
variable {K : PySem.W.Frag} {mg : Str → Option Value} {X : Cx} {G : Gm} {Wx : WX} {a b c e : Expr} {es : List Expr} {fa fb fc fe : EV} {pos : Pos}
/-! ### arguments -/
abbrev AV := S → Rs (List RV)
def ArgOk (K : PySem.W.Frag) (mg : Str → Option Value) (P : Addr → Prop) (A : List (Option Addr)) (L : List Addr) (H : Hp) : RV → V → Prop
  | .pv d, v => Rep K mg (Bd P A L) H d v
  | .lc n, v => ∃ a, L[n]? = some a ∧ v = .ref a
  | _, _ => False
def ArgsOk (K : PySem.W.Frag) (mg : Str → Option Value) (P : Addr → Prop) (A : List (Option Addr)) (L : List Addr) (H : Hp) : List RV → List V → Prop
  | [], vs => vs = []
  | r :: rs, vs => ∃ v t, vs = v :: t ∧ ArgOk K mg P A L H r v ∧ ArgsOk K mg P A L H rs t
section
variable {P P' : Addr → Prop} {A A' : List (Option Addr)} {L L' : List Addr} {H H' : Hp}
theorem ArgOk.step {r : RV} {v : V} (h : ArgOk K mg P A L H r v) (x : Step A L H A' L' H') : ArgOk K mg P A' L' H' r v := by
  cases r with
  | pv d => exact Rep.step h x
  | lc n => obtain ⟨a, h1, h2⟩ := h; exact ⟨a, x.loc h1, h2⟩
  | ow ds => exact h.elim
  | vr i => exact h.elim
theorem ArgsOk.length : ∀ {rs : List RV} {vs : List V}, ArgsOk K mg P A L H rs vs → rs.length = vs.length
  | [], _, h => by unfold ArgsOk at h; rw [h]; rfl
  | r :: rs, _, h => by unfold ArgsOk at h; obtain ⟨v, t, rfl, _, h2⟩ := h; simp [ArgsOk.length h2]
theorem ArgsOk.step : ∀ {rs : List RV} {vs : List V}, ArgsOk K mg P A L H rs vs → Step A L H A' L' H' → ArgsOk K mg P A' L' H' rs vs
  | [], _, h, _ => by unfold ArgsOk at h ⊢; exact h
  | r :: rs, _, h, x => by unfold ArgsOk at h ⊢; obtain ⟨v, t, e, h1, h2⟩ := h; exact ⟨v, t, e, h1.step x, h2.step x⟩
end
def PostA (K : PySem.W.Frag) (mg : Str → Option Value) (G : Gm) (P : Addr → Prop) (A : List (Option Addr)) (L : List Addr) (H : Hp) (σ : L2.St) (Q : List V → Hp → Prop) (rs : List RV) (s' : S) : Prop :=
  ∀ A' L' vs H', SR K mg G P A' L' s' σ H' → ArgsOk K mg P A' L' H' rs vs → Step A L H A' L' H' → Q vs H'
def tA (K : PySem.W.Frag) (mg : Str → Option Value) (G : Gm) (Wx : WX) (f : AV) : TA := fun σ H Q => ∃ P A L s, SR K mg G P A L s σ H ∧ Run K mg G Wx P A L H σ (f s) (PostA K mg G P A L H σ Q)
structure AD (X : Cx) (G : Gm) (Wx : WX) (es : List Expr) (f : AV) : Prop where
  pa : PA X es (tA X.K X.mg G Wx f)
theorem PA.imp {X : Cx} {e : List Expr} {t t' : TA} (h : PA X e t) (q : ∀ σ H Q, t' σ H Q → t σ H Q) : PA X e t' := ⟨fun pos pins s σ H Q I hw => h.run pos pins s σ H Q I (q σ H Q hw)⟩
/-- handed on: what it owns is frozen -/
def argR (r : RV) (s : S) : Rs RV := match keepR r s with
  | some (.pv d, s') => .ok (.pv d) s'
  | some (.ow ds, s') => .ok (.pv (.lst ds)) s'
  | some (.lc n, s') => .ok (.lc n) s'
  | _ => .bad
def aNil : AV := fun s => .ok [] s
def aCons (f : EV) (g : AV) : AV := fun s => (f s).bind fun r s1 => (argR r s1).bind fun r' s2 => (g s2).bind fun rs s3 => .ok (r' :: rs) s3
theorem run_argR {P : Addr → Prop} {A A1 : List (Option Addr)} {L L1 : List Addr} {s1 : S} {σ : L2.St} {H H1 : Hp} {r : RV} {v : V} {α : Type} {k : RV → S → Rs α} {Qf : α → S → Prop} (at1 : At K mg G P A L H σ A1 L1 s1 H1 r v)
    (h : Run K mg G Wx P A L H σ ((argR r s1).bind k) Qf) : ∃ A2 s2 r2, SR K mg G P A2 L1 s2 σ H1 ∧ ArgOk K mg P A2 L1 H1 r2 v ∧ Step A L H A2 L1 H1 ∧ Run K mg G Wx P A L H σ (k r2 s2) Qf := by
  unfold argR at h
  split at h
  · rename_i d s' e
    obtain ⟨_, A2, a2⟩ := at1.keep e
    exact ⟨A2, s', .pv d, a2.weak, a2.ok, a2.st, h⟩
  · rename_i ds s' e
    have e2 : fz r s1 = some (.lst ds, s') := by unfold fz; rw [e]
    obtain ⟨A2, sr, rp, st⟩ := at1.frz e2
    exact ⟨A2, s', .pv (.lst ds), sr, rp, st, h⟩
  · rename_i n s' e
    obtain ⟨_, A2, a2⟩ := at1.keep e
    exact ⟨A2, s', .lc n, a2.weak, a2.ok, a2.st, h⟩
  · exact h.elim
theorem ad_nil : AD X G Wx [] aNil := ⟨PA.imp pa_nil fun σ H Q ⟨P, A, L, s, hs, h⟩ => h A L [] H hs (by unfold ArgsOk; rfl) (Step.refl A L H)⟩
theorem ad_cons {g : AV} (he : ED X G Wx e fe) (hr : AD X G Wx es g) (hs : starEach (e :: es) X.env = (false, eval e X.env) :: starEach es X.env := by rfl) : AD X G Wx (e :: es) (aCons fe g) := by
  refine ⟨PA.imp (pa_cons he.pe hr.pa hs) fun σ H Q ⟨P, A, L, s, hs, h⟩ => (tE_one hs h).mono fun x H1 ⟨A1, L1, s1, r, a1, h1⟩ => ?_⟩
  obtain ⟨A2, s2, r2, sr, ok, st, h2⟩ := run_argR a1 h1
  exact ⟨P, A2, L1, s2, sr, (Run.bind h2).shift st fun rs s3 _ q A3 L3 vs H3 sr3 ok3 st3 => q A3 L3 (x :: vs) H3 sr3 (by unfold ArgsOk; exact ⟨x, vs, rfl, ok.step st3, ok3⟩) (st.trans st3)⟩
/-! ### displays -/
def rvDs : List RV → Option (List D)
  | [] => some []
  | .pv d :: rs => (rvDs rs).map fun ds => d :: ds
  | _ => none
theorem ArgsOk.reps {P : Addr → Prop} {A : List (Option Addr)} {L : List Addr} {H : Hp} : ∀ {rs : List RV} {vs : List V} {ds : List D}, ArgsOk K mg P A L H rs vs → rvDs rs = some ds → Reps K mg (Bd P A L) H ds vs
  | [], vs, ds, h, e => by unfold rvDs at e; cases e; unfold ArgsOk at h; subst h; exact Reps.nil
  | .pv d :: rs, vs, ds, h, e => by
    unfold rvDs at e
    obtain ⟨t, e1, rfl⟩ := Option.map_eq_some_iff.mp e
    unfold ArgsOk at h
    obtain ⟨v, r, rfl, h1, h2⟩ := h
    exact Reps.cons h1 (ArgsOk.reps h2 e1)
  | .ow _ :: rs, _, _, _, e | .vr _ :: rs, _, _, _, e | .lc _ :: rs, _, _, _, e => by unfold rvDs at e; cases e
def dspR (k : List D → RV) (rs : List RV) (s : S) : Rs RV := match rvDs rs with
  | some ds => if ds.length ≤ sizeLine then .ok (k ds) s else .bad
  | none => .bad
def eTup (f : AV) : EV := fun s => (f s).bind (dspR fun ds => .pv (.tup ds))
def eLst (f : AV) : EV := fun s => (f s).bind (dspR .ow)
theorem run_dsp {P : Addr → Prop} {A A1 : List (Option Addr)} {L L1 : List Addr} {s1 : S} {σ : L2.St} {H H1 : Hp} {rs : List RV} {vs : List V} {Qf : RV → S → Prop} {k : List D → RV} (ok : ArgsOk K mg P A1 L1 H1 rs vs)
    (h : Run K mg G Wx P A L H σ (dspR k rs s1) Qf) : ∃ ds, Reps K mg (Bd P A1 L1) H1 ds vs ∧ vs.length ≤ sizeLine ∧ Qf (k ds) s1 := by
  unfold dspR at h
  split at h
  · rename_i ds e
    split at h
    · rename_i z
      have r := ok.reps e
      exact ⟨ds, r, by rw [← r.length]; exact z, h⟩
    · exact h.elim
  · exact h.elim
theorem ed_tup {f : AV} {x1} (h : AD X G Wx es f) : ED X G Wx (.Tuple es x1 pos) (eTup f) := by
  refine ⟨PE.imp (pe_tup h.pa) fun σ H Q ⟨P, A, L, s, hs, h⟩ => ⟨P, A, L, s, hs, (Run.bind h).imp fun rs s1 _ q A1 L1 vs H1 sr ok st => ?_⟩⟩
  obtain ⟨ds, r, z, q⟩ := run_dsp ok q
  exact ⟨z, fun p hp => q A1 L1 _ _ (At.mk' sr st hs.p0 (ResOk.tup sr.there hp r))⟩
theorem ed_lst {f : AV} (h : AD X G Wx es f) : ED X G Wx (.List es pos) (eLst f) := by
  refine ⟨PE.imp (pe_lst h.pa) fun σ H Q ⟨P, A, L, s, hs, h⟩ => ⟨P, A, L, s, hs, (Run.bind h).imp fun rs s1 _ q A1 L1 vs H1 sr ok st => ?_⟩⟩
  obtain ⟨ds, r, z, q⟩ := run_dsp ok q
  exact ⟨z, fun p hp => q A1 L1 _ _ (At.mk' sr st hs.p0 (ResOk.lst hp r))⟩
/-! ### built-ins of one argument, looked at -/
theorem tE_op1 {r : V → Hp → VK → Prop} {f : D → Option RV} (hv : OpV1 K mg r f) {σ : L2.St} {H : Hp} {Q : VK} (h : tE K mg G Wx (eOp1 f fa) σ H Q) : tE K mg G Wx fa σ H fun x H1 => r x H1 Q := by
  obtain ⟨P, A, L, s, hs, h⟩ := h
  exact (tE_one hs h).mono fun x H1 ⟨A1, L1, s1, r, a1, h1⟩ => run_fin1 hv a1.weak hs.p0 a1.ok a1.st h1
theorem ed_b1 {id : String} {x : Str} {p : Pos} {r : List V → Hp → VK → Prop} {f : D → Option RV} (hc : CallR X (.builtin id) r) (hv : OpV1 X.K X.mg (fun v => r [v]) f) (hg : Gl X x) (hm : X.mg x = none) (hb : bootBuiltins x = some (.builtin id)) (ha : ED X G Wx e fe)
    (hn : x ≠ "__name__" := by decide) (hdb : (x == ("__debug__" : Str)) = false := by decide) (he : starEach [e] X.env = (false, eval e X.env) :: starEach [] X.env := by rfl) : ED X G Wx (.Call (.Name x p) [e] [] pos) (eOp1 f fe) :=
  ⟨PE.imp (pe_callB hc hg hm hb (pa_cons ha.pe pa_nil he) hn hdb he rfl) fun σ H Q h => tE_op1 hv h⟩
theorem ed_t1 {T : String} {x : Str} {p : Pos} {r : List V → Hp → VK → Prop} {f : D → Option RV} (hc : CallR X (.type T) r) (hv : OpV1 X.K X.mg (fun v => r [v]) f) (hg : Gl X x) (hm : X.mg x = none) (hb : bootBuiltins x = some (.type T)) (ha : ED X G Wx e fe)
    (hn : x ≠ "__name__" := by decide) (hdb : (x == ("__debug__" : Str)) = false := by decide) (he : starEach [e] X.env = (false, eval e X.env) :: starEach [] X.env := by rfl) : ED X G Wx (.Call (.Name x p) [e] [] pos) (eOp1 f fe) :=
  ⟨PE.imp (pe_callTy hc hg hm hb (pa_cons ha.pe pa_nil he) hn hdb he rfl) fun σ H Q h => tE_op1 hv h⟩
theorem ed_b2 {id : String} {x : Str} {p : Pos} {r : List V → Hp → VK → Prop} {f : Ob2} (hc : CallR X (.builtin id) r) (hv : OpV X.K X.mg (fun v u => r [v, u]) f) (hg : Gl X x) (hm : X.mg x = none) (hb : bootBuiltins x = some (.builtin id)) (ha : ED X G Wx a fa) (hb' : ED X G Wx b fb)
    (hn : x ≠ "__name__" := by decide) (hdb : (x == ("__debug__" : Str)) = false := by decide) (he : starEach [a, b] X.env = (false, eval a X.env) :: starEach [b] X.env := by rfl) (he2 : starEach [b] X.env = (false, eval b X.env) :: starEach [] X.env := by rfl)
    (hpl : (backTo pos (starEach [b] X.env)).any (·.1) = false := by rfl) : ED X G Wx (.Call (.Name x p) [a, b] [] pos) (eOp2 f fa fb) :=
  ⟨PE.imp (pe_callB hc hg hm hb (pa_cons ha.pe (pa_cons hb'.pe pa_nil he2) he) hn hdb he hpl) fun σ H Q h => tE_op2 (r := fun v u => r [v, u]) hv h⟩
def lenD : D → Option RV
  | .str y => gd (decide (y.length ≤ sizeLine)) (pI y.length)
  | .tup xs => pI xs.length
  | .lst xs => pI xs.length
  | .scr xs => pI xs.length
  | .dK kvs => pI kvs.length
  | _ => none
def absD : D → Option RV
  | .int i => pI (if i < 0 then -i else i)
  | _ => none
def intD : D → Option RV
  | .int i => pI i
  | .bl k => pI (if k then 1 else 0)
  | _ => none
def boolD : D → Option RV
  | .int i => pB (i != 0)
  | .bl k => pB k
  | _ => none
/-- a list of them -/
def seqD : D → Option (List D)
  | .tup xs => some xs
  | .lst xs => some xs
  | .scr xs => some xs
  | _ => none
def listD (d : D) : Option RV := (seqD d).map .ow
def tupleD : D → Option RV
  | .tup xs => some (.pv (.tup xs))
  | .lst xs => some (.pv (.tup xs))
  | .scr xs => some (.pv (.tup xs))
  | _ => none
theorem PRep.seq {B : Addr → Prop} {H : Hp} {d : D} {v : V} {xs : List D} (h : PRep K mg B H d v) (e : seqD d = some xs) : ∃ p vs, v = .ref p ∧ (SqL K H p vs ∨ SqT K H p vs) ∧ Reps K mg B H xs vs := by
  cases d with
  | tup _ => cases e; obtain ⟨p, vs, rfl, t, r⟩ := h.tup; exact ⟨p, vs, rfl, .inr t.sq, r⟩
  | lst _ => cases e; obtain ⟨p, vs, rfl, t, r⟩ := h.lst; exact ⟨p, vs, rfl, .inl (SqL.of t), r⟩
  | scr _ => cases e; obtain ⟨p, vs, rfl, t, r⟩ := h.scr; exact ⟨p, vs, rfl, .inl t.sq, r⟩
  | _ => cases e
def rLenA (K : PySem.W.Frag) : List V → Hp → VK → Prop := fun xs H Q => (∃ p ys, xs = [.ref p] ∧ (SqL K H p ys ∨ SqT K H p ys) ∧ Q (.int ys.length) H) ∨ (∃ z, xs = [.str z] ∧ z.length ≤ sizeLine ∧ Q (.int z.length) H) ∨ ∃ a kvs, xs = [V.ref a] ∧ H a = some (.dK kvs) ∧ Q (.int kvs.length) H
theorem call_lenA : CallR X (.builtin "len") (rLenA X.K) := call_len_seq.or (call_len_str.or call_lenD)
theorem opv_len : OpV1 K mg (fun v => rLenA K [v]) lenD := by
  intro B H x a res Q hB ha e q
  have sq : ∀ {xs : List D}, seqD a = some xs → res = .pv (.int xs.length) → rLenA K [x] H Q := fun {xs} e1 e2 => by
    subst e2
    obtain ⟨p, vs, rfl, t, r⟩ := ha.seq e1
    exact .inl ⟨p, vs, rfl, t, by have := q (.int xs.length) H .int; rw [r.length] at this; exact this⟩
  cases a with
  | str y =>
    have e : gd (decide (y.length ≤ sizeLine)) (pI y.length) = some res := e
    obtain ⟨c, e⟩ := gd_some e
    cases e
    exact .inr (.inl ⟨y, by rw [ha.str], of_decide_eq_true c, q _ _ .int⟩)
  | tup xs => cases e; exact sq rfl rfl
  | lst xs => cases e; exact sq rfl rfl
  | scr xs => cases e; exact sq rfl rfl
  | dK kvs =>
    cases e
    obtain ⟨p, ws, rfl, t, _, r⟩ := ha.dK
    exact .inr (.inr ⟨p, ws, rfl, t, by have := q (.int kvs.length) H .int; rw [r.length] at this; exact this⟩)
  | _ => cases e
theorem opv_abs : OpV1 K mg (fun v H Q => ∃ i, [v] = [V.int i] ∧ Q (.int (if i < 0 then -i else i)) H) absD := by
  intro B H x a res Q hB ha e q
  unfold absD at e
  split at e
  · cases e; exact ⟨_, by rw [ha.int], q _ _ .int⟩
  · cases e
theorem opv_int1 : OpV1 K mg (fun v H Q => (∃ i, [v] = [V.int i] ∧ Q (.int i) H) ∨ ∃ k, [v] = [V.bl k] ∧ Q (.int (if k then 1 else 0)) H) intD := by
  intro B H x a res Q hB ha e q
  unfold intD at e
  split at e
  · cases e; exact .inl ⟨_, by rw [ha.int], q _ _ .int⟩
  · cases e; exact .inr ⟨_, by rw [ha.bl], q _ _ .int⟩
  · cases e
theorem opv_bool1 : OpV1 K mg (fun v H Q => (∃ i, [v] = [V.int i] ∧ Q (.bl (i != 0)) H) ∨ ∃ k, [v] = [V.bl k] ∧ Q (.bl k) H) boolD := by
  intro B H x a res Q hB ha e q
  unfold boolD at e
  split at e
  · cases e; exact .inl ⟨_, by rw [ha.int], q _ _ .bl⟩
  · cases e; exact .inr ⟨_, by rw [ha.bl], q _ _ .bl⟩
  · cases e
theorem opv_list : OpV1 K mg (fun v H Q => ∃ p ys, [v] = [V.ref p] ∧ (SqL K H p ys ∨ SqT K H p ys) ∧ ∀ l, H l = none → Q (.ref l) (upd H l (.lst ys))) listD := by
  intro B H x a res Q hB ha e q
  obtain ⟨xs, e1, rfl⟩ := Option.map_eq_some_iff.mp e
  obtain ⟨p, vs, rfl, t, r⟩ := ha.seq e1
  exact ⟨p, vs, rfl, t, fun l hl => q _ _ (.lst hl r)⟩
theorem opv_tuple : OpV1 K mg (fun v H Q => ∃ p ys, [v] = [V.ref p] ∧ ((SqL K H p ys ∧ ∀ l, H l = none → Q (.ref l) (upd H l (.tup ys))) ∨ (SqT K H p ys ∧ Q (.ref p) H))) tupleD := by
  intro B H x a res Q hB ha e q
  cases a with
  | tup xs =>
    cases e; obtain ⟨p, vs, rfl, t, r⟩ := ha.tup
    exact ⟨p, vs, rfl, .inr ⟨t.sq, q _ _ (.same (by unfold Rep; exact ⟨p, vs, rfl, t, r⟩))⟩⟩
  | lst xs => cases e; obtain ⟨p, vs, rfl, t, r⟩ := ha.lst; exact ⟨p, vs, rfl, .inl ⟨SqL.of t, fun l hl => q _ _ (.tup hB hl r)⟩⟩
  | scr xs => cases e; obtain ⟨p, vs, rfl, t, r⟩ := ha.scr; exact ⟨p, vs, rfl, .inl ⟨t.sq, fun l hl => q _ _ (.tup hB hl r)⟩⟩
  | _ => cases e
def max2D : Ob2
  | .int i, .int j => pI (if j > i then j else i)
  | _, _ => none
def min2D : Ob2
  | .int i, .int j => pI (if j < i then j else i)
  | _, _ => none
theorem opv_max2 : OpV K mg (fun v u H Q => ∃ i j, [v, u] = [V.int i, V.int j] ∧ Q (.int (if j > i then j else i)) H) max2D := by
  intro B H x y a b res Q hB ha hb e q
  unfold max2D at e
  split at e
  · cases e; exact ⟨_, _, by rw [ha.int, hb.int], q _ _ .int⟩
  · cases e
theorem opv_min2 : OpV K mg (fun v u H Q => ∃ i j, [v, u] = [V.int i, V.int j] ∧ Q (.int (if j < i then j else i)) H) min2D := by
  intro B H x y a b res Q hB ha hb e q
  unfold min2D at e
  split at e
  · cases e; exact ⟨_, _, by rw [ha.int, hb.int], q _ _ .int⟩
  · cases e
/-! sums, greatest, least, sorted, of ints -/
def sumD (d : D) : Option RV := (seqD d).bind fun xs => (allI xs).bind fun ns => pI ns.sum
/-! ### items and cuts -/
def ixD : Ob2
  | d, .int i => match d with
    | .tup xs => (atI xs i).map .pv
    | .lst xs => (atI xs i).map .pv
    | .scr xs => (atI xs i).map .pv
    | .str z => if z.length ≤ sizeLine then (atI z.cps.toList i).map fun c => .pv (.str ⟨#[c]⟩) else none
    | _ => none
  | _, _ => none
theorem Reps.atI {B : Addr → Prop} {H : Hp} {xs : List D} {vs : List V} {i : Int} {d : D} (r : Reps K mg B H xs vs) (e : L2.atI xs i = some d) : ∃ v, L2.atI vs i = some v ∧ Rep K mg B H d v := by
  unfold L2.atI at e ⊢
  rw [← r.length]
  cases h : ixN xs.length i with
  | none => rw [h] at e; cases e
  | some j => rw [h] at e; exact r.get e
theorem opv_ix : OpV K mg (rIx K) ixD := by
  intro B H x y a b res Q hB ha hb e q
  unfold ixD at e
  split at e
  · have hb := hb.int
    split at e
    · obtain ⟨d, e1, rfl⟩ := Option.map_eq_some_iff.mp e
      obtain ⟨p, vs, rfl, t, r⟩ := ha.tup
      obtain ⟨v, e2, rv⟩ := r.atI e1
      exact .inr (.inl ⟨p, vs, _, v, rfl, hb, t.sq, e2, q _ _ (.same rv)⟩)
    · obtain ⟨d, e1, rfl⟩ := Option.map_eq_some_iff.mp e
      obtain ⟨p, vs, rfl, t, r⟩ := ha.lst
      obtain ⟨v, e2, rv⟩ := r.atI e1
      exact .inl ⟨p, vs, _, v, rfl, hb, SqL.of t, e2, q _ _ (.same rv)⟩
    · obtain ⟨d, e1, rfl⟩ := Option.map_eq_some_iff.mp e
      obtain ⟨p, vs, rfl, t, r⟩ := ha.scr
      obtain ⟨v, e2, rv⟩ := r.atI e1
      exact .inl ⟨p, vs, _, v, rfl, hb, t.sq, e2, q _ _ (.same rv)⟩
    · split at e
      · rename_i z
        obtain ⟨d, e1, rfl⟩ := Option.map_eq_some_iff.mp e
        exact .inr (.inr ⟨_, _, d, ha.str, hb, z, e1, q _ _ .str⟩)
      · cases e
    · cases e
  · cases e
theorem ed_ix (ha : ED X G Wx a fa) (hb : ED X G Wx b fb) (hs : PlainIx b := by exact fun _ _ => rfl) : ED X G Wx (.Subscript a b pos) (eOp2 ixD fa fb) :=
  ⟨PE.imp (pe_ix ix_seq ha.pe hb.pe hs) fun σ H Q h => tE_op2 opv_ix h⟩
def cutL {α : Type} (xs : List α) (lo hi : Option Int) : List α := (xs.drop (HT.sIx xs.length 0 lo)).take (HT.sIx xs.length xs.length hi - HT.sIx xs.length 0 lo)
def slD (d : D) (lo hi : Option Int) : Option RV := match d with
  | .tup xs => some (.pv (.tup (cutL xs lo hi)))
  | .lst xs => some (.ow (cutL xs lo hi))
  | .scr xs => some (.ow (cutL xs lo hi))
  | .str z => if z.length ≤ sizeLine then some (.pv (.str (cutS z lo hi))) else none
  | _ => none
def rSl (K : PySem.W.Frag) : V → Option Int → Option Int → Hp → VK → Prop := fun x lo hi H Q => rSlA K x lo hi H Q ∨ rSlL K x lo hi H Q ∨ rSlS x lo hi H Q
theorem sl_any : SlR X (rSl X.K) := sl_tupA.or (sl_list.or sl_str)
theorem Reps.cut {B : Addr → Prop} {H : Hp} {xs : List D} {vs : List V} {lo hi : Option Int} (r : Reps K mg B H xs vs) : Reps K mg B H (cutL xs lo hi) (cutV vs lo hi) := by
  unfold cutL cutV
  rw [← r.length]
  exact (r.drop _).take _
theorem opv_sl {B : Addr → Prop} {H : Hp} {x : V} {a : D} {lo hi : Option Int} {res : RV} {Q : VK} (hB : ∀ a, B a → ∃ o, H a = some o) (ha : PRep K mg B H a x) (e : slD a lo hi = some res) (q : ∀ v H', ResOk K mg B H H' res v → Q v H') : rSl K x lo hi H Q := by
  unfold slD at e
  split at e
  · cases e
    obtain ⟨p, vs, rfl, t, r⟩ := ha.tup
    have rc := r.cut (lo := lo) (hi := hi)
    refine .inl ⟨p, vs, rfl, t.sq, fun ⟨w1, w2⟩ => q _ _ (.same ?_), fun _ o ho => q _ _ (.tup hB ho rc)⟩
    have ev : cutV vs lo hi = vs := by unfold cutV; rw [w1, w2]; simp
    rw [ev] at rc
    unfold Rep
    exact ⟨p, vs, rfl, t, rc⟩
  · cases e
    obtain ⟨p, vs, rfl, t, r⟩ := ha.lst
    exact .inr (.inl ⟨p, vs, rfl, SqL.of t, fun o ho => q _ _ (.lst ho r.cut)⟩)
  · cases e
    obtain ⟨p, vs, rfl, t, r⟩ := ha.scr
    exact .inr (.inl ⟨p, vs, rfl, t.sq, fun o ho => q _ _ (.lst ho r.cut)⟩)
  · split at e
    · rename_i z
      cases e
      exact .inr (.inr ⟨_, ha.str, z, q _ _ .str⟩)
    · cases e
  · cases e
/-- a part of a slice -/
abbrev OV := S → Rs (Option Int)
def oNo : OV := fun s => .ok none s
def oSo (f : EV) : OV := fun s => (f s).bind fun r s1 => match rd r s1 with
  | some (.int i) => .ok (some i) s1
  | _ => .bad
def tO (K : PySem.W.Frag) (mg : Str → Option Value) (G : Gm) (Wx : WX) (f : OV) : TO := fun σ H Q => ∃ P A L s, SR K mg G P A L s σ H ∧ Run K mg G Wx P A L H σ (f s) fun o s' => ∀ A' L' H', SR K mg G P A' L' s' σ H' → Step A L H A' L' H' → Q o H'
structure OD (X : Cx) (G : Gm) (Wx : WX) (e : Option Expr) (f : OV) : Prop where
  po : PO X e (tO X.K X.mg G Wx f)
theorem PO.imp {X : Cx} {e : Option Expr} {t t' : TO} (h : PO X e t) (q : ∀ σ H Q, t' σ H Q → t σ H Q) : PO X e t' := ⟨fun pins s σ H Q I hw => h.run pins s σ H Q I (q σ H Q hw)⟩
theorem od_no : OD X G Wx none oNo := ⟨PO.imp po_none fun σ H Q ⟨P, A, L, s, hs, h⟩ => h A L H hs (Step.refl A L H)⟩
theorem od_so (he : ED X G Wx e fe) : OD X G Wx (some e) (oSo fe) := by
  refine ⟨PO.imp (po_some he.pe) fun σ H Q ⟨P, A, L, s, hs, h⟩ => (tE_one hs h).mono fun x H1 ⟨A1, L1, s1, r, a1, h1⟩ => ?_⟩
  split at h1
  · rename_i i e1
    exact ⟨i, (rd_ok a1.weak a1.ok e1).int, h1 A1 L1 H1 a1.weak a1.st⟩
  · exact h1.elim
def eSl (fa : EV) (lo hi : OV) : EV := fun s => (fa s).bind fun r s1 => (lo s1).bind fun l s2 => (hi s2).bind fun u s3 => fin1 (fun d => slD d l u) r s3
theorem ed_sl {lo hi : Option Expr} {p2 : Pos} {fl fh : OV} (ha : ED X G Wx a fa) (hl : OD X G Wx lo fl) (hh : OD X G Wx hi fh) : ED X G Wx (.Subscript a (.Slice lo hi none p2) pos) (eSl fa fl fh) := by
  refine ⟨PE.imp (pe_slice sl_any ha.pe hl.po hh.po) fun σ H Q ⟨P, A, L, s, hs, h⟩ => (tE_one hs h).mono fun x H1 ⟨A1, L1, s1, r, a1, h1⟩ => ?_⟩
  refine ⟨Wi P r x, A1, L1, s1, a1.sr, ((Run.bind h1).on a1.st fun _ z => .inl z).imp fun l s2 _ q A2 L2 H2 sr2 st2 => ?_⟩
  refine ⟨Wi P r x, A2, L2, s2, sr2, ((Run.bind q).on (a1.st.trans st2) fun _ z => .inl z).imp fun u s3 _ q3 A3 L3 H3 sr3 st3 => ?_⟩
  have st := (a1.st.trans st2).trans st3
  exact run_fin1 (r := fun x => rSl X.K x l u) (fun B H x a res Q hB ha e q => opv_sl hB ha e q) (sr3.lessP fun _ z => .inl z) hs.p0 (a1.ok.step (st2.trans st3)) st q3
end
end DL
namespace DL
open PySem PySem.Spec PyProof.Rows L2
/-! ### what follows a statement -/
def RunS {α : Type} (K : PySem.W.Frag) (mg : Str → Option Value) (G : Gm) (Wx : WX) (P : Addr → Prop) (A : List (Option Addr)) (L : List Addr) (H : Hp) (x : Rs α) (Q : α → S → Prop) : Prop :=
  match x with
  | .ok a s' => Q a s'
  | .err c s' => ∀ A' L' σ' H' C, SR K mg G P A' L' s' σ' H' → Step A L H A' L' H' → mg c = some (.ref C) → Wx (.ref C) none σ' H'
  | .bad => False
def PostN (K : PySem.W.Frag) (mg : Str → Option Value) (G : Gm) (P : Addr → Prop) (A : List (Option Addr)) (L : List Addr) (H : Hp) (Q : L2.St → Hp → Prop) (s' : S) : Prop :=
  ∀ A' L' σ' H', SR K mg G P A' L' s' σ' H' → Step A L H A' L' H' → Q σ' H'
def PostR (K : PySem.W.Frag) (mg : Str → Option Value) (G : Gm) (P : Addr → Prop) (A : List (Option Addr)) (L : List Addr) (H : Hp) (Q : VK) (r : RV) (s' : S) : Prop :=
  ∀ A' L' σ' v H', SR K mg G (Wi P r v) A' L' s' σ' H' → RVOk K mg G P A' L' σ' H' r v → Step A L H A' L' H' → Q v H'
def PostS (K : PySem.W.Frag) (mg : Str → Option Value) (G : Gm) (P : Addr → Prop) (A : List (Option Addr)) (L : List Addr) (H : Hp) (D : Ends) (f : Fl) (s' : S) : Prop :=
  match f with
  | .nx => PostN K mg G P A L H D.nx s'
  | .bk => PostN K mg G P A L H D.bk s'
  | .ct => PostN K mg G P A L H D.ct s'
  | .rt r => (∀ i, r ≠ .vr i) ∧ PostR K mg G P A L H D.rt r s'
section
variable {K : PySem.W.Frag} {mg : Str → Option Value} {X : Cx} {G : Gm} {Wx : WX} {a b c e : Expr} {es : List Expr} {fa fb fc fe : EV} {pos : Pos} {α β : Type}
variable {P P' : Addr → Prop} {A A' A1 : List (Option Addr)} {σ σ' : L2.St} {L L' L1 : List Addr} {H H' H1 : Hp} {s s' : S}
theorem RunS.bind {x : Rs α} {k : α → S → Rs β} {Q : β → S → Prop} (h : RunS K mg G Wx P A L H (x.bind k) Q) : RunS K mg G Wx P A L H x fun a s1 => RunS K mg G Wx P A L H (k a s1) Q := by
  cases x <;> exact h
theorem RunS.imp {x : Rs α} {Q Q' : α → S → Prop} (h : RunS K mg G Wx P A L H x Q) (q : ∀ a s', x = .ok a s' → Q a s' → Q' a s') : RunS K mg G Wx P A L H x Q' := by
  cases x with
  | bad => exact h
  | err c s1 => exact h
  | ok a s1 => exact q a s1 rfl h
theorem RunS.run {x : Rs α} {Q : α → S → Prop} (h : RunS K mg G Wx P A L H x Q) : Run K mg G Wx P A L H σ x Q := by
  cases x with
  | bad => exact h
  | ok a s1 => exact h
  | err c s1 => exact fun A' L' H' C hs st hc => h A' L' σ H' C hs st hc
theorem RunS.on {x : Rs α} {Q : α → S → Prop} (h : RunS K mg G Wx P A L H x Q) (st : Step A L H A1 L1 H1) (hp : ∀ a, P a → P' a) : RunS K mg G Wx P' A1 L1 H1 x Q := by
  cases x with
  | bad => exact h
  | ok a s1 => exact h
  | err c s1 => exact fun A2 L2 σ2 H2 C hs2 st2 hc => h A2 L2 σ2 H2 C (hs2.lessP hp) (st.trans st2) hc
theorem PostN.shift {Q : L2.St → Hp → Prop} (h : PostN K mg G P A L H Q s) (st : Step A L H A1 L1 H1) : PostN K mg G P A1 L1 H1 Q s := fun A' L' σ' H' hs st' => h A' L' σ' H' hs (st.trans st')
theorem PostS.shift {D : Ends} {f : Fl} (h : PostS K mg G P A L H D f s) (st : Step A L H A1 L1 H1) : PostS K mg G P A1 L1 H1 D f s := by
  cases f with
  | nx => exact PostN.shift h st
  | bk => exact PostN.shift h st
  | ct => exact PostN.shift h st
  | rt r => exact ⟨h.1, fun A' L' σ' v H' sr ok st' => h.2 A' L' σ' v H' sr ok (st.trans st')⟩
theorem RunS.shift {x : Rs Fl} {D : Ends} (h : RunS K mg G Wx P A L H x (PostS K mg G P A L H D)) (st : Step A L H A1 L1 H1) : RunS K mg G Wx P A1 L1 H1 x (PostS K mg G P A1 L1 H1 D) :=
  (h.on st fun _ z => z).imp fun _ _ _ q => q.shift st
def tS (K : PySem.W.Frag) (mg : Str → Option Value) (G : Gm) (Wx : WX) (f : SV) : TS := fun D σ H => ∃ P A L s, SR K mg G P A L s σ H ∧ RunS K mg G Wx P A L H (f s) (PostS K mg G P A L H D)
structure SD (X : Cx) (G : Gm) (Wx : WX) (st : Stmt) (f : SV) : Prop where
  ps : PS X st (tS X.K X.mg G Wx f)
structure SsD (X : Cx) (G : Gm) (Wx : WX) (st : List Stmt) (f : SV) : Prop where
  pss : PSs X st (tS X.K X.mg G Wx f)
theorem PS.imp {X : Cx} {e : Stmt} {t t' : TS} (h : PS X e t) (q : ∀ D σ H, t' D σ H → t D σ H) : PS X e t' := ⟨fun pins s σ H D I hw => h.run pins s σ H D I (q D σ H hw)⟩
theorem PSs.imp {X : Cx} {e : List Stmt} {t t' : TS} (h : PSs X e t) (q : ∀ D σ H, t' D σ H → t D σ H) : PSs X e t' := ⟨fun pins s σ H D I hw => h.run pins s σ H D I (q D σ H hw)⟩
/-! ### blocks -/
def sNil : SV := fun s => .ok .nx s
def sSeq (f g : SV) : SV := fun s => (f s).bind fun fl s1 => match fl with
  | .nx => g s1
  | fl => .ok fl s1
variable {st : Stmt} {sts : List Stmt} {f g : SV}
theorem ss_nil : SsD X G Wx [] sNil := ⟨PSs.imp pss_nil fun D σ H ⟨P, A, L, s, hs, h⟩ => h A L σ H hs (Step.refl A L H)⟩
theorem tS_seq {D : Ends} (h : tS K mg G Wx (sSeq f g) D σ H) : tSeq (tS K mg G Wx f) (tS K mg G Wx g) D σ H := by
  obtain ⟨P, A, L, s, hs, h⟩ := h
  refine ⟨P, A, L, s, hs, (RunS.bind h).imp fun fl s1 _ q => ?_⟩
  cases fl with
  | nx => exact fun A' L' σ' H' hs' st => ⟨P, A', L', s1, hs', RunS.shift q st⟩
  | bk => exact q
  | ct => exact q
  | rt r => exact q
theorem ss_cons (h1 : SD X G Wx st f) (h2 : SsD X G Wx sts g) : SsD X G Wx (st :: sts) (sSeq f g) := ⟨PSs.imp (pss_cons h1.ps h2.pss) fun _ _ _ h => tS_seq h⟩
theorem ss_one (h1 : SD X G Wx st f) : SsD X G Wx [st] f := ⟨pss_one h1.ps⟩
def sIf (t : TV) (f g : SV) : SV := fun s => (t s).bind fun b s1 => if b = true then f s1 else g s1
theorem sd_if {sa sb : List Stmt} {t : TV} (hc : TD X G Wx c t) (ha : SsD X G Wx sa f) (hb : SsD X G Wx sb g) : SD X G Wx (.If c sa sb pos) (sIf t f g) := by
  refine ⟨PS.imp (ps_if hc.pt ha.pss hb.pss) fun D σ H ⟨P, A, L, s, hs, h⟩ => ⟨P, A, L, s, hs, (RunS.bind h).run.imp fun b s1 _ q A1 L1 H1 hs1 st => ?_⟩⟩
  cases b with
  | true => rw [if_pos rfl] at q ⊢; exact ⟨P, A1, L1, s1, hs1, RunS.shift q st⟩
  | false => rw [if_neg (by decide)] at q ⊢; exact ⟨P, A1, L1, s1, hs1, RunS.shift q st⟩
def sPass : SV := fun s => .ok .nx s
def sBk : SV := fun s => .ok .bk s
def sCt : SV := fun s => .ok .ct s
theorem sd_pass : SD X G Wx (.Pass pos) sPass := ⟨PS.imp ps_pass fun D σ H ⟨P, A, L, s, hs, h⟩ => h A L σ H hs (Step.refl A L H)⟩
theorem sd_break : SD X G Wx (.Break pos) sBk := ⟨PS.imp ps_break fun D σ H ⟨P, A, L, s, hs, h⟩ => h A L σ H hs (Step.refl A L H)⟩
theorem sd_cont : SD X G Wx (.Continue pos) sCt := ⟨PS.imp ps_continue fun D σ H ⟨P, A, L, s, hs, h⟩ => h A L σ H hs (Step.refl A L H)⟩
def sEx (fe : EV) : SV := fun s => (fe s).bind fun _ s1 => .ok .nx s1
theorem tE_oneS {k : RV → S → Rs α} {Qf : α → S → Prop} (hs : SR K mg G P A L s σ H) (h : RunS K mg G Wx P A L H ((fa s).bind k) Qf) :
    tE K mg G Wx fa σ H fun v H1 => ∃ A1 L1 s1 r, At K mg G P A L H σ A1 L1 s1 H1 r v ∧ RunS K mg G Wx P A L H (k r s1) Qf :=
  ⟨P, A, L, s, hs, (RunS.bind h).run.imp fun r s1 _ hk A' L' v H' a => ⟨A', L', s1, r, a, hk⟩⟩
theorem sd_expr (he : ED X G Wx e fe) (hs : swapsWith e none pos.line X.env = pure false := by rfl) : SD X G Wx (.Expr e pos) (sEx fe) :=
  ⟨PS.imp (ps_expr he.pe hs) fun D σ H ⟨P, A, L, s, hs, h⟩ => (tE_oneS hs h).mono fun v H1 ⟨A1, L1, s1, r, a1, h1⟩ => h1 A1 L1 σ H1 a1.weak a1.st⟩
/-- what a def hands back: a slot's own list goes with it -/
def retR (r : RV) (s : S) : Rs Fl := match r with
  | .vr i => match s.η[i]? with
    | some (.pv d) => .ok (.rt (.pv d)) s
    | some (.ow ds) => .ok (.rt (.ow ds)) { s with η := s.η.set i .no }
    | some (.lc n) => .ok (.rt (.lc n)) s
    | _ => .bad
  | .pv d => .ok (.rt (.pv d)) s
  | .ow ds => .ok (.rt (.ow ds)) s
  | .lc n => .ok (.rt (.lc n)) s
def sRet (fe : EV) : SV := fun s => (fe s).bind retR
def sRetN : SV := fun s => .ok (.rt (.pv .non)) s
theorem sd_ret (he : ED X G Wx e fe) : SD X G Wx (.Return (some e) pos) (sRet fe) := by
  refine ⟨PS.imp (ps_ret he.pe) fun D σ H ⟨P, A, L, s, hs, h⟩ => (tE_oneS hs h).mono fun v H1 ⟨A1, L1, s1, r, a1, h1⟩ => ?_⟩
  unfold retR at h1
  split at h1
  · rename_i i
    have w := a1.weak
    have e9 : σ[i]? = some (some v) := a1.ok
    split at h1
    · rename_i d q
      obtain ⟨hi, ov, oa, e1, e2, _, u, rfl, r⟩ := w.slot' q
      rw [e9] at e1; cases e1
      exact h1.2 A1 L1 σ _ H1 (w.lessP (Wi.pv nofun)) r a1.st
    · rename_i ds q
      obtain ⟨hi, ov, oa, e1, e2, p, vs, rfl, rfl, e3, r⟩ := w.slot' q
      rw [e9] at e1; cases e1
      have nb : ∀ b, Bd P (A1.set i none) L1 b → b ≠ p ∧ Bd P A1 L1 b := fun b z => by
        rcases z with z | z | z
        · refine ⟨fun y => ?_, .inl ((mem_set z).elim id nofun)⟩
          subst y
          obtain ⟨j, hj, ej⟩ := List.getElem_of_mem z
          have ej' : (A1.set i none)[j]? = some (some b) := by rw [List.getElem?_eq_getElem hj, ej]
          by_cases h : j = i
          · subst h
            rw [List.getElem?_set_self (by rw [w.lenA]; exact hi)] at ej'
            cases ej'
          · rw [List.getElem?_set_ne (Ne.symm h)] at ej'
            exact h (w.uniq j i b ej' e2)
        · exact ⟨fun y => w.apart p (List.mem_of_getElem? e2) (y ▸ z), .inr (.inl z)⟩
        · exact ⟨fun y => (w.pOk b z).2.1 (y ▸ List.mem_of_getElem? e2), .inr (.inr z)⟩
      have up : some p ∈ A1 := List.mem_of_getElem? e2
      have np : some p ∉ A1.set i none := fun z => (nb p (.inl z)).1 rfl
      have sr2 := w.set (i := i) (ov := some (.ref p)) (oa := none) (x := .no) (P := P) hi (fun _ z => z) (fun _ z => nomatch z) (same_slot e9) rfl
      have sr3 : SR X.K X.mg G (Wi P (.ow ds) (.ref p)) (A1.set i none) L1 { s1 with η := s1.η.set i .no } σ H1 := by
        have mv : ∀ a o, H1 a = some o → ¬ Bd P A1 L1 a → Plain o → H1 a = some o ∧ ¬ Bd (Wi P (.ow ds) (.ref p)) (A1.set i none) L1 a := fun a o e n _ => ⟨e, fun z => by
          rcases z with z | z | z | z
          · exact n (nb a (.inl z)).2
          · exact n (.inr (.inl z))
          · exact n (.inr (.inr z))
          · obtain ⟨_, y⟩ := z
            cases y
            exact n (.inl up)⟩
        refine { sr2 with slot := fun j y ey => ?_, loc := fun n ds' ey => ?_, pOk := fun a z => ?_ }
        · by_cases hj : j = i
          · subst hj
            simp only [List.getElem?_set_self hi, Option.some.injEq] at ey
            subst ey
            exact ⟨_, none, e9, by rw [List.getElem?_set_self (by rw [w.lenA]; exact hi)], rfl⟩
          · simp only [List.getElem?_set_ne (Ne.symm hj)] at ey
            obtain ⟨ov', oa', f1, f2, q⟩ := w.slot j y ey
            exact ⟨ov', oa', f1, by rw [List.getElem?_set_ne (Ne.symm hj)]; exact f2, q.move mv (fun _ _ _ _ h => h) fun _ _ h => h⟩
        · obtain ⟨a, vs', f1, f2, f3⟩ := w.loc n ds' ey
          exact ⟨a, vs', f1, f2, f3.move mv⟩
        · rcases z with z | z
          · have y := w.pOk a z
            exact ⟨y.1, fun q => (nb a (.inl q)).1 ((mem_set q).elim (fun q => absurd q y.2.1) nofun), y.2.2⟩
          · obtain ⟨_, y⟩ := z
            cases y
            exact ⟨⟨_, e3⟩, np, w.apart p up⟩
      refine h1.2 (A1.set i none) L1 σ _ H1 sr3 ⟨p, vs, rfl, e3, r.move fun a o e n _ => ⟨e, fun z => ?_⟩, np, w.apart p up, w.ownNew p up⟩ (a1.st.trans Step.drop)
      rcases z with z | z
      · subst z; exact n (.inl up)
      · exact n (nb a z).2
    · rename_i n q
      obtain ⟨hi, ov, oa, e1, e2, _, u, e3, e4⟩ := w.slot' q
      rw [e9] at e1; cases e1
      cases e4
      exact h1.2 A1 L1 σ _ H1 (w.lessP (Wi.pv nofun)) ⟨u, e3, rfl⟩ a1.st
    · exact h1.elim
  · exact h1.2 A1 L1 σ v H1 a1.sr a1.ok a1.st
  · exact h1.2 A1 L1 σ v H1 a1.sr a1.ok a1.st
  · exact h1.2 A1 L1 σ v H1 a1.sr a1.ok a1.st
theorem sd_retN : SD X G Wx (.Return none pos) sRetN :=
  ⟨PS.imp ps_retN fun D σ H ⟨P, A, L, s, hs, h⟩ => h.2 A L σ .non H (hs.lessP (Wi.pv nofun)) (by show Rep _ _ _ _ _ _; unfold Rep; rfl) (Step.refl A L H)⟩
/-! ### targets -/
abbrev GV := RV → S → Rs Unit
def tG (K : PySem.W.Frag) (mg : Str → Option Value) (G : Gm) (Wx : WX) (g : GV) : TG := fun v σ H Q => ∃ P A0 L0 H0 A L s r, At K mg G P A0 L0 H0 σ A L s H r v ∧ RunS K mg G Wx P A0 L0 H0 (g r s) fun _ s' => PostN K mg G P A0 L0 H0 Q s'
structure GD (X : Cx) (G : Gm) (Wx : WX) (t : Expr) (g : GV) : Prop where
  pg : PG X t (tG X.K X.mg G Wx g)
theorem PG.imp {X : Cx} {e : Expr} {t t' : TG} (h : PG X e t) (q : ∀ v σ H Q, t' v σ H Q → t v σ H Q) : PG X e t' := ⟨fun pins s σ H v u Q I r hw => h.run pins s σ H v u Q I r (q v σ H Q hw)⟩
def slotOf : RV → Option Slot
  | .pv d => some (.pv d)
  | .ow ds => some (.ow ds)
  | .lc n => some (.lc n)
  | .vr _ => none
/-- a value is laid into a slot -/
def gSet (i : Nat) : GV := fun r s => match keepR r s with
  | some (r', s') => if i < s'.η.length then match slotOf r' with
    | some x => .ok () { s' with η := s'.η.set i x }
    | none => .bad
    else .bad
  | none => .bad
theorem Bd.sub {P P' : Addr → Prop} {A A' : List (Option Addr)} {L : List Addr} (h1 : ∀ a, some a ∈ A' → Bd P A L a) (h2 : ∀ a, P' a → P a) : ∀ a, Bd P' A' L a → Bd P A L a := fun a z => z.elim (h1 a) fun z => z.elim (fun z => .inr (.inl z)) fun z => .inr (.inr (h2 a z))
theorem At.np {r : RV} {v : V} (a : At K mg G P A L H σ A1 L1 s H1 r v) : ∀ b, Own r v b → ¬ P b := fun b z p => by
  have w := a.p0 b p
  rcases a.new b z with q | q
  · exact w.2 q
  · obtain ⟨o, ho⟩ := w.1
    rw [ho] at q; cases q
theorem At.put {r : RV} {v : V} {i : Nat} {x : Slot} (h : At K mg G P A L H σ A1 L1 s H1 r v) (hi : i < s.η.length) (e : slotOf r = some x) :
    ∃ oa, SR K mg G P (A1.set i oa) L1 { s with η := s.η.set i x } (σ.set i (some v)) H1 ∧ (∀ a, oa = some a → Own r v a) := by
  have hiσ : i < σ.length := by rw [h.sr.lenσ]; exact hi
  have sl : (σ.set i (some v)).length = σ.length ∧ (σ.set i (some v))[i]? = some (some v) ∧ ∀ j : Nat, j ≠ i → (σ.set i (some v))[j]? = σ[j]? := ⟨by simp, List.getElem?_set_self hiσ, fun j hj => List.getElem?_set_ne (Ne.symm hj)⟩
  have sub : ∀ a, Bd P (A1.set i none) L1 a → Bd P A1 L1 a := Bd.sub (fun a z => .inl ((mem_set z).elim id nofun)) fun _ z => z
  cases r with
  | pv d =>
    cases e
    exact ⟨none, h.sr.set (P := P) hi (fun _ z => .inl z) (fun _ z => nomatch z) sl ⟨rfl, v, rfl, Rep.less sub h.ok⟩, fun _ z => nomatch z⟩
  | lc n =>
    cases e
    obtain ⟨a, e1, rfl⟩ := h.ok
    exact ⟨none, h.sr.set (P := P) hi (fun _ z => .inl z) (fun _ z => nomatch z) sl ⟨rfl, a, e1, rfl⟩, fun _ z => nomatch z⟩
  | vr j => cases e
  | ow ds =>
    cases e
    obtain ⟨a, vs, rfl, e1, r, e3, e4, e5⟩ := h.ok
    have own : Own (.ow ds) (.ref a) a := ⟨⟨ds, rfl⟩, rfl⟩
    refine ⟨some a, h.sr.set (P := P) hi (fun _ z => .inl z) (fun b z => ?_) sl ⟨a, vs, rfl, rfl, e1, r.less fun b z => ?_⟩, fun b z => ?_⟩
    · cases z
      exact ⟨.inr own, h.np a own, ⟨_, e1, .inl ⟨vs, rfl⟩⟩, e5⟩
    · rcases z with z | z | z
      · rcases mem_set z with z | z
        · exact .inr (.inl z)
        · cases z; exact .inl rfl
      · exact .inr (.inr (.inl z))
      · exact .inr (.inr (.inr z))
    · cases z; exact own
theorem At.putStep {r : RV} {v : V} {i : Nat} {oa : Option Addr} (h : At K mg G P A L H σ A1 L1 s H1 r v) (ho : ∀ a, oa = some a → Own r v a) : Step A L H (A1.set i oa) L1 H1 := by
  refine ⟨h.st.frm, fun a z => ?_, h.st.pre, h.st.there, h.st.tab⟩
  rcases z with z | z
  · rcases mem_set z with z | z
    · exact h.st.new a (.inl z)
    · rcases h.new a (ho a z) with q | q
      · exact .inl q
      · exact .inr (.inr q)
  · exact h.st.new a (.inr z)
theorem run_gSet {r : RV} {v : V} {i : Nat} {Q : L2.St → Hp → Prop} (a : At K mg G P A L H σ A1 L1 s H1 r v) (h : RunS K mg G Wx P A L H (gSet i r s) fun _ s' => PostN K mg G P A L H Q s') : Q (σ.set i (some v)) H1 := by
  unfold gSet at h
  split at h
  · rename_i r' s' e
    obtain ⟨_, A2, a2⟩ := a.keep e
    split at h
    · rename_i hi
      split at h
      · rename_i x ex
        obtain ⟨oa, sr, ho⟩ := a2.put hi ex
        exact h _ _ _ _ sr (a2.putStep ho)
      · exact h.elim
    · exact h.elim
  · exact h.elim
theorem gd_name {i : Nat} {x : Str} (hN : X.N.Nodup) (hi : X.N[i]? = some x) (hx : Loc X.env.scope x) (hf : X.fn x = true ∨ X.env.scope.names.lookup x = some .local := by first | exact .inl rfl | exact .inr rfl | assumption) : GD X G Wx (.Name x pos) (gSet i) :=
  ⟨PG.imp (pg_name hN hi hx hf) fun v σ H Q ⟨P, A0, L0, H0, A, L, s, r, a, h⟩ => run_gSet a h⟩
def sAsg (fe : EV) (g : GV) : SV := fun s => (fe s).bind fun r s1 => (g r s1).bind fun _ s2 => .ok .nx s2
theorem tS_asg {D : Ends} {g : GV} (h : tS K mg G Wx (sAsg fe g) D σ H) : tAsg (tE K mg G Wx fe) (tG K mg G Wx g) D σ H := by
  obtain ⟨P, A, L, s, hs, h⟩ := h
  exact (tE_oneS hs h).mono fun v H1 ⟨A1, L1, s1, r, a1, h1⟩ => ⟨P, A, L, H, A1, L1, s1, r, a1, (RunS.bind h1).imp fun _ _ _ q => q⟩
/-- name = e -/
theorem sd_set {i : Nat} {x : Str} {pos' : Pos} (hN : X.N.Nodup) (hi : X.N[i]? = some x) (hx : Loc X.env.scope x) (he : ED X G Wx e fe) (hs : swapsWith e (some (.Name x pos')) pos.line X.env = pure false := by rfl)
    (hf : X.fn x = true ∨ X.env.scope.names.lookup x = some .local := by first | exact .inl rfl | exact .inr rfl | assumption) : SD X G Wx (.Assign [.Name x pos'] e pos) (sAsg fe (gSet i)) := by
  refine ⟨PS.imp (ps_set hN hi hx he.pe hs hf) fun D σ H h => ?_⟩
  exact tE.mono (tS_asg h) fun v H1 ⟨P, A0, L0, H0, A, L, s, r, a, h⟩ => run_gSet a h
/-- target = e -/
theorem sd_asg {tg : Expr} {g : GV} (he : ED X G Wx e fe) (hg : GD X G Wx tg g) (hs : swapsWithSole [tg] e pos.line X.env = pure false := by rfl) (hw : swappedStores [tg] e X.env = pure none := by rfl)
    (h1 : (assignEach [tg] X.env).map (·.2) = [assign tg X.env] := by rfl) : SD X G Wx (.Assign [tg] e pos) (sAsg fe g) := ⟨PS.imp (ps_asg he.pe hg.pg hs hw h1) fun _ _ _ h => tS_asg h⟩
/-! several targets -/
abbrev GVs := List D → S → Rs Unit
def gNilD : GVs := fun ds s => match ds with
  | [] => .ok () s
  | _ => .bad
def gConsD (g : GV) (gs : GVs) : GVs := fun ds s => match ds with
  | d :: ds => (g (.pv d) s).bind fun _ s1 => gs ds s1
  | [] => .bad
def tGs (K : PySem.W.Frag) (mg : Str → Option Value) (G : Gm) (Wx : WX) (g : GVs) : TGs := fun vs σ H Q => ∃ P A L s ds, SR K mg G P A L s σ H ∧ Reps K mg (Bd P A L) H ds vs ∧ RunS K mg G Wx P A L H (g ds s) fun _ s' => PostN K mg G P A L H Q s'
structure GsD (X : Cx) (G : Gm) (Wx : WX) (t : List Expr) (g : GVs) : Prop where
  pgs : PGs X t (tGs X.K X.mg G Wx g)
theorem PGs.imp {X : Cx} {e : List Expr} {t t' : TGs} (h : PGs X e t) (q : ∀ v σ H Q, t' v σ H Q → t v σ H Q) : PGs X e t' := ⟨fun pins s σ H v u Q I r hw => h.run pins s σ H v u Q I r (q v σ H Q hw)⟩
theorem gs_nil : GsD X G Wx [] gNilD := by
  refine ⟨PGs.imp pgs_nil fun vs σ H Q ⟨P, A, L, s, ds, sr, r, h⟩ => ?_⟩
  unfold gNilD at h
  split at h
  · unfold Reps at r; exact ⟨r, h A L σ H sr (Step.refl _ _ _)⟩
  · exact h.elim
theorem gs_cons {t : Expr} {ts : List Expr} {g : GV} {gs : GVs} (h1 : GD X G Wx t g) (h2 : GsD X G Wx ts gs) (hs : (assignEach (t :: ts) X.env).map (·.2) = assign t X.env :: (assignEach ts X.env).map (·.2) := by rfl) : GsD X G Wx (t :: ts) (gConsD g gs) := by
  refine ⟨PGs.imp (pgs_cons h1.pg h2.pgs hs) fun vs σ H Q ⟨P, A, L, s, ds, sr, r, h⟩ => ?_⟩
  unfold gConsD at h
  split at h
  · rename_i d ds
    unfold Reps at r
    obtain ⟨v, vs, rfl, r1, r2⟩ := r
    refine ⟨v, vs, rfl, P, A, L, H, A, L, s, .pv d, ⟨sr.lessP (Wi.pv nofun), r1, OwNew.of nofun, Step.refl _ _ _, sr.p0⟩, (RunS.bind h).imp fun _ s1 _ q A2 L2 σ2 H2 sr2 st2 => ?_⟩
    exact ⟨P, A2, L2, s1, ds, sr2, r2.step st2, (q.on st2 fun _ z => z).imp fun _ _ _ q => q.shift st2⟩
  · exact h.elim
/-- (a, b, ..) = a tuple or a list -/
def gTupD (gs : GVs) : GV := fun r s => match rd r s with
  | some d => match seqD d with
    | some ds => gs ds s
    | none => .bad
  | none => .bad
theorem PG.or {t : Expr} {t1 t2 : TG} (h1 : PG X t t1) (h2 : PG X t t2) : PG X t fun v σ H Q => t1 v σ H Q ∨ t2 v σ H Q :=
  ⟨fun pins s σ H v u Q I r hw => hw.elim (h1.run pins s σ H v u Q I r) (h2.run pins s σ H v u Q I r)⟩
def lenIs (n : Nat) (gs : GVs) : GVs := fun ds s => if ds.length = n then gs ds s else .bad
theorem gd_tup {es : List Expr} {k : Nat} {gs : GVs} {n : Nat} (hc : X.calm = true) (h : GsD X G Wx es gs) (hn : (assignEach es X.env).length = n := by rfl) (hst : (assignEach es X.env).findIdx? (·.1) = none := by rfl) : GD X G Wx (.Tuple es k pos) (gTupD (lenIs n gs)) := by
  refine ⟨PG.imp (PG.or (pg_tup hc h.pgs hn hst) (pg_lst hc h.pgs hn hst)) fun v σ H Q ⟨P, A0, L0, H0, A, L, s, r, a, h⟩ => ?_⟩
  unfold gTupD at h
  have w := a.weak
  cases e1 : rd r s with
  | none => rw [e1] at h; exact h.elim
  | some d =>
    rw [e1] at h
    simp only at h
    cases e2 : seqD d with
    | none => rw [e2] at h; exact h.elim
    | some ds =>
      rw [e2] at h
      unfold lenIs at h
      simp only at h
      split at h
      · rename_i hl
        have pr := rd_ok w a.ok e1
        have fin : ∀ {vs : List V}, Reps X.K X.mg (Bd P A L) H ds vs → tGs X.K X.mg G Wx gs vs σ H Q := fun r => ⟨P, A, L, s, ds, w, r, (h.on a.st fun _ z => z).imp fun _ _ _ q => q.shift a.st⟩
        cases d with
        | tup xs => cases e2; obtain ⟨p, vs, rfl, t, r⟩ := pr.tup; exact .inl ⟨p, vs, rfl, t.sq, by rw [← r.length]; exact hl, fin r⟩
        | lst xs => cases e2; obtain ⟨p, vs, rfl, t, r⟩ := pr.lst; exact .inr ⟨p, vs, rfl, SqL.of t, by rw [← r.length]; exact hl, fin r⟩
        | scr xs => cases e2; obtain ⟨p, vs, rfl, t, r⟩ := pr.scr; exact .inr ⟨p, vs, rfl, t.sq, by rw [← r.length]; exact hl, fin r⟩
        | _ => cases e2
      · exact h.elim
/-- two names at once -/
def putR (i : Nat) (r : RV) (s : S) : Rs Unit := match slotOf r with
  | some x => if i < s.η.length then .ok () { s with η := s.η.set i x } else .bad
  | none => .bad
def keepX (r : RV) (s : S) : Rs RV := match keepR r s with
  | some (r', s') => .ok r' s'
  | none => .bad
def sPar (i j : Nat) (fa fb : EV) : SV := fun s => (fa s).bind fun ra s1 => (keepX ra s1).bind fun ra s1 => (fb s1).bind fun rb s2 => (keepX rb s2).bind fun rb s2 => (putR j rb s2).bind fun _ s3 => (putR i ra s3).bind fun _ s4 => .ok .nx s4
theorem run_keepX {r : RV} {v : V} {k : RV → S → Rs α} {Qf : α → S → Prop} (a : At K mg G P A L H σ A1 L1 s H1 r v) (h : RunS K mg G Wx P' A' L' H' ((keepX r s).bind k) Qf) : ∃ A2 s2 r2, At K mg G P A L H σ A2 L1 s2 H1 r2 v ∧ (∀ i, r2 ≠ .vr i) ∧ RunS K mg G Wx P' A' L' H' (k r2 s2) Qf := by
  unfold keepX at h
  split at h
  · rename_i r' s' e
    obtain ⟨nv, A2, a2⟩ := a.keep e
    exact ⟨A2, s', r', a2, nv, h⟩
  · exact h.elim
theorem RVOk.sig {r : RV} {v : V} (h : RVOk K mg G P A L σ H r v) (n : ∀ i, r ≠ .vr i) : RVOk K mg G P A L σ' H r v := by
  cases r with
  | vr i => exact absurd rfl (n i)
  | pv _ => exact h
  | ow _ => exact h
  | lc _ => exact h
theorem run_putR {r : RV} {v : V} {i : Nat} {k : Unit → S → Rs α} {Qf : α → S → Prop} (a : At K mg G P A L H σ A1 L1 s H1 r v) (h : RunS K mg G Wx P' A' L' H' ((putR i r s).bind k) Qf) :
    ∃ oa s2, SR K mg G P (A1.set i oa) L1 s2 (σ.set i (some v)) H1 ∧ Step A L H (A1.set i oa) L1 H1 ∧ (∀ a, oa = some a → Own r v a) ∧ RunS K mg G Wx P' A' L' H' (k () s2) Qf := by
  unfold putR at h
  split at h
  · rename_i x e
    split at h
    · rename_i hi
      obtain ⟨oa, sr, ho⟩ := a.put hi e
      exact ⟨oa, _, sr, a.putStep ho, ho, h⟩
    · exact h.elim
  · exact h.elim
theorem sd_par {i j : Nat} {x y : Str} {px py pt : Pos} {kt k2 pt2} (hc : X.calm = true) (hN : X.N.Nodup) (hi : X.N[i]? = some x) (hj : X.N[j]? = some y) (hij : i ≠ j)
    (hx : X.env.scope.names.lookup x = some .local) (hy : X.env.scope.names.lookup y = some .local) (ha : ED X G Wx a fa) (hb : ED X G Wx b fb)
    (hw : swappedStores [.Tuple [.Name x px, .Name y py] kt pt] (.Tuple [a, b] k2 pt2) X.env = pure (some [x, y]))
    (hs : swapsWithSole [.Tuple [.Name x px, .Name y py] kt pt] (.Tuple [a, b] k2 pt2) pos.line X.env = pure false := by rfl)
    (he : starEach [a, b] X.env = (false, eval a X.env) :: starEach [b] X.env := by rfl) (he2 : starEach [b] X.env = (false, eval b X.env) :: starEach [] X.env := by rfl) :
    SD X G Wx (.Assign [.Tuple [.Name x px, .Name y py] kt pt] (.Tuple [a, b] k2 pt2) pos) (sPar i j fa fb) := by
  refine ⟨PS.imp (ps_par hc hN hi hj hij hx hy (pa_cons ha.pe (pa_cons hb.pe pa_nil he2) he) hw hs) fun D σ H ⟨P, A, L, s, hs, h⟩ => (tE_oneS hs h).mono fun x H1 ⟨A1, L1, s1, ra, a1, h1⟩ => ?_⟩
  obtain ⟨A2, s2, ra, a2, na, h2⟩ := run_keepX a1 h1
  refine ⟨Wi P ra x, A2, L1, s2, a2.sr, ((RunS.bind h2).on a2.st fun _ z => .inl z).run.imp fun rb s3 _ q A3 L3 y H3 b3 => ?_⟩
  obtain ⟨A4, s4, rb, b4, nb, q⟩ := run_keepX b3 q
  obtain ⟨ob, s5, sr5, st5, ho5, q⟩ := run_putR (i := j) b4 q
  have a5 : At X.K X.mg G P A L H (σ.set j (some y)) (A4.set j ob) L3 s5 H3 ra x := ⟨sr5, (a2.ok.step st5).sig na, a2.new, a2.st.trans st5, a2.p0⟩
  obtain ⟨oa, s6, sr6, st6, ho6, q⟩ := run_putR (i := i) a5 q
  refine ⟨x, y, rfl, ?_⟩
  rw [List.set_comm _ _ hij]
  exact q _ _ _ _ sr6 st6
end
end DL
namespace DL
open PySem PySem.Spec PyProof.Rows L2
section
variable {K : PySem.W.Frag} {mg : Str → Option Value} {X : Cx} {G : Gm} {Wx : WX} {a b c e : Expr} {es : List Expr} {fa fb fc fe : EV} {pos : Pos} {α β : Type}
variable {P P' : Addr → Prop} {A A' A1 : List (Option Addr)} {σ σ' : L2.St} {L L' L1 : List Addr} {H H' H1 : Hp} {s s' : S}
/-! ### what is walked -/
abbrev IV := S → Rs (List D)
/-- the iterator J hands out ds, whatever happens beside it -/
def ItOk (K : PySem.W.Frag) (mg : Str → Option Value) (P : Addr → Prop) (A : List (Option Addr)) (L : List Addr) (H : Hp) (J : It) (ds : List D) : Prop :=
  ∀ P' A' L' H', (∀ a, P' a → P a ∨ H a = none) → Step A L H A' L' H' → (∀ a, Bd P' A' L' a → ∃ o, H' a = some o) →
    (∀ i, i < ds.length → J.go i H') ∧ J.stop ds.length H' ∧ ∀ i d x H'', ds[i]? = some d → J.yld i H' x H'' → ResOk K mg (Bd P' A' L') H' H'' (.pv d) x
def PostI (K : PySem.W.Frag) (mg : Str → Option Value) (G : Gm) (P : Addr → Prop) (A : List (Option Addr)) (L : List Addr) (H : Hp) (σ : L2.St) (R : It → Hp → Prop) (ds : List D) (s' : S) : Prop :=
  ∀ A' L' H' J, SR K mg G P A' L' s' σ H' → ItOk K mg P A' L' H' J ds → Step A L H A' L' H' → R J H'
def tI (K : PySem.W.Frag) (mg : Str → Option Value) (G : Gm) (Wx : WX) (f : IV) : TI := fun σ H R => ∃ P A L s, SR K mg G P A L s σ H ∧ Run K mg G Wx P A L H σ (f s) (PostI K mg G P A L H σ R)
structure ID (X : Cx) (G : Gm) (Wx : WX) (tg e : Expr) (f : IV) : Prop where
  pi : PI X tg e (tI X.K X.mg G Wx f)
theorem PI.imp {tg e : Expr} {t t' : TI} (h : PI X tg e t) (q : ∀ σ H Q, t' σ H Q → t σ H Q) : PI X tg e t' := ⟨fun pins s σ H R I hw => h.run pins s σ H R I (q σ H R hw)⟩
/-- the items of a value that is walked by itself -/
def itD : D → Option (List D)
  | .tup xs => some xs
  | .lst xs => some xs
  | .scr xs => some xs
  | _ => none
/-- a text's signs -/
def chD (x : Str) : List D := x.cps.toList.map fun c => .str ⟨#[c]⟩
def itX : D → Option (List D)
  | .str x => some (chD x)
  | d => itD d
def iOf (fe : EV) : IV := fun s => (fe s).bind fun r s1 => match fz r s1 with
  | some (d, s2) => match itX d with
    | some ds => .ok ds s2
    | none => .bad
  | none => .bad
theorem Step.mvP (x : Step A L H A' L' H') (hP : ∀ a, P' a → P a ∨ H a = none) : ∀ a o, H a = some o → ¬ Bd P A L a → Plain o → H' a = some o ∧ ¬ Bd P' A' L' a := fun a o h nb p => by
  have y := x.mv (P := P) a o h nb p
  refine ⟨y.1, fun z => ?_⟩
  rcases z with z | z | z
  · exact y.2 (.inl z)
  · exact y.2 (.inr (.inl z))
  · rcases hP a z with q | q
    · exact nb (.inr (.inr q))
    · rw [h] at q; cases q
theorem TupOk.step {vs : List V} {p : Addr} (h : TupOk K (Bd P A L) H p vs) (x : Step A L H A' L' H') (hP : ∀ a, P' a → P a ∨ H a = none) : TupOk K (Bd P' A' L') H' p vs := by
  rcases h with ⟨h | ⟨o, h⟩, nb⟩ | h
  · have z := x.mvP hP p _ h nb (fun _ => nofun); exact .inl ⟨.inl z.1, z.2⟩
  · have z := x.mvP hP p _ h nb (fun _ => nofun); exact .inl ⟨.inr ⟨o, z.1⟩, z.2⟩
  · exact .inr h
theorem ScrOk.step {vs : List V} {p : Addr} (h : ScrOk K (Bd P A L) H p vs) (x : Step A L H A' L' H') (hP : ∀ a, P' a → P a ∨ H a = none) : ScrOk K (Bd P' A' L') H' p vs := by
  rcases h with ⟨h | ⟨o, h⟩, nb⟩ | h
  · have z := x.mvP hP p _ h nb (fun _ => nofun); exact .inl ⟨.inl z.1, z.2⟩
  · have z := x.mvP hP p _ h nb (fun _ => nofun); exact .inl ⟨.inr ⟨o, z.1⟩, z.2⟩
  · exact .inr h
theorem itl_ok {p : Addr} {vs : List V} {ds : List D} (h : ScrOk K (Bd P A L) H p vs) (r : Reps K mg (Bd P A L) H ds vs) : ItOk K mg P A L H (Itl K p) ds := by
  intro P' A' L' H' hP st hB
  have h' := (h.step st hP).sq
  have r' : Reps K mg (Bd P' A' L') H' ds vs := r.move (st.mvP hP)
  refine ⟨fun i hi => ?_, ⟨vs, h', by rw [r'.length]; exact Nat.le_refl _⟩, fun i d x H'' e y => ?_⟩
  · obtain ⟨v, e, _⟩ := r'.get (List.getElem?_eq_getElem hi)
    exact ⟨vs, v, h', e⟩
  · obtain ⟨e1, y⟩ := y
    subst e1
    obtain ⟨v, e2, rv⟩ := r'.get e
    have := y vs h'
    rw [e2] at this
    cases this
    exact ResOk.same rv
theorem itt_ok {p : Addr} {vs : List V} {ds : List D} (h : TupOk K (Bd P A L) H p vs) (r : Reps K mg (Bd P A L) H ds vs) : ItOk K mg P A L H (Itt K p) ds := by
  intro P' A' L' H' hP st hB
  have h' := (h.step st hP).sq
  have r' : Reps K mg (Bd P' A' L') H' ds vs := r.move (st.mvP hP)
  refine ⟨fun i hi => ?_, ⟨vs, h', by rw [r'.length]; exact Nat.le_refl _⟩, fun i d x H'' e y => ?_⟩
  · obtain ⟨v, e, _⟩ := r'.get (List.getElem?_eq_getElem hi)
    exact ⟨vs, v, h', e⟩
  · obtain ⟨e1, y⟩ := y
    subst e1
    obtain ⟨v, e2, rv⟩ := r'.get e
    have := y vs h'
    rw [e2] at this
    cases this
    exact ResOk.same rv
theorem its_ok (x : Str) : ItOk K mg P A L H (Its x) (chD x) := by
  intro P' A' L' H' hP st hB
  have ln : (chD x).length = x.cps.size := by unfold chD; simp
  refine ⟨fun i hi => by rw [ln] at hi; exact hi, by rw [ln]; exact Nat.le_refl _, fun i d v H'' e y => ?_⟩
  obtain ⟨e1, c, hc, rfl⟩ := y
  subst e1
  have hc' : x.cps.toList[i]? = some c := by rw [Array.getElem?_toList]; exact hc
  unfold chD at e
  rw [List.getElem?_map, hc'] at e
  cases e
  exact ResOk.same (by unfold Rep; rfl)
/-- a list, a tuple or a text, walked -/
theorem id_val {tg : Expr} (he : ED X G Wx e fe) : ID X G Wx tg e (iOf fe) := by
  refine ⟨⟨fun pins sh σ H R I ⟨P, A, L, s, hs, h⟩ => ?_⟩⟩
  have key : ∀ {r : RV} {s1 : S}, fe s = .ok r s1 → (∃ xs s2, fz r s1 = some (.tup xs, s2) ∧ Run X.K X.mg G Wx P A L H σ (.ok xs s2) (PostI X.K X.mg G P A L H σ R)) ∨
      (∃ xs s2, (fz r s1 = some (.lst xs, s2) ∨ fz r s1 = some (.scr xs, s2)) ∧ Run X.K X.mg G Wx P A L H σ (.ok xs s2) (PostI X.K X.mg G P A L H σ R)) ∨
      (∃ z s2, fz r s1 = some (.str z, s2) ∧ Run X.K X.mg G Wx P A L H σ (.ok (chD z) s2) (PostI X.K X.mg G P A L H σ R)) := fun {r s1} e => by
    have h' := h
    unfold iOf at h'
    rw [e] at h'
    have h' : Run X.K X.mg G Wx P A L H σ (match fz r s1 with
      | some (d, s2) => match itX d with
        | some ds => .ok ds s2
        | none => .bad
      | none => .bad) (PostI X.K X.mg G P A L H σ R) := h'
    split at h'
    · rename_i d s2 e1
      split at h'
      · rename_i ds e2
        cases d with
        | tup xs => cases e2; exact .inl ⟨_, s2, e1, h'⟩
        | lst xs => cases e2; exact .inr (.inl ⟨_, s2, .inl e1, h'⟩)
        | scr xs => cases e2; exact .inr (.inl ⟨_, s2, .inr e1, h'⟩)
        | str z => cases e2; exact .inr (.inr ⟨_, s2, e1, h'⟩)
        | _ => cases e2
      · exact h'.elim
    · exact h'.elim
  cases q : fe s with
  | bad => unfold iOf at h; rw [q] at h; exact h.elim
  | err c s1 =>
    refine (pi_tup (tg := tg) he.pe).run pins sh σ H R I ⟨P, A, L, s, hs, ?_⟩
    unfold iOf at h
    rw [q] at h ⊢
    exact h
  | ok r s1 =>
    rcases key q with ⟨xs, s2, e1, h2⟩ | ⟨xs, s2, e1, h2⟩ | ⟨z, s2, e1, h2⟩
    · refine (pi_tup (tg := tg) he.pe).run pins sh σ H R I ⟨P, A, L, s, hs, ?_⟩
      rw [q]
      intro A1 L1 v H1 a1
      obtain ⟨A2, sr, rp, st⟩ := a1.frz e1
      unfold Rep at rp
      obtain ⟨p, vs, rfl, t, r⟩ := rp
      exact ⟨p, rfl, ⟨vs, t.sq⟩, h2 A2 L1 H1 _ sr (itt_ok t r) st⟩
    · refine (pi_list (tg := tg) he.pe).run pins sh σ H R I ⟨P, A, L, s, hs, ?_⟩
      rw [q]
      intro A1 L1 v H1 a1
      rcases e1 with e1 | e1
      · obtain ⟨A2, sr, rp, st⟩ := a1.frz e1
        unfold Rep at rp
        obtain ⟨p, vs, rfl, t, nb, r⟩ := rp
        exact ⟨p, rfl, ⟨vs, SqL.of t⟩, h2 A2 L1 H1 _ sr (itl_ok (.inl ⟨.inl t, nb⟩) r) st⟩
      · obtain ⟨A2, sr, rp, st⟩ := a1.frz e1
        unfold Rep at rp
        obtain ⟨p, vs, rfl, t, r⟩ := rp
        exact ⟨p, rfl, ⟨vs, t.sq⟩, h2 A2 L1 H1 _ sr (itl_ok t r) st⟩
    · refine (pi_str (tg := tg) he.pe).run pins sh σ H R I ⟨P, A, L, s, hs, ?_⟩
      rw [q]
      intro A1 L1 v H1 a1
      obtain ⟨A2, sr, rp, st⟩ := a1.frz e1
      unfold Rep at rp
      exact ⟨z, rp, h2 A2 L1 H1 _ sr (its_ok z) st⟩
/-! range -/
theorem rng_ex (lo hi : Int) : ∃ l : List D, l = (List.range (hi - lo).toNat).map fun (i : Nat) => .int (lo + (i : Int)) := ⟨_, rfl⟩
/-- sealed: nothing steps through a written range -/
noncomputable def rngD (lo hi : Int) : List D := Classical.choose (rng_ex lo hi)
theorem rngD_eq (lo hi : Int) : rngD lo hi = (List.range (hi - lo).toNat).map fun (i : Nat) => .int (lo + (i : Int)) := Classical.choose_spec (rng_ex lo hi)
theorem itr_ok (lo hi : Int) : ItOk K mg P A L H (Itr lo (hi - lo).toNat) (rngD lo hi) := by
  intro P' A' L' H' hP st hB
  have ln : (rngD lo hi).length = (hi - lo).toNat := by rw [rngD_eq]; simp
  refine ⟨fun i hi => by rw [ln] at hi; exact hi, by rw [ln]; exact Nat.le_refl _, fun i d x H'' e y => ?_⟩
  obtain ⟨e1, e2⟩ := y
  subst e1; subst e2
  rw [rngD_eq] at e
  rw [List.getElem?_map] at e
  obtain ⟨j, e3, rfl⟩ := Option.map_eq_some_iff.mp e
  have : j = i := by
    rw [List.getElem?_eq_some_iff] at e3
    obtain ⟨h, e3⟩ := e3
    simpa using e3.symm
  subst this
  exact ResOk.same (by unfold Rep; rfl)
def rOk (i : Int) : Bool := decide (-(2 ^ 62) ≤ i ∧ i < 2 ^ 62)
noncomputable def iR1 (fa : EV) : IV := fun s => (fa s).bind fun r s1 => match rd r s1 with
  | some (.int j) => if rOk j = true then .ok (rngD 0 j) s1 else .bad
  | _ => .bad
noncomputable def iR2 (fa fb : EV) : IV := fun s => (fa s).bind fun ra s1 => (fb s1).bind fun rb s2 => match rd ra s2, rd rb s2 with
  | some (.int i), some (.int j) => if (rOk i && rOk j) = true then .ok (rngD i j) s2 else .bad
  | _, _ => .bad
theorem id_range1 {tg : Expr} {p : Pos} (hg : Gl X "range") (hm : X.mg "range" = none) (ha : ED X G Wx a fa) (hs : starEach [a] X.env = [(false, eval a X.env)] := by rfl) : ID X G Wx tg (.Call (.Name "range" p) [a] [] pos) (iR1 fa) := by
  refine ⟨PI.imp (pi_range1 hg hm (pa_cons ha.pe pa_nil hs) hs) fun σ H R ⟨P, A, L, s, hs, h⟩ => (tE_one hs h).mono fun v H1 ⟨A1, L1, s1, r, a1, h1⟩ => ?_⟩
  split at h1
  · rename_i j e1
    split at h1
    · rename_i c
      have c := of_decide_eq_true c
      have := (rd_ok a1.weak a1.ok e1).int
      subst this
      refine ⟨j, rfl, c.1, c.2, ?_⟩
      have := itr_ok (K := X.K) (mg := X.mg) (P := P) (A := A1) (L := L1) (H := H1) 0 j
      rw [Int.sub_zero] at this
      exact h1 A1 L1 H1 _ a1.weak this a1.st
    · exact h1.elim
  · exact h1.elim
theorem id_range2 {tg : Expr} {p : Pos} (hg : Gl X "range") (hm : X.mg "range" = none) (ha : ED X G Wx a fa) (hb : ED X G Wx b fb) (hs : starEach [a, b] X.env = [(false, eval a X.env), (false, eval b X.env)] := by rfl) (hs2 : starEach [b] X.env = [(false, eval b X.env)] := by rfl) :
    ID X G Wx tg (.Call (.Name "range" p) [a, b] [] pos) (iR2 fa fb) := by
  refine ⟨PI.imp (pi_range2 hg hm (pa_cons ha.pe (pa_cons hb.pe pa_nil hs2) (by rw [hs, hs2])) hs hs2) fun σ H R ⟨P, A, L, s, hs, h⟩ => (tE_two hs h).mono fun x H1 h1 => h1.mono fun y H2 ⟨A2, L2, s2, ra, rb, hs2, oa, ob, st, h2⟩ => ?_⟩
  split at h2
  · rename_i i j e1 e2
    split at h2
    · rename_i c
      rw [Bool.and_eq_true] at c
      have c1 := of_decide_eq_true c.1
      have c2 := of_decide_eq_true c.2
      have := (rd_ok hs2 oa e1).int
      subst this
      have := (rd_ok hs2 ob e2).int
      subst this
      exact ⟨i, j, rfl, ⟨c1.1, c1.2, c2.1, c2.2⟩, h2 A2 L2 H2 _ hs2 (itr_ok i j) st⟩
    · exact h2.elim
  · exact h2.elim
/-! ### for -/
def loopD (g : GV) (body : SV) : List D → S → Rs Fl
  | [], s => .ok .nx s
  | d :: ds, s => (g (.pv d) s).bind fun _ s1 => (body s1).bind fun fl s2 => match fl with
    | .nx => loopD g body ds s2
    | .ct => loopD g body ds s2
    | .bk => .ok .nx s2
    | .rt r => .ok (.rt r) s2
def sFor (it : IV) (g : GV) (body : SV) : SV := fun s => (it s).bind fun ds s1 => loopD g body ds s1
theorem Reps.nth {ds : List D} {i : Nat} (h : i < ds.length) : ds.drop i = ds[i] :: ds.drop (i + 1) := List.drop_eq_getElem_cons h
theorem tS_for {g : GV} {f : SV} {Dn : Ends} {J : It} {ds : List D} {σ : L2.St} (sr : SR K mg G P A L s σ H) (ok : ItOk K mg P A L H J ds) (h : RunS K mg G Wx P A L H (loopD g f ds s) (PostS K mg G P A L H Dn)) :
    ∃ W : Nat → Nat → L2.St → Hp → Prop, (∃ m, W 0 m σ H) ∧ ∀ i m σ H, W i m σ H →
      (J.stop i H ∧ Dn.nx σ H) ∨ (J.go i H ∧ ∃ N : L2.St → Hp → Prop, (∀ σ' H', N σ' H' → ∃ m', m' < m ∧ W (i + 1) m' σ' H') ∧ ∀ x H', J.yld i H x H' → tG K mg G Wx g x σ H' fun σ2 H2 => tS K mg G Wx f { Dn with nx := N, ct := N, bk := Dn.nx } σ2 H2) := by
  refine ⟨fun i m σ' H' => i + m = ds.length ∧ ∃ A' L' s', SR K mg G P A' L' s' σ' H' ∧ Step A L H A' L' H' ∧ RunS K mg G Wx P A L H (loopD g f (ds.drop i) s') (PostS K mg G P A L H Dn),
    ⟨ds.length, by omega, A, L, s, sr, Step.refl _ _ _, by simpa using h⟩, ?_⟩
  rintro i m σ1 H1 ⟨em, A1, L1, s1, sr1, st1, h1⟩
  obtain ⟨go, stop, yld⟩ := ok P A1 L1 H1 (fun _ z => .inl z) st1 sr1.there
  by_cases hi : i < ds.length
  · refine .inr ⟨go i hi, fun σ' H' => ∃ A' L' s', SR K mg G P A' L' s' σ' H' ∧ Step A L H A' L' H' ∧ RunS K mg G Wx P A L H (loopD g f (ds.drop (i + 1)) s') (PostS K mg G P A L H Dn), fun σ' H' n => ⟨m - 1, by omega, by omega, n⟩, fun x H2 y => ?_⟩
    have ro := yld i _ x H2 (List.getElem?_eq_getElem hi) y
    rw [Reps.nth hi] at h1
    unfold loopD at h1
    have a1 : At K mg G P A1 L1 H1 σ1 A1 L1 s1 H2 (.pv ds[i]) x := At.mk' sr1 (Step.refl _ _ _) sr1.p0 ro
    refine ⟨P, A1, L1, H1, A1, L1, s1, _, a1, ((RunS.bind h1).on st1 fun _ z => z).imp fun _ s2 _ q A2 L2 σ2 H3 sr2 st2 => ?_⟩
    have st12 := st1.trans st2
    refine ⟨P, A2, L2, s2, sr2, ((RunS.bind q).on st12 fun _ z => z).imp fun fl s3 _ q => ?_⟩
    cases fl with
    | nx => exact fun A4 L4 σ4 H4 sr4 st4 => ⟨A4, L4, s3, sr4, st12.trans st4, q⟩
    | ct => exact fun A4 L4 σ4 H4 sr4 st4 => ⟨A4, L4, s3, sr4, st12.trans st4, q⟩
    | bk => exact fun A4 L4 σ4 H4 sr4 st4 => q A4 L4 σ4 H4 sr4 (st12.trans st4)
    | rt r => exact ⟨q.1, fun A4 L4 σ4 v H4 sr4 ok4 st4 => q.2 A4 L4 σ4 v H4 sr4 ok4 (st12.trans st4)⟩
  · have e : i = ds.length := by omega
    subst e
    rw [List.drop_length] at h1
    exact .inl ⟨stop, h1 A1 L1 σ1 H1 sr1 st1⟩
theorem sd_for {tg iter : Expr} {body : List Stmt} {it : IV} {g : GV} {f : SV} (hp : PassesOwn (model X.prog X.w) X.A X.env X.xe) (hc : X.calm = true) (hi : ID X G Wx tg iter it) (hg : GD X G Wx tg g) (hb : SsD X G Wx body f)
    (hs : ∀ x, foldedSetIterable iter X.env x = pure x := by intro _; rfl) : SD X G Wx (.For tg iter body [] pos) (sFor it g f) := by
  refine ⟨PS.imp (ps_for hp hc hi.pi hg.pg hb.pss hs) fun Dn σ H ⟨P, A, L, s, hs, h⟩ => ?_⟩
  refine ⟨P, A, L, s, hs, (RunS.bind h).run.imp fun ds s1 _ q A1 L1 H1 J sr1 ok1 st1 => ?_⟩
  exact tS_for sr1 ok1 (RunS.shift q st1)
/-! ### while -/
def loopW (t : TV) (body : SV) : Nat → S → Rs Fl
  | 0, _ => .bad
  | n + 1, s => (t s).bind fun b s1 => if b = true then (body s1).bind fun fl s2 => match fl with
    | .nx => loopW t body n s2
    | .ct => loopW t body n s2
    | .bk => .ok .nx s2
    | .rt r => .ok (.rt r) s2
    else .ok .nx s1
def sWhile (n : Nat) (t : TV) (body : SV) : SV := fun s => loopW t body n s
theorem sd_while {body : List Stmt} {t : TV} {f : SV} (n : Nat) (hp : PassesOwn (model X.prog X.w) X.A X.env X.xe) (hc : TD X G Wx c t) (hb : SsD X G Wx body f) : SD X G Wx (.While c body [] pos) (sWhile n t f) := by
  refine ⟨PS.imp (ps_while hp hc.pt hb.pss) fun Dn σ H ⟨P, A, L, s, hs, h⟩ => ?_⟩
  refine ⟨fun m σ' H' => ∃ A' L' s', SR X.K X.mg G P A' L' s' σ' H' ∧ Step A L H A' L' H' ∧ RunS X.K X.mg G Wx P A L H (loopW t f m s') (PostS X.K X.mg G P A L H Dn), ⟨n, A, L, s, hs, Step.refl _ _ _, h⟩, ?_⟩
  rintro m σ1 H1 ⟨A1, L1, s1, sr1, st1, h1⟩
  cases m with
  | zero => exact h1.elim
  | succ m =>
    unfold loopW at h1
    refine ⟨P, A1, L1, s1, sr1, ((RunS.bind h1).on st1 fun _ z => z).run.imp fun b s2 _ q A2 L2 H2 sr2 st2 => ?_⟩
    have st12 := st1.trans st2
    cases b with
    | true =>
      rw [if_pos rfl] at q
      refine iteT ⟨fun σ' H' => ∃ A' L' s', SR X.K X.mg G P A' L' s' σ' H' ∧ Step A L H A' L' H' ∧ RunS X.K X.mg G Wx P A L H (loopW t f m s') (PostS X.K X.mg G P A L H Dn), fun σ' H' n => ⟨m, by omega, n⟩, ?_⟩
      refine ⟨P, A2, L2, s2, sr2, ((RunS.bind q).on st12 fun _ z => z).imp fun fl s3 _ q => ?_⟩
      cases fl with
      | nx => exact fun A4 L4 σ4 H4 sr4 st4 => ⟨A4, L4, s3, sr4, st12.trans st4, q⟩
      | ct => exact fun A4 L4 σ4 H4 sr4 st4 => ⟨A4, L4, s3, sr4, st12.trans st4, q⟩
      | bk => exact fun A4 L4 σ4 H4 sr4 st4 => q A4 L4 σ4 H4 sr4 (st12.trans st4)
      | rt r => exact ⟨q.1, fun A4 L4 σ4 v H4 sr4 ok4 st4 => q.2 A4 L4 σ4 v H4 sr4 ok4 (st12.trans st4)⟩
    | false =>
      rw [if_neg (by decide)] at q
      refine iteF ?_
      exact q A2 L2 σ1 H2 sr2 st12
end
end DL
namespace DL
open PySem PySem.Spec PyProof.Rows L2
/-! ### the slots of a comprehension -/
def wipeN (η : List Slot) : List Nat → List Slot
  | [] => η
  | v :: vs => (wipeN η vs).set v .no
def restN (η0 η : List Slot) : List Nat → List Slot
  | [] => η
  | v :: vs => (restN η0 η vs).set v (η0.getD v .no)
def noOwn (η : List Slot) (vs : List Nat) : Bool := vs.all fun v => match η[v]? with
  | some (.ow _) => false
  | some (.od _) => false
  | some _ => true
  | none => false
theorem wipeN_len (η : List Slot) : ∀ vs, (wipeN η vs).length = η.length
  | [] => rfl
  | v :: vs => by unfold wipeN; rw [List.length_set, wipeN_len η vs]
theorem restN_len (η0 η : List Slot) : ∀ vs, (restN η0 η vs).length = η.length
  | [] => rfl
  | v :: vs => by unfold restN; rw [List.length_set, restN_len η0 η vs]
theorem wipeN_in {η : List Slot} {j : Nat} : ∀ {vs : List Nat}, j ∈ vs → j < η.length → (wipeN η vs)[j]? = some .no
  | v :: vs, h, hl => by
    unfold wipeN
    by_cases e : j = v
    · subst e; rw [List.getElem?_set_self (by rw [wipeN_len]; exact hl)]
    · rw [List.getElem?_set_ne (Ne.symm e)]
      exact wipeN_in ((List.mem_cons.mp h).resolve_left e) hl
theorem wipeN_out {η : List Slot} {j : Nat} : ∀ {vs : List Nat}, j ∉ vs → (wipeN η vs)[j]? = η[j]?
  | [], _ => rfl
  | v :: vs, h => by
    unfold wipeN
    rw [List.getElem?_set_ne (fun e => h (by rw [← e]; exact List.mem_cons_self))]
    exact wipeN_out fun z => h (List.mem_cons_of_mem _ z)
theorem restN_in {η0 η : List Slot} {j : Nat} : ∀ {vs : List Nat}, j ∈ vs → j < η.length → (restN η0 η vs)[j]? = some (η0.getD j .no)
  | v :: vs, h, hl => by
    unfold restN
    by_cases e : j = v
    · subst e; rw [List.getElem?_set_self (by rw [restN_len]; exact hl)]
    · rw [List.getElem?_set_ne (Ne.symm e)]
      exact restN_in ((List.mem_cons.mp h).resolve_left e) hl
theorem restN_out {η0 η : List Slot} {j : Nat} : ∀ {vs : List Nat}, j ∉ vs → (restN η0 η vs)[j]? = η[j]?
  | [], _ => rfl
  | v :: vs, h => by
    unfold restN
    rw [List.getElem?_set_ne (fun e => h (by rw [← e]; exact List.mem_cons_self))]
    exact restN_out fun z => h (List.mem_cons_of_mem _ z)
theorem wipe_in {σ : L2.St} {j : Nat} : ∀ {vs : List Nat}, j ∈ vs → j < σ.length → (wipe σ vs)[j]? = some none
  | v :: vs, h, hl => by
    unfold wipe
    by_cases e : j = v
    · subst e; rw [List.getElem?_set_self (by rw [wipe_length]; exact hl)]
    · rw [List.getElem?_set_ne (Ne.symm e)]
      exact wipe_in ((List.mem_cons.mp h).resolve_left e) hl
theorem wipe_out {σ : L2.St} {j : Nat} : ∀ {vs : List Nat}, j ∉ vs → (wipe σ vs)[j]? = σ[j]?
  | [], _ => rfl
  | v :: vs, h => by
    unfold wipe
    rw [List.getElem?_set_ne (fun e => h (by rw [← e]; exact List.mem_cons_self))]
    exact wipe_out fun z => h (List.mem_cons_of_mem _ z)
theorem wipe_ext {σ σ' : L2.St} {vs : List Nat} (hl : σ'.length = σ.length) (h : ∀ j : Nat, j ∉ vs → σ'[j]? = σ[j]?) : wipe σ' vs = wipe σ vs := by
  apply List.ext_getElem?
  intro j
  by_cases hj : j ∈ vs
  · by_cases hb : j < σ.length
    · rw [wipe_in hj hb, wipe_in hj (by rw [hl]; exact hb)]
    · rw [List.getElem?_eq_none (by rw [wipe_length]; omega), List.getElem?_eq_none (by rw [wipe_length]; omega)]
  · rw [wipe_out hj, wipe_out hj, h j hj]
theorem wipe_set {σ : L2.St} {vs : List Nat} {i : Nat} {v : Option V} (h : i ∈ vs) : wipe (σ.set i v) vs = wipe σ vs :=
  wipe_ext (by simp) fun j hj => List.getElem?_set_ne fun e => hj (by rw [← e]; exact h)
section
variable {K : PySem.W.Frag} {mg : Str → Option Value} {X : Cx} {G : Gm} {Wx : WX} {a b c e : Expr} {es : List Expr} {fa fb fc fe : EV} {pos : Pos} {α β : Type}
variable {P P' : Addr → Prop} {A A' A1 : List (Option Addr)} {σ σ' : L2.St} {L L' L1 : List Addr} {H H' H1 : Hp} {s s' : S} {vs : List Nat}
theorem SR.slots {η' : List Slot} (hs : SR K mg G P A L s σ H) (h1 : σ'.length = η'.length) (h2 : A.length = η'.length) (h : ∀ (i : Nat) (x : Slot), η'[i]? = some x → ∃ ov oa, σ'[i]? = some ov ∧ A[i]? = some oa ∧ SlotOk K mg (Bd P A L) H L ov oa x ∧ (x = .ex → ov = some (.ref G.xa))) :
    SR K mg G P A L { s with η := η' } σ' H := { hs with lenσ := h1, lenA := h2, slot := fun i x e => let ⟨ov, oa, e1, e2, q, _⟩ := h i x e; ⟨ov, oa, e1, e2, q⟩, exn := fun i e => let ⟨ov, oa, e1, e2, q, x⟩ := h i .ex e; by rw [e1, x rfl] }
theorem noOwn_at {η : List Slot} {j : Nat} (h : noOwn η vs = true) (hj : j ∈ vs) : ∃ x, η[j]? = some x ∧ (∀ ds, x ≠ .ow ds) ∧ ∀ kvs, x ≠ .od kvs := by
  have z := List.all_eq_true.mp h j hj
  cases q : η[j]? with
  | none => rw [q] at z; cases z
  | some x =>
    refine ⟨x, rfl, fun ds e => ?_, fun ds e => ?_⟩
    · rw [q, e] at z; cases z
    · rw [q, e] at z; cases z
theorem SlotOk.free {B : Addr → Prop} {ov : Option V} {oa : Option Addr} {x : Slot} (h : SlotOk K mg B H L ov oa x) (n : (∀ ds, x ≠ .ow ds) ∧ ∀ kvs, x ≠ .od kvs) : oa = none := by
  cases x with
  | no => exact h
  | pv d => exact h.1
  | lc d => exact h.1
  | ex => exact h
  | ow ds => exact absurd rfl (n.1 ds)
  | od ds => exact absurd rfl (n.2 ds)
theorem SR.wiped (hs : SR K mg G P A L s σ H) (h : noOwn s.η vs = true) : SR K mg G P A L { s with η := wipeN s.η vs } (wipe σ vs) H := by
  refine hs.slots (by rw [wipe_length, wipeN_len]; exact hs.lenσ) (by rw [wipeN_len]; exact hs.lenA) fun j x e => ?_
  by_cases hj : j ∈ vs
  · obtain ⟨y, ey, ny⟩ := noOwn_at h hj
    obtain ⟨hl, ov, oa, e1, e2, so⟩ := hs.slot' ey
    rw [wipeN_in hj hl] at e
    cases e
    have := so.free ny
    subst this
    exact ⟨none, none, wipe_in hj (by rw [hs.lenσ]; exact hl), e2, rfl, nofun⟩
  · rw [wipeN_out hj] at e
    obtain ⟨ov, oa, e1, e2, so⟩ := hs.slot j x e
    exact ⟨ov, oa, by rw [wipe_out hj]; exact e1, e2, so, fun z => by subst z; have q := hs.exn j e; rw [e1] at q; exact Option.some.inj q⟩
/-- behind the comprehension its slots are what they were -/
theorem SR.rest {P0 : Addr → Prop} {A0 : List (Option Addr)} {L0 : List Addr} {H0 : Hp} {s0 : S} (h0 : SR K mg G P0 A0 L0 s0 σ H0) (n0 : noOwn s0.η vs = true) (st : Step A0 L0 H0 A L H) (hP : ∀ a, P a → P0 a ∨ H0 a = none)
    (hs : SR K mg G P A L { s with η := wipeN s.η vs } (wipe σ vs) H) (hl : s.η.length = s0.η.length) : SR K mg G P A L { s with η := restN s0.η s.η vs } σ H := by
  refine hs.slots (η' := restN s0.η s.η vs) (by rw [restN_len, hl]; exact h0.lenσ) (by rw [restN_len]; have := hs.lenA; rw [wipeN_len] at this; exact this) fun j x e => ?_
  by_cases hj : j ∈ vs
  · obtain ⟨y, ey, ny⟩ := noOwn_at n0 hj
    obtain ⟨hjl, ov, oa, e1, e2, so⟩ := h0.slot' ey
    have hjl' : j < s.η.length := by rw [hl]; exact hjl
    rw [restN_in hj hjl'] at e
    have e3 : s0.η.getD j .no = y := by rw [List.getD_eq_getElem?_getD, ey]; rfl
    rw [e3] at e
    cases e
    obtain ⟨ov', oa', f1, f2, so'⟩ := hs.slot j .no (wipeN_in hj hjl')
    have : oa' = none := so'
    subst this
    have := so.free ny
    subst this
    refine ⟨ov, none, e1, f2, so.move (fun a o h nb p => ?_) (fun _ _ z => nomatch z) (fun _ _ q => st.loc q), fun z => by subst z; have q := h0.exn j ey; rw [e1] at q; exact Option.some.inj q⟩
    have y := st.mv (P := P0) a o h nb p
    refine ⟨y.1, fun z => y.2 ?_⟩
    rcases z with z | z | z
    · exact .inl z
    · exact .inr (.inl z)
    · rcases hP a z with q | q
      · exact .inr (.inr q)
      · rw [h] at q; cases q
  · rw [restN_out hj] at e
    obtain ⟨ov, oa, f1, f2, so⟩ := hs.slot j x (by rw [wipeN_out hj]; exact e)
    rw [wipe_out hj] at f1
    exact ⟨ov, oa, f1, f2, so, fun z => by subst z; have q := hs.exn j (by rw [wipeN_out hj]; exact e); rw [wipe_out hj] at q; rw [f1] at q; exact Option.some.inj q⟩
/-! ### its target -/
def tGv (K : PySem.W.Frag) (mg : Str → Option Value) (G : Gm) (vs : List Nat) (g : GV) : TG := fun v σ H Q => ∃ P A0 L0 H0 A L s r s', At K mg G P A0 L0 H0 σ A L s H r v ∧ g r s = .ok () s' ∧
  ∀ A' L' σ' H', SR K mg G P A' L' s' σ' H' → Step A0 L0 H0 A' L' H' → wipe σ' vs = wipe σ vs → Q σ' H'
structure GDv (X : Cx) (G : Gm) (vs : List Nat) (t : Expr) (g : GV) : Prop where
  pg : PG X t (tGv X.K X.mg G vs g)
theorem gv_set {r : RV} {v : V} {i : Nat} {Q : L2.St → Hp → Prop} {s' : S} (a : At K mg G P A L H σ A1 L1 s H1 r v) (h : gSet i r s = .ok () s') (q : ∀ A' L' σ' H', SR K mg G P A' L' s' σ' H' → Step A L H A' L' H' → σ' = σ.set i (some v) → Q σ' H') : Q (σ.set i (some v)) H1 := by
  unfold gSet at h
  split at h
  · rename_i r' s1 e
    obtain ⟨_, A2, a2⟩ := a.keep e
    split at h
    · rename_i hi
      split at h
      · rename_i x ex
        obtain ⟨oa, sr, ho⟩ := a2.put hi ex
        cases h
        exact q _ _ _ _ sr (a2.putStep ho) rfl
      · cases h
    · cases h
  · cases h
theorem gv_name {i : Nat} {x : Str} (hv : i ∈ vs) (hN : X.N.Nodup) (hi : X.N[i]? = some x) (hx : Loc X.env.scope x) (hf : X.fn x = true ∨ X.env.scope.names.lookup x = some .local := by first | exact .inl rfl | exact .inr rfl | assumption) : GDv X G vs (.Name x pos) (gSet i) :=
  ⟨PG.imp (pg_name hN hi hx hf) fun v σ H Q ⟨P, A0, L0, H0, A, L, s, r, s', a, h, q⟩ => gv_set a h fun A' L' σ' H' sr st e => q A' L' σ' H' sr st (by rw [e]; exact wipe_set hv)⟩
def tGsv (K : PySem.W.Frag) (mg : Str → Option Value) (G : Gm) (vs : List Nat) (g : GVs) : TGs := fun ws σ H Q => ∃ P A L s ds s', SR K mg G P A L s σ H ∧ Reps K mg (Bd P A L) H ds ws ∧ g ds s = .ok () s' ∧
  ∀ A' L' σ' H', SR K mg G P A' L' s' σ' H' → Step A L H A' L' H' → wipe σ' vs = wipe σ vs → Q σ' H'
structure GsDv (X : Cx) (G : Gm) (vs : List Nat) (t : List Expr) (g : GVs) : Prop where
  pgs : PGs X t (tGsv X.K X.mg G vs g)
theorem gsv_nil : GsDv X G vs [] gNilD := by
  refine ⟨PGs.imp pgs_nil fun ws σ H Q ⟨P, A, L, s, ds, s', sr, r, h, q⟩ => ?_⟩
  unfold gNilD at h
  split at h
  · unfold Reps at r; cases h; exact ⟨r, q A L σ H sr (Step.refl _ _ _) rfl⟩
  · cases h
theorem gsv_cons {t : Expr} {ts : List Expr} {g : GV} {gs : GVs} (h1 : GDv X G vs t g) (h2 : GsDv X G vs ts gs) (hs : (assignEach (t :: ts) X.env).map (·.2) = assign t X.env :: (assignEach ts X.env).map (·.2) := by rfl) : GsDv X G vs (t :: ts) (gConsD g gs) := by
  refine ⟨PGs.imp (pgs_cons h1.pg h2.pgs hs) fun ws σ H Q ⟨P, A, L, s, ds, s', sr, r, h, q⟩ => ?_⟩
  unfold gConsD at h
  split at h
  · rename_i d ds
    unfold Reps at r
    obtain ⟨v, ws, rfl, r1, r2⟩ := r
    cases e : g (.pv d) s with
    | bad => rw [e] at h; cases h
    | err _ _ => rw [e] at h; cases h
    | ok u s1 =>
      rw [e] at h
      refine ⟨v, ws, rfl, P, A, L, H, A, L, s, .pv d, s1, ⟨sr.lessP (Wi.pv nofun), r1, OwNew.of nofun, Step.refl _ _ _, sr.p0⟩, e, fun A2 L2 σ2 H2 sr2 st2 w2 => ?_⟩
      exact ⟨P, A2, L2, s1, ds, s', sr2, r2.step st2, h, fun A3 L3 σ3 H3 sr3 st3 w3 => q A3 L3 σ3 H3 sr3 (st2.trans st3) (w3.trans w2)⟩
  · cases h
theorem gv_tup {es : List Expr} {k : Nat} {gs : GVs} {n : Nat} (hc : X.calm = true) (h : GsDv X G vs es gs) (hn : (assignEach es X.env).length = n := by rfl) (hst : (assignEach es X.env).findIdx? (·.1) = none := by rfl) : GDv X G vs (.Tuple es k pos) (gTupD (lenIs n gs)) := by
  refine ⟨PG.imp (PG.or (pg_tup hc h.pgs hn hst) (pg_lst hc h.pgs hn hst)) fun v σ H Q ⟨P, A0, L0, H0, A, L, s, r, s', a, h, q⟩ => ?_⟩
  unfold gTupD at h
  have w := a.weak
  cases e1 : rd r s with
  | none => rw [e1] at h; cases h
  | some d =>
    rw [e1] at h
    simp only at h
    cases e2 : seqD d with
    | none => rw [e2] at h; cases h
    | some ds =>
      rw [e2] at h
      unfold lenIs at h
      simp only at h
      split at h
      · rename_i hl
        have pr := rd_ok w a.ok e1
        have fin : ∀ {ws : List V}, Reps X.K X.mg (Bd P A L) H ds ws → tGsv X.K X.mg G vs gs ws σ H Q := fun r => ⟨P, A, L, s, ds, s', w, r, h, fun A3 L3 σ3 H3 sr3 st3 w3 => q A3 L3 σ3 H3 sr3 (a.st.trans st3) w3⟩
        cases d with
        | tup xs => cases e2; obtain ⟨p, vs, rfl, t, r⟩ := pr.tup; exact .inl ⟨p, vs, rfl, t.sq, by rw [← r.length]; exact hl, fin r⟩
        | lst xs => cases e2; obtain ⟨p, vs, rfl, t, r⟩ := pr.lst; exact .inr ⟨p, vs, rfl, SqL.of t, by rw [← r.length]; exact hl, fin r⟩
        | scr xs => cases e2; obtain ⟨p, vs, rfl, t, r⟩ := pr.scr; exact .inr ⟨p, vs, rfl, t.sq, by rw [← r.length]; exact hl, fin r⟩
        | _ => cases e2
      · cases h
/-! ### the comprehension -/
/-- a value is frozen; no errors leave the block -/
def fzR (r : RV) (s : S) : Rs D := match fz r s with
  | some (d, s') => .ok d s'
  | none => .bad
def noErr {α : Type} (x : Rs α) : Rs α := match x with
  | .ok a s => .ok a s
  | _ => .bad
def tTrue : TV := fun s => .ok true s
def loopC (vs : List Nat) (g : GV) (t : TV) (fe : EV) : List D → List D → S → Rs (List D)
  | [], acc, s => .ok acc s
  | d :: ds, acc, s => (g (.pv d) s).bind fun _ s1 => (t s1).bind fun b s2 => if b = true then (fe s2).bind fun r s3 => (fzR r s3).bind fun y s4 => if acc.length < sizeLine then loopC vs g t fe ds (acc ++ [y]) { s4 with η := wipeN s4.η vs } else .bad
    else loopC vs g t fe ds acc { s2 with η := wipeN s2.η vs }
def eComp (vs : List Nat) (it : IV) (g : GV) (t : TV) (fe : EV) : EV := fun s => (it s).bind fun ds s1 => if noOwn s1.η vs = true then (noErr (loopC vs g t fe ds [] { s1 with η := wipeN s1.η vs })).bind fun acc s2 => .ok (.ow acc) { s2 with η := restN s1.η s2.η vs } else .bad
theorem wipeN_idem (η : List Slot) (vs : List Nat) : wipeN (wipeN η vs) vs = wipeN η vs := by
  apply List.ext_getElem?
  intro j
  by_cases hj : j ∈ vs
  · by_cases hb : j < η.length
    · rw [wipeN_in hj (by rw [wipeN_len]; exact hb), wipeN_in hj hb]
    · rw [List.getElem?_eq_none (by rw [wipeN_len, wipeN_len]; omega), List.getElem?_eq_none (by rw [wipeN_len]; omega)]
  · rw [wipeN_out hj]
/-- the slots forgotten, whatever they own -/
theorem SR.wipeA (hs : SR K mg G P A L s σ H) : ∀ vs : List Nat, ∃ A', SR K mg G P A' L { s with η := wipeN s.η vs } (wipe σ vs) H ∧ Step A L H A' L H ∧ ∀ a, some a ∈ A' → some a ∈ A
  | [] => ⟨A, hs, Step.refl _ _ _, fun _ z => z⟩
  | v :: vs => by
    obtain ⟨A', sr, st, m⟩ := SR.wipeA hs vs
    by_cases hv : v < s.η.length
    · have hv' : v < (wipeN s.η vs).length := by rw [wipeN_len]; exact hv
      have lσ := sr.lenσ
      refine ⟨A'.set v none, sr.set (x := .no) (σ' := (wipe σ vs).set v none) (ov := none) hv' (fun _ z => z) (fun _ z => nomatch z) ⟨by simp, List.getElem?_set_self (by rw [lσ]; exact hv'), fun j hj => List.getElem?_set_ne (Ne.symm hj)⟩ rfl, st.trans Step.drop, fun a z => m a ((mem_set z).elim id nofun)⟩
    · have e1 : wipeN s.η (v :: vs) = wipeN s.η vs := by
        show (wipeN s.η vs).set v .no = _
        exact List.set_eq_of_length_le (by rw [wipeN_len]; omega)
      have e2 : wipe σ (v :: vs) = wipe σ vs := by
        show (wipe σ vs).set v none = _
        exact List.set_eq_of_length_le (by rw [wipe_length, hs.lenσ]; omega)
      rw [e1, e2]
      exact ⟨A', sr, st, m⟩
/-- what is in other hands is changed -/
theorem SR.updP {p : Addr} {xs ys : List V} (hs : SR K mg G P A L s σ H) (hp : P p) (hH : H p = some (.lst xs)) (h0 : G.H0 p = none) : SR K mg G P A L s σ (upd H p (.lst ys)) := by
  have pk := hs.pOk p hp
  have mv : ∀ a o, H a = some o → ¬ Bd P A L a → Plain o → upd H p (.lst ys) a = some o ∧ ¬ Bd P A L a := fun a o h n _ => ⟨by rw [upd_ne (fun z => n (by rw [z]; exact .inr (.inr hp)))]; exact h, n⟩
  have th : ∀ a o, H a = some o → ∃ o', upd H p (.lst ys) a = some o' := fun a o h => by
    by_cases e : a = p
    · subst e; exact ⟨_, upd_same⟩
    · exact ⟨o, by rw [upd_ne e]; exact h⟩
  have neA : ∀ a, some a ∈ A → a ≠ p := fun a z e => pk.2.1 (e ▸ z)
  have tb : ∀ a, GxR.TabG H a → GxR.TabG (upd H p (.lst ys)) a := fun a ⟨ps, h, t⟩ => ⟨ps, by rw [upd_ne (fun z => by subst z; rw [hH] at h; cases h)]; exact h, t⟩
  exact { hs with
    slot := fun i x e => let ⟨ov, oa, e1, e2, q⟩ := hs.slot i x e; ⟨ov, oa, e1, e2, q.move mv (fun a vs z _ h => by rw [upd_ne (neA a (by rw [← z]; exact List.mem_of_getElem? e2))]; exact h) fun _ _ h => h⟩
    loc := fun n ds e => let ⟨a, vs, e1, e2, r⟩ := hs.loc n ds e; ⟨a, vs, e1, by rw [upd_ne (fun z => pk.2.2 (by rw [← z]; exact List.mem_of_getElem? e1))]; exact e2, r.move mv⟩
    own := fun a z => let ⟨o, e, m⟩ := hs.own a z; ⟨o, by rw [upd_ne (neA a z)]; exact e, m⟩
    tab := fun a z => tb a (hs.tab a z)
    ent := ⟨fun a o h hA hL q => by rw [upd_ne (fun z => by subst z; rw [h0] at h; cases h)]; exact hs.ent.frm a o h hA hL q, hs.ent.new, hs.ent.pre, fun a o h => let ⟨o', h'⟩ := hs.ent.there a o h; th a o' h', fun a h => tb a (hs.ent.tab a h)⟩
    pOk := fun a z => let w := hs.pOk a z; ⟨let ⟨o, e⟩ := w.1; th a o e, w.2⟩ }
theorem Step.updNew {p : Addr} {xs ys : List V} (st : Step A L H A' L' H') (hp : H p = none) (hp' : H' p = some (.lst xs)) : Step A L H A' L' (upd H' p (.lst ys)) := by
  refine ⟨fun a o h hA hL q => ?_, st.new, st.pre, fun a o h => ?_, fun a h => ?_⟩
  · rw [upd_ne (fun z => by subst z; rw [hp] at h; cases h)]; exact st.frm a o h hA hL q
  · obtain ⟨o', h'⟩ := st.there a o h
    exact ⟨o', by rw [upd_ne (fun z => by subst z; rw [hp] at h; cases h)]; exact h'⟩
  · obtain ⟨ps, h', t⟩ := st.tab a h
    exact ⟨ps, by rw [upd_ne (fun z => by subst z; rw [hp'] at h'; cases h')]; exact h', t⟩
/-- the block's contexts -/
abbrev Blk (X : Cx) (scope : Scope) (sh : Shared) (H : Hp) (C : Addr) (cl : List (Str × Addr)) (fp : List Addr) : Cx := X.blk sh H scope (compEnvC scope cl C X.env) fp
abbrev W0 : WX := fun _ _ _ _ => False
theorem Run.ok0 {x : Rs α} {Q : α → S → Prop} (h : ∃ a s', x = .ok a s' ∧ Q a s') : Run K mg G Wx P A L H σ x Q := by
  obtain ⟨a, s', e, q⟩ := h
  rw [e]; exact q
theorem bind_ok {x : Rs α} {k : α → S → Rs β} {b : β} {s' : S} (h : x.bind k = .ok b s') : ∃ a s1, x = .ok a s1 ∧ k a s1 = .ok b s' := by
  cases x with
  | ok a s1 => exact ⟨a, s1, rfl, h⟩
  | err _ _ => cases h
  | bad => cases h
theorem ed_compQ {elt tg iter : Expr} {ifs : List Expr} {scope : Scope} {own : List (Str × Nat)} {it : IV} {g : GV} {t : TV} {tt : TT} {te : TE} {σ : L2.St} {Q : VK} {vs : List Nat}
    (ht : ∀ {σ H Q}, tT K mg G W0 t σ H Q → tt σ H Q) (hte : ∀ {σ H Q}, tE K mg G W0 fe σ H Q → te σ H Q)
    (h : tE K mg G Wx (eComp vs it g t fe) σ H Q) : tLc (tI K mg G Wx it) (tGv K mg G vs g) tt te vs σ H Q := by
  obtain ⟨P, A, L, s, hs, h⟩ := h
  refine ⟨P, A, L, s, hs, (Run.bind h).imp fun ds s1 _ h1 A1 L1 H1 J sr1 ok1 st1 => ?_⟩
  by_cases nO : noOwn s1.η vs = true
  · rw [if_pos nO] at h1
    cases e : loopC vs g t fe ds [] { s1 with η := wipeN s1.η vs } with
    | bad => rw [e] at h1; exact h1.elim
    | err _ _ => rw [e] at h1; exact h1.elim
    | ok acc sf =>
      rw [e] at h1
      have h1 : PostE K mg G P A L H σ Q (.ow acc) { sf with η := restN s1.η sf.η vs } := h1
      intro p hp
      let P1 : Addr → Prop := fun a => P a ∨ a = p
      have srw := sr1.wiped nO
      have sr0 : SR K mg G P1 A1 L1 { s1 with η := wipeN s1.η vs } (wipe σ vs) (upd H1 p (.lst [])) := srw.keep (keep_upd hp) fun a z => z.imp id fun z => by subst z; exact ⟨⟨_, upd_same⟩, hp⟩
      have stp : Step A1 L1 H1 A1 L1 (upd H1 p (.lst [])) := Step.keep (keep_upd hp)
      refine ⟨fun i m H' => i + m = ds.length ∧ ∃ A' L' s' cc ccV, SR K mg G P1 A' L' s' (wipe σ vs) H' ∧ Step A1 L1 H1 A' L' H' ∧ some p ∉ A' ∧ p ∉ L' ∧ H' p = some (.lst ccV) ∧ Reps K mg (fun b => b = p ∨ Bd P A' L' b) H' cc ccV ∧ s'.η.length = s1.η.length ∧ wipeN s'.η vs = s'.η ∧
          loopC vs g t fe (ds.drop i) cc s' = .ok acc sf,
        ⟨ds.length, by omega, A1, L1, _, [], [], sr0, stp, ?_, ?_, upd_same, Reps.nil, by rw [wipeN_len], ?_, e⟩, ?_⟩
      · intro z; obtain ⟨o, eo⟩ := sr1.there p (.inl z); rw [hp] at eo; cases eo
      · intro z; obtain ⟨o, eo⟩ := sr1.there p (.inr (.inl z)); rw [hp] at eo; cases eo
      · exact wipeN_idem _ _
      · rintro i m H2 ⟨em, A2, L2, s2, cc, ccV, sr2, st2, na, nl, hpv, rc, hlen, hw, e2⟩
        have np0 : G.H0 p = none := by
          cases q : G.H0 p with
          | none => rfl
          | some o =>
            obtain ⟨o', q'⟩ := sr1.ent.there p o q
            rw [hp] at q'; cases q'
        obtain ⟨go, stop, yld⟩ := ok1 P1 A2 L2 H2 (fun a z => z.imp id fun z => by rw [z]; exact hp) st2 sr2.there
        by_cases hi : i < ds.length
        · refine .inr ⟨go i hi, fun H' => ∃ A' L' s' cc ccV, SR K mg G P1 A' L' s' (wipe σ vs) H' ∧ Step A1 L1 H1 A' L' H' ∧ some p ∉ A' ∧ p ∉ L' ∧ H' p = some (.lst ccV) ∧ Reps K mg (fun b => b = p ∨ Bd P A' L' b) H' cc ccV ∧ s'.η.length = s1.η.length ∧ wipeN s'.η vs = s'.η ∧
            loopC vs g t fe (ds.drop (i + 1)) cc s' = .ok acc sf, fun H' n => ⟨m - 1, by omega, by omega, n⟩, fun x H3 y => ?_⟩
          have ro := yld i _ x H3 (List.getElem?_eq_getElem hi) y
          rw [Reps.nth hi] at e2
          unfold loopC at e2
          obtain ⟨_, s3, eg, e2⟩ := bind_ok e2
          obtain ⟨b, s4, et, e2⟩ := bind_ok e2
          have a2 : At K mg G P1 A2 L2 H2 (wipe σ vs) A2 L2 s2 H3 (.pv ds[i]) x := At.mk' sr2 (Step.refl _ _ _) sr2.p0 ro
          refine ⟨P1, A2, L2, H2, A2, L2, s2, _, s3, a2, eg, fun A3 L3 σ3 H4 sr3 st3 w3 => ?_⟩
          have w3 : wipe σ3 vs = wipe σ vs := w3.trans (wipe_ext (wipe_length _ _) fun j hj => wipe_out hj)
          have l3 : s3.η.length = s1.η.length := by rw [← sr3.lenσ, ← wipe_length σ3 vs, w3, sr2.lenσ]; exact hlen
          refine ⟨w3, ht ⟨P1, A3, L3, s3, sr3, Run.ok0 ⟨b, s4, et, fun A4 L4 H5 sr4 st4 => ?_⟩⟩⟩
          have l4 : s4.η.length = s1.η.length := by rw [← sr4.lenσ, sr3.lenσ]; exact l3
          cases b with
          | true =>
            rw [if_pos rfl] at e2
            obtain ⟨r, s5, ef, e2⟩ := bind_ok e2
            obtain ⟨y', s6, ez, e2⟩ := bind_ok e2
            refine iteT (hte ⟨P1, A4, L4, s4, sr4, Run.ok0 ⟨r, s5, ef, fun A5 L5 v H6 a5 => ?_⟩⟩)
            have ez : fz r s5 = some (y', s6) := by
              unfold fzR at ez
              split at ez
              · rename_i q; cases ez; exact q
              · cases ez
            split at e2
            · rename_i hz
              obtain ⟨A6, sr6, rp, st6⟩ := a5.frz ez
              have S' := st3.trans (st4.trans st6)
              have out := S'.out hpv na nl
              have h6 := S'.frm p _ hpv na nl (fun _ => nofun)
              obtain ⟨A7, sr7, st7, m7⟩ := sr6.wipeA vs
              rw [w3] at sr7
              have na7 : some p ∉ A7 := fun z => out.1 (m7 p z)
              refine ⟨ccV, h6, by rw [← rc.length]; exact hz, A7, L5, _, cc ++ [y'], ccV ++ [v], sr7.updP (.inr rfl) h6 np0, ((st2.trans S').trans st7).updNew hp h6, na7, out.2, upd_same, ?_, ?_, wipeN_idem _ _, e2⟩
              · refine Reps.append (rc.move fun a o h n pl => ?_) (Reps.one (rp.move fun a o h n pl => ?_))
                · have z := (S'.trans st7).mv (P := P) a o h (fun w => n (.inr w)) pl
                  have ne : a ≠ p := fun w => n (.inl w)
                  exact ⟨by rw [upd_ne ne]; exact z.1, fun w => w.elim ne z.2⟩
                · have ne : a ≠ p := fun w => n (.inr (.inr (.inr w)))
                  refine ⟨by rw [upd_ne ne]; exact h, fun w => w.elim ne fun w => ?_⟩
                  rcases w with w | w | w
                  · exact n (.inl (m7 a w))
                  · exact n (.inr (.inl w))
                  · exact n (.inr (.inr (.inl w)))
              · show (wipeN s6.η vs).length = _
                rw [wipeN_len, ← sr6.lenσ, sr4.lenσ]; exact l4
            · cases e2
          | false =>
            rw [if_neg (by decide)] at e2
            have S' := st3.trans st4
            have out := S'.out hpv na nl
            have h5 := S'.frm p _ hpv na nl (fun _ => nofun)
            obtain ⟨A7, sr7, st7, m7⟩ := sr4.wipeA vs
            rw [w3] at sr7
            refine iteF ⟨A7, L4, _, cc, ccV, sr7, (st2.trans S').trans st7, fun z => out.1 (m7 p z), out.2, h5, rc.move fun a o h n pl => ?_, ?_, wipeN_idem _ _, e2⟩
            · have z := (S'.trans st7).mv (P := P) a o h (fun w => n (.inr w)) pl
              exact ⟨z.1, fun w => w.elim (fun w => n (.inl w)) z.2⟩
            · show (wipeN s4.η vs).length = _
              rw [wipeN_len]; exact l4
        · have e3 : i = ds.length := by omega
          subst e3
          rw [List.drop_length] at e2
          unfold loopC at e2
          cases e2
          have own : ∀ a, Own (.ow acc) (.ref p) a → a = p := fun a z => by have := z.2; cases this; rfl
          have srw' : SR K mg G (Wi P (.ow acc) (.ref p)) A2 L2 { sf with η := wipeN sf.η vs } (wipe σ vs) H2 := by
            rw [hw]
            exact sr2.lessP fun a z => z.imp id (own a)
          refine .inl ⟨stop, h1 A2 L2 (.ref p) H2 ⟨?_, ⟨p, ccV, rfl, hpv, rc, na, nl, np0⟩, fun a z => ?_, st1.trans st2, hs.p0⟩⟩
          · exact SR.rest sr1 nO st2 (fun a z => z.imp id fun z => by rw [own a z]; exact hp) srw' hlen
          · have := own a z
            subst this
            cases q : H a with
            | none => exact .inr rfl
            | some o =>
              obtain ⟨o', q'⟩ := st1.there a o q
              rw [hp] at q'; cases q'
  · rw [if_neg nO] at h1; exact h1.elim
/-- the tests of a comprehension -/
structure CD (X : Cx) (G : Gm) (ifs : List Expr) (t : TV) (tt : TT) : Prop where
  pts : PTs X ifs tt
  of : ∀ {σ H Q}, tT X.K X.mg G W0 t σ H Q → tt σ H Q
theorem cd_nil : CD X G [] tTrue tYes := ⟨pts_nil, fun ⟨P, A, L, s, hs, h⟩ => h A L _ hs (Step.refl _ _ _)⟩
theorem cd_one {t : TV} (h : TD X G W0 c t) : CD X G [c] t (tT X.K X.mg G W0 t) := ⟨pts_one h.pt, fun h => h⟩
variable {elt tg iter : Expr} {ifs : List Expr} {scope : Scope} {own : List (Str × Nat)} {it : IV} {g : GV} {t : TV} {tt : TT}
theorem ed_comp (own : List (Str × Nat)) (hc : X.calm = true) (hN : X.N.Nodup) (hi : ID X G Wx tg iter it) (ok : BlkOk X.N X.env.scope scope own)
    (hg : ∀ (s : Shared) (H : Hp) (C : Addr) (cl : List (Str × Addr)) (fp : List Addr), GDv (Blk X scope s H C cl fp) G (own.map (·.2)) tg g)
    (ht : ∀ (s : Shared) (H : Hp) (C : Addr) (cl : List (Str × Addr)) (fp : List Addr), CD (Blk X scope s H C cl fp) G ifs t tt)
    (he : ∀ (s : Shared) (H : Hp) (C : Addr) (cl : List (Str × Addr)) (fp : List Addr), ED (Blk X scope s H C cl fp) G W0 elt fe) (hs : ∀ x, foldedSetIterable iter X.env x = pure x := by intro _; rfl) :
    ED X G Wx (.ListComp elt [⟨tg, iter, ifs, 0⟩] scope pos) (eComp (own.map (·.2)) it g t fe) := by
  refine ⟨⟨fun pins sh σ H Q I h => ?_⟩⟩
  exact (pe_lc (te := tE X.K X.mg G W0 fe) (g := tGv X.K X.mg G (own.map (·.2)) g) hc hN hi.pi ok (fun s H C cl fp => (hg s H C cl fp).pg) (fun s H C cl fp => (ht s H C cl fp).pts) (fun s H C cl fp => (he s H C cl fp).pe) hs).run pins sh σ H Q I
    (ed_compQ (elt := elt) (tg := tg) (iter := iter) (ifs := ifs) (scope := scope) (own := own) (ht sh H 0 [] []).of (fun h => h) h)
theorem sd_setComp {i : Nat} {y : Str} {py spos : Pos} (own : List (Str × Nat)) (hc : X.calm = true) (hN : X.N.Nodup) (hy : X.N[i]? = some y) (hyl : X.env.scope.names.lookup y = some .local)
    (hsw : swapsWith (.ListComp elt [⟨tg, iter, ifs, 0⟩] scope pos) (some (.Name y py)) spos.line X.env = pure true) (hi : ID X G Wx tg iter it) (ok : BlkOk X.N X.env.scope scope own)
    (hg : ∀ (s : Shared) (H : Hp) (C : Addr) (cl : List (Str × Addr)) (fp : List Addr), GDv (Blk X scope s H C cl fp) G (own.map (·.2)) tg g)
    (ht : ∀ (s : Shared) (H : Hp) (C : Addr) (cl : List (Str × Addr)) (fp : List Addr), CD (Blk X scope s H C cl fp) G ifs t tt)
    (he : ∀ (s : Shared) (H : Hp) (C : Addr) (cl : List (Str × Addr)) (fp : List Addr), ED (Blk X scope s H C cl fp) G W0 elt fe) (hs : ∀ x, foldedSetIterable iter X.env x = pure x := by intro _; rfl) :
    SD X G Wx (.Assign [.Name y py] (.ListComp elt [⟨tg, iter, ifs, 0⟩] scope pos) spos) (sAsg (eComp (own.map (·.2)) it g t fe) (gSet i)) := by
  refine ⟨⟨fun pins sh σ H Dn I h => ?_⟩⟩
  refine (ps_setLc (te := tE X.K X.mg G W0 fe) (g := tGv X.K X.mg G (own.map (·.2)) g) hc hN hy hyl hsw hi.pi ok (fun s H C cl fp => (hg s H C cl fp).pg) (fun s H C cl fp => (ht s H C cl fp).pts) (fun s H C cl fp => (he s H C cl fp).pe) hs).run pins sh σ H Dn I ?_
  refine ed_compQ (Wx := Wx) (elt := elt) (tg := tg) (iter := iter) (ifs := ifs) (scope := scope) (own := own) (ht sh H 0 [] []).of (fun h => h) ?_
  exact tE.mono (tS_asg h) fun v H1 ⟨P, A0, L0, H0, A, L, s, r, a, h⟩ => run_gSet a h
end
end DL
namespace DL
open PySem PySem.Spec PyProof.Rows L2
section
variable {K : PySem.W.Frag} {mg : Str → Option Value} {X : Cx} {G : Gm} {Wx : WX} {a b c e : Expr} {es : List Expr} {fa fb fc fe : EV} {pos : Pos} {α β : Type}
variable {P P' : Addr → Prop} {A A' A1 : List (Option Addr)} {σ σ' : L2.St} {L L' L1 : List Addr} {H H' H1 : Hp} {s s' : S} {vs : List Nat}
/-! ### a list is changed in its place -/
def lstAt (i : Nat) (s : S) : Option (List D) := match s.η[i]? with
  | some (.ow ds) => some ds
  | some (.lc n) => s.W[n]?
  | _ => none
def lstPut (i : Nat) (ds : List D) (s : S) : S := match s.η[i]? with
  | some (.ow _) => { s with η := s.η.set i (.ow ds) }
  | some (.lc n) => { s with W := s.W.set n ds }
  | _ => s
theorem Step.mutate {p : Addr} {xs ys : List V} (hp : some p ∈ A ∨ p ∈ L) (hH : H p = some (.lst xs)) : Step A L H A L (upd H p (.lst ys)) := by
  refine ⟨fun a o h hA hL q => ?_, fun a h => h.elim .inl fun h => .inr (.inl h), ⟨[], by simp⟩, fun a o h => ?_, fun a ⟨ps, h, t⟩ => ⟨ps, ?_, t⟩⟩
  · rw [upd_ne (fun z => by subst z; exact hp.elim hA hL)]; exact h
  · by_cases e : a = p
    · subst e; exact ⟨_, upd_same⟩
    · exact ⟨o, by rw [upd_ne e]; exact h⟩
  · rw [upd_ne (fun z => by subst z; rw [hH] at h; cases h)]; exact h
theorem mut_mv {p : Addr} {ys : List V} (hp : some p ∈ A ∨ p ∈ L) : ∀ a o, H a = some o → ¬ Bd P A L a → Plain o → upd H p (.lst ys) a = some o ∧ ¬ Bd P A L a := fun a o h n _ =>
  ⟨by rw [upd_ne (fun z => by subst z; exact n (hp.elim .inl fun z => .inr (.inl z)))]; exact h, n⟩
theorem SR.mutate {i : Nat} {ds ds' : List D} (hs : SR K mg G P A L s σ H) (e : lstAt i s = some ds) : ∃ p xs, σ[i]? = some (some (.ref p)) ∧ H p = some (.lst xs) ∧ Reps K mg (Bd P A L) H ds xs ∧ (some p ∈ A ∨ p ∈ L) ∧
    ∀ ds' ys, Reps K mg (Bd P A L) H ds' ys → SR K mg G P A L (lstPut i ds' s) σ (upd H p (.lst ys)) ∧ Step A L H A L (upd H p (.lst ys)) := by
  unfold lstAt at e
  split at e
  · rename_i ds0 q
    cases e
    obtain ⟨hi, ov, oa, e1, e2, p, xs, rfl, rfl, e3, r⟩ := hs.slot' q
    have up : some p ∈ A := List.mem_of_getElem? e2
    refine ⟨p, xs, e1, e3, r, .inl up, fun ds' ys r' => ⟨?_, Step.mutate (.inl up) e3⟩⟩
    have ep : lstPut i ds' s = { s with η := s.η.set i (.ow ds') } := by unfold lstPut; rw [q]
    rw [ep]
    have mv := mut_mv (P := P) (H := H) (A := A) (L := L) (p := p) (ys := ys) (.inl up)
    exact { hs with
      lenσ := by show σ.length = (s.η.set i _).length; rw [List.length_set]; exact hs.lenσ
      lenA := by show A.length = (s.η.set i _).length; rw [List.length_set]; exact hs.lenA
      slot := fun j x ej => by
        have ej : (s.η.set i (.ow ds'))[j]? = some x := ej
        by_cases hj : j = i
        · subst hj
          rw [List.getElem?_set_self hi] at ej
          cases ej
          exact ⟨_, _, e1, e2, p, ys, rfl, rfl, upd_same, r'.move mv⟩
        · rw [List.getElem?_set_ne (Ne.symm hj)] at ej
          obtain ⟨ov', oa', f1, f2, so⟩ := hs.slot j x ej
          exact ⟨ov', oa', f1, f2, so.move mv (fun a vs z _ h => by rw [upd_ne (fun w => by subst w; rw [z] at f2; exact hj (hs.uniq j i a f2 e2))]; exact h) fun _ _ h => h⟩
      exn := fun j ej => by
        have ej : (s.η.set i (.ow ds'))[j]? = some .ex := ej
        by_cases hj : j = i
        · subst hj
          rw [List.getElem?_set_self hi] at ej
          cases ej
        · rw [List.getElem?_set_ne (Ne.symm hj)] at ej
          exact hs.exn j ej
      loc := fun n ds e => by
        obtain ⟨a, vs, f1, f2, f3⟩ := hs.loc n ds e
        exact ⟨a, vs, f1, by rw [upd_ne (fun w => by subst w; exact hs.apart a up (List.mem_of_getElem? f1))]; exact f2, f3.move mv⟩
      own := fun a z => by
        by_cases h : a = p
        · subst h; exact ⟨_, upd_same, .inl ⟨ys, rfl⟩⟩
        · obtain ⟨o, e, m⟩ := hs.own a z; exact ⟨o, by rw [upd_ne h]; exact e, m⟩
      tab := fun a z => (Step.mutate (A := A) (L := L) (ys := ys) (.inl up) e3).tab a (hs.tab a z)
      ent := by
        refine ⟨fun a o h hA hL q => ?_, hs.ent.new, hs.ent.pre, fun a o h => ?_, fun a h => (Step.mutate (A := A) (L := L) (ys := ys) (.inl up) e3).tab a (hs.ent.tab a h)⟩
        · rw [upd_ne (fun z => by subst z; have := hs.ownNew a up; rw [this] at h; cases h)]; exact hs.ent.frm a o h hA hL q
        · obtain ⟨o', h'⟩ := hs.ent.there a o h; exact (Step.mutate (A := A) (L := L) (ys := ys) (.inl up) e3).there a o' h'
      pOk := fun a z => let w := hs.pOk a z; ⟨let ⟨o, e⟩ := w.1; (Step.mutate (A := A) (L := L) (ys := ys) (.inl up) e3).there a o e, w.2⟩ }
  · rename_i n q
    obtain ⟨hi, ov, oa, e1, e2, rfl, p, e3, rfl⟩ := hs.slot' q
    obtain ⟨p', xs, f1, f2, r⟩ := hs.loc n ds e
    rw [e3] at f1; cases f1
    have up : p ∈ L := List.mem_of_getElem? e3
    refine ⟨p, xs, e1, f2, r, .inr up, fun ds' ys r' => ⟨?_, Step.mutate (.inr up) f2⟩⟩
    have ep : lstPut i ds' s = { s with W := s.W.set n ds' } := by unfold lstPut; rw [q]
    rw [ep]
    have mv := mut_mv (P := P) (H := H) (A := A) (L := L) (p := p) (ys := ys) (.inr up)
    have nA : ∀ a, some a ∈ A → a ≠ p := fun a z w => by subst w; exact hs.apart a z up
    exact { hs with
      lenL := by show L.length = (s.W.set n ds').length; rw [List.length_set]; exact hs.lenL
      slot := fun j x ej => by
        obtain ⟨ov', oa', f1, f2', so⟩ := hs.slot j x ej
        exact ⟨ov', oa', f1, f2', so.move mv (fun a vs z _ h => by rw [upd_ne (nA a (by rw [← z]; exact List.mem_of_getElem? f2'))]; exact h) fun _ _ h => h⟩
      loc := fun m es ee => by
        have ee : (s.W.set n ds')[m]? = some es := ee
        by_cases hm : m = n
        · subst hm
          rw [List.getElem?_set_self (by have := (List.getElem?_eq_some_iff.mp e3).1; rw [hs.lenL] at this; exact this)] at ee
          cases ee
          exact ⟨p, ys, e3, upd_same, r'.move mv⟩
        · rw [List.getElem?_set_ne (Ne.symm hm)] at ee
          obtain ⟨a, vs, g1, g2, g3⟩ := hs.loc m es ee
          refine ⟨a, vs, g1, ?_, g3.move mv⟩
          rw [upd_ne (fun w => ?_)]; exact g2
          subst w
          obtain ⟨l1, q1⟩ := List.getElem?_eq_some_iff.mp g1
          obtain ⟨l2, q2⟩ := List.getElem?_eq_some_iff.mp e3
          exact hm ((List.getElem_inj hs.nd).mp (q1.trans q2.symm))
      own := fun a z => let ⟨o, e, m⟩ := hs.own a z; ⟨o, by rw [upd_ne (nA a z)]; exact e, m⟩
      tab := fun a z => (Step.mutate (A := A) (L := L) (ys := ys) (.inr up) f2).tab a (hs.tab a z)
      ent := by
        refine ⟨fun a o h hA hL q => ?_, hs.ent.new, hs.ent.pre, fun a o h => ?_, fun a h => (Step.mutate (A := A) (L := L) (ys := ys) (.inr up) f2).tab a (hs.ent.tab a h)⟩
        · rw [upd_ne (fun z => ?_)]; exact hs.ent.frm a o h hA hL q
          subst z
          rcases hs.ent.new a (.inr up) with w | w | w
          · cases w
          · exact hL w
          · rw [w] at h; cases h
        · obtain ⟨o', h'⟩ := hs.ent.there a o h; exact (Step.mutate (A := A) (L := L) (ys := ys) (.inr up) f2).there a o' h'
      pOk := fun a z => let w := hs.pOk a z; ⟨let ⟨o, e⟩ := w.1; (Step.mutate (A := A) (L := L) (ys := ys) (.inr up) f2).there a o e, w.2⟩ }
  · cases e
/-! xs.append(e), xs.pop(), xs.extend(e) -/
theorem run_fzR {P : Addr → Prop} {A A1 : List (Option Addr)} {L L1 : List Addr} {s1 : S} {σ : L2.St} {H H1 : Hp} {r : RV} {v : V} {k : D → S → Rs α} {Qf : α → S → Prop} (at1 : At K mg G P A L H σ A1 L1 s1 H1 r v)
    (h : Run K mg G Wx P A L H σ ((fzR r s1).bind k) Qf) : ∃ A2 s2 d, SR K mg G P A2 L1 s2 σ H1 ∧ Rep K mg (Bd P A2 L1) H1 d v ∧ Step A L H A2 L1 H1 ∧ Run K mg G Wx P A L H σ (k d s2) Qf := by
  unfold fzR at h
  split at h
  · rename_i d s' e
    obtain ⟨A2, sr, rp, st⟩ := at1.frz e
    exact ⟨A2, s', d, sr, rp, st, h⟩
  · exact h.elim
def eApp (i : Nat) (fe : EV) : EV := fun s => match lstAt i s with
  | some _ => (fe s).bind fun r s1 => (fzR r s1).bind fun y s2 => match lstAt i s2 with
    | some ds => if ds.length < sizeLine then .ok (.pv .non) (lstPut i (ds ++ [y]) s2) else .bad
    | none => .bad
  | none => .bad
theorem At.non (hs : SR K mg G P A1 L1 s σ H1) (st : Step A L H A1 L1 H1) (p0 : ∀ a, P a → (∃ o, H a = some o) ∧ some a ∉ A) : At K mg G P A L H σ A1 L1 s H1 (.pv .non) .non := At.mk' hs st p0 (ResOk.same (by unfold Rep; rfl))
theorem ed_append (i : Nat) {x : Str} {p apos cpos : Pos} (ho : PE X (.Name x p) (tVar i)) (he : ED X G Wx e fe)
    (hbase : attributeBase (.Name x p) "append" X.env (eval (.Name x p) X.env) = eval (.Name x p) X.env := by rfl)
    (hfew : ((backTo cpos (starEach [e] X.env)).all (fun x => !x.1) && (backToKw cpos (keywordEach [] X.env)).all (fun x => x.1.isSome) && decide ([e].length + ([] : List Keyword).length + (if ([] : List Keyword).isEmpty then 0 else 1) < 30)) = true := by rfl)
    (hline : (apos.endLine == cpos.line) = true := by rfl) (hs : starEach [e] X.env = (false, eval e X.env) :: starEach [] X.env := by rfl) : ED X G Wx (.Call (.Attribute (.Name x p) "append" apos) [e] [] cpos) (eApp i fe) := by
  refine ⟨PE.imp (pe_bm PySem.F.plainAttrs_list PySem.F.slot_list_append PySem.F.type_list_append mt_append ho (pa_cons he.pe pa_nil hs) hbase hfew hline hs rfl) fun σ H Q ⟨P, A, L, s, hs, h⟩ => ?_⟩
  unfold eApp at h
  split at h
  · rename_i ds0 e0
    obtain ⟨q0, xs0, e1, e2, _, _, _⟩ := hs.mutate (ds' := []) e0
    refine ⟨_, e1, .inl ⟨rfl, _, SqL.of e2⟩, (tE_one hs h).mono fun v H1 ⟨A1, L1, s1, r, a1, h1⟩ => ?_⟩
    obtain ⟨A2, s2, y, sr2, rp, st2, h2⟩ := run_fzR a1 h1
    split at h2
    · rename_i ds e3
      split at h2
      · rename_i hz
        obtain ⟨q, xs, f1, f2, f3, f4, f5⟩ := sr2.mutate (ds' := []) e3
        rw [e1] at f1; cases f1
        obtain ⟨sr3, st3⟩ := f5 (ds ++ [y]) (xs ++ [v]) (f3.append (Reps.one rp))
        exact ⟨q0, xs, v, rfl, rfl, f2, by rw [← f3.length]; exact hz, h2 A2 L1 _ _ (At.non sr3 (st2.trans st3) hs.p0)⟩
      · exact h2.elim
    · exact h2.elim
  · exact h.elim
def ePop (i : Nat) : EV := fun s => match lstAt i s with
  | some ds => match ds[ds.length - 1]? with
    | some d => .ok (.pv d) (lstPut i ds.dropLast s)
    | none => .bad
  | none => .bad
theorem Reps.dropLast {B : Addr → Prop} {ds : List D} {xs : List V} (h : Reps K mg B H ds xs) : Reps K mg B H ds.dropLast xs.dropLast := by
  rw [List.dropLast_eq_take, List.dropLast_eq_take, ← h.length]
  exact h.take _
theorem ed_pop (i : Nat) {x : Str} {p apos cpos : Pos} (ho : PE X (.Name x p) (tVar i)) (hbase : attributeBase (.Name x p) "pop" X.env (eval (.Name x p) X.env) = eval (.Name x p) X.env := by rfl) (hline : (apos.endLine == cpos.line) = true := by rfl) :
    ED X G Wx (.Call (.Attribute (.Name x p) "pop" apos) [] [] cpos) (ePop i) := by
  refine ⟨PE.imp (pe_bm0 PySem.F.plainAttrs_list PySem.F.slot_list_pop PySem.F.type_list_pop mt_pop ho hbase hline) fun σ H Q ⟨P, A, L, s, hs, h⟩ => ?_⟩
  unfold ePop at h
  split at h
  · rename_i ds e0
    split at h
    · rename_i d ed
      obtain ⟨q0, xs, e1, e2, r, m, f5⟩ := hs.mutate (ds' := []) e0
      obtain ⟨v, ev, rv⟩ := r.get ed
      rw [r.length] at ev
      obtain ⟨sr3, st3⟩ := f5 _ _ r.dropLast
      exact ⟨_, e1, .inl ⟨rfl, _, SqL.of e2⟩, q0, xs, v, rfl, rfl, e2, ev, h A L _ _ (At.mk' sr3 st3 hs.p0 (ResOk.same (rv.move (mut_mv m))))⟩
    · exact h.elim
  · exact h.elim
end
theorem extend_tup (l : Addr) (items : Array Value) (n : Nat) (b : Addr) (items2 : Array Value) (n2 : Nat) (dd : Option Addr) (sl : Array (Option Value)) (hs0 : ¬(!items.isEmpty && Builtin.List.listTooLong (items.size + items2.size)) = true) (hs1 : items.size ≤ sizeLine) (hs2 : items.size + items2.size ≤ sizeLine + 1) :
    Meets (Builtin.«list.extend» ⟨[.ref l, .ref b], []⟩) (fun _ R s => s.heap.get? l = some { cls := .type "list", dict := none, data := .seq items n, slots := #[] } ∧
      s.heap.get? b = some { cls := .type "tuple", dict := dd, data := .seq items2 n2, slots := sl } ∧ R (.ok (.ret Value.none)) { s with heap := s.heap.update l (Obj.mapSeq fun x => x ++ items2), toks := s.toks }) :=
  .of_wp fun prog w A R s h => by
    obtain ⟨hp, g, d, tk, os⟩ := s
    obtain ⟨hl, hb, h⟩ := h
    have f1 := AutoSeq1.idx_int
    have f2 := AutoSeq1.sub_tuple_tuple
    have f3 := AutoSeq1.sub_list_list
    have f4 := AutoSeq1.sub_tuple_list
    have f5 := AutoSeq1.sub_list_tuple
    have hz' : (items ++ items2).size ≤ sizeLine + 1 := by rw [Array.size_append]; exact hs2
    wp_walk using (wpAny_updateSeq hl rfl (hz := hs1) (_hz' := hz')), AutoSeq1.wpAny_loadPart' hl, AutoSeq1.wpAny_loadPart' hb
    exact ⟨_, rfl, h⟩
section
variable {K : PySem.W.Frag} {mg : Str → Option Value} {X : Cx} {G : Gm} {Wx : WX} {a b c e : Expr} {es : List Expr} {fa fb fc fe : EV} {pos : Pos} {α β : Type}
variable {P P' : Addr → Prop} {A A' A1 : List (Option Addr)} {σ σ' : L2.St} {L L' L1 : List Addr} {H H' H1 : Hp} {s s' : S} {vs : List Nat}
def rExtA (K : PySem.W.Frag) : V → List V → Hp → VK → Prop := fun x vs H Q => ∃ l b xs zs, x = .ref l ∧ vs = [.ref b] ∧ H l = some (.lst xs) ∧ (H b = some (.lst zs) ∨ SqT K H b zs) ∧ xs.length + zs.length ≤ sizeLine ∧ Q .non (upd H l (.lst (xs ++ zs)))
theorem mt_extA : MtR X "list.extend" (rExtA X.K) := by
  intro pins s σ H x vs v us Q I rx rv h
  obtain ⟨l, b, xs, zs, rfl, rfl, hH, hB, hz, q⟩ := h
  rcases hB with hB | hB
  · exact mt_extend pins s σ H (.ref l) [.ref b] v us Q I rx rv ⟨l, b, xs, zs, rfl, rfl, hH, hB, hz, q⟩
  · cases rx
    obtain ⟨u, rfl, ru⟩ := rv.one
    cases ru
    obtain ⟨z, its, n, r, hl, ee⟩ := I.lstM hH
    obtain ⟨its2, r2, ⟨ob, e2, c2, n2, d2⟩, z2⟩ := I.tuple hB
    have hsz : its.toArray.size + its2.toArray.size ≤ sizeLine := by rw [List.size_toArray, List.size_toArray, ← r2.length]; omega
    have hlong : ¬ (!its.toArray.isEmpty && Builtin.List.listTooLong (its.toArray.size + its2.toArray.size)) = true := by
      rw [notLongL hsz, Bool.and_false]
      exact Bool.false_ne_true
    obtain ⟨oc, od, odt, osl⟩ := ob
    cases c2
    cases d2
    refine call_meets F.slot_list_extend ⟨_, ee, rfl⟩ F.entry_list_extend (F.args_list_extend_2 _ _)
      (extend_tup l its.toArray n b its2.toArray n2 od osl hlong (by rw [List.size_toArray]; omega) (by omega)) ⟨ee, e2, ?_⟩
    refine ⟨.non, _, I.lset (its' := its ++ its2) hH ee (by simp) (r.append r2) ?_, rfl, q⟩
    rw [List.length_append]
    omega
def eExt (i : Nat) (fe : EV) : EV := fun s => match lstAt i s with
  | some _ => (fe s).bind fun r s1 => match rd r s1, lstAt i s1 with
    | some (.lst zs), some ds => if ds.length + zs.length ≤ sizeLine then .ok (.pv .non) (lstPut i (ds ++ zs) s1) else .bad
    | some (.tup zs), some ds => if ds.length + zs.length ≤ sizeLine then .ok (.pv .non) (lstPut i (ds ++ zs) s1) else .bad
    | _, _ => .bad
  | none => .bad
theorem ed_extend (i : Nat) {x : Str} {p apos cpos : Pos} (ho : PE X (.Name x p) (tVar i)) (he : ED X G Wx e fe)
    (hbase : attributeBase (.Name x p) "extend" X.env (eval (.Name x p) X.env) = eval (.Name x p) X.env := by rfl)
    (hfew : ((backTo cpos (starEach [e] X.env)).all (fun x => !x.1) && (backToKw cpos (keywordEach [] X.env)).all (fun x => x.1.isSome) && decide ([e].length + ([] : List Keyword).length + (if ([] : List Keyword).isEmpty then 0 else 1) < 30)) = true := by rfl)
    (hline : (apos.endLine == cpos.line) = true := by rfl) (hs : starEach [e] X.env = (false, eval e X.env) :: starEach [] X.env := by rfl) : ED X G Wx (.Call (.Attribute (.Name x p) "extend" apos) [e] [] cpos) (eExt i fe) := by
  refine ⟨PE.imp (pe_bm PySem.F.plainAttrs_list PySem.F.slot_list_extend PySem.F.type_list_extend mt_extA ho (pa_cons he.pe pa_nil hs) hbase hfew hline hs rfl) fun σ H Q ⟨P, A, L, s, hs, h⟩ => ?_⟩
  unfold eExt at h
  split at h
  · rename_i ds0 e0
    obtain ⟨q0, xs0, e1, e2, _, _, _⟩ := hs.mutate (ds' := []) e0
    refine ⟨_, e1, .inl ⟨rfl, _, SqL.of e2⟩, (tE_one hs h).mono fun v H1 ⟨A1, L1, s1, r, a1, h1⟩ => ?_⟩
    split at h1
    · rename_i zs ds e3 e4
      split at h1
      · rename_i hz
        obtain ⟨q, xs, f1, f2, f3, f4, f5⟩ := a1.weak.mutate (ds' := []) e4
        rw [e1] at f1; cases f1
        obtain ⟨b, ws, rfl, g1, g2⟩ := (rd_ok a1.weak a1.ok e3).lst
        obtain ⟨sr3, st3⟩ := f5 (ds ++ zs) (xs ++ ws) (f3.append g2)
        exact ⟨q0, b, xs, ws, rfl, rfl, f2, .inl g1, by rw [← f3.length, ← g2.length]; exact hz, h1 A1 L1 _ _ (At.non sr3 (a1.st.trans st3) hs.p0)⟩
      · exact h1.elim
    · rename_i zs ds e3 e4
      split at h1
      · rename_i hz
        obtain ⟨q, xs, f1, f2, f3, f4, f5⟩ := a1.weak.mutate (ds' := []) e4
        rw [e1] at f1; cases f1
        obtain ⟨b, ws, rfl, g1, g2⟩ := (rd_ok a1.weak a1.ok e3).tup
        obtain ⟨sr3, st3⟩ := f5 (ds ++ zs) (xs ++ ws) (f3.append g2)
        exact ⟨q0, b, xs, ws, rfl, rfl, f2, .inr g1.sq, by rw [← f3.length, ← g2.length]; exact hz, h1 A1 L1 _ _ (At.non sr3 (a1.st.trans st3) hs.p0)⟩
      · exact h1.elim
    · exact h1.elim
  · exact h.elim
/-! ### xs[i] = e -/
def gSubD (i : Nat) (fi : EV) : GV := fun r s => (fzR r s).bind fun d s1 => match lstAt i s1 with
  | some _ => (fi s1).bind fun ri s2 => match rd ri s2, lstAt i s2 with
    | some (.int k), some ds => match ixN ds.length k with
      | some j => .ok () (lstPut i (ds.set j d) s2)
      | none => .bad
    | _, _ => .bad
  | none => .bad
theorem run_fzRS {P : Addr → Prop} {A A1 : List (Option Addr)} {L L1 : List Addr} {s1 : S} {σ : L2.St} {H H1 : Hp} {r : RV} {v : V} {k : D → S → Rs α} {Qf : α → S → Prop} (at1 : At K mg G P A L H σ A1 L1 s1 H1 r v)
    (h : RunS K mg G Wx P A L H ((fzR r s1).bind k) Qf) : ∃ A2 s2 d, SR K mg G P A2 L1 s2 σ H1 ∧ Rep K mg (Bd P A2 L1) H1 d v ∧ Step A L H A2 L1 H1 ∧ RunS K mg G Wx P A L H (k d s2) Qf := by
  unfold fzR at h
  split at h
  · rename_i d s' e
    obtain ⟨A2, sr, rp, st⟩ := at1.frz e
    exact ⟨A2, s', d, sr, rp, st, h⟩
  · exact h.elim
theorem gd_sub (i : Nat) {x : Str} {p : Pos} (ho : PE X (.Name x p) (tVar i)) (hi : ED X G Wx e fe)
    (ha : ∀ v, assign (.Subscript (.Name x p) e pos) X.env v = (do
      let ov ← holding [v] (eval (.Name x p) X.env)
      let iv ← holding [v, ov] (eval e X.env)
      standAt pos
      holding [v, ov, iv] (setItem ov iv v)
      release [v, ov, iv] []) := by intro _; rfl) : GD X G Wx (.Subscript (.Name x p) e pos) (gSubD i fe) := by
  refine ⟨PG.imp (pg_sub ho hi.pe set_list ha) fun v σ H Q ⟨P, A0, L0, H0, A, L, s, r, a, h⟩ => ?_⟩
  obtain ⟨A2, s2, d, sr2, rp, st2, h⟩ := run_fzRS a h
  split at h
  · rename_i ds0 e0
    obtain ⟨q0, xs0, e1, e2, _, _, _⟩ := sr2.mutate (ds' := []) e0
    refine ⟨_, e1, P, A2, L, s2, sr2, ((RunS.bind h).on st2 fun _ z => z).run.imp fun ri s3 _ h3 A3 L3 v3 H3 a3 => ?_⟩
    split at h3
    · rename_i k ds e3 e4
      split at h3
      · rename_i j ej
        obtain ⟨q, xs, f1, f2, f3, f4, f5⟩ := a3.weak.mutate (ds' := []) e4
        rw [e1] at f1; cases f1
        obtain ⟨sr4, st4⟩ := f5 (ds.set j d) (xs.set j v) (f3.set j (rp.step a3.st))
        exact ⟨q0, xs, k, j, rfl, (rd_ok a3.weak a3.ok e3).int, f2, by rw [← f3.length]; exact ej, h3 A3 L3 σ _ sr4 ((st2.trans a3.st).trans st4)⟩
      · exact h3.elim
    · exact h3.elim
  · exact h.elim
/-! ### name op= e -/
def sAug (i : Nat) (f : Ob2) (fe : EV) : SV := fun s => match s.η[i]? with
  | some (.pv a) => (fe s).bind fun rb s1 => match rd rb s1 with
    | some b => match f a b with
      | some r => (gSet i r s1).bind fun _ s2 => .ok .nx s2
      | none => .bad
    | none => .bad
  | _ => .bad
theorem sd_aug {i : Nat} {x : Str} {op : Operator} {r : R2} {f : Ob2} {pos' : Pos} (hN : X.N.Nodup) (hi : X.N[i]? = some x) (hx : Loc X.env.scope x) (ho : OpR X (inplaceOp op) r) (hv : OpV X.K X.mg r f) (he : ED X G Wx e fe)
    (hf : X.fn x = true ∨ X.env.scope.names.lookup x = some .local := by first | exact .inl rfl | exact .inr rfl | assumption) : SD X G Wx (.AugAssign (.Name x pos') op e pos) (sAug i f fe) := by
  refine ⟨PS.imp (ps_aug hN hi hx he.pe (ti := r) ho hf) fun Dn σ H ⟨P, A, L, s, hs, h⟩ => ?_⟩
  unfold sAug at h
  split at h
  · rename_i d q
    obtain ⟨hi, ov, oa, e1, e2, _, v, rfl, rv⟩ := hs.slot' q
    refine ⟨v, e1, (tE_oneS hs h).mono fun y H1 ⟨A1, L1, s1, rb, a1, h1⟩ => ?_⟩
    split at h1
    · rename_i b e3
      split at h1
      · rename_i res e4
        refine hv _ H1 v y d b res _ a1.weak.there (.inl (rv.step a1.st)) (rd_ok a1.weak a1.ok e3) e4 fun w H2 ro => ?_
        have a2 : At X.K X.mg G P A L H σ A1 L1 s1 H2 res w := At.mk' a1.weak a1.st hs.p0 ro
        exact run_gSet a2 ((RunS.bind h1).imp fun _ _ _ q => q)
      · exact h1.elim
    · exact h1.elim
  · exact h.elim
/-! ### isinstance -/
def tyN : D → Option String
  | .non => some "NoneType"
  | .bl _ => some "bool"
  | .int _ => some "int"
  | .str _ => some "str"
  | .tup _ => some "tuple"
  | .lst _ => some "list"
  | .scr _ => some "list"
  | .dK _ => some "dict"
  | .dT _ => some "dict"
  | _ => none
def isB (n T : String) : Bool := n == T || (n == "bool" && T == "int")
def isiD (T : String) (d : D) : Option RV := (tyN d).bind fun n => pB (isB n T)
def isiOk (T : String) : Bool := ["int", "bool", "str", "tuple", "list", "dict"].contains T
theorem kitB_is : ∀ T ∈ ["int", "bool", "str", "tuple", "list", "dict"], ∀ n ∈ ["NoneType", "bool", "int", "str", "tuple", "list", "dict"], kitB n T = some (isB n T) := by decide +kernel
theorem tyx_of {B : Addr → Prop} {d : D} {v : V} {n : String} (h : PRep K mg B H d v) (e : tyN d = some n) : TyX K H v (.type n) := by
  cases d with
  | non => cases e; rw [h.non]; exact .base .non
  | bl _ => cases e; rw [h.bl]; exact .base (.bl _)
  | int _ => cases e; rw [h.int]; exact .base (.int _)
  | str _ => cases e; rw [h.str]; exact .base (.str _)
  | tup _ =>
    cases e; obtain ⟨p, vs, rfl, t, _⟩ := h.tup
    rcases t with ⟨t | ⟨o, t⟩, _⟩ | ⟨o, its, n, k, c, _⟩
    · exact .base (.tup t)
    · exact .fTuple t
    · exact .kTuple k c
  | lst _ => cases e; obtain ⟨p, vs, rfl, t, _⟩ := h.lst; exact .base (.lst t)
  | scr _ =>
    cases e; obtain ⟨p, vs, rfl, t, _⟩ := h.scr
    rcases t with ⟨t | ⟨o, t⟩, _⟩ | ⟨o, its, n, k, c, _⟩
    · exact .base (.lst t)
    · exact .base (.frz t)
    · exact .kList k c
  | dK _ => cases e; obtain ⟨p, vs, rfl, t, _⟩ := h.dK; exact .base (.dK t)
  | dT _ => cases e; obtain ⟨p, vs, rfl, t, _⟩ := h.dT; exact .base (.dT t)
  | glb _ => cases e
  | ty _ => cases e
def isi2 : Ob2
  | d, .ty T => if isiOk T = true then isiD T d else none
  | _, _ => none
theorem opv_isi : OpV K mg (fun v u => rIsi K [v, u]) isi2 := by
  intro B H x y a b res Q hB ha hb e q
  unfold isi2 at e
  split at e
  · rename_i T
    split at e
    · rename_i hT
      obtain ⟨n, e1, e2⟩ := Option.bind_eq_some_iff.mp e
      cases e2
      have hn : n ∈ ["NoneType", "bool", "int", "str", "tuple", "list", "dict"] := by
        cases a <;> cases e1 <;> decide
      refine ⟨x, .ty T, .type n, .type T, isB n T, by rw [hb.ty], .ty T, tyx_of ha e1, kit_ty (kitB_is T (by simpa [isiOk] using hT) n hn), q _ _ .bl⟩
    · cases e
  · cases e
end
end DL
namespace DL
open PySem PySem.Spec PyProof.Rows L2
/-! ### defs -/
inductive Rf where
  | ok (r : RV) (W : List (List D)) | err (c : Str) (W : List (List D)) | bad
/-- what a def computes -/
abbrev Fn := List RV → List (List D) → Rf
section
variable {K : PySem.W.Frag} {mg : Str → Option Value} {X : Cx} {G : Gm} {Wx : WX} {e : Expr} {es : List Expr} {pos : Pos} {α β : Type}
variable {P P' : Addr → Prop} {A A' A1 : List (Option Addr)} {σ σ' : L2.St} {L L' L1 : List Addr} {H H' H1 : Hp} {s s' : S} {vs : List V}
/-- a def's promise: it computes f -/
def spD (K : PySem.W.Frag) (mg : Str → Option Value) (tb : List Addr) (f : Fn) : Sp := fun vs H Q E => ∃ (P : Addr → Prop) (L : List Addr) (args : List RV) (W : List (List D)),
  SR K mg ⟨H, L, tb, 0⟩ P [] L ⟨[], W⟩ [] H ∧ ArgsOk K mg P [] L H args vs ∧
  match f args W with
  | .ok r W' => ∀ L' v H', SR K mg ⟨H, L, tb, 0⟩ (Wi P r v) [] L' ⟨[], W'⟩ [] H' → RVOk K mg ⟨H, L, tb, 0⟩ P [] L' [] H' r v → Q v H'
  | .err c W' => ∀ L' H' C, SR K mg ⟨H, L, tb, 0⟩ P [] L' ⟨[], W'⟩ [] H' → mg c = some (.ref C) → E (.ref C) none H'
  | .bad => False
def toSlot : RV → Slot
  | .pv d => .pv d
  | .ow ds => .ow ds
  | .lc n => .lc n
  | .vr _ => .no
def outF (x : Rs Fl) : Rf := match x with
  | .ok (.rt (.pv d)) s => .ok (.pv d) s.W
  | .ok (.rt (.ow d)) s => .ok (.ow d) s.W
  | .ok (.rt (.lc d)) s => .ok (.lc d) s.W
  | .ok .nx s => .ok (.pv .non) s.W
  | .err c s => .err c s.W
  | _ => .bad
/-- a def of n names by its body -/
def bodyF (n : Nat) (body : SV) : Fn := fun args W => outF (body ⟨args.map toSlot ++ List.replicate (n - args.length) .no, W⟩)
theorem SR.strip (hs : SR K mg G P A L s σ H) : SR K mg G P [] L ⟨[], s.W⟩ [] H :=
  ⟨rfl, rfl, fun i x e => by simp at e, fun i j a e => by simp at e, fun a z => by simp at z, hs.nd, hs.lenL,
    fun n ds e => let ⟨a, vs, e1, e2, r⟩ := hs.loc n ds e; ⟨a, vs, e1, e2, r.less (Bd.sub (fun a z => by simp at z) fun _ z => z)⟩,
    fun a z => by simp at z, hs.tab, hs.ent, fun a z => by simp at z, fun a z => let w := hs.pOk a z; ⟨w.1, by simp, w.2.2⟩, fun i e => by simp at e⟩
theorem RVOk.strip {r : RV} {v : V} (h : RVOk K mg G P A L σ H r v) (n : ∀ i, r ≠ .vr i) : RVOk K mg G P [] L [] H r v := by
  have sub : ∀ a, Bd P [] L a → Bd P A L a := Bd.sub (fun a z => by simp at z) fun _ z => z
  cases r with
  | pv d => exact Rep.less sub h
  | vr i => exact absurd rfl (n i)
  | lc n => exact h
  | ow ds => obtain ⟨a, vs, e, h1, h2, h3, h4⟩ := h; exact ⟨a, vs, e, h1, h2.less (fun b z => z.imp id (sub b)), by simp, h4⟩
theorem start_slots : ∀ {args : List RV} {vs : List V} (m : Nat), ArgsOk K mg P [] L H args vs → ∀ (i : Nat) (x : Slot), (args.map toSlot ++ List.replicate m .no)[i]? = some x →
    ∃ ov, (vs.map some ++ List.replicate m none)[i]? = some ov ∧ SlotOk K mg (Bd P [] L) H L ov none x
  | [], _, m, h, i, x, e => by
    unfold ArgsOk at h; subst h
    simp only [List.map_nil, List.nil_append] at e ⊢
    rw [List.getElem?_replicate] at e ⊢
    split at e
    · rename_i hi; cases e; rw [if_pos hi]; exact ⟨none, rfl, rfl⟩
    · cases e
  | r :: rs, _, m, h, i, x, e => by
    unfold ArgsOk at h
    obtain ⟨v, t, rfl, h1, h2⟩ := h
    cases i with
    | zero =>
      have e : some (toSlot r) = some x := e
      cases e
      refine ⟨some v, rfl, ?_⟩
      cases r with
      | pv d => exact ⟨rfl, v, rfl, h1⟩
      | lc n => obtain ⟨a, e1, rfl⟩ := h1; exact ⟨rfl, a, e1, rfl⟩
      | ow _ => exact h1.elim
      | vr _ => exact h1.elim
    | succ i => exact start_slots m h2 i x e
theorem no_ex {args : List RV} {m : Nat} (i : Nat) : (args.map toSlot ++ List.replicate m .no)[i]? ≠ some .ex := fun e => by
  have := List.mem_of_getElem? e
  rcases List.mem_append.mp this with h | h
  · obtain ⟨r, _, h⟩ := List.mem_map.mp h
    cases r <;> cases h
  · cases List.eq_of_mem_replicate h
theorem run_body {body : SV} {W : List (List D)} {n : Nat} {args : List RV} {Q : VK} {E : XK} {tb : List Addr} (sr : SR K mg ⟨H, L, tb, 0⟩ P [] L ⟨[], W⟩ [] H) (ok : ArgsOk K mg P [] L H args vs) {N : List Str} (hn : N.length = n)
    (h : match bodyF n body args W with
      | .ok r W' => ∀ L' v H', SR K mg ⟨H, L, tb, 0⟩ (Wi P r v) [] L' ⟨[], W'⟩ [] H' → RVOk K mg ⟨H, L, tb, 0⟩ P [] L' [] H' r v → Q v H'
      | .err c W' => ∀ L' H' C, SR K mg ⟨H, L, tb, 0⟩ P [] L' ⟨[], W'⟩ [] H' → mg c = some (.ref C) → E (.ref C) none H'
      | .bad => False) : tS K mg ⟨H, L, tb, 0⟩ (fun cls d _ H' => E cls d H') body { nx := fun _ H' => Q .non H', rt := Q } (L2.start N vs) H := by
  have ln := ok.length
  let η : List Slot := args.map toSlot ++ List.replicate (n - args.length) .no
  have lη : η.length = args.length + (n - args.length) := by simp [η]
  have lσ : (L2.start N vs).length = η.length := by unfold L2.start; rw [lη, hn, ln]; simp
  have sr2 : SR K mg ⟨H, L, tb, 0⟩ P (List.replicate η.length none) L ⟨η, W⟩ (L2.start N vs) H := by
    have noA : ∀ a, some a ∉ List.replicate η.length (none : Option Addr) := fun a z => by have := List.eq_of_mem_replicate z; cases this
    have sub : ∀ a, Bd P (List.replicate η.length none) L a → Bd P [] L a := Bd.sub (fun a z => absurd z (noA a)) fun _ z => z
    refine ⟨lσ, by simp, fun i x e => ?_, fun i j a e => ?_, fun a z => absurd z (noA a), sr.nd, sr.lenL, fun n ds e => ?_, fun a z => absurd z (noA a), sr.tab, sr.ent, fun a z => absurd z (noA a), fun a z => ?_, fun i e => absurd e (no_ex i)⟩
    · obtain ⟨ov, e1, so⟩ := start_slots (n - args.length) ok i x e
      refine ⟨ov, none, ?_, ?_, so.move (fun a o h nb _ => ⟨h, fun z => nb (sub a z)⟩) (fun _ _ z => nomatch z) fun _ _ h => h⟩
      · unfold L2.start; rw [hn, ← ln]; exact e1
      · rw [List.getElem?_replicate, if_pos (List.getElem?_eq_some_iff.mp e).1]
    · exact absurd (List.mem_of_getElem? e) (noA a)
    · obtain ⟨a, vs, e1, e2, r⟩ := sr.loc n ds e; exact ⟨a, vs, e1, e2, r.less sub⟩
    · have w := sr.pOk a z; exact ⟨w.1, noA a, w.2.2⟩
  refine ⟨P, _, L, ⟨η, W⟩, sr2, ?_⟩
  have e0 : bodyF n body args W = outF (body ⟨η, W⟩) := rfl
  rw [e0] at h
  cases q : body ⟨η, W⟩ with
  | bad => rw [q] at h; exact h
  | err c s2 =>
    rw [q] at h
    exact fun A2 L2 σ2 H2 C sr3 st3 hc => h L2 H2 C sr3.strip hc
  | ok fl s2 =>
    rw [q] at h
    cases fl with
    | bk => exact h.elim
    | ct => exact h.elim
    | nx => exact fun A2 L2 σ2 H2 sr3 st3 => h L2 .non H2 (sr3.strip.lessP (Wi.pv nofun)) (by show Rep _ _ _ _ _ _; unfold Rep; rfl)
    | rt r =>
      have fin : (∀ i, r ≠ .vr i) → (∀ L' v H', SR K mg ⟨H, L, tb, 0⟩ (Wi P r v) [] L' ⟨[], s2.W⟩ [] H' → RVOk K mg ⟨H, L, tb, 0⟩ P [] L' [] H' r v → Q v H') →
          PostS K mg ⟨H, L, tb, 0⟩ P (List.replicate η.length none) L H { nx := fun _ H' => Q .non H', rt := Q } (.rt r) s2 := fun nv h => ⟨nv, fun A2 L2 σ2 v H2 sr3 ok3 st3 => h L2 v H2 sr3.strip (ok3.strip nv)⟩
      cases r with
      | vr i => exact h.elim
      | pv d => exact fin nofun h
      | ow d => exact fin nofun h
      | lc d => exact fin nofun h
/-- a def of m parameters and n names -/
def defF (m n : Nat) (body : SV) : Fn := fun args W => if args.length = m then bodyF n body args W else .bad
/-- THE RULE for a def: its body's judgement -/
theorem fn_ok {Pg : Program} {w : World} {base : Heap} {x qual : Str} {st : Stmt} {f : Addr} {fd : FuncData} {N ps : List Str} {k : Nat} {tb : List Addr} {body : SV} (F : Fun K x qual st f fd) (Sc : FnScope N ps (defScope st))
    (hb : ∀ (cdv : Value) (A : Around) (outer : List Env) (s : Shared) (H : Hp) (E : XK) (G : Gm), G.tb = tb → Room k (A.deeper (envOfC qual (defScope st) s.heap.objs.size f cdv)) →
      SsD (cxOf (L2N.CX Pg w) Pg w K mg base N qual (defScope st) f cdv A outer s H E) G (fun cls d _ H' => E cls d H') (defBody st) body) :
    FnOk Pg w K mg base (L2N.CX Pg w) (k + 1) f fd ps (spD K mg tb (defF ps.length N.length body)) := by
  obtain ⟨oc, od, kV, doc, pm, an, cdv, ct, osl, rfl, lk, hcd⟩ := F.ex
  refine fn_of lk hcd Sc (fun vs H Q E h => ?_) fun A outer s H vs Q E hr h => ?_
  · obtain ⟨P, L, args, W, sr, ok, h⟩ := h
    by_cases hl : args.length = ps.length
    · rw [← ok.length]; exact hl
    · unfold defF at h
      rw [if_neg hl] at h
      exact h.elim
  · obtain ⟨P, L, args, W, sr, ok, h⟩ := h
    unfold defF at h
    by_cases hl : args.length = ps.length
    · rw [if_pos hl] at h
      exact ⟨_, (hb cdv A outer s H E ⟨H, L, tb, 0⟩ rfl hr).pss, run_body sr ok rfl h⟩
    · rw [if_neg hl] at h
      exact h.elim
/-! ### a call -/
def eCall (F : Fn) (fs : AV) : EV := fun s => (fs s).bind fun args s1 => match F args s1.W with
  | .ok r W' => .ok r { s1 with W := W' }
  | .err c W' => .err c { s1 with W := W' }
  | .bad => .bad
theorem call_back {tb : List Addr} {W : List (List D)} {Po : Addr → Prop} (sr1 : SR K mg G P A1 L1 s σ H1) (sr : SR K mg ⟨H1, L1, tb, 0⟩ Po [] L' ⟨[], W⟩ [] H') (hP : ∀ a, P' a → P a ∨ H1 a = none) (hPo : ∀ a, P' a ∨ some a ∈ A1 → Po a) : SR K mg G P' A1 L' { s with W := W } σ H' ∧ Step A1 L1 H1 A1 L' H' := by
  have ent := sr.ent
  have outA : ∀ a, some a ∈ A1 → H' a = H1 a := fun a z => by
    obtain ⟨vs, e, m⟩ := sr1.own a z
    rw [ent.frm a _ e (by simp) (sr1.apart a z) m.plain, e]
  have st : Step A1 L1 H1 A1 L' H' := ⟨fun a o h _ hL q => ent.frm a o h (by simp) hL q, fun a z => by
    rcases z with z | z
    · exact .inl z
    · rcases ent.new a (.inr z) with w | w | w
      · simp at w
      · exact .inr (.inl w)
      · exact .inr (.inr w), ent.pre, ent.there, ent.tab⟩
  have mv := fun (a : Addr) (o : HO) (h : H1 a = some o) (nb : ¬ Bd P A1 L1 a) (q : Plain o) => st.mvP (P' := P') hP a o h nb q
  have sub : ∀ a, Bd P' A1 L' a → Bd Po [] L' a := fun a z => by
    rcases z with z | z | z
    · exact .inr (.inr (hPo a (.inr z)))
    · exact .inr (.inl z)
    · exact .inr (.inr (hPo a (.inl z)))
  refine ⟨⟨sr1.lenσ, sr1.lenA, fun i x e => ?_, sr1.uniq, fun a z => ?_, sr.nd, sr.lenL, fun n ds e => ?_, fun a z => ?_, fun a z => ent.tab a (sr1.tab a z), ?_, sr1.ownNew, fun a z => ?_, sr1.exn⟩, st⟩
  · obtain ⟨ov, oa, e1, e2, so⟩ := sr1.slot i x e
    refine ⟨ov, oa, e1, e2, so.move mv (fun a vs z _ h => ?_) fun _ _ q => st.loc q⟩
    rw [outA a (by rw [← z]; exact List.mem_of_getElem? e2)]; exact h
  · intro w
    have := sr.pOk a (hPo a (.inr z))
    exact this.2.2 w
  · obtain ⟨a, vs, e1, e2, r⟩ := sr.loc n ds e
    exact ⟨a, vs, e1, e2, r.less sub⟩
  · obtain ⟨vs, e, m⟩ := sr1.own a z
    exact ⟨vs, by rw [outA a z]; exact e, m⟩
  · have e1 := sr1.ent
    refine ⟨fun a o h hA hL q => ?_, fun a z => ?_, ?_, fun a o h => ?_, fun a h => ent.tab a (e1.tab a h)⟩
    · have y := e1.frm a o h hA hL q
      refine ent.frm a o y (by simp) (fun z => ?_) q
      rcases e1.new a (.inr z) with w | w | w
      · simp at w
      · exact hL w
      · rw [h] at w; cases w
    · rcases z with z | z
      · simp at z
      · rcases ent.new a (.inr z) with w | w | w
        · simp at w
        · exact e1.new a (.inr w)
        · have w : H1 a = none := w
          refine .inr (.inr ?_)
          cases q : G.H0 a with
          | none => rfl
          | some o => obtain ⟨o', q'⟩ := e1.there a o q; rw [w] at q'; cases q'
    · obtain ⟨r1, q1⟩ := e1.pre
      obtain ⟨r2, q2⟩ := ent.pre
      exact ⟨r1 ++ r2, by rw [q2, q1, List.append_assoc]⟩
    · obtain ⟨o', h'⟩ := e1.there a o h; exact ent.there a o' h'
  · have w := sr.pOk a (hPo a (.inl z))
    refine ⟨w.1, fun y => ?_, w.2.2⟩
    rcases hP a z with q | q
    · exact (sr1.pOk a q).2.1 y
    · obtain ⟨vs, e, m⟩ := sr1.own a y
      rw [q] at e; cases e
theorem tE_call {F : Fn} {fs : AV} {Q : VK} {tb : List Addr} (htb : G.tb = tb) (h : tE K mg G Wx (eCall F fs) σ H Q) : tA K mg G Wx fs σ H fun vs H1 => spD K mg tb F vs H1 Q fun cls d H' => Wx cls d σ H' := by
  obtain ⟨P, A, L, s, hs, h⟩ := h
  refine ⟨P, A, L, s, hs, (Run.bind h).imp fun args s1 _ h1 A1 L1 vs H1 sr1 ok1 st1 => ?_⟩
  let Po : Addr → Prop := fun a => P a ∨ some a ∈ A1
  have eqB : ∀ a, Bd Po [] L1 a → Bd P A1 L1 a := fun a z => by
    rcases z with z | z | z | z
    · simp at z
    · exact .inr (.inl z)
    · exact .inr (.inr z)
    · exact .inl z
  refine ⟨Po, L1, args, s1.W, ⟨rfl, rfl, fun i x e => by simp at e, fun i j a e => by simp at e, fun a z => by simp at z, sr1.nd, sr1.lenL, fun n ds e => ?_, fun a z => by simp at z, fun a z => sr1.tab a (by rw [htb]; exact z), Step.refl _ _ _, fun a z => by simp at z, fun a z => ?_, fun i e => by simp at e⟩, ?_, ?_⟩
  · obtain ⟨a, vs, e1, e2, r⟩ := sr1.loc n ds e
    exact ⟨a, vs, e1, e2, r.less eqB⟩
  · rcases z with z | z
    · have w := sr1.pOk a z; exact ⟨w.1, by simp, w.2.2⟩
    · exact ⟨let ⟨vs, e, _⟩ := sr1.own a z; ⟨_, e⟩, by simp, sr1.apart a z⟩
  · have less : ∀ {rs : List RV} {vs : List V}, ArgsOk K mg P A1 L1 H1 rs vs → ArgsOk K mg Po [] L1 H1 rs vs := fun {rs} => by
      induction rs with
      | nil => intro vs h; unfold ArgsOk at h ⊢; exact h
      | cons r rs ih =>
        intro vs h
        unfold ArgsOk at h ⊢
        obtain ⟨v, t, e, h1, h2⟩ := h
        refine ⟨v, t, e, ?_, ih h2⟩
        cases r with
        | pv d => exact Rep.less eqB h1
        | lc n => exact h1
        | ow _ => exact h1
        | vr _ => exact h1
    exact less ok1
  · split at h1
    · rename_i r W' e
      intro L' v H' sr ok
      have own : ∀ a, Own r v a → H1 a = none := fun a z => by
        obtain ⟨⟨ds, rfl⟩, rfl⟩ := z
        obtain ⟨b, vs, e1, _, _, _, _, e6⟩ := ok
        cases e1
        exact e6
      obtain ⟨sr2, st2⟩ := call_back (P' := Wi P r v) sr1 sr (fun a z => z.imp id (own a)) fun a z => by
        rcases z with (z | z) | z
        · exact .inl (.inl z)
        · exact .inr z
        · exact .inl (.inr z)
      have nH0 : ∀ a, H1 a = none → G.H0 a = none := fun a n => by
        cases q : G.H0 a with
        | none => rfl
        | some o => obtain ⟨o', q'⟩ := sr1.ent.there a o q; rw [n] at q'; cases q'
      refine h1 A1 L' v H' ⟨sr2, ?_, fun a z => ?_, st1.trans st2, hs.p0⟩
      · have sub : ∀ a, Bd P A1 L' a → Bd Po [] L' a := fun a z => by
          rcases z with z | z | z
          · exact .inr (.inr (.inr z))
          · exact .inr (.inl z)
          · exact .inr (.inr (.inl z))
        cases r with
        | pv d => exact Rep.less sub ok
        | vr i => have ok : ([] : L2.St)[i]? = some (some v) := ok; simp at ok
        | lc n => exact ok
        | ow ds =>
          obtain ⟨b, vs, e1, e2, e3, e4, e5, e6⟩ := ok
          refine ⟨b, vs, e1, e2, e3.less fun a z => z.imp id (sub a), fun z => ?_, e5, nH0 b e6⟩
          obtain ⟨ws, w, _⟩ := sr1.own b z
          have e6 : H1 b = none := e6
          rw [e6] at w; cases w
      · have n := own a z
        cases q : H a with
        | none => exact .inr rfl
        | some o => obtain ⟨o', q'⟩ := st1.there a o q; rw [n] at q'; cases q'
    · rename_i c W' e
      intro L' H' C sr hc
      obtain ⟨sr2, st2⟩ := call_back (P' := P) sr1 sr (fun a z => .inl z) fun a z => z
      exact h1 A1 L' H' C sr2 (st1.trans st2) hc
    · exact h1.elim
theorem ed_call {k : Nat} {f : Addr} {fd : FuncData} {ps : List Str} {tb : List Addr} {F : Fn} {fs : AV} {x : Str} {p : Pos} (Fk : FnOk X.prog X.w X.K X.mg X.base (L2N.CX X.prog X.w) k f fd ps (spD X.K X.mg tb F)) (hr : Room k X.A) (htb : G.tb = tb) (tk : L2N.Takes X Wx)
    (hg : Gl X x) (hm : X.mg x = some (.ref f)) (hk : PySem.W.keepIn X.K (.ref f) = true) (hb : Binds X.K fd ps []) (ha : AD X G Wx (e :: es) fs)
    (hdb : (x == ("__debug__" : Str)) = false := by decide) (he : starEach (e :: es) X.env = (false, eval e X.env) :: starEach es X.env := by rfl) (hpl : (backTo pos (starEach es X.env)).any (·.1) = false := by rfl) :
    ED X G Wx (.Call (.Name x p) (e :: es) [] pos) (eCall F fs) :=
  ⟨PE.imp (pe_callS Fk hr hg hm hk hb (fun σ => L2N.passAt tk σ) ha.pa hdb he hpl) fun σ H Q h => tE_call htb h⟩
end
end DL
namespace DL
open PySem PySem.Spec PyProof.Rows L2
/-! ### list(reversed(a list)) -/
section
variable {prog : Program} {w : World} {A : Around} {E : Value → Shared → Prop} {s : Shared}
theorem extend_rev {R : Result → Shared → Prop} {it l : Addr} {items : Array Value} (hh : A.handled = none) (hit : s.heap.IsRevIter it l ((items.size : Int) - 1)) (hl : s.heap.IsList l items) (hne : l ≠ it) (hn : items.size ≤ sizeLine) (T : Addr) (res : Value) (c₀ : Nat)
    (hTi : T ≠ it) (hTl : T ≠ l) (hT : s.heap.get? T = some { cls := .type "list", data := .seq #[] c₀ })
    (hR : ∀ (h' : Heap) (tk : Nat) (acc : Array Value) (c' : Nat), (∀ b o, b ≠ it → b ≠ T → s.heap.get? b = some o → h'.get? b = some o) → h'.get? T = some { cls := .type "list", dict := none, data := .seq acc c', slots := #[] } →
      ItemsOf (fun i v => items[items.size - 1 - i]? = some v) acc items.size → R (.ok (.ret res)) { s with heap := h', toks := tk }) :
    wpAny (model prog w) A.in1 (Builtin.List.listExtendWith (.ref T) (.ref it) res)
      (fun fin s' => match fin with | .done f => R (.ok f) s' | .again c' => c'.quiet = true ∧ codeAny (model prog w) A c' R s') (fun e s' => R (.error e) s') s := by
  have W := (Walks.listRev (prog := prog) (w := w) (A := A.in1) hh it l hne items).toS
  have hSf : T ∉ [it, l] := by simp only [List.mem_cons, List.not_mem_nil, or_false, not_or]; exact ⟨hTi, hTl⟩
  have hTy : s.TypeIs (.ref it) "list_reverseiterator" := hit.typeIs
  have h1 : Builtin.List.listSameRef (.ref T) (.ref it) = false := by simp [Builtin.List.listSameRef, hTi]
  unfold Builtin.List.listExtendWith
  refine wpAny_bind (wpAny_typeOf hTy ?_)
  rw [if_neg (by rw [h1]; decide)]
  refine wpAny_bind (wpAny_pyIter_revIter hit ?_)
  refine wpAny_bind (wpAny_holding ?_)
  unfold Builtin.List.listLengthHint
  refine wpAny_bind (wpAny_specialOf hTy RT.nolen_lri ?_)
  show wpAny _ A.in1 (specialOf (Value.ref it) (Str.ofString "__length_hint__") >>= _) _ _ _
  refine wpAny_bind (wpAny_specialOf hTy RT.hint_lri ?_)
  generalize hid : ("list_reverseiterator.__length_hint__" : String) = id0
  wp_delta
  rw [show splitId id0 = some ("list_reverseiterator", "__length_hint__") from by subst hid; decide +kernel]
  subst hid
  refine wpAny_bind (wpAny_isInstance (b := true) hTy (by rw [isSubtype_type]; kernel_rfl) ?_)
  refine wpAny_pure ?_
  rw [if_neg (by decide)]
  have e0 : ((items.size : Nat) : Int) - 1 - ((0 : Nat) : Int) = (items.size : Int) - 1 := by omega
  refine wpAny_pure ⟨plainId_quiet F.plain_extend_loop _, codeAny_extend_loopS W hn _ hSf _ items.size 0 _ _ _ rfl (Nat.zero_le _) ⟨Nat.zero_le _, by rw [e0]; exact hit, hl⟩ hT (ItemsOf.nil _) fun s' acc' c' hm hS' hacc => ?_⟩
  rw [Moved.eq_with hm]
  refine hR s'.heap s'.toks acc' c' (fun b o hb hbT e => hm.heap b o (fun hmem => ?_) e) hS' hacc
  rcases List.mem_cons.mp hmem with e' | hmem
  · exact hbT e'
  · exact hb (List.mem_singleton.mp hmem)
theorem call_list_rev {it l : Addr} {items : Array Value} {Q : Value → Shared → Prop} (hh : A.handled = none) (hit : s.heap.IsRevIter it l ((items.size : Int) - 1)) (hl : s.heap.IsList l items) (hne : l ≠ it) (hn : items.size ≤ sizeLine)
    (hQ : ∀ (h' : Heap) (tk : Nat) (acc : Array Value) (c' : Nat), (∀ b o, b ≠ it → s.heap.get? b = some o → h'.get? b = some o) → h'.get? s.heap.objs.size = some { cls := .type "list", dict := none, data := .seq acc c', slots := #[] } →
      ItemsOf (fun i v => items[items.size - 1 - i]? = some v) acc items.size → Q (.ref s.heap.objs.size) { s with heap := h', toks := tk }) :
    wpAny (model prog w) A (call (.type "list") [.ref it]) Q E s := by
  obtain ⟨oi, hoi, _⟩ := id hit
  obtain ⟨ol, hol, _⟩ := id hl
  have hSi : s.heap.objs.size ≠ it := Nat.ne_of_gt (Heap.lt_size hoi)
  have hSl : s.heap.objs.size ≠ l := Nat.ne_of_gt (Heap.lt_size hol)
  refine callType_codes (Q₁ := fun obj s₁ => obj = .ref s.heap.objs.size ∧ s₁ = { s with heap := s.heap.push { cls := .type "list", data := .seq #[] } }) PySem.F.called_list (PySem.F.typeCall_list_1 _) PySem.F.entry_list_init
    (code_list_new _ ⟨rfl, rfl⟩) fun obj s₁ h₁ => ?_
  obtain ⟨rfl, rfl⟩ := h₁
  have hS : (s.heap.push { cls := .type "list", data := .seq #[] }).get? s.heap.objs.size = some { cls := .type "list", data := .seq #[] } := Heap.get?_push_size _ rfl
  refine ⟨⟨_, hS, rfl⟩, PySem.F.args_list_init_2 _ _, ?_⟩
  show wpAny _ _ (do let old ← Builtin.List.listItems (.ref s.heap.objs.size); Builtin.List.listUpdate (.ref s.heap.objs.size) (fun _ => #[]); letGo old.toList.reverse; Builtin.List.listExtendWith (.ref s.heap.objs.size) (.ref it) .none) _ _ _
  refine wpAny_bind ?_
  unfold Builtin.List.listItems
  refine wpAny_bind (wpAny_seqItems hS rfl (wpAny_pure ?_))
  show wpAny _ _ (updateSeq s.heap.objs.size (fun _ => #[]) >>= fun _ => letGo (#[] : Array Value).toList.reverse >>= fun _ => Builtin.List.listExtendWith (.ref s.heap.objs.size) (.ref it) .none) _ _ _
  refine wpAny_bind (wpAny_updateSeq hS rfl ?_)
  have hS₂ := Heap.get?_update_self (Obj.mapSeq (fun _ => (#[] : Array Value))) hS rfl
  have oth : ∀ b o, s.heap.get? b = some o → ((s.heap.push { cls := .type "list", data := .seq #[] }).update s.heap.objs.size (Obj.mapSeq (fun _ => (#[] : Array Value)))).get? b = some o :=
    fun b o e => (Heap.get?_update_other _ _ (Ne.symm (Nat.ne_of_lt (Heap.lt_size e)))).trans (Heap.get?_push_of_some _ e)
  refine wpAny_bind (wpAny_letGo ?_)
  have hl1 : ((s.heap.push { cls := .type "list", data := .seq #[] }).update s.heap.objs.size (Obj.mapSeq (fun _ => (#[] : Array Value)))).IsList l items := by
    obtain ⟨o, e, c, d⟩ := hl
    exact ⟨o, oth _ _ e, c, d⟩
  refine extend_rev (A := A.in1) hh (hit.at fun o e => oth _ _ e) hl1 hne hn _ .none _ hSi hSl hS₂ fun h' tk acc c' hk hS' hacc => ?_
  exact ⟨rfl, hQ h' tk acc c' (fun b o hb e => hk b o hb (Nat.ne_of_lt (Heap.lt_size e)) (oth b o e)) hS' hacc⟩
end
def tLstRev (K : PySem.W.Frag) (te : TE) : TE := fun σ H Q => te σ H fun v H1 => ∃ (a : Addr) (xs : List V), v = .ref a ∧ SqL K H1 a xs ∧ ∀ q, H1 q = none → Q (.ref q) (upd H1 q (.lst xs.reverse))
theorem pe_lstRev {X : Cx} {e : Expr} {te : TE} {p p2 pos pos2 : Pos} (hc : X.calm = true) (hg : Gl X "list") (hm : X.mg "list" = none) (hg2 : Gl X "reversed") (hm2 : X.mg "reversed" = none) (he : PE X e te)
    (hs : starEach [e] X.env = (false, eval e X.env) :: starEach [] X.env := by rfl)
    (hs2 : starEach [.Call (.Name "reversed" p2) [e] [] pos2] X.env = (false, eval (.Call (.Name "reversed" p2) [e] [] pos2) X.env) :: starEach [] X.env := by rfl) :
    PE X (.Call (.Name "list" p) [.Call (.Name "reversed" p2) [e] [] pos2] [] pos) (tLstRev X.K te) := by
  refine ⟨fun pins s σ H Q I h => ?_⟩
  refine Call_ (ld_blt I hg hm boot_list (PyProof.Rows.callWith_type1 (args_cons (Call_ (ld_blt I hg2 hm2 PyProof.Rows.boot_reversed (PyProof.Rows.callWith_type1 (args_cons (thn (he.run pins s σ H _ I h) fun u s1 ⟨v, H1, I1, r1, q1⟩ => args_nil ?_) hs) hs rfl))) hs2) hs2 rfl))
  obtain ⟨a, xs, ev, hq, q⟩ := q1
  subst ev
  obtain rfl : u = Value.ref a := r1
  obtain ⟨its, rv, p', hz⟩ := I1.list hq
  refine call_reversed_list p'.isList (args_nil ?_)
  have k0 : ∀ b o, s1.heap.get? b = some o → (s1.heap.push (revObj a ((its.toArray.size : Int) - 1))).get? b = some o := fun b o e => Heap.get?_push_of_some _ e
  have I2 : Inv X pins σ H1 { s1 with heap := s1.heap.push (revObj a ((its.toArray.size : Int) - 1)) } := I1.kept (t' := s1.toks) k0
  have fp : FpOk X pins H1 s1.heap.objs.size := I1.fpOk (H' := H1) (b := s1.heap.objs.size) (Nat.le_refl _) (I1.hok.fresh (Nat.le_refl _))
  have hl := p'.isList
  obtain ⟨ol, hol, _⟩ := id hl
  have hne : a ≠ s1.heap.objs.size := Nat.ne_of_lt (Heap.lt_size hol)
  have hn : its.toArray.size ≤ sizeLine := by rw [List.size_toArray, ← rv.length]; exact hz
  refine call_list_rev (s := { s1 with heap := s1.heap.push (revObj a ((its.toArray.size : Int) - 1)) }) (I1.ok.hd hc) ⟨_, Heap.get?_push_size _ rfl, rfl, rfl⟩ (hl.push _) hne hn fun h' tk acc c' hk hS' hi => ?_
  have fr := I2.hok.fresh (Nat.le_refl _)
  refine ⟨.ref _, upd H1 _ (.lst xs.reverse), I2.turnedNew (t' := tk) (ch := [s1.heap.objs.size]) (fun b o hb e => hk b o (fun z => hb (by simp [z])) e) (fun b hb => by
    have : b = s1.heap.objs.size := by simpa using hb
    subst this; exact fp) (Nat.le_refl _) ?_, rfl, q _ fr⟩
  refine ⟨by rw [List.length_reverse]; exact hz, acc.toList, c', RT.vals_rev rv hi, ?_⟩
  rw [Array.toArray_toList]; exact hS'
section
variable {K : PySem.W.Frag} {mg : Str → Option Value} {X : Cx} {G : Gm} {Wx : WX} {a b c e : Expr} {es : List Expr} {fa fb fc fe : EV} {pos : Pos} {α : Type}
def revD : D → Option RV
  | .lst xs => some (.ow xs.reverse)
  | .scr xs => some (.ow xs.reverse)
  | _ => none
theorem opv_rev : OpV1 K mg (fun v H Q => ∃ (a : Addr) (xs : List V), v = .ref a ∧ SqL K H a xs ∧ ∀ q, H q = none → Q (.ref q) (upd H q (.lst xs.reverse))) revD := by
  intro B H x a res Q hB ha e q
  cases a with
  | lst xs => cases e; obtain ⟨p, vs, rfl, t, r⟩ := ha.lst; exact ⟨p, vs, rfl, SqL.of t, fun l hl => q _ _ (.lst hl r.reverse)⟩
  | scr xs => cases e; obtain ⟨p, vs, rfl, t, r⟩ := ha.scr; exact ⟨p, vs, rfl, t.sq, fun l hl => q _ _ (.lst hl r.reverse)⟩
  | _ => cases e
theorem ed_lstRev {p p2 pos2 : Pos} (hc : X.calm = true) (hg : Gl X "list") (hm : X.mg "list" = none) (hg2 : Gl X "reversed") (hm2 : X.mg "reversed" = none) (he : ED X G Wx e fe)
    (hs : starEach [e] X.env = (false, eval e X.env) :: starEach [] X.env := by rfl)
    (hs2 : starEach [.Call (.Name "reversed" p2) [e] [] pos2] X.env = (false, eval (.Call (.Name "reversed" p2) [e] [] pos2) X.env) :: starEach [] X.env := by rfl) :
    ED X G Wx (.Call (.Name "list" p) [.Call (.Name "reversed" p2) [e] [] pos2] [] pos) (eOp1 revD fe) :=
  ⟨PE.imp (pe_lstRev hc hg hm hg2 hm2 he.pe hs hs2) fun σ H Q h => tE_op1 opv_rev h⟩
def tupRevD : D → Option RV
  | .lst xs => some (.pv (.tup xs.reverse))
  | .scr xs => some (.pv (.tup xs.reverse))
  | _ => none
theorem opv_tupRev : OpV1 K mg (fun v H Q => ∃ (a : Addr) (xs : List V), v = .ref a ∧ SqL K H a xs ∧ ∀ q, H q = none → Q (.ref q) (upd H q (.tup xs.reverse))) tupRevD := by
  intro B H x a res Q hB ha e q
  cases a with
  | lst xs => cases e; obtain ⟨p, vs, rfl, t, r⟩ := ha.lst; exact ⟨p, vs, rfl, SqL.of t, fun l hl => q _ _ (.tup hB hl r.reverse)⟩
  | scr xs => cases e; obtain ⟨p, vs, rfl, t, r⟩ := ha.scr; exact ⟨p, vs, rfl, t.sq, fun l hl => q _ _ (.tup hB hl r.reverse)⟩
  | _ => cases e
theorem ed_tupRev {p p2 pos2 : Pos} (hc : X.calm = true) (hg : Gl X "tuple") (hm : X.mg "tuple" = none) (hg2 : Gl X "reversed") (hm2 : X.mg "reversed" = none) (he : ED X G Wx e fe)
    (hs : starEach [e] X.env = (false, eval e X.env) :: starEach [] X.env := by rfl)
    (hs2 : starEach [.Call (.Name "reversed" p2) [e] [] pos2] X.env = (false, eval (.Call (.Name "reversed" p2) [e] [] pos2) X.env) :: starEach [] X.env := by rfl) :
    ED X G Wx (.Call (.Name "tuple" p) [.Call (.Name "reversed" p2) [e] [] pos2] [] pos) (eOp1 tupRevD fe) :=
  ⟨PE.imp (RT.pe_tupRev hc hg hm hg2 hm2 he.pe hs hs2) fun σ H Q h => tE_op1 opv_tupRev h⟩
/-! ### starred items of a display -/
def aStar (f : EV) (g : AV) : AV := fun s => (f s).bind fun r s1 => match (rd r s1).bind seqD with
  | some ds => (g s1).bind fun rs s2 => .ok (ds.map .pv ++ rs) s2
  | none => .bad
theorem ArgsOk.app {P : Addr → Prop} {A : List (Option Addr)} {L : List Addr} {H : Hp} {rs : List RV} {ws : List V} (h2 : ArgsOk K mg P A L H rs ws) : ∀ {ds : List D} {vs : List V}, Reps K mg (Bd P A L) H ds vs → ArgsOk K mg P A L H (ds.map .pv ++ rs) (vs ++ ws)
  | [], _, h => by unfold Reps at h; subst h; simpa using h2
  | d :: ds, _, h => by
    unfold Reps at h; obtain ⟨v, r, rfl, h1, h3⟩ := h
    simp only [List.map_cons, List.cons_append]
    unfold ArgsOk
    exact ⟨v, _, rfl, h1, ArgsOk.app h2 h3⟩
theorem ad_star {g : AV} {p : Pos} (he : ED X G Wx e fe) (hr : AD X G Wx es g) (hs : starEach (.Starred e p :: es) X.env = (true, eval e X.env) :: starEach es X.env := by rfl) : AD X G Wx (.Starred e p :: es) (aStar fe g) := by
  refine ⟨PA.imp (StX.pa_star he.pe hr.pa hs) fun σ H Q ⟨P, A, L, s, hs, h⟩ => (tE_one hs h).mono fun x H1 ⟨A1, L1, s1, r, a1, h1⟩ => ?_⟩
  cases e1 : (rd r s1).bind seqD with
  | none => rw [e1] at h1; exact h1.elim
  | some ds =>
    rw [e1] at h1
    obtain ⟨d, e2, e3⟩ := Option.bind_eq_some_iff.mp e1
    obtain ⟨q, vs, rfl, t, rp⟩ := (rd_ok a1.weak a1.ok e2).seq e3
    refine ⟨q, vs, rfl, t.symm, P, A1, L1, s1, a1.weak, (Run.bind h1).shift a1.st fun rs s3 _ q A3 L3 ws H3 sr3 ok3 st3 => ?_⟩
    exact q A3 L3 _ H3 sr3 (ok3.app (rp.step st3)) (a1.st.trans st3)
/-! ### a list that is handed round -/
variable {P : Addr → Prop} {A A1 : List (Option Addr)} {σ : L2.St} {L L1 : List Addr} {H H1 : Hp} {s : S}
def gShare (i : Nat) : GV := fun r s => match r with
  | .ow ds => if i < s.η.length then .ok () { η := s.η.set i (.lc s.W.length), W := s.W ++ [ds] } else .bad
  | _ => .bad
theorem At.share {ds : List D} {v : V} {i : Nat} (h : At K mg G P A L H σ A1 L1 s H1 (.ow ds) v) (hi : i < s.η.length) :
    ∃ a, v = .ref a ∧ SR K mg G P (A1.set i none) (L1 ++ [a]) { η := s.η.set i (.lc s.W.length), W := s.W ++ [ds] } (σ.set i (some v)) H1 ∧ Step A L H (A1.set i none) (L1 ++ [a]) H1 := by
  obtain ⟨a, vs, rfl, e1, r, e3, e4, e5⟩ := h.ok
  have own : Own (.ow ds) (.ref a) a := ⟨⟨ds, rfl⟩, rfl⟩
  have hs := h.sr
  have iA : i < A1.length := by rw [hs.lenA]; exact hi
  have iσ : i < σ.length := by rw [hs.lenσ]; exact hi
  have nP := h.np a own
  have memA : ∀ b, some b ∈ A1.set i none → some b ∈ A1 := fun b z => (mem_set z).elim id nofun
  have memL : ∀ b, b ∈ L1 ++ [a] → b ∈ L1 ∨ b = a := fun b z => by simpa using z
  have hB : ∀ b, Bd P (A1.set i none) (L1 ++ [a]) b → Bd (Wi P (.ow ds) (.ref a)) A1 L1 b := fun b z => by
    rcases z with z | z | z
    · exact .inl (memA b z)
    · rcases memL b z with z | rfl
      · exact .inr (.inl z)
      · exact .inr (.inr (.inr own))
    · exact .inr (.inr (.inl z))
  have loc : ∀ {n : Nat} {b : Addr}, L1[n]? = some b → (L1 ++ [a])[n]? = some b := fun {n b} e => by rw [List.getElem?_append_left (List.getElem?_eq_some_iff.mp e).1]; exact e
  refine ⟨a, rfl, ⟨by simp [hs.lenσ], by simp [hs.lenA], fun j y e => ?_, fun j k b f1 f2 => ?_, fun b z w => ?_, ?_, by simp [hs.lenL], fun n ds' e => ?_, fun b z => hs.own b (memA b z), hs.tab, ?_, fun b z => hs.ownNew b (memA b z), fun b z => ?_, fun j e => ?_⟩, ?_⟩
  · by_cases hj : j = i
    · subst hj
      simp only [List.getElem?_set_self hi, Option.some.injEq] at e
      subst e
      refine ⟨some (.ref a), none, List.getElem?_set_self iσ, List.getElem?_set_self iA, rfl, a, ?_, rfl⟩
      rw [← hs.lenL, List.getElem?_append_right (Nat.le_refl _)]; simp
    · simp only [List.getElem?_set_ne (Ne.symm hj)] at e
      obtain ⟨ov', oa', f1, f2, q⟩ := hs.slot j y e
      exact ⟨ov', oa', by rw [List.getElem?_set_ne (Ne.symm hj)]; exact f1, by rw [List.getElem?_set_ne (Ne.symm hj)]; exact f2, q.move (fun b o h n _ => ⟨h, fun z => n (hB b z)⟩) (fun _ _ _ _ h => h) fun _ _ h => loc h⟩
  · have g1 : A1[j]? = some (some b) := by
      by_cases hj : j = i
      · subst hj; rw [List.getElem?_set_self iA] at f1; cases f1
      · rwa [List.getElem?_set_ne (Ne.symm hj)] at f1
    have g2 : A1[k]? = some (some b) := by
      by_cases hk : k = i
      · subst hk; rw [List.getElem?_set_self iA] at f2; cases f2
      · rwa [List.getElem?_set_ne (Ne.symm hk)] at f2
    exact hs.uniq j k b g1 g2
  · rcases memL b w with w | rfl
    · exact hs.apart b (memA b z) w
    · exact e3 (memA b z)
  · rw [List.nodup_append]
    exact ⟨hs.nd, by simp, fun x hx y hy e => by simp at hy; subst hy; subst e; exact e4 hx⟩
  · by_cases hn : n < s.W.length
    · simp only [List.getElem?_append_left hn] at e
      obtain ⟨b, us, f1, f2, f3⟩ := hs.loc n ds' e
      exact ⟨b, us, loc f1, f2, f3.less hB⟩
    · have hn' : n = s.W.length := by
        have := (List.getElem?_eq_some_iff.mp e).1
        simp at this; omega
      subst hn'
      simp at e
      subst e
      refine ⟨a, vs, ?_, e1, r.less fun b z => ?_⟩
      · rw [← hs.lenL, List.getElem?_append_right (Nat.le_refl _)]; simp
      · rcases z with z | z | z
        · exact .inr (.inl (memA b z))
        · rcases memL b z with z | z
          · exact .inr (.inr (.inl z))
          · exact .inl z
        · exact .inr (.inr (.inr z))
  · have en := hs.ent
    refine ⟨en.frm, fun b z => ?_, ?_, en.there, en.tab⟩
    · rcases z with z | z
      · simp at z
      · rcases memL b z with z | rfl
        · exact en.new b (.inr z)
        · exact .inr (.inr e5)
    · obtain ⟨r', e⟩ := en.pre
      exact ⟨r' ++ [a], by rw [e]; simp⟩
  · have w := hs.pOk b (.inl z)
    refine ⟨w.1, fun y => w.2.1 (memA b y), fun y => ?_⟩
    rcases memL b y with y | rfl
    · exact w.2.2 y
    · exact nP z
  · have e : (s.η.set i (.lc s.W.length))[j]? = some .ex := e
    by_cases hj : j = i
    · subst hj
      rw [List.getElem?_set_self hi] at e
      cases e
    · rw [List.getElem?_set_ne (Ne.symm hj)] at e ⊢
      exact hs.exn j e
  · have st := h.st
    refine ⟨st.frm, fun b z => ?_, ?_, st.there, st.tab⟩
    · rcases z with z | z
      · exact st.new b (.inl (memA b z))
      · rcases memL b z with z | rfl
        · exact st.new b (.inr z)
        · rcases h.new b own with q | q
          · exact .inl q
          · exact .inr (.inr q)
    · obtain ⟨r', e⟩ := st.pre
      exact ⟨r' ++ [a], by rw [e]; simp⟩
/-- name = e, a list that others change, too -/
theorem sd_share {i : Nat} {x : Str} {pos' : Pos} (hN : X.N.Nodup) (hi : X.N[i]? = some x) (hx : Loc X.env.scope x) (he : ED X G Wx e fe) (hs : swapsWith e (some (.Name x pos')) pos.line X.env = pure false := by rfl)
    (hf : X.fn x = true ∨ X.env.scope.names.lookup x = some .local := by first | exact .inl rfl | exact .inr rfl | assumption) : SD X G Wx (.Assign [.Name x pos'] e pos) (sAsg fe (gShare i)) := by
  refine ⟨PS.imp (ps_set hN hi hx he.pe hs hf) fun D σ H h => ?_⟩
  refine tE.mono (tS_asg h) fun v H1 ⟨P, A0, L0, H0, A, L, s, r, a, h⟩ => ?_
  unfold gShare at h
  split at h
  · split at h
    · rename_i ds hi
      obtain ⟨p, rfl, sr, st⟩ := a.share hi
      exact h _ _ _ _ sr st
    · exact h.elim
  · exact h.elim
end
end DL
namespace DL
open PySem PySem.Spec PyProof.Rows L2
section
variable {K : PySem.W.Frag} {mg : Str → Option Value} {X : Cx} {G : Gm} {Wx : WX} {a b c e : Expr} {es : List Expr} {fa fb fc fe : EV} {pos : Pos} {α : Type}
/-! ### a op b op c -/
def eChain (f f' : Ob2) (fa fb fc : EV) : EV := fun s => (fa s).bind fun ra s1 => (fb s1).bind fun rb s2 => match rb with
  | .pv b => (fin2 f ra (.pv b) s2).bind fun r s3 => match r with
    | .pv (.bl true) => (fc s3).bind fun rc s4 => fin2 f' (.pv b) rc s4
    | .pv (.bl false) => .ok (.pv (.bl false)) s3
    | _ => .bad
  | _ => .bad
theorem fin2_some {α : Type} {f : Ob2} {ra rb : RV} {s : S} {k : RV → S → Rs α} {P : Addr → Prop} {A : List (Option Addr)} {L : List Addr} {H : Hp} {σ : L2.St} {Qf : α → S → Prop} (h : Run K mg G Wx P A L H σ ((fin2 f ra rb s).bind k) Qf) :
    ∃ x y r, rd ra s = some x ∧ rd rb s = some y ∧ f x y = some r ∧ Run K mg G Wx P A L H σ (k r s) Qf := by
  unfold fin2 at h
  cases e1 : rd ra s with
  | none => rw [e1] at h; exact h.elim
  | some x =>
    cases e2 : rd rb s with
    | none => rw [e1, e2] at h; exact h.elim
    | some y =>
      rw [e1, e2] at h
      simp only at h
      cases e3 : f x y with
      | none => rw [e3] at h; exact h.elim
      | some r => rw [e3] at h; exact ⟨x, y, r, rfl, rfl, e3, h⟩
theorem tE_chain {r r' : R2} {f f' : Ob2} (hv : OpV K mg r f) (hv' : OpV K mg r' f') {σ : L2.St} {H : Hp} {Q : VK} (h : tE K mg G Wx (eChain f f' fa fb fc) σ H Q) :
    tChain r r' (tE K mg G Wx fa) (tE K mg G Wx fb) (tE K mg G Wx fc) σ H Q := by
  obtain ⟨P, A, L, s, hs, h⟩ := h
  unfold tChain
  refine (tE_two hs h).mono fun x H1 h1 => h1.mono fun y H2 ⟨A2, L2', s2, ra, rb, hs2, oa, ob, st, h2⟩ => ?_
  cases rb with
  | pv b =>
    obtain ⟨xd, yd, rr, e1, e2, e3, h3⟩ := fin2_some h2
    have pa := rd_ok hs2 oa e1
    have pb := rd_ok hs2 ob e2
    refine hv _ _ _ _ _ _ rr _ hs2.there pa pb e3 fun z H3 ro => ?_
    have st3 : Step A L H A2 L2' H3 := st.trans (Step.keep ro.keep)
    have hs3 : SR K mg G P A2 L2' s2 σ H3 := hs2.keep ro.keep fun a z => .inl z
    have ob3 : RVOk K mg G P A2 L2' σ H3 (.pv b) y := ob.step (Step.keep ro.keep)
    have rp := ro.rep
    split at h3
    · refine ⟨true, by simpa [Rep] using rp, ?_⟩
      rw [if_pos rfl]
      refine ⟨P, A2, L2', s2, hs3, ((Run.bind h3).on st3 fun a z => z).imp fun rc s4 _ q A4 L4 w H4 a4 => ?_⟩
      exact run_fin2 hv' a4.weak hs.p0 (ob3.step a4.st) (a4.ok) (st3.trans a4.st) q
    · refine ⟨false, by simpa [Rep] using rp, ?_⟩
      rw [if_neg (by decide)]
      exact h3 A2 L2' _ H3 ⟨hs3.lessP (Wi.pv nofun), by show Rep _ _ _ _ _ _; unfold Rep; rfl, OwNew.of nofun, st3, hs.p0⟩
    · exact h3.elim
  | ow ds => exact h2.elim
  | vr i => exact h2.elim
  | lc n => exact h2.elim
theorem ed_chain {op op' : CmpOp} {r r' : R2} {f f' : Ob2} (ho : OpR X (compareOp op) r) (hv : OpV X.K X.mg r f) (ho' : OpR X (compareOp op') r') (hv' : OpV X.K X.mg r' f') (ha : ED X G Wx a fa) (hb : ED X G Wx b fb) (hc : ED X G Wx c fc)
    (hm : lastMarks [op, op'] [b, c] = false := by with_unfolding_all rfl) : ED X G Wx (.Compare a [op, op'] [b, c] pos) (eChain f f' fa fb fc) :=
  ⟨PE.imp (pe_chain ho ho' ha.pe hb.pe hc.pe hm) fun σ H Q h => tE_chain hv hv' h⟩
theorem td_chain {op op' : CmpOp} {r r' : R2} {f f' : Ob2} (ho : OpR X (compareOp op) r) (hv : OpV X.K X.mg r f) (ho' : OpR X (compareOp op') r') (hv' : OpV X.K X.mg r' f') (ha : ED X G Wx a fa) (hb : ED X G Wx b fb) (hc : ED X G Wx c fc)
    (hm : lastMarks [op, op'] [b, c] = false := by with_unfolding_all rfl) : TD X G Wx (.Compare a [op, op'] [b, c] pos) (tOfB (eChain f f' fa fb fc)) := by
  refine ⟨PT.imp (pt_chain ho ho' ha.pe hb.pe hc.pe hm) fun σ H Q ⟨P, A, L, s, hs, h⟩ => ?_⟩
  refine tE_chain hv hv' ⟨P, A, L, s, hs, (Run.bind h).imp fun r s' _ p A' L' v H' at' => ?_⟩
  unfold toB at p
  split at p
  · rename_i b0 _
    have e : v = .bl b0 := by have := at'.ok; unfold RVOk Rep at this; exact this
    exact ⟨b0, e, p A' L' H' (at'.sr.lessP fun _ z => .inl z) at'.st⟩
  · exact p.elim
end
/-! ### the defs of a program -/
/-- a def that stands in the module -/
structure Row (K : PySem.W.Frag) (mg : Str → Option Value) (st : Stmt) (x : Str) (ps : List Str) : Prop where
  ex : ∃ f fd, mg x = some (.ref f) ∧ Fun K x x st f fd ∧ ∀ us : List Value, us.length = ps.length → bindArgs fd ⟨us, []⟩ = pure (ps.zip us)
/-- .. and keeps its promise -/
structure Has (Pg : Program) (w : World) (K : PySem.W.Frag) (mg : Str → Option Value) (base : Heap) (tb : List Addr) (k : Nat) (x : Str) (ps : List Str) (m : Fn) : Prop where
  ex : ∃ f fd, mg x = some (.ref f) ∧ PySem.W.keepIn K (.ref f) = true ∧ Binds K fd ps [] ∧ FnOk Pg w K mg base (L2N.CX Pg w) k f fd ps (spD K mg tb m) ∧ ∃ oc od osl, K.lookup f = some ⟨oc, od, .func fd, osl⟩
section
variable {Pg : Program} {w : World} {K : PySem.W.Frag} {mg : Str → Option Value} {base : Heap} {tb : List Addr} {k j : Nat} {x : Str} {ps N : List Str} {m : Fn} {st : Stmt} {body : SV}
theorem Has.mono (h : Has Pg w K mg base tb j x ps m) (l : j ≤ k) : Has Pg w K mg base tb k x ps m := let ⟨f, fd, a, b, c, d, e⟩ := h.ex; ⟨f, fd, a, b, c, d.mono l, e⟩
theorem Has.of (R : Row K mg st x ps) (Sc : FnScope N ps (defScope st))
    (hb : ∀ (f : Addr) (cdv : Value) (A : Around) (outer : List Env) (s : Shared) (H : Hp) (E : XK) (G : Gm), G.tb = tb → Room k (A.deeper (envOfC x (defScope st) s.heap.objs.size f cdv)) →
      SsD (cxOf (L2N.CX Pg w) Pg w K mg base N x (defScope st) f cdv A outer s H E) G (fun cls d _ H' => E cls d H') (defBody st) body) :
    Has Pg w K mg base tb (k + 1) x ps (defF ps.length N.length body) := by
  obtain ⟨f, fd, h1, F, b⟩ := R.ex
  refine ⟨f, fd, h1, F.kp, .all b, fn_ok F Sc (hb f), ?_⟩
  obtain ⟨oc, od, kV, doc, pm, an, cdv, ct, osl, e, lk, _⟩ := F.ex
  exact ⟨oc, od, osl, lk⟩
theorem Has.bad (R : Row K mg st x ps) : Has Pg w K mg base tb k x ps fun _ _ => .bad := by
  obtain ⟨f, fd, h1, F, b⟩ := R.ex
  obtain ⟨oc, od, kV, doc, pm, an, cdv, ct, osl, e, lk, _⟩ := F.ex
  refine ⟨f, fd, h1, F.kp, .all b, ⟨fun vs H Q E h => ?_, fun A outer s H args us vs Q E hr he hb hv h => ?_⟩, oc, od, osl, lk⟩
  · obtain ⟨P, L, args, W, _, _, h⟩ := h; exact h.elim
  · obtain ⟨P, L, args, W, _, _, h⟩ := h; exact h.elim
end
section
variable {X : Cx} {G : Gm} {Wx : WX} {e : Expr} {es : List Expr} {pos : Pos}
theorem ed_callH {k j : Nat} {ps : List Str} {tb : List Addr} {F : Fn} {fs : AV} {x : Str} {p : Pos} (Fk : Has X.prog X.w X.K X.mg X.base tb j x ps F) (hr : Room k X.A) (htb : G.tb = tb) (tk : L2N.Takes X Wx) (ha : AD X G Wx (e :: es) fs) (hjk : j ≤ k := by decide)
    (hg : Gl X x := by rfl)
    (hdb : (x == ("__debug__" : Str)) = false := by decide) (he : starEach (e :: es) X.env = (false, eval e X.env) :: starEach es X.env := by rfl) (hpl : (backTo pos (starEach es X.env)).any (·.1) = false := by rfl) :
    ED X G Wx (.Call (.Name x p) (e :: es) [] pos) (eCall F fs) := by
  obtain ⟨f, fd, hm, hk, hb, F, _⟩ := Fk.ex
  exact ed_call F (hr.mono hjk) htb tk hg hm hk hb ha hdb he hpl
theorem takes_cx {Pg : Program} {w : World} {K : PySem.W.Frag} {mg : Str → Option Value} {base : Heap} {N : List Str} {qual : Str} {scope : Scope} {f : Addr} {cd : Value} {A : Around} {outer : List Env} {s : Shared} {H : Hp} {E : XK} :
    L2N.Takes (cxOf (L2N.CX Pg w) Pg w K mg base N qual scope f cd A outer s H E) fun cls d _ H' => E cls d H'   := L2N.takes_of rfl rfl rfl rfl
theorem owns_cx {Pg : Program} {w : World} {K : PySem.W.Frag} {mg : Str → Option Value} {base : Heap} {N : List Str} {qual : Str} {scope : Scope} {f : Addr} {cd : Value} {A : Around} {outer : List Env} {s : Shared} {H : Hp} {E : XK} :
    PassesOwn (model Pg w) (cxOf (L2N.CX Pg w) Pg w K mg base N qual scope f cd A outer s H E).A (cxOf (L2N.CX Pg w) Pg w K mg base N qual scope f cd A outer s H E).env (cxOf (L2N.CX Pg w) Pg w K mg base N qual scope f cd A outer s H E).xe :=
  passes_of (X := cxOf (L2N.CX Pg w) Pg w K mg base N qual scope f cd A outer s H E) (K := fun e s'' => L2N.CX Pg w outer H s E e s'') (E₁ := fun e s'' => L2N.CX Pg w outer H s E e s'') rfl
end
/-- the built-in names that the module leaves alone -/
structure Blt (mg : Str → Option Value) : Prop where
  no : ∀ x ∈ ["len", "isinstance", "range", "tuple", "int", "list", "sorted", "all", "any", "abs", "sum", "reversed", "max", "min", "enumerate", "dict", "zip", "set", "str", "bool", "ord", "divmod"], mg (Str.ofString x) = none
end DL
namespace DL
open PySem PySem.Spec PyProof.Rows L2
/-! ### a comprehension's scope, checked -/
def blkB (N : List Str) (sc scope : Scope) (own : List (Str × Nat)) : Bool :=
  scope.kind == .function && scope.names.all (fun y => scope.names.lookup y.1 == some y.2) && own.all (fun p => N[p.2]? == some p.1) &&
  scope.names.all (fun y => !(y.2 == .free) || (sc.names.lookup y.1 == some .cell || sc.names.lookup y.1 == some .free)) &&
  scope.names.all (fun y => !(y.2 == .local || y.2 == .cell) || ((own.map (·.1)).contains y.1 || !N.contains y.1))
theorem blk_ok {N : List Str} {sc scope : Scope} {own : List (Str × Nat)} (h : blkB N sc scope own = true) : BlkOk N sc scope own := by
  unfold blkB at h
  simp only [Bool.and_eq_true, List.all_eq_true] at h
  obtain ⟨⟨⟨⟨h1, h2⟩, h3⟩, h4⟩, h5⟩ := h
  refine ⟨by simpa using h1, fun y hy => by simpa using h2 y hy, fun p hp => by simpa using h3 p hp, fun y hy e => ?_, fun y hy e => ?_⟩
  · have := h4 y hy
    rw [e] at this
    simpa using this
  · have := h5 y hy
    rcases e with e | e
    · rw [e] at this
      simpa using this
    · rw [e] at this
      simpa using this
section
variable {Pg : Program} {w : World} {K : PySem.W.Frag} {mg : Str → Option Value} {base : Heap} {tb : List Addr} {k j : Nat} {x : Str} {ps N : List Str} {m : Fn} {st : Stmt} {body : SV}
/-- a def's row by what the head says of it -/
theorem Row.mk' {h : Heap} {f : Addr} {oc : Value} {od an : Option Addr} {osl : Array (Option Value)} {kV doc pm cdv ct : Value} (X : K.In h) (G : h.Ns mainGlobals mg)
    (hb : ∀ (kV doc pm : Value) (an : Option Addr) (cdv ct : Value) (us : List Value), us.length = ps.length → bindArgs (PySem.W.fnOf x x (defArgs st) (defBody st) (defScope st) .none kV doc pm an cdv ct) ⟨us, []⟩ = pure (ps.zip us))
    (a : PySem.W.nsIn K mainGlobals x = some (some (.ref f))) (l : K.lookup f = some ⟨oc, od, .func (PySem.W.fnOf x x (defArgs st) (defBody st) (defScope st) .none kV doc pm an cdv ct), osl⟩)
    (c : PySem.W.codeIn K cdv x = true) (k : PySem.W.keepIn K (.ref f) = true) : Row K mg st x ps :=
  ⟨f, _, PySem.W.mg_of X G a, fun_mk l c k, hb kV doc pm an cdv ct⟩
/-- the law's own promise -/
theorem law_sp {H : Hp} {a : Addr} {ns : List Int} (hS : SqL K H a (ns.map V.int)) (htb : ∀ a ∈ tb, GxR.TabG H a) (h : ∃ W', m [.pv (.scr (ns.map D.int))] [] = .ok (.pv (.bl true)) W') :
    spD K mg tb m [.ref a] H (fun v _ => v = .bl true) fun _ _ _ => False := by
  obtain ⟨W', h⟩ := h
  refine ⟨fun _ => False, [], [.pv (.scr (ns.map D.int))], [], ⟨rfl, rfl, fun i x e => by simp at e, fun i j a e => by simp at e, fun a z => by simp at z, List.nodup_nil, rfl, fun n ds e => by simp at e, fun a z => by simp at z, htb, Step.refl _ _ _, fun a z => by simp at z, fun a z => z.elim, fun i e => by simp at e⟩, ?_, ?_⟩
  · unfold ArgsOk
    refine ⟨_, _, rfl, ?_, by unfold ArgsOk; rfl⟩
    show Rep _ _ _ _ _ _
    unfold Rep
    refine ⟨a, ns.map V.int, rfl, ?_, Reps.ofInts⟩
    rcases hS with hS | hS
    · refine .inl ⟨hS, fun z => ?_⟩
      rcases z with z | z | z
      · simp at z
      · simp at z
      · exact z
    · exact .inr hS
  · rw [h]
    intro L' v H' sr ok
    have ok : Rep K mg (Bd (fun _ => False) [] L') H' (.bl true) v := ok
    unfold Rep at ok
    exact ok
end
/-- the end of a law without tables -/
theorem lawAt0 {l : PySem.W.OpenLaw} {w : World} {K : PySem.W.Frag} {k n : Nat} {x : Str} {mg : Str → Option Value} {fa : Addr} {h : Heap} {m : Fn} {st : Stmt} {nm : Str} (R : Row K mg st nm [x]) (hfa : mg nm = some (.ref fa))
    (F : ∀ (base : Heap) (f : Addr) (fd : FuncData), Fun K nm nm st f fd → FnOk l.prog w K mg base (L2N.CX l.prog w) k f fd [x] (spD K mg [] m))
    (hm : ∀ ns : List Int, ns.length ≤ n → (∀ z ∈ ns, Builtin.Int.intBits z ≤ 1048576) → ∃ W', m [.pv (.scr (ns.map D.int))] [] = .ok (.pv (.bl true)) W') : LamX.LawAtS l w K (L2N.CX l.prog w) k n x mg fa h := by
  obtain ⟨f, fd, h1, Fn, b⟩ := R.ex
  have e := hfa.symm.trans h1
  cases e
  exact ⟨fd, [], spD K mg [] m, fun p hp => by simp at hp, fun p hp => by simp at hp, fun p hp => by simp at hp, fun s u => .of_eq (b [u] rfl), fun H a ns hl hb _ hS => law_sp hS (fun a z => by simp at z) (hm ns hl hb), fun base _ _ _ => F base _ fd Fn⟩
theorem cx_none {P : Program} {w : World} {H : Hp} {s : Shared} {e : Value} {s' : Shared} (h : L2N.CX P w [] H s (fun _ _ _ => False) e s') : False := by
  obtain ⟨_, _, _, _, _, _, _, _, _, _, _, _, h⟩ := h
  exact h
end DL
namespace DL
open PySem PySem.Spec PyProof.Rows L2
theorem bt_len : bootBuiltins "len" = some (.builtin "len") := by decide +kernel
theorem bt_isinstance : bootBuiltins "isinstance" = some (.builtin "isinstance") := by decide +kernel
theorem bt_abs : bootBuiltins "abs" = some (.builtin "abs") := by decide +kernel
theorem bt_max : bootBuiltins "max" = some (.builtin "max") := by decide +kernel
theorem bt_min : bootBuiltins "min" = some (.builtin "min") := by decide +kernel
theorem bt_sum : bootBuiltins "sum" = some (.builtin "sum") := by decide +kernel
theorem bt_sorted : bootBuiltins "sorted" = some (.builtin "sorted") := by decide +kernel
theorem bt_all : bootBuiltins "all" = some (.builtin "all") := by decide +kernel
theorem bt_any : bootBuiltins "any" = some (.builtin "any") := by decide +kernel
theorem bt_int : bootBuiltins "int" = some (.type "int") := by decide +kernel
theorem bt_bool : bootBuiltins "bool" = some (.type "bool") := by decide +kernel
theorem bt_str : bootBuiltins "str" = some (.type "str") := by decide +kernel
theorem bt_list : bootBuiltins "list" = some (.type "list") := by decide +kernel
theorem bt_tuple : bootBuiltins "tuple" = some (.type "tuple") := by decide +kernel
theorem bt_dict : bootBuiltins "dict" = some (.type "dict") := by decide +kernel
theorem bt_set : bootBuiltins "set" = some (.type "set") := by decide +kernel
theorem bt_range : bootBuiltins "range" = some (.type "range") := by decide +kernel
theorem bt_reversed : bootBuiltins "reversed" = some (.type "reversed") := by decide +kernel
theorem bt_enumerate : bootBuiltins "enumerate" = some (.type "enumerate") := by decide +kernel
theorem bt_zip : bootBuiltins "zip" = some (.type "zip") := by decide +kernel
theorem u64 {k : Nat} {A : Around} (r : Room k A) : A.units + 64 < cLine := by have := r.un; omega
theorem u65 {k : Nat} {A : Around} (r : Room k A) : A.units + 65 < cLine := by have := r.un; omega
section
variable {X : Cx} {G : Gm} {Wx : WX} {c : Expr} {fe : EV} {pos : Pos} {elt tg iter : Expr} {scope : Scope} {it : IV} {g : GV} {t : TV}
theorem ed_comp0 (own : List (Str × Nat)) (hc : X.calm = true) (hN : X.N.Nodup) (hi : ID X G Wx tg iter it) (ok : BlkOk X.N X.env.scope scope own)
    (hg : ∀ (s : Shared) (H : Hp) (C : Addr) (cl : List (Str × Addr)) (fp : List Addr), GDv (Blk X scope s H C cl fp) G (own.map (·.2)) tg g)
    (he : ∀ (s : Shared) (H : Hp) (C : Addr) (cl : List (Str × Addr)) (fp : List Addr), ED (Blk X scope s H C cl fp) G W0 elt fe) (hs : ∀ x, foldedSetIterable iter X.env x = pure x := by intro _; rfl) :
    ED X G Wx (.ListComp elt [⟨tg, iter, [], 0⟩] scope pos) (eComp (own.map (·.2)) it g tTrue fe) := ed_comp (tt := tYes) own hc hN hi ok hg (fun _ _ _ _ _ => cd_nil) he hs
theorem ed_comp1 (own : List (Str × Nat)) (hc : X.calm = true) (hN : X.N.Nodup) (hi : ID X G Wx tg iter it) (ok : BlkOk X.N X.env.scope scope own)
    (hg : ∀ (s : Shared) (H : Hp) (C : Addr) (cl : List (Str × Addr)) (fp : List Addr), GDv (Blk X scope s H C cl fp) G (own.map (·.2)) tg g)
    (ht : ∀ (s : Shared) (H : Hp) (C : Addr) (cl : List (Str × Addr)) (fp : List Addr), TD (Blk X scope s H C cl fp) G W0 c t)
    (he : ∀ (s : Shared) (H : Hp) (C : Addr) (cl : List (Str × Addr)) (fp : List Addr), ED (Blk X scope s H C cl fp) G W0 elt fe) (hs : ∀ x, foldedSetIterable iter X.env x = pure x := by intro _; rfl) :
    ED X G Wx (.ListComp elt [⟨tg, iter, [c], 0⟩] scope pos) (eComp (own.map (·.2)) it g t fe) := ed_comp (tt := tT X.K X.mg G W0 t) own hc hN hi ok hg (fun s H C cl fp => cd_one (ht s H C cl fp)) he hs
theorem sd_setComp0 {i : Nat} {y : Str} {py spos : Pos} (own : List (Str × Nat)) (hc : X.calm = true) (hN : X.N.Nodup) (hy : X.N[i]? = some y) (hyl : X.env.scope.names.lookup y = some .local)
    (hsw : swapsWith (.ListComp elt [⟨tg, iter, [], 0⟩] scope pos) (some (.Name y py)) spos.line X.env = pure true) (hi : ID X G Wx tg iter it) (ok : BlkOk X.N X.env.scope scope own)
    (hg : ∀ (s : Shared) (H : Hp) (C : Addr) (cl : List (Str × Addr)) (fp : List Addr), GDv (Blk X scope s H C cl fp) G (own.map (·.2)) tg g)
    (he : ∀ (s : Shared) (H : Hp) (C : Addr) (cl : List (Str × Addr)) (fp : List Addr), ED (Blk X scope s H C cl fp) G W0 elt fe) (hs : ∀ x, foldedSetIterable iter X.env x = pure x := by intro _; rfl) :
    SD X G Wx (.Assign [.Name y py] (.ListComp elt [⟨tg, iter, [], 0⟩] scope pos) spos) (sAsg (eComp (own.map (·.2)) it g tTrue fe) (gSet i)) := sd_setComp (tt := tYes) own hc hN hy hyl hsw hi ok hg (fun _ _ _ _ _ => cd_nil) he hs
theorem sd_setComp1 {i : Nat} {y : Str} {py spos : Pos} (own : List (Str × Nat)) (hc : X.calm = true) (hN : X.N.Nodup) (hy : X.N[i]? = some y) (hyl : X.env.scope.names.lookup y = some .local)
    (hsw : swapsWith (.ListComp elt [⟨tg, iter, [c], 0⟩] scope pos) (some (.Name y py)) spos.line X.env = pure true) (hi : ID X G Wx tg iter it) (ok : BlkOk X.N X.env.scope scope own)
    (hg : ∀ (s : Shared) (H : Hp) (C : Addr) (cl : List (Str × Addr)) (fp : List Addr), GDv (Blk X scope s H C cl fp) G (own.map (·.2)) tg g)
    (ht : ∀ (s : Shared) (H : Hp) (C : Addr) (cl : List (Str × Addr)) (fp : List Addr), TD (Blk X scope s H C cl fp) G W0 c t)
    (he : ∀ (s : Shared) (H : Hp) (C : Addr) (cl : List (Str × Addr)) (fp : List Addr), ED (Blk X scope s H C cl fp) G W0 elt fe) (hs : ∀ x, foldedSetIterable iter X.env x = pure x := by intro _; rfl) :
    SD X G Wx (.Assign [.Name y py] (.ListComp elt [⟨tg, iter, [c], 0⟩] scope pos) spos) (sAsg (eComp (own.map (·.2)) it g t fe) (gSet i)) := sd_setComp (tt := tT X.K X.mg G W0 t) own hc hN hy hyl hsw hi ok hg (fun s H C cl fp => cd_one (ht s H C cl fp)) he hs
end
/-- more turns than any loop here takes -/
noncomputable def fuel : Nat := Classical.choose (⟨2 ^ 64, rfl⟩ : ∃ n : Nat, n = 2 ^ 64)
theorem fuel_eq : fuel = 2 ^ 64 := Classical.choose_spec (⟨2 ^ 64, rfl⟩ : ∃ n : Nat, n = 2 ^ 64)
end DL
namespace DL
open PySem PySem.Spec PyProof.Rows L2
/-! ### enumerate(a tuple) -/
theorem draws_tuple {prog : Program} {w : World} {A : Around} (hh : A.handled = none) (it l : Addr) (hne : l ≠ it) (items : Array Value) :
    Draws prog w A it [it, l] items.size (fun i v => items[i]? = some v) (fun i h => h.IsTupleIter it l i ∧ h.IsTuple l items) where
  live := fun _ _ st => let ⟨o, ho, _⟩ := st.1; ⟨o, ho⟩
  frame := fun _ _ _ st hk => ⟨st.1.at fun o e => hk it (by simp) o e, let ⟨o, ho, r⟩ := st.2; ⟨o, hk l (by simp) o ho, r⟩⟩
  item := fun i s Q E hi st hQ => by
    refine RZ.nextOf_tuple_item st.1 st.2 (Array.getElem?_eq_getElem hi) fun h' hit hs => ?_
    exact hQ _ h' s.toks (Array.getElem?_eq_getElem hi) ⟨hit, let ⟨o, ho, r⟩ := st.2; ⟨o, (hs.2 l hne).trans ho, r⟩⟩ hs
  done := fun s Q E st hE => RZ.nextOf_tuple_end hh st.1 st.2 (Array.getElem?_eq_none (Nat.le_refl _)) hE
theorem meets_enum_tup (l : Addr) (items : Array Value) (n : Nat) (dct : Option Addr) (sl : Array (Option Value)) :
    Meets (Builtin.«enumerate.__new__» ⟨[.type "enumerate", .ref l], []⟩) (fun _ R s => s.heap.get? l = some { cls := .type "tuple", dict := dct, data := .seq items n, slots := sl } ∧
      R (.ok (.ret (.ref (s.heap.push { cls := .type "tuple_iterator", data := .fields #[.ref l, .int 0 0] }).objs.size)))
        { s with heap := (s.heap.push { cls := .type "tuple_iterator", data := .fields #[.ref l, .int 0 0] }).push { cls := .type "enumerate", data := .fields #[.none, .bool false, .ref s.heap.objs.size, rawInt 0, .none, .none] } }) :=
  .of_wp fun prog w A R s h => by
    obtain ⟨hp, g, d, tk, os⟩ := s; obtain ⟨hl, h⟩ := h
    have hsub := sub_enumerate
    have hL : Heap.IsTuple (Shared.heap ⟨hp, g, d, tk, os⟩) l items := ⟨_, hl, rfl, n, rfl⟩
    wp_walk using AutoSeq1.wpAny_loadPart' hl
    refine wpAny_stack_any fun st => wpAny_pure ?_
    split
    · rename_i c _ _ _ _ _
      cases (c == Value.type "enumerate")
      · wp_walk using AutoSeq1.wpAny_loadPart' hl, wpAny_pyIter_tuple hL
        exact ⟨_, rfl, h⟩
      · wp_walk using AutoSeq1.wpAny_loadPart' hl, wpAny_pyIter_tuple hL
        exact ⟨_, rfl, h⟩
    · wp_walk using AutoSeq1.wpAny_loadPart' hl, wpAny_pyIter_tuple hL
      exact ⟨_, rfl, h⟩
section
variable {prog : Program} {w : World} {A : Around} {E : Value → Shared → Prop} {s : Shared}
theorem call_enum_tup {l : Addr} {items : Array Value} {Q : Value → Shared → Prop} (hL : s.heap.IsTuple l items)
    (h : ∀ h', IsEnum h' (s.heap.objs.size + 1) s.heap.objs.size 0 .none → h'.IsTupleIter s.heap.objs.size l 0 → h'.objs.size = s.heap.objs.size + 2 →
      (∀ b o, s.heap.get? b = some o → h'.get? b = some o) → Q (.ref (s.heap.objs.size + 1)) { s with heap := h' }) :
    wpAny (model prog w) A (call (.type "enumerate") [.ref l]) Q E s := by
  obtain ⟨⟨c, dct, dt, sl⟩, hl, hc, n, hd⟩ := hL
  replace hc : c = .type "tuple" := hc
  replace hd : dt = .seq items n := hd
  subst hc hd
  refine callType_new F.called_enumerate (by decide) (F.typeCall_enumerate_1 _) (F.newCall_enumerate_1 _) (fun obj => F.args_object_init_2 obj _) F.entry_enumerate_new
    (meets_enum_tup l items n dct sl) ⟨hl, ?_⟩
  have hz : (s.heap.push { cls := .type "tuple_iterator", data := .fields #[.ref l, .int 0 0] }).objs.size = s.heap.objs.size + 1 := Heap.size_push ..
  show _ ∧ _
  rw [hz]
  have he : IsEnum ((s.heap.push { cls := .type "tuple_iterator", data := .fields #[.ref l, .int 0 0] }).push
      { cls := .type "enumerate", data := .fields #[.none, .bool false, .ref s.heap.objs.size, rawInt 0, .none, .none] }) (s.heap.objs.size + 1) s.heap.objs.size 0 .none := by
    have := Heap.get?_push_size (s.heap.push { cls := .type "tuple_iterator", data := .fields #[.ref l, .int 0 0] })
      (o := { cls := .type "enumerate", data := .fields #[.none, .bool false, .ref s.heap.objs.size, rawInt 0, .none, .none] }) rfl
    rw [hz] at this; exact this
  refine ⟨⟨_, he, rfl⟩, h _ he ⟨_, Heap.get?_push_of_some _ (Heap.get?_push_size _ rfl), rfl, rfl⟩ (by rw [Heap.size_push, hz]) fun b o x => Heap.get?_push_of_some _ (Heap.get?_push_of_some _ x)⟩
end
/-- the tuple at a, each item in a new pair -/
def IteT (K : PySem.W.Frag) (a : Addr) : It :=
  ⟨fun i H => ∃ (xs : List V) (x : V), SqT K H a xs ∧ xs[i]? = some x, fun i H v H' => ∃ T x, v = .ref T ∧ H T = none ∧ H' = upd H T (.tup [.int (i : Nat), x]) ∧ ∀ xs, SqT K H a xs → xs[i]? = some x, fun i H => ∃ xs : List V, SqT K H a xs ∧ xs.length ≤ i⟩
theorem turn_enumT {P : Program} {w : World} {K : PySem.W.Frag} {elts : List Expr} {kk : Nat} {tpos : Pos} (a e it : Addr) :
    Turn P w K (.Tuple elts kk tpos) (IteT K a) [e, it] e (fun i h => (∃ old, IsEnum h e it ((i : Nat) : Int) old) ∧ h.IsTupleIter it a i ∧ e ≠ it ∧ a ≠ it ∧ a ≠ e) where
  mem := by simp
  obj := fun i h st b hb => by
    obtain ⟨⟨old, he⟩, ⟨o, ho, hc, hd⟩, _⟩ := st
    have e' : b = e ∨ b = it := by simpa using hb
    rcases e' with z | z
    · rw [z]; exact ⟨_, he, fun v q => nomatch q⟩
    · rw [z]; exact ⟨o, ho, fun v q => by rw [hd] at q; cases q⟩
  keep := fun i h h' st k => let ⟨⟨old, he⟩, hi, hne⟩ := st; ⟨⟨old, k e (by simp) _ he⟩, hi.at fun o q => k it (by simp) o q, hne⟩
  item := by
    intro X hP hw hK hc i pins s σ H E I hf st hg
    subst hP hw hK
    obtain ⟨⟨old, he⟩, hit, hne, hai, hae⟩ := st
    obtain ⟨xs, x, hq, hx⟩ := hg
    obtain ⟨its, rv, p, hz⟩ := I.tuple hq
    obtain ⟨u, hu, ru⟩ := rv.get hx
    have hel : e < s.heap.objs.size := Heap.lt_size he
    have hil : it < s.heap.objs.size := by obtain ⟨_, q, _⟩ := hit; exact Heap.lt_size q
    have hlt : i < its.toArray.size := by rw [List.size_toArray]; exact (List.getElem?_eq_some_iff.mp hu).1
    have D := draws_tuple (prog := X.prog) (w := X.w) (A := X.A.in1) (I.ok.hd hc) it a hai its.toArray
    refine wpAny_pyNext_enum_itemD D he ⟨hit, show s.heap.IsTuple a its.toArray from p⟩ hlt hne (by simp [hne, Ne.symm hae]) fun x' h' tk hx' ho hst' hT hsz hk => ?_
    have ex : x' = u := by
      have h2 : its.toArray[i]? = some u := by simpa using hu
      rw [h2] at hx'; exact (Option.some.inj hx').symm
    subst ex
    refine ⟨_, rfl, wpAny_letOwnedTupleGo_enum (s := { s with heap := h', toks := tk + 1 }) ho fun h'' he' sb => ?_⟩
    have hT2 : h''.get? s.heap.objs.size = some { cls := .type "tuple", data := .seq #[.int i tk, x'] } := (sb.2 _ (Nat.ne_of_gt hel)).trans hT
    have new : ObjOk X.prog X.w (upd H s.heap.objs.size (.tup [.int (i : Nat), x])) h'' s.heap.objs.size (.tup [.int (i : Nat), x]) :=
      ⟨by show 2 ≤ sizeLine; decide, [.int i tk, x'], .cons ⟨_, rfl⟩ (.cons ru .nil), ⟨_, hT2, rfl, _, rfl⟩⟩
    have I1 : Inv X pins σ (upd H s.heap.objs.size (.tup [.int (i : Nat), x])) { s with heap := h'', toks := tk + 1 } :=
      I.turnedNew (ch := [e, it]) (fun b ob hb q => (sb.2 b (fun z => hb (by simp [z]))).trans (hk b ob (fun z => hb (by simp [z])) (fun z => hb (by simp [z])) q)) hf (Nat.le_refl _) new
    refine ⟨.ref s.heap.objs.size, _, I1, rfl, ⟨_, x, rfl, I.hok.fresh (Nat.le_refl _), rfl, fun ys hy => by rw [I.tuple_inj hy hq]; exact hx⟩, ⟨⟨x', ?_⟩, hst'.1.at fun o q => (sb.2 it (Ne.symm hne)).trans q, hne, hai, hae⟩, fun b hb => ?_⟩
    · have e1 : ((i + 1 : Nat) : Int) = (i : Int) + 1 := by omega
      rw [e1]; exact he'
    · have hb' : b < s.heap.objs.size := by
        have e' : b = e ∨ b = it := by simpa using hb
        rcases e' with z | z
        · rw [z]; exact hel
        · rw [z]; exact hil
      rw [upd_ne (Nat.ne_of_lt hb')]
      exact (hf b hb).1
  done := by
    intro X hP hw hK hc i pins s σ H E I hf st hg
    subst hP hw hK
    obtain ⟨⟨old, he⟩, hit, hne, hai, hae⟩ := st
    obtain ⟨xs, hq, hx⟩ := hg
    obtain ⟨its, rv, p, hz⟩ := I.tuple hq
    obtain ⟨f0, f1, f2, f3, f4, f5⟩ := hf it (by simp)
    have hl := rv.length
    have hT : s.TypeIs (.ref e) "enumerate" := ⟨_, he, rfl⟩
    unfold pyNext
    refine wpAny_bind (wpAny_attempt (wpAny_callSpecial?_slot (name := Str.ofString "__next__") hT F.slot_enumerate_next
      (wpAny_call_entry F.slot_enumerate_next hT F.entry_enumerate_next ?_ (F.args_enumerate_next_1 _))))
    show wpAny _ _ (field (.ref e) 2 >>= _) _ _ _
    refine wpAny_bind (wpAny_field he rfl (x := .ref it) rfl ?_)
    refine wpAny_bind (RZ.nextOf_tuple_end (I.ok.hd hc) hit (show s.heap.IsTuple a its.toArray from p) (by simp; omega) fun h' x he' hx' => ?_)
    obtain ⟨o, ho, hc'⟩ := hx'
    refine wpAny_bind (wpAny_isInstance (T := "StopIteration") (b := true) ⟨o, ho, hc'⟩ isSubtype_stop ?_)
    exact wpAny_pure ⟨rfl, I.turned (t' := s.toks) (fun b o hb q => he' b o hb q) f0 f1 f3 f4 f5⟩
  self := fun A i s Q E st h => let ⟨⟨_, he⟩, _⟩ := st; wpAny_pyIter_enum he h
def iEnumA (K : PySem.W.Frag) (te : TE) : TI := fun σ H R => te σ H fun v H1 => ∃ a xs, v = .ref a ∧ ((SqL K H1 a xs ∧ R (Ite K a) H1) ∨ (SqT K H1 a xs ∧ R (IteT K a) H1))
theorem pi_enumA {X : Cx} {e : Expr} {te : TE} {p pos tpos : Pos} {elts : List Expr} {kk : Nat} (hg : Gl X "enumerate") (hm : X.mg "enumerate" = none) (he : PE X e te) (hs : starEach [e] X.env = (false, eval e X.env) :: starEach [] X.env := by rfl) :
    PI X (.Tuple elts kk tpos) (.Call (.Name "enumerate" p) [e] [] pos) (iEnumA X.K te) := by
  refine ⟨fun pins s σ H R I h => ?_⟩
  refine Call_ (ld_blt I hg hm boot_enumerate (PyProof.Rows.callWith_type1 (args_cons (thn (he.run pins s σ H _ I h) fun u s1 ⟨v, H1, I1, r1, q1⟩ => args_nil ?_) hs) hs rfl))
  obtain ⟨a, xs, ev, q⟩ := q1
  subst ev
  obtain rfl : u = Value.ref a := r1
  have fp : ∀ b ∈ [s1.heap.objs.size + 1, s1.heap.objs.size], FpOk X pins H1 b := fun b hb => by
    have e' : b = s1.heap.objs.size + 1 ∨ b = s1.heap.objs.size := by simpa using hb
    have hle : s1.heap.objs.size ≤ b := by
      rcases e' with z | z
      · rw [z]; exact Nat.le_add_right _ _
      · rw [z]; exact Nat.le_refl _
    exact I1.fpOk hle (I1.hok.fresh hle)
  rcases q with ⟨hq, q⟩ | ⟨hq, q⟩
  · obtain ⟨its, rv, p', hz⟩ := I1.list hq
    refine call_enumerate_list p'.isList fun h' he hit hsz hk => wpAny_pyIter_enum he ?_
    have I2 : Inv X pins σ H1 { s1 with heap := h' } := I1.kept (t' := s1.toks) hk
    exact ⟨s1.heap.objs.size + 1, [s1.heap.objs.size + 1, s1.heap.objs.size], _, _, H1, rfl, I2, turn_enum a (s1.heap.objs.size + 1) s1.heap.objs.size, ⟨⟨.none, he⟩, hit, Nat.succ_ne_self _⟩, fp, q⟩
  · obtain ⟨its, rv, p', hz⟩ := I1.tuple hq
    have hal : a < s1.heap.objs.size := by obtain ⟨_, w, _⟩ := id p'; exact Heap.lt_size w
    refine call_enum_tup (show s1.heap.IsTuple a its.toArray from p') fun h' he hit hsz hk => wpAny_pyIter_enum he ?_
    have I2 : Inv X pins σ H1 { s1 with heap := h' } := I1.kept (t' := s1.toks) hk
    exact ⟨s1.heap.objs.size + 1, [s1.heap.objs.size + 1, s1.heap.objs.size], _, _, H1, rfl, I2, turn_enumT a (s1.heap.objs.size + 1) s1.heap.objs.size, ⟨⟨.none, he⟩, hit, Nat.succ_ne_self _, Nat.ne_of_lt hal, Nat.ne_of_lt (Nat.lt_succ_of_lt hal)⟩, fp, q⟩
end DL
namespace DL
open PySem PySem.Spec PyProof.Rows L2
section
variable {K : PySem.W.Frag} {mg : Str → Option Value} {X : Cx} {G : Gm} {Wx : WX} {a b c e e2 : Expr} {es : List Expr} {fa fb fc fe : EV} {pos : Pos}
variable {P P' : Addr → Prop} {A A' A1 : List (Option Addr)} {σ σ' : L2.St} {L L' L1 : List Addr} {H H' H1 : Hp} {s s' : S}
/-! ### enumerate -/
def enumD (ds : List D) : List D := ds.zipIdx.map fun p => .tup [.int (p.2 : Int), p.1]
theorem enumD_len (ds : List D) : (enumD ds).length = ds.length := by unfold enumD; simp
theorem enumD_get {ds : List D} {i : Nat} {x : D} (h : (enumD ds)[i]? = some x) : ∃ d, ds[i]? = some d ∧ x = .tup [.int (i : Int), d] := by
  unfold enumD at h
  rw [List.getElem?_map, List.getElem?_zipIdx] at h
  cases q : ds[i]? with
  | none => rw [q] at h; simp at h
  | some d => rw [q] at h; simp at h; exact ⟨d, rfl, h.symm⟩
theorem reps2 {B : Addr → Prop} {H : Hp} {d1 d2 : D} {v1 v2 : V} (h1 : Rep K mg B H d1 v1) (h2 : Rep K mg B H d2 v2) : Reps K mg B H [d1, d2] [v1, v2] := Reps.cons h1 (Reps.one h2)
theorem ite_ok {p : Addr} {vs : List V} {ds : List D} (h : ScrOk K (Bd P A L) H p vs) (r : Reps K mg (Bd P A L) H ds vs) : ItOk K mg P A L H (Ite K p) (enumD ds) := by
  intro P' A' L' H' hP st hB
  have h' := (h.step st hP).sq
  have r' : Reps K mg (Bd P' A' L') H' ds vs := r.move (st.mvP hP)
  refine ⟨fun i hi => ?_, ⟨vs, h', by rw [enumD_len, r'.length]; exact Nat.le_refl _⟩, fun i d x H'' e y => ?_⟩
  · rw [enumD_len] at hi
    obtain ⟨v, e, _⟩ := r'.get (List.getElem?_eq_getElem hi)
    exact ⟨vs, v, h', e⟩
  · obtain ⟨T, v, rfl, nT, rfl, y⟩ := y
    obtain ⟨d', e2, rfl⟩ := enumD_get e
    obtain ⟨v', e3, rv⟩ := r'.get e2
    have := y vs h'
    rw [e3] at this
    cases this
    exact ResOk.tup hB nT (reps2 (by unfold Rep; rfl) rv)
theorem iteT_ok {p : Addr} {vs : List V} {ds : List D} (h : TupOk K (Bd P A L) H p vs) (r : Reps K mg (Bd P A L) H ds vs) : ItOk K mg P A L H (IteT K p) (enumD ds) := by
  intro P' A' L' H' hP st hB
  have h' := (h.step st hP).sq
  have r' : Reps K mg (Bd P' A' L') H' ds vs := r.move (st.mvP hP)
  refine ⟨fun i hi => ?_, ⟨vs, h', by rw [enumD_len, r'.length]; exact Nat.le_refl _⟩, fun i d x H'' e y => ?_⟩
  · rw [enumD_len] at hi
    obtain ⟨v, e, _⟩ := r'.get (List.getElem?_eq_getElem hi)
    exact ⟨vs, v, h', e⟩
  · obtain ⟨T, v, rfl, nT, rfl, y⟩ := y
    obtain ⟨d', e2, rfl⟩ := enumD_get e
    obtain ⟨v', e3, rv⟩ := r'.get e2
    have := y vs h'
    rw [e3] at this
    cases this
    exact ResOk.tup hB nT (reps2 (by unfold Rep; rfl) rv)
def iEnumD (fe : EV) : IV := fun s => (fe s).bind fun r s1 => match fz r s1 with
  | some (d, s2) => match itD d with
    | some ds => .ok (enumD ds) s2
    | none => .bad
  | none => .bad
theorem id_enum {p tpos : Pos} {elts : List Expr} {kk : Nat} (hg : Gl X "enumerate") (hm : X.mg "enumerate" = none) (he : ED X G Wx e fe) (hs : starEach [e] X.env = (false, eval e X.env) :: starEach [] X.env := by rfl) :
    ID X G Wx (.Tuple elts kk tpos) (.Call (.Name "enumerate" p) [e] [] pos) (iEnumD fe) := by
  refine ⟨PI.imp (pi_enumA hg hm he.pe hs) fun σ H R ⟨P, A, L, s, hs, h⟩ => (tE_one hs h).mono fun v H1 ⟨A1, L1, s1, r, a1, h1⟩ => ?_⟩
  split at h1
  · rename_i d s2 e1
    obtain ⟨A2, sr, rp, st⟩ := a1.frz e1
    split at h1
    · rename_i ds e2
      cases d with
      | tup xs => cases e2; unfold Rep at rp; obtain ⟨p, vs, rfl, t, r⟩ := rp; exact ⟨p, vs, rfl, .inr ⟨t.sq, h1 A2 L1 H1 _ sr (iteT_ok t r) st⟩⟩
      | lst xs => cases e2; unfold Rep at rp; obtain ⟨p, vs, rfl, t, nb, r⟩ := rp; exact ⟨p, vs, rfl, .inl ⟨SqL.of t, h1 A2 L1 H1 _ sr (ite_ok (.inl ⟨.inl t, nb⟩) r) st⟩⟩
      | scr xs => cases e2; unfold Rep at rp; obtain ⟨p, vs, rfl, t, r⟩ := rp; exact ⟨p, vs, rfl, .inl ⟨t.sq, h1 A2 L1 H1 _ sr (ite_ok t r) st⟩⟩
      | _ => cases e2
    · exact h1.elim
  · exact h1.elim
/-! ### reversed -/
theorem itv_ok {p : Addr} {vs : List V} {ds : List D} (h : ScrOk K (Bd P A L) H p vs) (r : Reps K mg (Bd P A L) H ds vs) : ItOk K mg P A L H (Itv K p vs.length) ds.reverse := by
  intro P' A' L' H' hP st hB
  have h' := (h.step st hP).sq
  have r' : Reps K mg (Bd P' A' L') H' ds vs := r.move (st.mvP hP)
  have ln := r'.length
  refine ⟨fun i hi => ?_, ?_, fun i d x H'' e y => ?_⟩
  · rw [List.length_reverse] at hi
    have hj : vs.length - 1 - i < ds.length := by omega
    obtain ⟨v, e, _⟩ := r'.get (List.getElem?_eq_getElem hj)
    exact ⟨by omega, vs, v, h', e⟩
  · show vs.length ≤ _
    rw [List.length_reverse]; omega
  · obtain ⟨e1, y⟩ := y
    subst e1
    have hi : i < ds.length := by
      have := (List.getElem?_eq_some_iff.mp e).1; rwa [List.length_reverse] at this
    rw [List.getElem?_reverse hi] at e
    obtain ⟨v, e2, rv⟩ := r'.get e
    have := y vs h'
    rw [← ln, e2] at this
    cases this
    exact ResOk.same rv
theorem itvT_ok {p : Addr} {vs : List V} {ds : List D} (h : TupOk K (Bd P A L) H p vs) (r : Reps K mg (Bd P A L) H ds vs) : ItOk K mg P A L H (RT.ItvT K p vs.length) ds.reverse := by
  intro P' A' L' H' hP st hB
  have h' := (h.step st hP).sq
  have r' : Reps K mg (Bd P' A' L') H' ds vs := r.move (st.mvP hP)
  have ln := r'.length
  refine ⟨fun i hi => ?_, ?_, fun i d x H'' e y => ?_⟩
  · rw [List.length_reverse] at hi
    have hj : vs.length - 1 - i < ds.length := by omega
    obtain ⟨v, e, _⟩ := r'.get (List.getElem?_eq_getElem hj)
    exact ⟨by omega, vs, v, h', e⟩
  · show vs.length ≤ _
    rw [List.length_reverse]; omega
  · obtain ⟨e1, y⟩ := y
    subst e1
    have hi : i < ds.length := by
      have := (List.getElem?_eq_some_iff.mp e).1; rwa [List.length_reverse] at this
    rw [List.getElem?_reverse hi] at e
    obtain ⟨v, e2, rv⟩ := r'.get e
    have := y vs h'
    rw [← ln, e2] at this
    cases this
    exact ResOk.same rv
def iRevD (fe : EV) : IV := fun s => (fe s).bind fun r s1 => match fz r s1 with
  | some (d, s2) => match itD d with
    | some ds => .ok ds.reverse s2
    | none => .bad
  | none => .bad
theorem id_rev {tg : Expr} {p : Pos} (hg : Gl X "reversed") (hm : X.mg "reversed" = none) (he : ED X G Wx e fe) (hs : starEach [e] X.env = (false, eval e X.env) :: starEach [] X.env := by rfl) :
    ID X G Wx tg (.Call (.Name "reversed" p) [e] [] pos) (iRevD fe) := by
  refine ⟨PI.imp (RT.pi_revA hg hm he.pe hs) fun σ H R ⟨P, A, L, s, hs, h⟩ => (tE_one hs h).mono fun v H1 ⟨A1, L1, s1, r, a1, h1⟩ => ?_⟩
  split at h1
  · rename_i d s2 e1
    obtain ⟨A2, sr, rp, st⟩ := a1.frz e1
    split at h1
    · rename_i ds e2
      cases d with
      | tup xs => cases e2; unfold Rep at rp; obtain ⟨p, vs, rfl, t, r⟩ := rp; exact ⟨p, vs, rfl, .inr ⟨t.sq, h1 A2 L1 H1 _ sr (itvT_ok t r) st⟩⟩
      | lst xs => cases e2; unfold Rep at rp; obtain ⟨p, vs, rfl, t, nb, r⟩ := rp; exact ⟨p, vs, rfl, .inl ⟨SqL.of t, h1 A2 L1 H1 _ sr (itv_ok (.inl ⟨.inl t, nb⟩) r) st⟩⟩
      | scr xs => cases e2; unfold Rep at rp; obtain ⟨p, vs, rfl, t, r⟩ := rp; exact ⟨p, vs, rfl, .inl ⟨t.sq, h1 A2 L1 H1 _ sr (itv_ok t r) st⟩⟩
      | _ => cases e2
    · exact h1.elim
  · exact h1.elim
/-! ### zip of two tuples or two lists -/
def zipD (xs ys : List D) : List D := (xs.zip ys).map fun p => .tup [p.1, p.2]
theorem zipD_len (xs ys : List D) : (zipD xs ys).length = min xs.length ys.length := by unfold zipD; simp
theorem zipD_get {xs ys : List D} {i : Nat} {x : D} (h : (zipD xs ys)[i]? = some x) : ∃ a b, xs[i]? = some a ∧ ys[i]? = some b ∧ x = .tup [a, b] := by
  unfold zipD at h
  rw [List.getElem?_map] at h
  obtain ⟨⟨a, b⟩, h1, h2⟩ := Option.map_eq_some_iff.mp h
  have h3 := List.getElem?_zip_eq_some.mp h1
  exact ⟨a, b, h3.1, h3.2, h2.symm⟩
theorem itz_ok {p q : Addr} {vs us : List V} {ds es : List D} (h : ScrOk K (Bd P A L) H p vs) (r : Reps K mg (Bd P A L) H ds vs) (h2 : ScrOk K (Bd P A L) H q us) (r2 : Reps K mg (Bd P A L) H es us) : ItOk K mg P A L H (Itz K p q) (zipD ds es) := by
  intro P' A' L' H' hP st hB
  have h' := (h.step st hP).sq
  have h2' := (h2.step st hP).sq
  have r' : Reps K mg (Bd P' A' L') H' ds vs := r.move (st.mvP hP)
  have r2' : Reps K mg (Bd P' A' L') H' es us := r2.move (st.mvP hP)
  have l1 := r'.length
  have l2 := r2'.length
  refine ⟨fun i hi => ?_, ⟨vs, us, h', h2', by rw [zipD_len]; omega⟩, fun i d x H'' e y => ?_⟩
  · rw [zipD_len] at hi
    obtain ⟨v, e, _⟩ := r'.get (List.getElem?_eq_getElem (show i < ds.length by omega))
    obtain ⟨u, e2, _⟩ := r2'.get (List.getElem?_eq_getElem (show i < es.length by omega))
    exact ⟨vs, us, v, u, h', h2', e, e2⟩
  · obtain ⟨T, v, u, rfl, nT, rfl, y1, y2⟩ := y
    obtain ⟨d1, d2, e2, e3, rfl⟩ := zipD_get e
    obtain ⟨v', f1, rv⟩ := r'.get e2
    obtain ⟨u', f2, ru⟩ := r2'.get e3
    have q1 := y1 vs h'
    have q2 := y2 us h2'
    rw [f1] at q1; rw [f2] at q2
    cases q1; cases q2
    exact ResOk.tup hB nT (reps2 rv ru)
theorem itzT_ok {p q : Addr} {vs us : List V} {ds es : List D} (h : TupOk K (Bd P A L) H p vs) (r : Reps K mg (Bd P A L) H ds vs) (h2 : TupOk K (Bd P A L) H q us) (r2 : Reps K mg (Bd P A L) H es us) : ItOk K mg P A L H (RZ.ItzT K p q) (zipD ds es) := by
  intro P' A' L' H' hP st hB
  have h' := (h.step st hP).sq
  have h2' := (h2.step st hP).sq
  have r' : Reps K mg (Bd P' A' L') H' ds vs := r.move (st.mvP hP)
  have r2' : Reps K mg (Bd P' A' L') H' es us := r2.move (st.mvP hP)
  have l1 := r'.length
  have l2 := r2'.length
  refine ⟨fun i hi => ?_, ⟨vs, us, h', h2', by rw [zipD_len]; omega⟩, fun i d x H'' e y => ?_⟩
  · rw [zipD_len] at hi
    obtain ⟨v, e, _⟩ := r'.get (List.getElem?_eq_getElem (show i < ds.length by omega))
    obtain ⟨u, e2, _⟩ := r2'.get (List.getElem?_eq_getElem (show i < es.length by omega))
    exact ⟨vs, us, v, u, h', h2', e, e2⟩
  · obtain ⟨T, v, u, rfl, nT, rfl, y1, y2⟩ := y
    obtain ⟨d1, d2, e2, e3, rfl⟩ := zipD_get e
    obtain ⟨v', f1, rv⟩ := r'.get e2
    obtain ⟨u', f2, ru⟩ := r2'.get e3
    have q1 := y1 vs h'
    have q2 := y2 us h2'
    rw [f1] at q1; rw [f2] at q2
    cases q1; cases q2
    exact ResOk.tup hB nT (reps2 rv ru)
def iZipD (f : AV) : IV := fun s => (f s).bind fun rs s1 => match rs with
  | [.pv (.tup xs), .pv (.tup ys)] => .ok (zipD xs ys) s1
  | [.pv (.lst xs), .pv (.lst ys)] => .ok (zipD xs ys) s1
  | _ => .bad
theorem id_zip {p tpos : Pos} {elts : List Expr} {kk : Nat} {f : AV} (hg : Gl X "zip") (hm : X.mg "zip" = none) (ha : AD X G Wx [e, e2] f)
    (hs : starEach [e, e2] X.env = (false, eval e X.env) :: starEach [e2] X.env := by rfl) (hpl : (backTo pos (starEach [e2] X.env)).any (·.1) = false := by rfl) :
    ID X G Wx (.Tuple elts kk tpos) (.Call (.Name "zip" p) [e, e2] [] pos) (iZipD f) := by
  refine ⟨PI.imp (RZ.pi_zipA hg hm ha.pa hs hpl) fun σ H R ⟨P, A, L, s, hs, h⟩ => ⟨P, A, L, s, hs, (Run.bind h).imp fun rs s1 _ h1 A1 L1 vs H1 sr ok st => ?_⟩⟩
  split at h1
  · unfold ArgsOk at ok
    obtain ⟨v, t, rfl, o1, ok⟩ := ok
    unfold ArgsOk at ok
    obtain ⟨u, t, rfl, o2, ok⟩ := ok
    unfold ArgsOk at ok
    subst ok
    unfold ArgOk Rep at o1 o2
    obtain ⟨p, vs, rfl, t1, r1⟩ := o1
    obtain ⟨q, us, rfl, t2, r2⟩ := o2
    exact ⟨p, q, vs, us, rfl, .inr ⟨t1.sq, t2.sq, h1 A1 L1 H1 _ sr (itzT_ok t1 r1 t2 r2) st⟩⟩
  · unfold ArgsOk at ok
    obtain ⟨v, t, rfl, o1, ok⟩ := ok
    unfold ArgsOk at ok
    obtain ⟨u, t, rfl, o2, ok⟩ := ok
    unfold ArgsOk at ok
    subst ok
    unfold ArgOk Rep at o1 o2
    obtain ⟨p, vs, rfl, t1, n1, r1⟩ := o1
    obtain ⟨q, us, rfl, t2, n2, r2⟩ := o2
    exact ⟨p, q, vs, us, rfl, .inl ⟨SqL.of t1, SqL.of t2, h1 A1 L1 H1 _ sr (itz_ok (.inl ⟨.inl t1, n1⟩) r1 (.inl ⟨.inl t2, n2⟩) r2) st⟩⟩
  · exact h1.elim
/-! ### range with a step -/
theorem rng3_ex (lo c : Int) (n : Nat) : ∃ l : List D, l = (List.range n).map fun (i : Nat) => .int (lo + (i : Int) * c) := ⟨_, rfl⟩
noncomputable def rng3D (lo c : Int) (n : Nat) : List D := Classical.choose (rng3_ex lo c n)
theorem rng3D_eq (lo c : Int) (n : Nat) : rng3D lo c n = (List.range n).map fun (i : Nat) => .int (lo + (i : Int) * c) := Classical.choose_spec (rng3_ex lo c n)
theorem itc_ok (lo c : Int) (n : Nat) : ItOk K mg P A L H (Itc lo c n) (rng3D lo c n) := by
  intro P' A' L' H' hP st hB
  have ln : (rng3D lo c n).length = n := by rw [rng3D_eq]; simp
  refine ⟨fun i hi => by rw [ln] at hi; exact hi, by rw [ln]; exact Nat.le_refl _, fun i d x H'' e y => ?_⟩
  obtain ⟨e1, e2⟩ := y
  subst e1; subst e2
  rw [rng3D_eq, List.getElem?_map] at e
  obtain ⟨j, e3, rfl⟩ := Option.map_eq_some_iff.mp e
  have : j = i := by
    rw [List.getElem?_eq_some_iff] at e3
    obtain ⟨h, e3⟩ := e3
    simpa using e3.symm
  subst this
  exact ResOk.same (by unfold Rep; rfl)
def r3Ok (i j c : Int) : Bool := decide (c ≠ 0) && decide (c.natAbs < 1073741824) && Builtin.Range.small i j c && decide (0 ≤ Builtin.Range.rangeSize i j c)
noncomputable def iR3 (f : AV) : IV := fun s => (f s).bind fun rs s1 => match rs with
  | [.pv (.int i), .pv (.int j), .pv (.int c)] => if r3Ok i j c = true then .ok (rng3D i c (Builtin.Range.rangeSize i j c).toNat) s1 else .bad
  | _ => .bad
theorem id_range3 {tg : Expr} {p : Pos} {f : AV} (hg : Gl X "range") (hm : X.mg "range" = none) (ha : AD X G Wx [a, b, c] f)
    (hs : starEach [a, b, c] X.env = (false, eval a X.env) :: starEach [b, c] X.env := by rfl) (hpl : (backTo pos (starEach [b, c] X.env)).any (·.1) = false := by rfl) :
    ID X G Wx tg (.Call (.Name "range" p) [a, b, c] [] pos) (iR3 f) := by
  refine ⟨PI.imp (pi_range3 hg hm ha.pa hs hpl) fun σ H R ⟨P, A, L, s, hs, h⟩ => ⟨P, A, L, s, hs, (Run.bind h).imp fun rs s1 _ h1 A1 L1 vs H1 sr ok st => ?_⟩⟩
  split at h1
  · rename_i i j c _
    split at h1
    · rename_i g
      unfold ArgsOk at ok
      obtain ⟨v, t, rfl, o1, ok⟩ := ok
      unfold ArgsOk at ok
      obtain ⟨u, t, rfl, o2, ok⟩ := ok
      unfold ArgsOk at ok
      obtain ⟨w, t, rfl, o3, ok⟩ := ok
      unfold ArgsOk at ok
      subst ok
      unfold ArgOk Rep at o1 o2 o3
      subst o1; subst o2; subst o3
      unfold r3Ok at g
      simp only [Bool.and_eq_true, decide_eq_true_eq] at g
      exact ⟨i, j, c, (Builtin.Range.rangeSize i j c).toNat, rfl, ⟨g.1.1.1, g.1.1.2, g.1.2, (Int.toNat_of_nonneg g.2).symm⟩, h1 A1 L1 H1 _ sr (itc_ok i c _) st⟩
    · exact h1.elim
  · exact h1.elim
/-! ### sum, max, min of a list of ints -/
def sumL : D → Option RV
  | .lst xs => (allI xs).bind fun ns => pI ns.sum
  | _ => none
theorem opv_sum : OpV1 K mg (fun v => rSum K [v]) sumL := by
  intro B H x a res Q hB ha e q
  unfold sumL at e
  split at e
  · rename_i xs
    obtain ⟨ns, e1, e2⟩ := Option.bind_eq_some_iff.mp e
    cases e2
    obtain ⟨p, vs, rfl, t, r⟩ := ha.lst
    have := allI_some e1
    subst this
    have := r.ints
    subst this
    exact ⟨p, ns, rfl, SqL.of t, q _ _ .int⟩
  · cases e
def maxL : D → Option RV
  | .lst xs => match allI xs with
    | some (n :: r) => pI (r.foldl max n)
    | _ => none
  | _ => none
def minL : D → Option RV
  | .lst xs => match allI xs with
    | some (n :: r) => pI (r.foldl min n)
    | _ => none
  | _ => none
theorem foldl_max : ∀ (r : List Int) (n : Int), r.foldl max n ∈ n :: r ∧ ∀ y ∈ n :: r, y ≤ r.foldl max n
  | [], n => by simp
  | m :: r, n => by
    obtain ⟨h1, h2⟩ := foldl_max r (max n m)
    simp only [List.foldl_cons]
    refine ⟨?_, fun y hy => ?_⟩
    · rcases List.mem_cons.mp h1 with h | h
      · rw [h]
        by_cases q : n ≤ m
        · rw [Int.max_eq_right q]; simp
        · rw [Int.max_eq_left (by omega)]; simp
      · exact List.mem_cons_of_mem _ (List.mem_cons_of_mem _ h)
    · have hm := h2 (max n m) List.mem_cons_self
      rcases List.mem_cons.mp hy with rfl | hy
      · omega
      · rcases List.mem_cons.mp hy with rfl | hy
        · omega
        · exact h2 y (List.mem_cons_of_mem _ hy)
theorem foldl_min : ∀ (r : List Int) (n : Int), r.foldl min n ∈ n :: r ∧ ∀ y ∈ n :: r, r.foldl min n ≤ y
  | [], n => by simp
  | m :: r, n => by
    obtain ⟨h1, h2⟩ := foldl_min r (min n m)
    simp only [List.foldl_cons]
    refine ⟨?_, fun y hy => ?_⟩
    · rcases List.mem_cons.mp h1 with h | h
      · rw [h]
        by_cases q : n ≤ m
        · rw [Int.min_eq_left q]; simp
        · rw [Int.min_eq_right (by omega)]; simp
      · exact List.mem_cons_of_mem _ (List.mem_cons_of_mem _ h)
    · have hm := h2 (min n m) List.mem_cons_self
      rcases List.mem_cons.mp hy with rfl | hy
      · omega
      · rcases List.mem_cons.mp hy with rfl | hy
        · omega
        · exact h2 y (List.mem_cons_of_mem _ hy)
theorem opv_maxL : OpV1 K mg (fun v => rMax K [v]) maxL := by
  intro B H x a res Q hB ha e q
  unfold maxL at e
  split at e
  · rename_i xs
    split at e
    · rename_i n r e1
      cases e
      obtain ⟨p, vs, rfl, t, rr⟩ := ha.lst
      have := allI_some e1
      subst this
      have := rr.ints
      subst this
      refine ⟨p, n :: r, rfl, SqL.of t, by simp, fun m hm hy => ?_⟩
      obtain ⟨f1, f2⟩ := foldl_max r n
      have : m = r.foldl max n := Int.le_antisymm (f2 m hm) (hy _ f1)
      subst this
      exact q _ _ .int
    · cases e
  · cases e
theorem opv_minL : OpV1 K mg (fun v => rMin K [v]) minL := by
  intro B H x a res Q hB ha e q
  unfold minL at e
  split at e
  · rename_i xs
    split at e
    · rename_i n r e1
      cases e
      obtain ⟨p, vs, rfl, t, rr⟩ := ha.lst
      have := allI_some e1
      subst this
      have := rr.ints
      subst this
      refine ⟨p, n :: r, rfl, SqL.of t, by simp, fun m hm hy => ?_⟩
      obtain ⟨f1, f2⟩ := foldl_min r n
      have : m = r.foldl min n := Int.le_antisymm (hy _ f1) (f2 m hm)
      subst this
      exact q _ _ .int
    · cases e
  · cases e
/-! ### name += e, name -= e, ints -/
def augAdd : Ob2
  | .int i, .int j => pI (i + j)
  | _, _ => none
def augSub : Ob2
  | .int i, .int j => pI (i - j)
  | _, _ => none
theorem opv_augAdd : OpV K mg (ipI fun i j => i + j) augAdd := by
  intro B H x y a b res Q hB ha hb e q
  unfold augAdd at e
  split at e
  · cases e; exact ⟨_, _, ha.int, hb.int, q _ _ .int⟩
  · cases e
theorem opv_augSub : OpV K mg (ipI fun i j => i - j) augSub := by
  intro B H x y a b res Q hB ha hb e q
  unfold augSub at e
  split at e
  · cases e; exact ⟨_, _, ha.int, hb.int, q _ _ .int⟩
  · cases e
theorem op_iadd : OpR X (inplaceOp .Add) (ipI fun i j => i + j) := ip_add
theorem op_isub : OpR X (inplaceOp .Sub) (ipI fun i j => i - j) := ip_sub
end
end DL
namespace DL
open PySem PySem.Spec PyProof.Rows L2
/-! ### slices with a step -/
def pickS {α : Type} (xs : List α) (lo hi : Option Int) (st : Int) : List α :=
  (List.range (Builtin.Slice.slicePlaces (Builtin.Slice.sliceAdjust lo hi st xs.length).1 (Builtin.Slice.sliceAdjust lo hi st xs.length).2 st)).filterMap fun (m : Nat) => xs[((Builtin.Slice.sliceAdjust lo hi st xs.length).1 + (m : Int) * st).toNat]?
def pickB {α : Type} (xs : List α) (lo hi : Option Int) (st : Int) : List α :=
  (sliceRange (sliceBounds lo hi (some st) xs.length).1 (sliceBounds lo hi (some st) xs.length).2.1 (sliceBounds lo hi (some st) xs.length).2.2).filterMap (xs[·]?)
section
variable {prog : Program} {w : World} {A : Around} {E : Value → Shared → Prop} {s : Shared}
theorem sliceApplied_st {sl : Addr} {vl vu vs : Value} {lo hi : Option Int} {st : Int} {n : Nat} {Q : Int × Int × Nat → Shared → Prop} (h0 : st ≠ 0) (hs : s.heap.IsSliceOf sl vl vu vs) (pl : IsPart vl lo) (pu : IsPart vu hi) (ps : IsPart vs (some st))
    (h : Q ((Builtin.Slice.sliceAdjust lo hi st n).1, st, Builtin.Slice.slicePlaces (Builtin.Slice.sliceAdjust lo hi st n).1 (Builtin.Slice.sliceAdjust lo hi st n).2 st) s) : wpAny (model prog w) A (Builtin.Slice.sliceApplied (.ref sl) (pure (n : Int))) Q E s := by
  obtain ⟨os, hos, hcs, hds⟩ := id hs
  unfold Builtin.Slice.sliceApplied Builtin.Slice.sliceFields
  refine wpAny_bind (wpAny_bind (wpAny_field hos hds (x := vl) rfl (wpAny_bind (wpAny_field hos hds (x := vu) rfl (wpAny_bind (wpAny_field hos hds (x := vs) rfl (wpAny_pure ?_)))))))
  refine wpAny_bind (HT.slicePart_ ps ?_)
  show wpAny _ _ (if (st == 0) = true then _ else _) _ _ s
  rw [if_neg (by simpa using h0)]
  refine wpAny_bind (HT.slicePart_ pl (wpAny_bind (HT.slicePart_ pu (wpAny_bind (wpAny_pure ?_)))))
  exact wpAny_pure h
theorem getItem_tuple_st {t sl : Addr} {items : Array Value} {vl vu vs : Value} {lo hi : Option Int} {st : Int} {Q : Value → Shared → Prop} (h0 : st ≠ 0) (h1 : st ≠ 1) (ht : IsTup s.heap t items) (hs : s.heap.IsSliceOf sl vl vu vs) (pl : IsPart vl lo) (pu : IsPart vu hi) (ps : IsPart vs (some st))
    (h : Q (.ref s.heap.objs.size) { s with heap := s.heap.push { cls := .type "tuple", data := .seq (pickS items.toList lo hi st).toArray } })
    (hsz : (pickS items.toList lo hi st).length ≤ sizeLine) : wpAny (model prog w) A (getItem (.ref t) (.ref sl)) Q E s := by
  have htake : sizeOk (.seq (pickS items.toList lo hi st).toArray) := by
    show (pickS items.toList lo hi st).toArray.size ≤ sizeLine
    rw [List.size_toArray]; exact hsz
  obtain ⟨os, hos, hcs, hds⟩ := id hs
  have hTs : s.TypeIs (.ref sl) "slice" := ⟨os, hos, hcs⟩
  unfold getItem
  try with_reducible refine wpAny_holding ?_
  first | refine wpAny_bind (wpAny_pure ?_) | skip
  refine wpAny_bind (wpAny_sequenceKey ht.typeIs (by decide) ?_)
  refine wpAny_bind (wpAny_callSpecial?_slot (name := Str.ofString "__getitem__") ht.typeIs PyProof.Rows.slot_tuple_getitem
    (wpAny_call_entry PyProof.Rows.slot_tuple_getitem ht.typeIs entry_tuple_getitem ?_ (args_tuple_getitem _ _)))
  show wpAny _ _ (Builtin.Tuple.tupleItemsOf (.ref t) >>= _) _ _ s
  refine wpAny_bind (tupleItemsOf_ ht ?_)
  refine wpAny_bind (wpAny_typeOf hTs ?_)
  rw [if_pos (by decide)]
  refine wpAny_bind (sliceApplied_st h0 hs pl pu ps ?_)
  generalize hg : Builtin.Slice.sliceAdjust lo hi st (items.size : Nat) = ab
  have e : (pickS items.toList lo hi st) = (List.range (Builtin.Slice.slicePlaces ab.1 ab.2 st)).filterMap fun (m : Nat) => items[(ab.1 + (m : Int) * st).toNat]? := by
    unfold pickS
    rw [Array.length_toList, hg]
    simp
  have hno : ¬ ((ab.1 == 0 && st == 1 && Builtin.Slice.slicePlaces ab.1 ab.2 st == items.size) = true) := by
    intro q
    rw [Bool.and_eq_true, Bool.and_eq_true] at q
    exact h1 (eq_of_beq q.1.2)
  show wpAny _ _ (if (ab.1 == 0 && st == 1 && Builtin.Slice.slicePlaces ab.1 ab.2 st == items.size) = true then _ else _) _ _ s
  rw [if_neg hno]
  rw [e] at h htake
  first
    | exact wpAny_bind (m := Builtin.Tuple.tupleExact _) (wpAny_newObj_type (wpAny_pure ⟨_, rfl, wpAny_pure h⟩) htake)
    | exact wpAny_bind (m := Builtin.Tuple.tupleExact _) (wpAny_newObj_type (wpAny_bind (wpAny_pure (wpAny_pure ⟨_, rfl, wpAny_pure h⟩))) htake)
    | exact wpAny_bind (wpAny_bind (m := Builtin.Tuple.tupleExact _) (wpAny_newObj_type (wpAny_pure (wpAny_pure ⟨_, rfl, wpAny_pure h⟩)) htake))
    | exact wpAny_bind (wpAny_bind (m := Builtin.Tuple.tupleExact _) (wpAny_newObj_type (wpAny_pure ⟨_, rfl, wpAny_pure h⟩) htake))
end
theorem vals_pick {ix : Nat → Nat} : ∀ (l : List Nat) {xs : List V} {us : List Value}, Vals xs us → Vals (l.filterMap fun m => xs[ix m]?) (l.filterMap fun m => us[ix m]?)
  | [], _, _, _ => .nil
  | m :: l, xs, us, r => by
    have ih := vals_pick (ix := ix) l r
    simp only [List.filterMap_cons]
    cases h : xs[ix m]? with
    | none =>
      have : us[ix m]? = none := by
        rw [List.getElem?_eq_none_iff] at h ⊢
        rw [← r.length]; exact h
      rw [this]; exact ih
    | some x =>
      obtain ⟨u, hu, ru⟩ := r.get h
      rw [hu]; exact .cons ru ih
section
variable {K : PySem.W.Frag} {mg : Str → Option Value}
theorem Reps.pick {B : Addr → Prop} {H : Hp} {ix : Nat → Nat} : ∀ (l : List Nat) {ds : List D} {vs : List V}, Reps K mg B H ds vs → Reps K mg B H (l.filterMap fun m => ds[ix m]?) (l.filterMap fun m => vs[ix m]?)
  | [], _, _, _ => Reps.nil
  | m :: l, ds, vs, r => by
    have ih := Reps.pick (ix := ix) l r
    simp only [List.filterMap_cons]
    cases h : ds[ix m]? with
    | none =>
      have : vs[ix m]? = none := by
        rw [List.getElem?_eq_none_iff] at h ⊢
        rw [← r.length]; exact h
      rw [this]; exact ih
    | some x =>
      obtain ⟨u, hu, ru⟩ := r.get h
      rw [hu]; exact Reps.cons ru ih
end
/-- the reading of a slice with a step -/
def rStep (K : PySem.W.Frag) : V → Option Int → Option Int → Int → Hp → VK → Prop := fun x lo hi st H Q => st ≠ 0 ∧ st ≠ 1 ∧ ∃ a xs, x = .ref a ∧
  ((SqT K H a xs ∧ (pickS xs lo hi st).length ≤ sizeLine ∧ ∀ p, H p = none → Q (.ref p) (upd H p (.tup (pickS xs lo hi st)))) ∨
    (SqL K H a xs ∧ (pickB xs lo hi st).length ≤ sizeLine ∧ ∀ p, H p = none → Q (.ref p) (upd H p (.lst (pickB xs lo hi st)))))
def tStep (K : PySem.W.Frag) (te : TE) (tl tu ts : TO) : TE := fun σ H Q => te σ H fun x H1 => tl σ H1 fun lo H2 => tu σ H2 fun hi H3 => ts σ H3 fun st H4 => ∃ c, st = some c ∧ rStep K x lo hi c H4 Q
theorem pe_step {X : Cx} {e : Expr} {lo hi : Option Expr} {st : Expr} {te : TE} {tl tu ts : TO} {p3 pos : Pos} (he : PE X e te) (hl : PO X lo tl) (hu : PO X hi tu) (hst : PO X (some st) ts) : PE X (.Subscript e (.Slice lo hi (some st) p3) pos) (tStep X.K te tl tu ts) := by
  refine ⟨fun pins s σ H Q I h => ?_⟩
  refine Subscript_ (thn (he.run pins s σ H _ I h) fun v s1 ⟨x, H1, I1, r1, q1⟩ => ?_)
  refine wpAny_Slice (thn (hl.run pins s1 σ H1 _ I1 q1) fun vl s2 ⟨l, H2, I2, pl, q2⟩ => ?_)
  refine thn (hu.run pins s2 σ H2 _ I2 q2) fun vu s3 ⟨u, H3, I3, pu, q3⟩ => ?_
  refine thn (hst.run pins s3 σ H3 _ I3 q3) fun vs s4 ⟨o, H4, I4, ps, c, eo, h0, h1, a, xs, ex, q⟩ => ?_
  subst eo ex
  obtain rfl : v = Value.ref a := r1
  have I5 : Inv X pins σ H4 { s4 with heap := s4.heap.push { cls := .type "slice", data := .fields #[vl, vu, vs] } } := I4.kept (t' := s4.toks) fun b ob q => Heap.get?_push_of_some _ q
  show wpAny (model X.prog X.w) X.A (subscriptTail e (.Slice lo hi (some st) p3) (.ref a) (.ref s4.heap.objs.size)) (EP X pins σ Q) X.xe { s4 with heap := s4.heap.push { cls := .type "slice", data := .fields #[vl, vu, vs] } }
  rcases q with ⟨hx, hz, q⟩ | ⟨hx, hz, q⟩
  · obtain ⟨its, r, ht, hz0⟩ := I5.tuple hx
    have hlen := r.length
    have rp : Vals (pickS xs l u c) (pickS its l u c) := by
      unfold pickS; rw [hlen]; exact vals_pick (ix := fun m => ((Builtin.Slice.sliceAdjust l u c its.length).1 + (m : Int) * c).toNat) _ r
    refine tail_any (ops := [.ref a, .ref s4.heap.objs.size]) ht.typeIs PyProof.Rows.slot_tuple_getitem.lookup ?_ (by with_unfolding_all rfl)
    refine getItem_tuple_st h0 h1 ht (Heap.IsSliceOf.new _ vl vu vs) pl pu ps ?_ (by simpa using (by rw [← rp.length]; exact hz))
    refine ⟨.ref _, _, I5.laid (t' := s4.toks) (o := .tup (pickS xs l u c)) (fun b ob q => Heap.get?_push_of_some _ q) (Nat.le_refl _) ?_, rfl, q _ (I5.hok.fresh (Nat.le_refl _))⟩
    exact ⟨hz, _, (by simpa using rp : Vals (pickS xs l u c) (pickS its.toArray.toList l u c)), IsTup.new _ _⟩
  · obtain ⟨its, r, ht, hz0⟩ := I5.list hx
    have hlen := r.length
    have rp : Vals (pickB xs l u c) (pickB its l u c) := by
      unfold pickB; rw [hlen]; exact vals_pick (ix := fun m => m) _ r
    refine tail_any (ops := [.ref a, .ref s4.heap.objs.size]) ht.isList.typeIs (PySem.slot_list_getitem.lookup) ?_ (by with_unfolding_all rfl)
    refine wpAny_getItem_list_slice ht.isList (Heap.IsSliceOf.new _ vl vu vs) pl pu ps (fun z => h0 (Option.some.inj z)) ?_ (by rw [List.size_toArray]; omega)
    have e : slicePick its.toArray l u (some c) = (pickB its l u c).toArray := by
      unfold slicePick pickB; simp
    rw [e]
    refine ⟨.ref _, _, I5.laid (t' := s4.toks) (o := .lst (pickB xs l u c)) (fun b ob q => Heap.get?_push_of_some _ q) (Nat.le_refl _) ?_, rfl, q _ (I5.hok.fresh (Nat.le_refl _))⟩
    exact ⟨hz, _, 0, rp, Heap.get?_push_size _ rfl⟩
section
variable {K : PySem.W.Frag} {mg : Str → Option Value} {X : Cx} {G : Gm} {Wx : WX} {a : Expr} {fa : EV} {pos : Pos}
def stD (d : D) (lo hi : Option Int) (st : Int) : Option RV := if st = 0 ∨ st = 1 then none else match d with
  | .tup xs => if (pickS xs lo hi st).length ≤ sizeLine then some (.pv (.tup (pickS xs lo hi st))) else none
  | .lst xs => if (pickB xs lo hi st).length ≤ sizeLine then some (.ow (pickB xs lo hi st)) else none
  | _ => none
theorem opv_st {B : Addr → Prop} {H : Hp} {x : V} {a : D} {lo hi : Option Int} {st : Int} {res : RV} {Q : VK} (hB : ∀ a, B a → ∃ o, H a = some o) (ha : PRep K mg B H a x) (e : stD a lo hi st = some res) (q : ∀ v H', ResOk K mg B H H' res v → Q v H') : rStep K x lo hi st H Q := by
  unfold stD at e
  split at e
  · cases e
  · rename_i h01
    refine ⟨fun z => h01 (.inl z), fun z => h01 (.inr z), ?_⟩
    split at e
    · rename_i xs
      split at e
      · rename_i hz
        cases e
        obtain ⟨p, vs, rfl, t, r⟩ := ha.tup
        have rp : Reps K mg B H (pickS xs lo hi st) (pickS vs lo hi st) := by
          unfold pickS; rw [r.length]; exact Reps.pick (ix := fun m => ((Builtin.Slice.sliceAdjust lo hi st vs.length).1 + (m : Int) * st).toNat) _ r
        exact ⟨p, vs, rfl, .inl ⟨t.sq, by rw [← rp.length]; exact hz, fun o ho => q _ _ (.tup hB ho rp)⟩⟩
      · cases e
    · rename_i xs
      split at e
      · rename_i hz
        cases e
        obtain ⟨p, vs, rfl, t, r⟩ := ha.lst
        have rp : Reps K mg B H (pickB xs lo hi st) (pickB vs lo hi st) := by
          unfold pickB; rw [r.length]; exact Reps.pick (ix := fun m => m) _ r
        exact ⟨p, vs, rfl, .inr ⟨SqL.of t, by rw [← rp.length]; exact hz, fun o ho => q _ _ (.lst ho rp)⟩⟩
      · cases e
    · cases e
def eSt (fa : EV) (lo hi st : OV) : EV := fun s => (fa s).bind fun r s1 => (lo s1).bind fun l s2 => (hi s2).bind fun u s3 => (st s3).bind fun c s4 => match c with
  | some c => fin1 (fun d => stD d l u c) r s4
  | none => .bad
theorem ed_st {lo hi : Option Expr} {st : Expr} {p2 : Pos} {fl fh fs : OV} (ha : ED X G Wx a fa) (hl : OD X G Wx lo fl) (hh : OD X G Wx hi fh) (hs : OD X G Wx (some st) fs) : ED X G Wx (.Subscript a (.Slice lo hi (some st) p2) pos) (eSt fa fl fh fs) := by
  refine ⟨PE.imp (pe_step ha.pe hl.po hh.po hs.po) fun σ H Q ⟨P, A, L, s, hs, h⟩ => (tE_one hs h).mono fun x H1 ⟨A1, L1, s1, r, a1, h1⟩ => ?_⟩
  refine ⟨Wi P r x, A1, L1, s1, a1.sr, ((Run.bind h1).on a1.st fun _ z => .inl z).imp fun l s2 _ q A2 L2 H2 sr2 st2 => ?_⟩
  refine ⟨Wi P r x, A2, L2, s2, sr2, ((Run.bind q).on (a1.st.trans st2) fun _ z => .inl z).imp fun u s3 _ q3 A3 L3 H3 sr3 st3 => ?_⟩
  refine ⟨Wi P r x, A3, L3, s3, sr3, ((Run.bind q3).on ((a1.st.trans st2).trans st3) fun _ z => .inl z).imp fun c s4 _ q4 A4 L4 H4 sr4 st4 => ?_⟩
  have st := ((a1.st.trans st2).trans st3).trans st4
  cases c with
  | none => exact q4.elim
  | some c =>
    exact ⟨c, rfl, run_fin1 (r := fun x => rStep X.K x l u c) (fun B H x a res Q hB ha e q => opv_st hB ha e q) (sr4.lessP fun _ z => .inl z) hs.p0 (a1.ok.step ((st2.trans st3).trans st4)) st q4⟩
end
end DL
namespace DL
open PySem PySem.Spec PyProof.Rows L2
/-! ### all(..), any(..) of a generator expression: the machine's side -/
/-- the context of a generator expression's own frame -/
abbrev Gx (X : Cx) (A' : Around) (s : Shared) (H : Hp) (cenv : Env) (fp : List Addr) (pn : List (Addr × Obj)) : Cx :=
  { X with A := A', s_0 := s, H_0 := H, env := cenv, outer := X.stack, stack := cenv :: X.stack, ex := fp, fn := fun _ => false, pn := pn, xe := fun _ _ => False }
section
variable {X : Cx} {pins : List (Addr × Obj)} {σ : L2.St} {H : Hp} {s : Shared}
theorem gx_start {scope : Scope} {own : List (Str × Nat)} {fp : List Addr} {A' : Around} {code : Value} {pn : List (Addr × Obj)} {h4 : Heap} {g4 : Array GenState} {t4 : Nat} {m : Str → Option Value} (cenv : Env)
    (hce : cenv = genEnv scope (cloFrom X.env.cells scope.names []) s.heap.objs.size code builtinsNs X.env) (I : Inv X pins σ H s) (ok : BlkOk X.N X.env.scope scope own) (hnc : ∀ y ∈ scope.names, y.2 ≠ .cell) (hN : X.N.Nodup)
    (hfp : ∀ b ∈ fp, FpOk X pins H b ∧ b < s.heap.objs.size) (hA : A'.handled = none) (hfr : A'.frames = some (cenv :: X.stack)) (hn : h4.Ns s.heap.objs.size m) (kp : ∀ b o, s.heap.get? b = some o → h4.get? b = some o) (hg : AllBare g4)
    (hpn : ∀ p ∈ pn, h4.get? p.1 = some p.2 ∧ H p.1 = none ∧ p.1 ≠ s.heap.objs.size ∧ p.1 ∉ frs X.stack ∧ ∀ v, p.2.data ≠ .cell v) :
    Inv (Gx X A' s H cenv fp pn) [] (wipe σ (own.map (·.2))) H { s with heap := h4, gens := g4, toks := t4 } := by
  have hfree : ∀ y ∈ scope.names, y.2 = .free → ∃ c, X.env.cells.lookup y.1 = some c := fun y hy e => by
    rcases ok.free y hy e with k | k
    · exact I.ok.has _ (.inl k)
    · exact I.ok.has _ (.inr k)
  have hL : cenv.locals = s.heap.objs.size := by rw [hce]; rfl
  have hcl : cenv.cells = cloFrom X.env.cells scope.names [] := by rw [hce]; rfl
  have hsc : cenv.scope = scope := by rw [hce]; rfl
  have hF : cenv.frame = some cenv.locals := by rw [hce]; rfl
  have mem : ∀ {y c}, cenv.cells.lookup y = some c → X.env.cells.lookup y = some c ∧ c < s.heap.objs.size ∧ (y, NameKind.free) ∈ scope.names := fun {y c} e => by
    rw [hcl] at e
    rcases cloFrom_mem (PySem.mem_of_lookup e) with hm | ⟨h1, rfl⟩
    · cases hm
    · obtain ⟨c, hc⟩ := hfree _ h1 rfl
      rw [hc]
      obtain ⟨w, z⟩ := I.cell _ _ hc
      exact ⟨rfl, z.lt, h1⟩
  have look : ∀ {y}, scope.names.lookup y = some .free → ∃ c, cenv.cells.lookup y = some c ∧ X.env.cells.lookup y = some c := fun {y} hl => by
    obtain ⟨c', e'⟩ := mem_lookup (cloFrom_has (cells := X.env.cells) (acc := []) (PySem.mem_of_lookup hl))
    rw [← hcl] at e'
    exact ⟨c', e', (mem e').1⟩
  have nocell : ∀ {y}, scope.names.lookup y ≠ some .cell := fun {y} e => hnc _ (PySem.mem_of_lookup e) rfl
  have okB : (Gx X A' s H cenv fp pn).Ok := by
    refine ⟨I.ok.mod, by show cenv.scope.kind = _; rw [hsc]; exact ok.kind, by show cenv.globals = _; rw [hce]; exact I.ok.glob, by show cenv.builtins = _; rw [hce]; rfl, by show s.heap.objs.size ≤ cenv.locals; rw [hL]; exact Nat.le_refl _,
      fun y z c e1 e2 => ?_, fun y hy => ?_, fun y c z e => (Bool.noConfusion z), fun _ => hA, hfr, .inr ⟨rfl, hF⟩, fun b hb => ⟨?_, fun y c e z => ?_⟩, I.bs, Nat.le_trans I.ok.bsz I.sz, fun b o e hb => ?_, fun b hb z => ?_, I.stack, I.stkFree⟩
    · exact I.ok.inj y z c (mem e1).1 (mem e2).1
    · show ∃ c, cenv.cells.lookup y = some c
      rcases hy with hy | hy
      · have hy : cenv.scope.names.lookup y = some .cell := hy
        rw [hsc] at hy
        exact absurd hy nocell
      · have hy : cenv.scope.names.lookup y = some .free := hy
        rw [hsc] at hy
        obtain ⟨c, h1, _⟩ := look hy
        exact ⟨c, h1⟩
    · show b ≠ cenv.locals
      rw [hL]; exact Nat.ne_of_lt (hfp b hb).2
    · exact (hfp b hb).1.2.2.2.2.1 y c (mem e).1 z
    · rcases (hfp b hb).1.2.2.2.1 with z | z
      · exact I.ok.noex b o e z
      · exact absurd (Nat.lt_of_lt_of_le (Heap.lt_size e) (Nat.le_trans I.ok.bsz z)) (Nat.lt_irrefl _)
    · rcases List.mem_cons.mp (I.stkSub b z) with z | z
      · exact (hfp b hb).1.2.1 z
      · exact (hfp b hb).1.2.2.1 z
  refine ⟨okB, rfl, hg, Un.kept kp, ⟨m, ?_, fun i y av e1 e2 e3 => ?_⟩, fun y c e => ?_, ?_, fun y c e => ?_, fun p hp => ?_, I.hok.kept kp, by rw [wipe_length]; exact I.len⟩
  · show Heap.Ns _ cenv.locals _
    rw [hL]; exact hn
  · obtain ⟨e2, hne⟩ := wipe_some e2
    have no : ∀ k, scope.names.lookup y = some k → ¬ (k = .local ∨ k = .cell) := fun k e hh => by
      rcases ok.own _ (PySem.mem_of_lookup e) hh with e' | e'
      · obtain ⟨p, hp, hpy⟩ := List.mem_map.mp e'
        have e3 := ok.ix p hp
        have : p.1 = y := hpy
        rw [this] at e3
        exact hne (List.mem_map.mpr ⟨p, hp, nodup_ix hN e3 e1⟩)
      · exact e' (List.mem_of_getElem? e1)
    have e3 : Vis cenv.scope y := e3
    rw [hsc] at e3
    have hfr : scope.names.lookup y = some .free := by
      rcases e3 with e3 | e3 | e3
      · exact absurd (.inl rfl) (no _ e3)
      · exact absurd (.inr rfl) (no _ e3)
      · exact e3
    obtain ⟨m', hn', hl⟩ := I.loc
    have hvis : Vis X.env.scope y := (ok.free _ (PySem.mem_of_lookup hfr) rfl).elim (fun k => .inr (.inl k)) (fun k => .inr (.inr k))
    obtain ⟨w, r, q⟩ := hl i y av e1 e2 hvis
    have kf : cenv.kindOf y = some .free := by show cenv.scope.names.lookup y = _; rw [hsc]; exact hfr
    refine ⟨w, r, .inr ⟨.inr kf, ?_⟩⟩
    obtain ⟨c, h1, h2⟩ := look hfr
    rcases q with ⟨k, _⟩ | ⟨_, c', e', z⟩
    · have k : X.env.scope.names.lookup y = some .local := k
      rcases ok.free _ (PySem.mem_of_lookup hfr) rfl with k' | k' <;> rw [show X.env.scope.names.lookup y = _ from k'] at k <;> cases k
    · rw [h2] at e'; cases e'
      exact ⟨c, h1, z.keeps kp⟩
  · obtain ⟨h1, _, _⟩ := mem e
    obtain ⟨w, z⟩ := I.cell y c h1
    exact ⟨w, z.keeps kp⟩
  · show H cenv.locals = none
    rw [hL]; exact I.hok.fresh (Nat.le_refl _)
  · exact I.freeC y c (mem e).1
  · have hp : p ∈ pn ++ [] := hp
    rw [List.append_nil] at hp
    obtain ⟨p1, p2, p3, p4, p5⟩ := hpn p hp
    exact ⟨p1, p2, by show p.1 ≠ cenv.locals; rw [hL]; exact p3, p4, p5⟩
end
end DL
namespace DL
open PySem PySem.Spec PyProof.Rows L2
section
variable {X : Cx} {pins : List (Addr × Obj)} {σ : L2.St} {s : Shared}
/-- what stays between the wakings -/
structure GInv (X : Cx) (s3 : Shared) (H3 : Hp) (fp : List Addr) (H' : Hp) (s : Shared) : Prop where
  os : s.os = s3.os
  bare : AllBare s.gens
  un : Un (frs X.stack) fp H3 H' s3.heap s.heap
  hok : HOk X.prog X.w H' s.heap
theorem GInv.later {s3 : Shared} {H3 H' : Hp} {fp : List Addr} {s s' : Shared} (h : GInv X s3 H3 fp H' s) (ho : s'.os = s.os) (hb : AllBare s'.gens) (k : ∀ b o, s.heap.get? b = some o → s'.heap.get? b = some o) : GInv X s3 H3 fp H' s' :=
  ⟨ho.trans h.os, hb, h.un.trans (Un.kept k), h.hok.kept k⟩
/-- handed out -/
def YG (X : Cx) (s3 : Shared) (H3 : Hp) (fp : List Addr) (a : Addr) (gg : Nat) (st : Bool) (Q : VK) : Protocol := fun n s₀ v s kap =>
  ∃ c : Bool, v = .bool c ∧ ∃ H', GInv X s3 H3 fp H' s ∧ s.heap.IsGen a gg ∧ s.heap.NoLimit ∧ if c = st then Q (.bl st) H' else ∀ s'', s''.heap = s.heap → s''.os = s.os → AllBare s''.gens → kap (.send .none) s''
/-- at the end -/
def RG (X : Cx) (s3 : Shared) (H3 : Hp) (fp : List Addr) (st : Bool) (Q : VK) : Nat → Shared → Shared → Prop := fun n s₀ s => ∃ H', GInv X s3 H3 fp H' s ∧ Q (.bl (!st)) H'
section
variable {elt tg iter : Expr} {ifs : List Expr} {scope : Scope} {pos : Pos} {own : List (Str × Nat)} {g : TG} {tt : TT} {te : TE} {st : Bool} {Q : VK} {W : Nat → Nat → Hp → Prop} {J : It} {fp : List Addr} {it a : Addr} {tn : Nat → Heap → Prop} {gg : Nat} {s3 : Shared} {H3 : Hp} {cenv : Env} {B : Around} {go : Obj}
theorem seg_gx (hc : X.calm = true) (hco : cenv.scope.isCoroutine = false) (T : Turn X.prog X.w X.K tg J fp it tn) (hgo : ∀ h : Heap, h.get? a = some go → h.IsGen a gg)
    (pg : PG (Gx X (B.over (.compLoop (.GeneratorExp elt [⟨tg, iter, ifs, 0⟩] scope pos) 0 (.ref it) .none cenv) []) s3 H3 cenv fp [(a, go)]) tg g)
    (pt : PTs (Gx X (B.over (.compLoop (.GeneratorExp elt [⟨tg, iter, ifs, 0⟩] scope pos) 0 (.ref it) .none cenv) []) s3 H3 cenv fp [(a, go)]) ifs tt)
    (pe : PE (Gx X (B.over (.compLoop (.GeneratorExp elt [⟨tg, iter, ifs, 0⟩] scope pos) 0 (.ref it) .none cenv) []) s3 H3 cenv fp [(a, go)]) elt te)
    (hpn : ∀ b ∈ fp, b ≠ a)
    (turn : ∀ i m H, W i m H → (J.stop i H ∧ Q (.bl (!st)) H) ∨ (J.go i H ∧ ∃ Nx : Hp → Prop, (∀ H', Nx H' → ∃ m', m' < m ∧ W (i + 1) m' H') ∧ ∀ x H', J.yld i H x H' → g x (wipe σ (own.map (·.2))) H' fun σ2 H2 => wipe σ2 (own.map (·.2)) = wipe σ (own.map (·.2)) ∧ tt σ2 H2 fun b H3 =>
      if b = true then te σ2 H3 fun y H4 => ∃ c : Bool, y = .bl c ∧ (if c = st then Q (.bl st) H4 else Nx H4) else Nx H3)) :
    ∀ (n i : Nat) (s₀ s : Shared) (H : Hp), Inv (Gx X (B.over (.compLoop (.GeneratorExp elt [⟨tg, iter, ifs, 0⟩] scope pos) 0 (.ref it) .none cenv) []) s3 H3 cenv fp [(a, go)]) [] (wipe σ (own.map (·.2))) H s → tn i s.heap → (∀ b ∈ fp, H b = none) → W i n H → ∀ N, n < N →
      Seg (model X.prog X.w) B (fun n s₀ r s₁ => r = .ok .next ∧ RG X s3 H3 fp st Q n s₀ s₁) (YG X s3 H3 fp a gg st Q) N s₀ (.compLoop (.GeneratorExp elt [⟨tg, iter, ifs, 0⟩] scope pos) 0 (.ref it) .none cenv)
        ((model X.prog X.w).den (.compLoop (.GeneratorExp elt [⟨tg, iter, ifs, 0⟩] scope pos) 0 (.ref it) .none cenv)) [] s := by
  generalize hY : Gx X (B.over (.compLoop (.GeneratorExp elt [⟨tg, iter, ifs, 0⟩] scope pos) 0 (.ref it) .none cenv) []) s3 H3 cenv fp [(a, go)] = Y at pg pt pe ⊢
  have stat : ∀ {ps : List (Addr × Obj)} {σ' : L2.St} {H' : Hp} {s' : Shared}, Inv Y [] σ' H' s' → (∀ b ∈ fp, H' b = none) → ∀ b ∈ fp, FpOk Y [] H' b := fun {ps σ' H' s'} I' hn b hb => by
    subst hY
    exact ⟨hn b hb, (I'.ok.exf b hb).1, I'.ok.exfs b hb, .inl hb, fun x c e => (I'.ok.exf b hb).2 x c e, fun p hp => by
      have hp : p ∈ [(a, go)] ++ [] := hp
      simp only [List.append_nil, List.mem_singleton] at hp
      rw [hp]; exact (hpn b hb).symm⟩
  have ginv : ∀ {ps : List (Addr × Obj)} {σ' : L2.St} {H' : Hp} {s' : Shared}, Inv Y ps σ' H' s' → GInv X s3 H3 fp H' s' ∧ s'.heap.IsGen a gg := fun {ps σ' H' s'} I' => by
    subst hY
    exact ⟨⟨I'.os, I'.bare, I'.base, I'.hok⟩, hgo _ (I'.pin (a, go) (List.mem_append_left _ (List.mem_singleton.mpr rfl))).1⟩
  intro n
  induction n using Nat.strongRecOn with
  | ind n ih =>
  intro i s₀ s H I stn nf w N hN
  have hPr : Y.prog = X.prog := by subst hY; rfl
  have hWr : Y.w = X.w := by subst hY; rfl
  have hKr : Y.K = X.K := by subst hY; rfl
  have hAr : Y.A = B.over (.compLoop (.GeneratorExp elt [⟨tg, iter, ifs, 0⟩] scope pos) 0 (.ref it) .none cenv) [] := by subst hY; rfl
  have hEr : Y.env = cenv := by subst hY; rfl
  have hXe : Y.xe = fun _ _ => False := by subst hY; rfl
  have hcY : Y.calm = true := by subst hY; exact hc
  show Seg _ B _ _ _ s₀ _ ((compTurn (.GeneratorExp elt [⟨tg, iter, ifs, 0⟩] scope pos) 0 (.ref it) .none cenv).onRaise (leaving cenv)) [] s
  rw [compTurn_gen, Sem.onRaise_eq_wrap]
  refine seg_bind_wrap (wpAny_standAt ?_)
  rcases turn i n H w with ⟨stop, qq⟩ | ⟨go', Nx, hNx, step⟩
  · have td := T.done Y hPr hWr hKr hcY i [] s _ H (fun _ _ => False) I (stat (ps := []) I nf) stn stop
    rw [hAr] at td
    refine seg_bind_wrap (thnF td fun r s6 ⟨hr, I6⟩ => ?_)
    subst hr
    exact seg_end (.ok .next) ⟨rfl, H, (ginv I6).1, qq⟩
  · have ti := T.item Y hPr hWr hKr hcY i [] s _ H (fun _ _ => False) I (stat (ps := []) I nf) stn go'
    rw [hAr] at ti
    refine seg_bind_wrap (thnF ti fun r s6 ⟨u, hr, h6⟩ => ?_)
    subst hr
    refine seg_bind_wrap (thnF h6 fun _ s7 ⟨x, H7, I7, r7, y7, st7, n7⟩ => ?_)
    have I7' := I7.pinned (stat (ps := []) I7 n7) (T.obj _ _ st7)
    have pgr := pg.run _ s7 _ H7 x u _ I7' r7 (step x H7 y7)
    rw [hPr, hWr, hAr, hEr, hXe] at pgr
    refine seg_bind_wrap (thnF pgr fun _ s8 ⟨σ8, H8, I8, hw8, q8⟩ => ?_)
    have ptr := pt.run _ s8 σ8 H8 _ I8 q8
    rw [hPr, hWr, hAr, hEr, hXe] at ptr
    refine seg_bind_wrap (thnF ptr fun b s9 ⟨H9, I9, q9⟩ => ?_)
    -- the turn's end
    have fin : ∀ {s' s'' : Shared} {H' : Hp}, Inv Y ([] ++ pinsAt fp s7.heap) σ8 H' s' → Nx H' → s''.heap = s'.heap → s''.os = s'.os → AllBare s''.gens → ∃ m, m < n ∧ Inv Y [] (wipe σ (own.map (·.2))) H' s'' ∧ tn (i + 1) s''.heap ∧ (∀ b ∈ fp, H' b = none) ∧ W (i + 1) m H' := fun {s' s'' H'} I' nx e1 e2 e3 => by
      obtain ⟨m', hm, w'⟩ := hNx H' nx
      have pin' : ∀ b ∈ fp, ∀ o, s7.heap.get? b = some o → s'.heap.get? b = some o ∧ H' b = none := fun b hb o e =>
        let z := I'.pin (b, o) (List.mem_append_right _ (List.mem_append_right _ (mem_pinsAt hb e)))
        ⟨z.1, z.2.1⟩
      have hl : (wipe σ (own.map (·.2))).length = σ8.length := by rw [← hw8, wipe_length]
      have kk : ∀ b o, s'.heap.get? b = some o → s''.heap.get? b = some o := fun b o e => by rw [e1]; exact e
      have I2 := (I'.unpinned (pins := [])).call' (ch := []) e2 (Un.kept kk) (I'.hok.kept kk) e3 (fun b z => by simp at z)
      refine ⟨m', hm, I2.weak hl (fun j v e => ?_), T.keep _ _ _ st7 fun b hb o e => kk b o (pin' b hb o e).1, fun b hb => ?_, w'⟩
      · rw [← hw8] at e
        exact (wipe_some e).1
      · obtain ⟨o, e, _⟩ := T.obj _ _ st7 b hb
        exact (pin' b hb o e).2
    cases b with
    | false =>
      simp only [Bool.false_eq_true, if_false] at q9 ⊢
      obtain ⟨m, hm, I2, st2, nf2, w2⟩ := fin I9 q9 rfl rfl I9.bare
      exact seg_again rfl (ih m hm (i + 1) _ _ _ I2 st2 nf2 w2 N (by omega))
    | true =>
      simp only [if_true] at q9 ⊢
      have hy : ∀ v, yieldOut cenv v = yieldValue v := fun v => by simp only [yieldOut, hco, Bool.false_eq_true, if_false]
      simp only [hy]
      rw [Sem.bind_eq_wrap', Sem.bind_eq_wrap', Sem.wrap_wrap, Sem.wrap_wrap]
      have per := pe.run _ s9 σ8 H9 _ I9 q9
      rw [hPr, hWr, hAr, hEr, hXe] at per
      refine seg_wrap (thnF per fun z s10 ⟨yv, H10, I10, r10, c, ec, q10⟩ => ?_)
      subst ec
      have ez : z = .bool c := r10
      subst ez
      obtain ⟨N', rfl⟩ : ∃ N', N = N' + 1 := ⟨N - 1, by omega⟩
      refine seg_at (seg_yield rfl rfl rfl ⟨c, rfl, H10, (ginv I10).1, (ginv I10).2, I10.nolimit, ?_⟩)
      by_cases hcs : c = st
      · rw [if_pos hcs] at q10 ⊢
        exact q10
      · rw [if_neg hcs] at q10 ⊢
        intro s'' e1 e2 e3
        obtain ⟨m, hm, I2, st2, nf2, w2⟩ := fin I10 q10 e1 e2 e3
        exact seg_again rfl (ih m hm (i + 1) _ _ _ I2 st2 nf2 w2 N' (by omega))
end
end
end DL
namespace DL
open PySem PySem.Spec PyProof.Rows L2 GenW
section
variable {prog : Program} {w : World}
theorem seg_gxStart {R : GenEnd} {Y : Protocol} {B : Around} {N : Nat} {s₀ s : Shared} {elt tg iter : Expr} {ifs : List Expr} {scope : Scope} {pos : Pos} {it : Addr} {cenv : Env}
    (self : ∀ (A : Around) (Q : Value → Shared → Prop) (E : Value → Shared → Prop), Q (.ref it) s → wpAny (model prog w) A (pyIter (.ref it)) Q E s)
    (loop : Seg (model prog w) B R Y N s₀ (.compLoop (.GeneratorExp elt [⟨tg, iter, ifs, 0⟩] scope pos) 0 (.ref it) .none cenv) ((model prog w).den (.compLoop (.GeneratorExp elt [⟨tg, iter, ifs, 0⟩] scope pos) 0 (.ref it) .none cenv)) [] s) :
    Seg (model prog w) B R Y N s₀ (.compStart (.GeneratorExp elt [⟨tg, iter, ifs, 0⟩] scope pos) 0 (.ref it) .none cenv) ((model prog w).den (.compStart (.GeneratorExp elt [⟨tg, iter, ifs, 0⟩] scope pos) 0 (.ref it) .none cenv)) [] s := by
  show Seg _ B _ _ _ s₀ _ ((compStart (.GeneratorExp elt [⟨tg, iter, ifs, 0⟩] scope pos) 0 (.ref it) .none cenv).onRaise (leaving cenv)) [] s
  unfold compStart
  rw [Sem.onRaise_eq_wrap]
  show Seg _ B _ _ _ s₀ _ ((ask >>= _).wrap _ _ _ _) [] s
  refine seg_bind_wrap (wpAny_askSetting ?_)
  split
  · exact seg_again rfl loop
  · first
      | exact seg_bind_wrap (wpAny_rule (seg_bind_wrap (wpAny_standAt (seg_bind_wrap (self _ _ _ (seg_again rfl loop))))))
      | (refine seg_bind_wrap (wpAny_rule ?_); show Seg _ B _ _ _ s₀ _ ((standAt iter.pos >>= _).wrap _ _ _ _) [] s; exact seg_bind_wrap (wpAny_standAt (seg_bind_wrap (self _ _ _ (seg_again rfl loop)))))
end
section
variable {X : Cx} {s3 : Shared} {H3 : Hp} {fp : List Addr} {a : Addr} {gg : Nat} {st : Bool} {Q : VK} {A : Around}
/-- ready to be woken -/
def Rdy (X : Cx) (s3 : Shared) (H3 : Hp) (fp : List Addr) (a : Addr) (gg : Nat) (st : Bool) (Q : VK) (A : Around) (N : Nat) (s : Shared) : Prop :=
  s.heap.IsGen a gg ∧ s.heap.NoLimit ∧ ∃ gs, s.gens[gg]? = some gs ∧ gs.Goes (model X.prog X.w) A.in1.in1 (fun n s₀ r s₁ => r = .ok .next ∧ RG X s3 H3 fp st Q n s₀ s₁) (YG X s3 H3 fp a gg st Q) N (.send .none) (s.setGen gg .running)
theorem gx_next (hh : A.handled = none) (hd : A.depth < recursionLimit) {E : Value → Shared → Prop} {Q' : Option Value → Shared → Prop} {N : Nat} {s : Shared} (h : Rdy X s3 H3 fp a gg st Q A N s)
    (hn : ∀ s' H', GInv X s3 H3 fp H' s' → Q (.bl (!st)) H' → Q' none s') (hs : ∀ s' H', GInv X s3 H3 fp H' s' → Q (.bl st) H' → Q' (some (.bool st)) s')
    (hr : ∀ s' N', N = N' + 1 → Rdy X s3 H3 fp a gg st Q A N' s' → Q' (some (.bool (!st))) s') : wpAny (model X.prog X.w) A.in1 (pyNext (.ref a)) Q' E s := by
  obtain ⟨hg, hl, gs, hgs, hgo⟩ := h
  have hgl : gg < s.gens.size := (Array.getElem?_eq_some_iff.mp hgs).1
  refine wpAny_gsz (n := gg + 1) hgl (wpAny_pyNext_genexpQ (A := A.in1) hh hl hd hg hgs hgo (fun v s₁ gs' hb hv => ?_) (fun s₁ hp h' hk => ?_))
  · intro hsz
    obtain ⟨c, rfl, H', gi, hg1, hl1, hk⟩ := hv
    have bb : AllBare (s₁.setGen gg gs').gens := allBare_setGen gi.bare hb
    by_cases hc : c = st
    · rw [if_pos hc] at hk
      subst hc
      exact hs _ H' (gi.later rfl bb fun _ _ e => e) hk
    · rw [if_neg hc] at hk
      have ec : c = !st := by cases c <;> cases st <;> simp_all
      subst ec
      have hsz1 : gg < s₁.gens.size := by
        have q : (s₁.setGen gg gs').gens.size = s₁.gens.size := setGen_size _ _ _
        have hsz' : gg + 1 ≤ (s₁.setGen gg gs').gens.size := hsz
        omega
      have hk' := hk ((s₁.setGen gg gs').setGen gg .running) rfl rfl (allBare_setGen bb rfl)
      cases N with
      | zero => exact False.elim hk'
      | succ N' => exact hr _ N' rfl ⟨hg1, hl1, gs', setGen_at hsz1, hk'⟩
  · intro _
    obtain ⟨H', gi, hq⟩ := hp
    exact hn _ H' (gi.later rfl (allBare_setGen gi.bare rfl) hk) hq
theorem gx_all (hst : st = false) (hh : A.handled = none) (hd : A.depth < recursionLimit) {R : Result → Shared → Prop} (hR : ∀ s' b H', GInv X s3 H3 fp H' s' → Q (.bl b) H' → R (.ok (.ret (.bool b))) s') : ∀ (N : Nat) (s : Shared), Rdy X s3 H3 fp a gg st Q A N s → codeAny (model X.prog X.w) A (.builtin "all.loop" ⟨[.ref a], []⟩) R s := by
  subst hst
  intro N
  induction N using Nat.strongRecOn with
  | ind N ih =>
  intro s h
  refine codeAny_builtin F.entry_all_loop ?_
  rw [Around.under_plainId F.plain_all_loop _]
  show wpAny _ A.in1 (pyNext (.ref a) >>= _) _ _ s
  refine wpAny_bind (gx_next hh hd h (fun s' H' gi q => ?_) (fun s' H' gi q => ?_) fun s' N' e h' => ?_)
  · refine wpAny_bind (wpAny_rule (wpAny_pure ?_))
    exact hR _ _ H' gi q
  · refine wpAny_bind (wpAny_holding (wpAny_truthy_bool ?_))
    refine wpAny_bind (wpAny_letGo ?_)
    simp only [Bool.false_eq_true, if_false]
    refine wpAny_bind (wpAny_rule (wpAny_pure ?_))
    exact hR _ _ H' gi q
  · refine wpAny_bind (wpAny_holding (wpAny_truthy_bool ?_))
    refine wpAny_bind (wpAny_letGo ?_)
    simp only [Bool.not_false, if_true]
    exact wpAny_pure ⟨plainId_quiet F.plain_all_loop _, ih N' (by omega) _ h'⟩
theorem gx_any (hst : st = true) (hh : A.handled = none) (hd : A.depth < recursionLimit) {R : Result → Shared → Prop} (hR : ∀ s' b H', GInv X s3 H3 fp H' s' → Q (.bl b) H' → R (.ok (.ret (.bool b))) s') : ∀ (N : Nat) (s : Shared), Rdy X s3 H3 fp a gg st Q A N s → codeAny (model X.prog X.w) A (.builtin "any.loop" ⟨[.ref a], []⟩) R s := by
  subst hst
  intro N
  induction N using Nat.strongRecOn with
  | ind N ih =>
  intro s h
  refine codeAny_builtin F.entry_any_loop ?_
  rw [Around.under_plainId F.plain_any_loop _]
  show wpAny _ A.in1 (pyNext (.ref a) >>= _) _ _ s
  refine wpAny_bind (gx_next hh hd h (fun s' H' gi q => ?_) (fun s' H' gi q => ?_) fun s' N' e h' => ?_)
  · refine wpAny_bind (wpAny_rule (wpAny_pure ?_))
    exact hR _ _ H' gi q
  · refine wpAny_bind (wpAny_holding (wpAny_truthy_bool ?_))
    refine wpAny_bind (wpAny_letGo ?_)
    simp only [if_true]
    refine wpAny_bind (wpAny_rule (wpAny_pure ?_))
    exact hR _ _ H' gi q
  · refine wpAny_bind (wpAny_holding (wpAny_truthy_bool ?_))
    refine wpAny_bind (wpAny_letGo ?_)
    simp only [Bool.not_true, Bool.false_eq_true, if_false]
    exact wpAny_pure ⟨plainId_quiet F.plain_any_loop _, ih N' (by omega) _ h'⟩
theorem call_all_gx {prog : Program} {w : World} {s : Shared} {Q' : Value → Shared → Prop} {E : Value → Shared → Prop} (hg : s.heap.IsGen a gg) (h : ∀ R : Result → Shared → Prop, (∀ b s', Q' (.bool b) s' → R (.ok (.ret (.bool b))) s') → codeAny (model prog w) A (.builtin "all.loop" ⟨[.ref a], []⟩) R s) :
    wpAny (model prog w) A (call (.builtin "all") [.ref a]) Q' E s := by
  refine call_function_tree F.kind_all F.plain_all F.entry_all (F.args_all1 _) ?_
  unfold Builtin.«all»
  refine wpAny_bind (m := oneArg "all" _) (wpAny_pure ?_)
  refine wpAny_bind (wpAny_pyIter_gen hg ?_)
  exact wpAny_pure ⟨plainId_quiet F.plain_all_loop _, h _ fun b s' q => q⟩
theorem call_any_gx {prog : Program} {w : World} {s : Shared} {Q' : Value → Shared → Prop} {E : Value → Shared → Prop} (hg : s.heap.IsGen a gg) (h : ∀ R : Result → Shared → Prop, (∀ b s', Q' (.bool b) s' → R (.ok (.ret (.bool b))) s') → codeAny (model prog w) A (.builtin "any.loop" ⟨[.ref a], []⟩) R s) :
    wpAny (model prog w) A (call (.builtin "any") [.ref a]) Q' E s := by
  refine call_function_tree F.kind_any F.plain_any F.entry_any (F.args_any1 _) ?_
  unfold Builtin.«any»
  refine wpAny_bind (m := oneArg "any" _) (wpAny_pure ?_)
  refine wpAny_bind (wpAny_pyIter_gen hg ?_)
  exact wpAny_pure ⟨plainId_quiet F.plain_any_loop _, h _ fun b s' q => q⟩
end
end DL
namespace DL
open PySem PySem.Spec PyProof.Rows L2 GenW
/-- all(..) (st = false), any(..) (st = true) -/
def tAg (st : Bool) (P : Addr) (wi : TI) (g : TG) (tt : TT) (te : TE) (vs : List Nat) : TE := fun σ H Q => wi σ H fun J H1 => GxR.TabG H1 P ∧ ∀ H2, GxR.Tabbed P H1 H2 → ∃ W : Nat → Nat → Hp → Prop, (∃ m, W 0 m H2) ∧ ∀ i m H, W i m H →
  (J.stop i H ∧ Q (.bl (!st)) H) ∨ (J.go i H ∧ ∃ Nx : Hp → Prop, (∀ H', Nx H' → ∃ m', m' < m ∧ W (i + 1) m' H') ∧ ∀ x H', J.yld i H x H' → g x (wipe σ vs) H' fun σ2 H2 => wipe σ2 vs = wipe σ vs ∧ tt σ2 H2 fun b H3 =>
    if b = true then te σ2 H3 fun y H4 => ∃ c : Bool, y = .bl c ∧ (if c = st then Q (.bl st) H4 else Nx H4) else Nx H3)
section
variable {X : Cx} {pins : List (Addr × Obj)} {σ : L2.St} {H : Hp} {s : Shared} {k : Nat} {c P : Addr} {elt tg iter : Expr} {ifs : List Expr} {scope : Scope} {gpos : Pos} {own : List (Str × Nat)} {wi : TI} {g : TG} {tt : TT} {te : TE} {st : Bool} {Q : VK} {Q' : Value → Shared → Prop}
theorem room_gx {A : Around} {cd : Code} (hr : Room (k + 1) A) (hw : cd.weight = 1) (hu : cd.cUnits = 3) : Room k (A.in1.in1.over cd []) := by
  refine ⟨hr.hd, ?_, ?_⟩
  · have := hr.dp
    show A.depth + frameCount [] + cd.weight + 3 * k + 5 < _
    rw [hw]
    show A.depth + 0 + 1 + 3 * k + 5 < _
    omega
  · have := hr.un
    show A.units + 1 + 1 + unitsOf [] + cd.cUnits + 16 * k + 200 < _
    rw [hu]
    show A.units + 1 + 1 + 0 + 3 + 16 * k + 200 < _
    omega
theorem gx_make (hr : Room (k + 1) X.A) (hc : X.calm = true) (hN : X.N.Nodup) (TB : GxR.TabB X.base X.mg c P) (hcode : X.env.code = .ref c) (hco : scope.isCoroutine = false) (h0 : scope.names.lookup (".0" : Str) = some .local) (hnc : ∀ y ∈ scope.names, y.2 ≠ .cell)
    (hi : PI X tg iter wi) (ok : BlkOk X.N X.env.scope scope own)
    (hg : ∀ (A' : Around) (s : Shared) (H : Hp) (C : Addr) (cl : List (Str × Addr)) (cd : Value) (fp : List Addr) (pn : List (Addr × Obj)), Room k A' → PG (Gx X A' s H (genEnv scope cl C cd builtinsNs X.env) fp pn) tg g)
    (ht : ∀ (A' : Around) (s : Shared) (H : Hp) (C : Addr) (cl : List (Str × Addr)) (cd : Value) (fp : List Addr) (pn : List (Addr × Obj)), Room k A' → PTs (Gx X A' s H (genEnv scope cl C cd builtinsNs X.env) fp pn) ifs tt)
    (he : ∀ (A' : Around) (s : Shared) (H : Hp) (C : Addr) (cl : List (Str × Addr)) (cd : Value) (fp : List Addr) (pn : List (Addr × Obj)), Room k A' → PE (Gx X A' s H (genEnv scope cl C cd builtinsNs X.env) fp pn) elt te)
    (hs : ∀ x, genFold iter X.env x = pure x) (I : Inv X pins σ H s) (h : tAg st P wi g tt te (own.map (·.2)) σ H Q)
    (hQ : ∀ s3 H3 fp a gg N s5, (∀ s' H', GInv X s3 H3 fp H' s' → Inv X pins σ H' s') → Rdy X s3 H3 fp a gg st Q X.A N s5 → Q' (.ref a) s5) :
    wpAny (model X.prog X.w) X.A (eval (.GeneratorExp elt [⟨tg, iter, ifs, 0⟩] scope gpos) X.env) Q' X.xe s := by
  have hfree : ∀ y ∈ scope.names, y.2 = .free → ∃ c, X.env.cells.lookup y.1 = some c := fun y hy e => by
    rcases ok.free y hy e with k | k
    · exact I.ok.has _ (.inl k)
    · exact I.ok.has _ (.inr k)
  refine wpAny_GeneratorExp_make hco (closure_ok hfree) hnc h0 ok.kind hr.depth ?_ hs
  refine thn (hi.run pins s σ H _ I h) fun xv s1 hx => thn hx fun itv s2 h2 => ?_
  obtain ⟨it, fp, tn, J, H2, e, I2, T, st2, f2, ⟨ps, hP, htr⟩, q⟩ := h2
  subst e
  have hPs : s2.heap.get? P = some { cls := .none, data := .fields ps } := I2.hok P _ hP
  have cd : PySem.W.CodeHd s2.heap c P := TB.code.keeps fun b u e => I2.bk b u e
  have cont : ∀ (code : Value) (h3 : Heap) (tk : Nat) (ps' : Array Value), Heap.ExtBut P s2.heap h3 → s2.heap.objs.size ≤ h3.objs.size → h3.get? P = some { cls := .none, data := .fields ps' } → (∃ more, ps' = ps ++ more) → TriplesOk ps'.toList →
      wpAny (model X.prog X.w) X.A (builtinsFor X.env.globals X.env.builtins) (fun bi s₄ =>
        ∀ h', h'.Ns s₄.heap.objs.size (fun y => if y = ".0" then some (Value.ref it) else none) → Heap.SameBut s₄.heap.objs.size (s₄.heap.push { cls := .type "frame", data := .dict #[] }) h' →
          Q' (.ref h'.objs.size) { s₄ with
            gens := s₄.gens.push (.fresh (.compStart (.GeneratorExp elt [⟨tg, iter, ifs, 0⟩] scope gpos) 0 (.ref it) .none (genEnv scope (cloFrom X.env.cells scope.names []) s₄.heap.objs.size code bi X.env))),
            toks := s₄.toks + 1 + 1 + 1,
            heap := h'.push { cls := .type "generator", data := .fields #[.int s₄.gens.size 0, .str "<genexpr>" (s₄.toks + 1), .str (X.env.qual ++ "<genexpr>") (s₄.toks + 1 + 1)] } }) X.xe { s2 with heap := h3, toks := tk } := by
    intro code h3 tk ps' hx hsz hP3 hmore ht3
    obtain ⟨bm, ob, e1, e2, e3, e4, e5, e6, e7, e8⟩ := TB.bm
    obtain ⟨more, rfl⟩ := hmore
    have keep3 : ∀ b u, b ≠ P → s2.heap.get? b = some u → h3.get? b = some u := fun b u hb e => hx b u hb e
    have I3 : Inv X pins σ (upd H2 P (.tbl (ps ++ more))) { s2 with heap := h3, toks := tk } :=
      GxR.inv_tab (more := more) (h' := h3) (g' := s2.gens) (d' := s2.drawn) (t' := tk) I2 hP (fun b o hb e => hx b o hb e) hP3 I2.bare
    refine wpAny_builtinsFor (m := X.mg) (by rw [I2.ok.glob]; exact (I2.mod.glob.keeps I2.bk).extBut hx TB.gP) e1 e2 (keep3 _ _ e4 (I2.bk _ _ e5)) e6 e7 e8 ?_
    intro h' hn' hs'
    have hsz' : h'.objs.size = h3.objs.size + 1 := by rw [hs'.1, Heap.size_push]
    have kp4 : ∀ b o, h3.get? b = some o → h'.get? b = some o := fun b o e => hs'.extBut b o (Nat.ne_of_lt (Heap.lt_size e)) (Heap.get?_push_of_some _ e)
    generalize hce : genEnv scope (cloFrom X.env.cells scope.names []) h3.objs.size code builtinsNs X.env = cenv at hn' hs' ⊢
    generalize hgob : ({ cls := .type "generator", data := .fields #[.int s2.gens.size 0, .str "<genexpr>" (tk + 1), .str (X.env.qual ++ "<genexpr>") (tk + 1 + 1)] } : Obj) = go
    have hgo : ∀ h : Heap, h.get? h'.objs.size = some go → h.IsGen h'.objs.size s2.gens.size := fun h e => ⟨go, _, _, e, by rw [← hgob], by rw [← hgob], by rw [← hgob]⟩
    have hga : (h'.push go).get? h'.objs.size = some go := by rw [← hgob]; exact Heap.get?_push_size _ rfl
    have kp5 : ∀ b o, h3.get? b = some o → (h'.push go).get? b = some o := fun b o e => Heap.get?_push_of_some _ (kp4 b o e)
    have hPfp : P ∉ fp := fun z => by
      have := (f2 P z).1
      rw [hP] at this; cases this
    have fsz : ∀ b ∈ fp, b < s2.heap.objs.size := fun b hb => by
      obtain ⟨o, e, _⟩ := T.obj _ _ st2 b hb
      exact Heap.lt_size e
    have f3 : ∀ b ∈ fp, FpOk X pins (upd H2 P (.tbl (ps ++ more))) b ∧ b < h3.objs.size := fun b hb => ⟨⟨by rw [upd_ne (show b ≠ P from fun z => hPfp (by rw [← z]; exact hb))]; exact (f2 b hb).1, (f2 b hb).2⟩, Nat.lt_of_lt_of_le (fsz b hb) hsz⟩
    have nfp : ∀ b ∈ fp, (upd H2 P (.tbl (ps ++ more))) b = none := fun b hb => (f3 b hb).1.1
    obtain ⟨W, ⟨m0, w0⟩, turn⟩ := q (upd H2 P (.tbl (ps ++ more))) ⟨⟨ps ++ more, upd_same, ht3⟩, fun b hb => upd_ne hb⟩
    have hn5 : (h'.push go).Ns h3.objs.size (fun y => if y = ".0" then some (Value.ref it) else none) := hn'.push _
    have fr3 : ∀ b, h3.objs.size ≤ b → (upd H2 P (.tbl (ps ++ more))) b = none := fun b hb => I3.hok.fresh hb
    have aC : h'.objs.size ≠ h3.objs.size := by rw [hsz']; exact Nat.succ_ne_self _
    have aS : h'.objs.size ∉ frs X.stack := fun z => by
      rcases List.mem_cons.mp (I3.stkSub _ z) with z | z
      · have := I3.lt
        have h9 : X.env.locals < h3.objs.size := this
        rw [← z, hsz'] at h9
        exact absurd (Nat.lt_of_succ_lt h9) (Nat.lt_irrefl _)
      · have hb : h3.objs.size ≤ h'.objs.size := by rw [hsz']; exact Nat.le_succ _
        exact I3.nofs hb z
    have hAr : Room k (X.A.in1.in1.over (.compLoop (.GeneratorExp elt [⟨tg, iter, ifs, 0⟩] scope gpos) 0 (.ref it) .none cenv) []) := room_gx hr rfl rfl
    have hfr : (X.A.in1.in1.over (.compLoop (.GeneratorExp elt [⟨tg, iter, ifs, 0⟩] scope gpos) 0 (.ref it) .none cenv) []).frames = some (cenv :: X.stack) := by
      show X.A.frames.map ([cenv] ++ ·) = _
      rw [I.ok.frames]; rfl
    have inv0 : ∀ (g4 : Array GenState) (t4 : Nat), AllBare g4 → Inv (Gx X (X.A.in1.in1.over (.compLoop (.GeneratorExp elt [⟨tg, iter, ifs, 0⟩] scope gpos) 0 (.ref it) .none cenv) []) { s2 with heap := h3, toks := tk } (upd H2 P (.tbl (ps ++ more))) cenv fp [(h'.objs.size, go)]) [] (wipe σ (own.map (·.2))) (upd H2 P (.tbl (ps ++ more))) { s2 with heap := h'.push go, gens := g4, toks := t4 } := fun g4 t4 hb4 =>
      gx_start (s := { s2 with heap := h3, toks := tk }) cenv hce.symm I3 ok hnc hN f3 hAr.hd hfr hn5 kp5 hb4 (fun p hp => by
        rw [List.mem_singleton.mp hp]
        exact ⟨hga, fr3 _ (by rw [hsz']; exact Nat.le_succ _), aC, aS, fun v z => by rw [← hgob] at z; cases z⟩)
    have hcoE : cenv.scope.isCoroutine = false := by rw [← hce]; exact hco
    have pg := hg _ { s2 with heap := h3, toks := tk } (upd H2 P (.tbl (ps ++ more))) h3.objs.size (cloFrom X.env.cells scope.names []) code fp [(h'.objs.size, go)] hAr
    have pt := ht _ { s2 with heap := h3, toks := tk } (upd H2 P (.tbl (ps ++ more))) h3.objs.size (cloFrom X.env.cells scope.names []) code fp [(h'.objs.size, go)] hAr
    have pe := he _ { s2 with heap := h3, toks := tk } (upd H2 P (.tbl (ps ++ more))) h3.objs.size (cloFrom X.env.cells scope.names []) code fp [(h'.objs.size, go)] hAr
    rw [hce] at pg pt pe
    have st5 : tn 0 (h'.push go) := T.keep _ _ _ st2 fun b hb o e => kp5 b o (keep3 b o (fun z => hPfp (by rw [← z]; exact hb)) e)
    have hba : AllBare (s2.gens.push (.fresh (.compStart (.GeneratorExp elt [⟨tg, iter, ifs, 0⟩] scope gpos) 0 (.ref it) .none cenv))) := I2.bare.push rfl
    refine hQ { s2 with heap := h3, toks := tk } (upd H2 P (.tbl (ps ++ more))) fp h'.objs.size s2.gens.size (m0 + 1) _ (fun s' H' gi => I3.call' (ch := fp) gi.os gi.un gi.hok gi.bare fun b hb => ⟨(f3 b hb).1.2.2.2.1, (f3 b hb).1.2.1, (f3 b hb).1.2.2.2.2.1, (f3 b hb).1.2.2.2.2.2⟩) ?_
    have hb9 : AllBare (Shared.setGen { s2 with gens := s2.gens.push (.fresh (.compStart (.GeneratorExp elt [⟨tg, iter, ifs, 0⟩] scope gpos) 0 (.ref it) .none cenv)), toks := tk + 1 + 1 + 1, heap := h'.push go } s2.gens.size .running).gens := allBare_setGen (s := { s2 with gens := _, toks := _, heap := _ }) hba rfl
    refine ⟨hgo _ hga, I3.nolimit.keeps kp5, _, Array.getElem?_push_size .., rfl, ?_⟩
    refine seg_gxStart (fun A Q E hq => T.self A 0 _ Q E st5 hq) ?_
    exact seg_gx hc hcoE T hgo pg pt pe (fun b hb z => by
      have h1 := (f3 b hb).2
      rw [z, hsz'] at h1
      exact absurd (Nat.lt_of_succ_lt h1) (Nat.lt_irrefl _)) turn m0 0 _ _ _ (inv0 _ _ hb9) st5 nfp w0 (m0 + 1) (Nat.lt_succ_self _)
  refine ⟨I2.nolimit, ?_⟩
  cases hf : codeAmong gpos ps.toList with
  | none =>
    refine wpAny_genexprCodeX hcode (cd.code hPs htr) (cd.tab hPs) hf fun c' h' tk hx hge hlt hco' _ htab' _ => ?_
    obtain ⟨o1, vs, f1, tf, fl, tg, inF, tx, tt, op, _, _, _, _, _, _, _, _, _, htr', _⟩ := hco'
    exact cont _ h' tk _ hx (Nat.le_trans hge (Nat.le_of_lt hlt)) htab'.2 ⟨_, rfl⟩ htr'
  | some cv =>
    refine wpAny_genexprCode_hit hcode (cd.code hPs htr) hf ?_
    exact cont cv s2.heap s2.toks ps (Heap.ExtBut.refl _ _) (Nat.le_refl _) hPs ⟨#[], by simp⟩ htr
end
end DL
namespace DL
open PySem PySem.Spec PyProof.Rows L2 GenW
section
variable {K : PySem.W.Frag} {mg : Str → Option Value} {G : Gm} {Wx : WX} {P P' : Addr → Prop} {A A' : List (Option Addr)} {L L' : List Addr} {H H' H1 : Hp} {σ : L2.St} {s s' : S} {T : Addr}
theorem tab_mv (t : GxR.Tabbed T H H') (ht : GxR.TabG H T) : ∀ a o, H a = some o → Plain o → H' a = some o := fun a o e p => by
  have n : a ≠ T := fun z => by
    obtain ⟨ps, q, _⟩ := ht
    rw [z, q] at e
    cases e
    exact p ps rfl
  rw [t.2 a n]; exact e
theorem tab_there (t : GxR.Tabbed T H H') : ∀ a o, H a = some o → ∃ o', H' a = some o' := fun a o e => by
  by_cases n : a = T
  · obtain ⟨ps, q, _⟩ := t.1
    exact ⟨_, by rw [n]; exact q⟩
  · exact ⟨o, by rw [t.2 a n]; exact e⟩
theorem tab_tab (t : GxR.Tabbed T H H') : ∀ a, GxR.TabG H a → GxR.TabG H' a := fun a ⟨ps, e, q⟩ => by
  by_cases n : a = T
  · rw [n]; exact t.1
  · exact ⟨ps, by rw [t.2 a n]; exact e, q⟩
theorem SR.tabbed (hs : SR K mg G P A L s σ H) (t : GxR.Tabbed T H H') (ht : GxR.TabG H T) : SR K mg G P A L s σ H' ∧ Step A L H A L H' := by
  have mv := tab_mv t ht
  have st : Step A L H A L H' := ⟨fun a o e _ _ p => mv a o e p, fun a h => h.elim .inl fun h => .inr (.inl h), ⟨[], by simp⟩, tab_there t, tab_tab t⟩
  have mvB : ∀ a o, H a = some o → ¬ Bd P A L a → Plain o → H' a = some o ∧ ¬ Bd P A L a := fun a o e n p => ⟨mv a o e p, n⟩
  refine ⟨{ hs with
    slot := fun i x e => let ⟨ov, oa, e1, e2, q⟩ := hs.slot i x e; ⟨ov, oa, e1, e2, q.move mvB (fun a o _ m h => mv a _ h m.plain) fun _ _ h => h⟩
    loc := fun n ds e => let ⟨a, vs, e1, e2, r⟩ := hs.loc n ds e; ⟨a, vs, e1, mv a _ e2 fun _ => nofun, r.move mvB⟩
    own := fun a z => let ⟨o, e, m⟩ := hs.own a z; ⟨o, mv a _ e m.plain, m⟩
    tab := fun a z => tab_tab t a (hs.tab a z)
    ent := ⟨fun a o e hA hL p => mv a o (hs.ent.frm a o e hA hL p) p, hs.ent.new, hs.ent.pre, fun a o e => let ⟨o', e'⟩ := hs.ent.there a o e; tab_there t a o' e', fun a h => tab_tab t a (hs.ent.tab a h)⟩
    pOk := fun a z => let w := hs.pOk a z; ⟨let ⟨o, e⟩ := w.1; tab_there t a o e, w.2⟩ }, st⟩
theorem iteYes {c : Prop} [Decidable c] {a b : Prop} (h : c) (x : a) : if c then a else b := by rw [if_pos h]; exact x
theorem iteNo {c : Prop} [Decidable c] {a b : Prop} (h : ¬ c) (x : b) : if c then a else b := by rw [if_neg h]; exact x
def loopA (st : Bool) (vs : List Nat) (g : GV) (t : TV) (fe : EV) : List D → S → Rs Bool
  | [], s => .ok (!st) s
  | d :: ds, s => (g (.pv d) s).bind fun _ s1 => (t s1).bind fun b s2 => if b = true then (fe s2).bind fun r s3 => (toB r s3).bind fun c s4 => if c = st then .ok st { s4 with η := wipeN s4.η vs } else loopA st vs g t fe ds { s4 with η := wipeN s4.η vs }
    else loopA st vs g t fe ds { s2 with η := wipeN s2.η vs }
/-- all(..), any(..) of a generator expression -/
def eAgg (st : Bool) (vs : List Nat) (it : IV) (g : GV) (t : TV) (fe : EV) : EV := fun s => (it s).bind fun ds s1 => if noOwn s1.η vs = true then (noErr (loopA st vs g t fe ds { s1 with η := wipeN s1.η vs })).bind fun b s2 => .ok (.pv (.bl b)) { s2 with η := restN s1.η s2.η vs } else .bad
theorem ed_aggQ {st : Bool} {it : IV} {g : GV} {t : TV} {fe : EV} {tt : TT} {te : TE} {Q : VK} {vs : List Nat} (hT : T ∈ G.tb)
    (ht : ∀ {σ H Q}, tT K mg G W0 t σ H Q → tt σ H Q) (hte : ∀ {σ H Q}, tE K mg G W0 fe σ H Q → te σ H Q)
    (h : tE K mg G Wx (eAgg st vs it g t fe) σ H Q) : tAg st T (tI K mg G Wx it) (tGv K mg G vs g) tt te vs σ H Q := by
  obtain ⟨P, A, L, s, hs, h⟩ := h
  refine ⟨P, A, L, s, hs, (Run.bind h).imp fun ds s1 _ h1 A1 L1 H1 J sr1 ok1 st1 => ?_⟩
  refine ⟨sr1.tab T hT, fun H2 tb => ?_⟩
  obtain ⟨sr2, stT⟩ := sr1.tabbed tb (sr1.tab T hT)
  by_cases nO : noOwn s1.η vs = true
  · rw [if_pos nO] at h1
    cases e : loopA st vs g t fe ds { s1 with η := wipeN s1.η vs } with
    | bad => rw [e] at h1; exact h1.elim
    | err _ _ => rw [e] at h1; exact h1.elim
    | ok acc sf =>
      rw [e] at h1
      have h1 : PostE K mg G P A L H σ Q (.pv (.bl acc)) { sf with η := restN s1.η sf.η vs } := h1
      have srw := sr2.wiped nO
      refine ⟨fun i m H' => i + m = ds.length ∧ ∃ A' L' s', SR K mg G P A' L' s' (wipe σ vs) H' ∧ Step A1 L1 H1 A' L' H' ∧ s'.η.length = s1.η.length ∧ wipeN s'.η vs = s'.η ∧ loopA st vs g t fe (ds.drop i) s' = .ok acc sf,
        ⟨ds.length, by omega, A1, L1, _, srw, stT, by rw [wipeN_len], wipeN_idem _ _, e⟩, ?_⟩
      -- the answer
      have fin : ∀ {A' : List (Option Addr)} {L' : List Addr} {H' : Hp}, SR K mg G P A' L' { sf with η := wipeN sf.η vs } (wipe σ vs) H' → Step A1 L1 H1 A' L' H' → sf.η.length = s1.η.length → Q (.bl acc) H' := fun {A' L' H'} sr' st' hl => by
        have sr9 := SR.rest sr1 nO st' (fun a z => .inl z) sr' hl
        exact h1 A' L' (.bl acc) H' ⟨sr9.lessP (Wi.pv nofun), by show Rep _ _ _ _ _ _; unfold Rep; rfl, OwNew.of nofun, st1.trans st', hs.p0⟩
      rintro i m H2 ⟨em, A2, L2, s2, sr2, st2, hlen, hw, e2⟩
      obtain ⟨go, stop, yld⟩ := ok1 P A2 L2 H2 (fun a z => .inl z) st2 sr2.there
      by_cases hi : i < ds.length
      · refine .inr ⟨go i hi, fun H' => ∃ A' L' s', SR K mg G P A' L' s' (wipe σ vs) H' ∧ Step A1 L1 H1 A' L' H' ∧ s'.η.length = s1.η.length ∧ wipeN s'.η vs = s'.η ∧
          loopA st vs g t fe (ds.drop (i + 1)) s' = .ok acc sf, fun H' n => ⟨m - 1, by omega, by omega, n⟩, fun x H3 y => ?_⟩
        have ro := yld i _ x H3 (List.getElem?_eq_getElem hi) y
        rw [Reps.nth hi] at e2
        unfold loopA at e2
        obtain ⟨_, s3, eg, e2⟩ := bind_ok e2
        obtain ⟨b, s4, et, e2⟩ := bind_ok e2
        have a2 : At K mg G P A2 L2 H2 (wipe σ vs) A2 L2 s2 H3 (.pv ds[i]) x := At.mk' sr2 (Step.refl _ _ _) sr2.p0 ro
        refine ⟨P, A2, L2, H2, A2, L2, s2, _, s3, a2, eg, fun A3 L3 σ3 H4 sr3 st3 w3 => ?_⟩
        have w3 : wipe σ3 vs = wipe σ vs := w3.trans (wipe_ext (wipe_length _ _) fun j hj => wipe_out hj)
        have l3 : s3.η.length = s1.η.length := by rw [← sr3.lenσ, ← wipe_length σ3 vs, w3, sr2.lenσ]; exact hlen
        refine ⟨w3, ht ⟨P, A3, L3, s3, sr3, Run.ok0 ⟨b, s4, et, fun A4 L4 H5 sr4 st4 => ?_⟩⟩⟩
        have l4 : s4.η.length = s1.η.length := by rw [← sr4.lenσ, sr3.lenσ]; exact l3
        cases b with
        | true =>
          rw [if_pos rfl] at e2
          obtain ⟨r, s5, ef, e5⟩ := bind_ok e2
          obtain ⟨c, s6, ez, e6⟩ := bind_ok e5
          refine iteT (hte ⟨P, A4, L4, s4, sr4, Run.ok0 ⟨r, s5, ef, fun A5 L5 v H6 a5 => ?_⟩⟩)
          have ez : r = .pv (.bl c) ∧ s6 = s5 := by
            unfold toB at ez
            split at ez
            · cases ez; exact ⟨rfl, rfl⟩
            · cases ez
          obtain ⟨rfl, rfl⟩ := ez
          have ev : v = .bl c := by have := a5.ok; unfold RVOk Rep at this; exact this
          refine ⟨c, ev, ?_⟩
          have sr5 := a5.sr.lessP (P := P) fun _ z => .inl z
          obtain ⟨A7, sr7, st7, m7⟩ := sr5.wipeA vs
          rw [w3] at sr7
          have S' := st2.trans (st3.trans (st4.trans (a5.st.trans st7)))
          have l6 : s6.η.length = s1.η.length := by rw [← sr5.lenσ, sr4.lenσ]; exact l4
          by_cases hc : c = st
          · rw [if_pos hc] at e6
            refine iteYes hc ?_
            cases e6
            have hR : SR K mg G P A7 L5 { s6 with η := wipeN (wipeN s6.η vs) vs } (wipe σ vs) H6 := by rw [wipeN_idem]; exact sr7
            exact fin hR (S') (by show (wipeN s6.η vs).length = _; rw [wipeN_len]; exact l6)
          · rw [if_neg hc] at e6
            refine iteNo hc ?_
            exact ⟨A7, L5, _, sr7, S', by show (wipeN s6.η vs).length = _; rw [wipeN_len]; exact l6, wipeN_idem _ _, e6⟩
        | false =>
          rw [if_neg (by decide)] at e2
          refine iteF ?_
          obtain ⟨A7, sr7, st7, m7⟩ := sr4.wipeA vs
          rw [w3] at sr7
          exact ⟨A7, L4, _, sr7, st2.trans (st3.trans (st4.trans st7)), by show (wipeN s4.η vs).length = _; rw [wipeN_len]; exact l4, wipeN_idem _ _, e2⟩
      · have e3 : i = ds.length := by omega
        subst e3
        rw [List.drop_length] at e2
        unfold loopA at e2
        cases e2
        exact .inl ⟨stop, fin (by rw [hw]; exact sr2) st2 hlen⟩
  · rw [if_neg nO] at h1; exact h1.elim
end
/-- a generator expression's scope, checked -/
structure GxSc (scope : Scope) : Prop where
  co : scope.isCoroutine = false
  z : scope.names.lookup (".0" : Str) = some .local
  nc : ∀ y ∈ scope.names, y.2 ≠ .cell
def gxB (scope : Scope) : Bool := !scope.isCoroutine && scope.names.lookup (".0" : Str) == some .local && scope.names.all fun y => !(y.2 == .cell)
theorem gx_ok {scope : Scope} (h : gxB scope = true) : GxSc scope := by
  unfold gxB at h
  simp only [Bool.and_eq_true, List.all_eq_true] at h
  obtain ⟨⟨h1, h2⟩, h3⟩ := h
  exact ⟨by simpa using h1, by simpa using h2, fun y hy e => by have := h3 y hy; rw [e] at this; simp at this⟩
/-- the generator expression's frame -/
abbrev GB (X : Cx) (scope : Scope) (A' : Around) (s : Shared) (H : Hp) (C : Addr) (cl : List (Str × Addr)) (cd : Value) (fp : List Addr) (pn : List (Addr × Obj)) : Cx := Gx X A' s H (genEnv scope cl C cd builtinsNs X.env) fp pn
section
variable {X : Cx} {G : Gm} {Wx : WX} {k : Nat} {c T : Addr} {elt tg iter cnd : Expr} {ifs : List Expr} {scope : Scope} {gpos pos p : Pos} {it : IV} {g : GV} {t : TV} {fe : EV} {tt : TT}
theorem ed_agg (st : Bool) (nm : String) (own : List (Str × Nat)) (hc : X.calm = true) (hN : X.N.Nodup) (hr : Room (k + 1) X.A) (TB : GxR.TabB X.base X.mg c T) (hT : T ∈ G.tb) (hcode : X.env.code = .ref c) (sc : GxSc scope)
    (hi : ID X G Wx tg iter it) (ok : BlkOk X.N X.env.scope scope own)
    (hg : ∀ (A' : Around) (s : Shared) (H : Hp) (C : Addr) (cl : List (Str × Addr)) (cd : Value) (fp : List Addr) (pn : List (Addr × Obj)), Room k A' → GDv (GB X scope A' s H C cl cd fp pn) G (own.map (·.2)) tg g)
    (ht : ∀ (A' : Around) (s : Shared) (H : Hp) (C : Addr) (cl : List (Str × Addr)) (cd : Value) (fp : List Addr) (pn : List (Addr × Obj)), Room k A' → CD (GB X scope A' s H C cl cd fp pn) G ifs t tt)
    (he : ∀ (A' : Around) (s : Shared) (H : Hp) (C : Addr) (cl : List (Str × Addr)) (cd : Value) (fp : List Addr) (pn : List (Addr × Obj)), Room k A' → ED (GB X scope A' s H C cl cd fp pn) G W0 elt fe)
    (hs : ∀ x, genFold iter X.env x = pure x) (hgl : Gl X (Str.ofString nm)) (hm : X.mg (Str.ofString nm) = none)
    (hb : (st = false ∧ nm = "all") ∨ (st = true ∧ nm = "any"))
    (hsp : starEach [.GeneratorExp elt [⟨tg, iter, ifs, 0⟩] scope gpos] X.env = (false, eval (.GeneratorExp elt [⟨tg, iter, ifs, 0⟩] scope gpos) X.env) :: starEach [] X.env) :
    ED X G Wx (.Call (.Name (Str.ofString nm) p) [.GeneratorExp elt [⟨tg, iter, ifs, 0⟩] scope gpos] [] pos) (eAgg st (own.map (·.2)) it g t fe) := by
  refine ⟨⟨fun pins s σ H Q I h => ?_⟩⟩
  have hA0 : X.A.handled = none := hr.hd
  have A' : Around := X.A
  have tag : tAg st T (tI X.K X.mg G Wx it) (tGv X.K X.mg G (own.map (·.2)) g) tt (tE X.K X.mg G W0 fe) (own.map (·.2)) σ H Q :=
    ed_aggQ (tt := tt) hT (fun {σ H Q} z => ((ht ⟨X.A.handled, X.A.depth, X.A.frames, X.A.guards, X.A.units⟩ s H 0 [] .none [] [] ⟨hr.hd, by have := hr.dp; show X.A.depth + 3 * k + 5 < _; omega, by have := hr.un; show X.A.units + 16 * k + 200 < _; omega⟩).of z)) (fun z => z) h
  have key := fun (Q' : Value → Shared → Prop) hQ => gx_make (Q' := Q') (gpos := gpos) hr hc hN TB hcode sc.co sc.z sc.nc hi.pi ok (fun A' s H C cl cd fp pn r => (hg A' s H C cl cd fp pn r).pg) (fun A' s H C cl cd fp pn r => (ht A' s H C cl cd fp pn r).pts) (fun A' s H C cl cd fp pn r => (he A' s H C cl cd fp pn r).pe) hs I tag hQ
  rcases hb with ⟨rfl, rfl⟩ | ⟨rfl, rfl⟩
  · refine wpAny_Call_Name_kw (ld_blt I hgl hm bt_all ?_)
    refine PyProof.Rows.callWith_builtin1 ?_ hsp (by rfl)
    rw [hsp]
    show wpAny _ _ (spliced ((false, eval (.GeneratorExp elt [⟨tg, iter, ifs, 0⟩] scope gpos) X.env) :: backTo pos (starEach [] X.env))) _ _ s
    refine Calls.spliced_cons (key _ fun s3 H3 fp a gg N s5 back rdy => ?_)
    refine Calls.spliced_nil ?_
    exact call_all_gx rdy.1 fun R hR => gx_all rfl hr.hd hr.depth (fun s' b H' gi q => hR b s' ⟨.bl b, H', back s' H' gi, rfl, q⟩) N s5 rdy
  · refine wpAny_Call_Name_kw (ld_blt I hgl hm bt_any ?_)
    refine PyProof.Rows.callWith_builtin1 ?_ hsp (by rfl)
    rw [hsp]
    show wpAny _ _ (spliced ((false, eval (.GeneratorExp elt [⟨tg, iter, ifs, 0⟩] scope gpos) X.env) :: backTo pos (starEach [] X.env))) _ _ s
    refine Calls.spliced_cons (key _ fun s3 H3 fp a gg N s5 back rdy => ?_)
    refine Calls.spliced_nil ?_
    exact call_any_gx rdy.1 fun R hR => gx_any rfl hr.hd hr.depth (fun s' b H' gi q => hR b s' ⟨.bl b, H', back s' H' gi, rfl, q⟩) N s5 rdy
end
end DL
namespace DL
open PySem PySem.Spec PyProof.Rows L2 GenW
section
variable {X : Cx} {G : Gm} {Wx : WX} {k : Nat} {c T : Addr} {elt tg iter cnd : Expr} {scope : Scope} {gpos pos p : Pos} {it : IV} {g : GV} {t : TV} {fe : EV}
theorem ed_agg0 (st : Bool) (nm : String) (own : List (Str × Nat)) (hc : X.calm = true) (hN : X.N.Nodup) (hr : Room (k + 1) X.A) (TB : GxR.TabB X.base X.mg c T) (hT : T ∈ G.tb) (hcode : X.env.code = .ref c) (sc : GxSc scope)
    (hi : ID X G Wx tg iter it) (ok : BlkOk X.N X.env.scope scope own)
    (hg : ∀ (A' : Around) (s : Shared) (H : Hp) (C : Addr) (cl : List (Str × Addr)) (cd : Value) (fp : List Addr) (pn : List (Addr × Obj)), Room k A' → GDv (GB X scope A' s H C cl cd fp pn) G (own.map (·.2)) tg g)
    (he : ∀ (A' : Around) (s : Shared) (H : Hp) (C : Addr) (cl : List (Str × Addr)) (cd : Value) (fp : List Addr) (pn : List (Addr × Obj)), Room k A' → ED (GB X scope A' s H C cl cd fp pn) G W0 elt fe)
    (hs : ∀ x, genFold iter X.env x = pure x) (hgl : Gl X (Str.ofString nm)) (hm : X.mg (Str.ofString nm) = none)
    (hb : (st = false ∧ nm = "all") ∨ (st = true ∧ nm = "any"))
    (hsp : starEach [.GeneratorExp elt [⟨tg, iter, [], 0⟩] scope gpos] X.env = (false, eval (.GeneratorExp elt [⟨tg, iter, [], 0⟩] scope gpos) X.env) :: starEach [] X.env) :
    ED X G Wx (.Call (.Name (Str.ofString nm) p) [.GeneratorExp elt [⟨tg, iter, [], 0⟩] scope gpos] [] pos) (eAgg st (own.map (·.2)) it g tTrue fe) :=
  ed_agg (tt := tYes) st nm own hc hN hr TB hT hcode sc hi ok hg (fun _ _ _ _ _ _ _ _ _ => cd_nil) he hs hgl hm hb hsp
theorem ed_agg1 (st : Bool) (nm : String) (own : List (Str × Nat)) (hc : X.calm = true) (hN : X.N.Nodup) (hr : Room (k + 1) X.A) (TB : GxR.TabB X.base X.mg c T) (hT : T ∈ G.tb) (hcode : X.env.code = .ref c) (sc : GxSc scope)
    (hi : ID X G Wx tg iter it) (ok : BlkOk X.N X.env.scope scope own)
    (hg : ∀ (A' : Around) (s : Shared) (H : Hp) (C : Addr) (cl : List (Str × Addr)) (cd : Value) (fp : List Addr) (pn : List (Addr × Obj)), Room k A' → GDv (GB X scope A' s H C cl cd fp pn) G (own.map (·.2)) tg g)
    (ht : ∀ (A' : Around) (s : Shared) (H : Hp) (C : Addr) (cl : List (Str × Addr)) (cd : Value) (fp : List Addr) (pn : List (Addr × Obj)), Room k A' → TD (GB X scope A' s H C cl cd fp pn) G W0 cnd t)
    (he : ∀ (A' : Around) (s : Shared) (H : Hp) (C : Addr) (cl : List (Str × Addr)) (cd : Value) (fp : List Addr) (pn : List (Addr × Obj)), Room k A' → ED (GB X scope A' s H C cl cd fp pn) G W0 elt fe)
    (hs : ∀ x, genFold iter X.env x = pure x) (hgl : Gl X (Str.ofString nm)) (hm : X.mg (Str.ofString nm) = none)
    (hb : (st = false ∧ nm = "all") ∨ (st = true ∧ nm = "any"))
    (hsp : starEach [.GeneratorExp elt [⟨tg, iter, [cnd], 0⟩] scope gpos] X.env = (false, eval (.GeneratorExp elt [⟨tg, iter, [cnd], 0⟩] scope gpos) X.env) :: starEach [] X.env) :
    ED X G Wx (.Call (.Name (Str.ofString nm) p) [.GeneratorExp elt [⟨tg, iter, [cnd], 0⟩] scope gpos] [] pos) (eAgg st (own.map (·.2)) it g t fe) :=
  ed_agg (tt := tT X.K X.mg G W0 t) st nm own hc hN hr TB hT hcode sc hi ok hg (fun A' s H C cl cd fp pn r => cd_one (ht A' s H C cl cd fp pn r)) he hs hgl hm hb hsp
end
/-- a def that stands in the module, with its code's table -/
structure RowG (K : PySem.W.Frag) (mg : Str → Option Value) (base : Heap) (tb : List Addr) (st : Stmt) (x : Str) (ps : List Str) : Prop where
  ex : ∃ (f : Addr) (fd : FuncData) (oc : Value) (od : Option Addr) (kV doc pm : Value) (an : Option Addr) (c : Addr) (ct : Value) (osl : Array (Option Value)) (T : Addr),
    mg x = some (.ref f) ∧ fd = PySem.W.fnOf x x (defArgs st) (defBody st) (defScope st) .none kV doc pm an (.ref c) ct ∧ K.lookup f = some ⟨oc, od, .func fd, osl⟩ ∧ PySem.W.codeIn K (.ref c) x = true ∧ PySem.W.keepIn K (.ref f) = true ∧
    (∀ us : List Value, us.length = ps.length → bindArgs fd ⟨us, []⟩ = pure (ps.zip us)) ∧ GxR.TabB base mg c T ∧ T ∈ tb
section
variable {Pg : Program} {w : World} {K : PySem.W.Frag} {mg : Str → Option Value} {base : Heap} {tb : List Addr} {k j : Nat} {x : Str} {ps N : List Str} {m : Fn} {st : Stmt} {body : SV}
theorem RowG.row (R : RowG K mg base tb st x ps) : Row K mg st x ps := by
  obtain ⟨f, fd, oc, od, kV, doc, pm, an, c, ct, osl, T, h1, rfl, h3, h4, h5, h6, _⟩ := R.ex
  exact ⟨f, _, h1, fun_mk h3 h4 h5, h6⟩
theorem Has.ofG (R : RowG K mg base tb st x ps) (Sc : FnScope N ps (defScope st))
    (hb : ∀ (f c T : Addr) (A : Around) (outer : List Env) (s : Shared) (H : Hp) (E : XK) (G : Gm), GxR.TabB base mg c T → T ∈ tb → G.tb = tb → Room k (A.deeper (envOfC x (defScope st) s.heap.objs.size f (.ref c))) →
      SsD (cxOf (L2N.CX Pg w) Pg w K mg base N x (defScope st) f (.ref c) A outer s H E) G (fun cls d _ H' => E cls d H') (defBody st) body) :
    Has Pg w K mg base tb (k + 1) x ps (defF ps.length N.length body) := by
  obtain ⟨f, fd, oc, od, kV, doc, pm, an, c, ct, osl, T, h1, rfl, h3, h4, h5, h6, TB, hT⟩ := R.ex
  refine ⟨f, _, h1, h5, .all h6, fn_of h3 h4 Sc (fun vs H Q E h => ?_) fun A outer s H vs Q E hr h => ?_, oc, od, osl, h3⟩
  · obtain ⟨P, L, args, W, sr, ok, h⟩ := h
    by_cases hl : args.length = ps.length
    · rw [← ok.length]; exact hl
    · unfold defF at h
      rw [if_neg hl] at h
      exact h.elim
  · obtain ⟨P, L, args, W, sr, ok, h⟩ := h
    unfold defF at h
    by_cases hl : args.length = ps.length
    · rw [if_pos hl] at h
      exact ⟨_, (hb f c T A outer s H E ⟨H, L, tb, 0⟩ TB hT rfl hr).pss, run_body sr ok rfl h⟩
    · rw [if_neg hl] at h
      exact h.elim
/-! ### the head's facts, by the Hook -/
theorem row_of {f : Addr} {fd : FuncData} (F : FunD K x x (defArgs st) (defBody st) (defScope st) [] [] f fd) (hm : mg x = some (.ref f))
    (hb : ∀ (kV doc pm : Value) (an : Option Addr) (cdv ct : Value) (us : List Value), us.length = ps.length → bindArgs (PySem.W.fnOf x x (defArgs st) (defBody st) (defScope st) .none kV doc pm an cdv ct) ⟨us, []⟩ = pure (ps.zip us)) : Row K mg st x ps := by
  obtain ⟨oc, od, dV, kV, doc, pm, an, cdv, ct, osl, rfl, lk, hcd, hD, hK⟩ := F.ex
  rcases hD with ⟨_, rfl⟩ | ⟨e, _⟩
  · exact ⟨f, _, hm, fun_mk lk hcd F.kp, hb kV doc pm an cdv ct⟩
  · exact absurd rfl e
theorem rowG_of {fd : FuncData} (F : FunD K x x (defArgs st) (defBody st) (defScope st) [] [] (He.fAd K (x, none)) fd) (hm : mg x = some (.ref (He.ga K x)))
    (hb : ∀ (kV doc pm : Value) (an : Option Addr) (cdv ct : Value) (us : List Value), us.length = ps.length → bindArgs (PySem.W.fnOf x x (defArgs st) (defBody st) (defScope st) .none kV doc pm an cdv ct) ⟨us, []⟩ = pure (ps.zip us))
    (TB : GxR.TabB base mg (He.cT K (x, none)).1 (He.cT K (x, none)).2) (hT : (He.cT K (x, none)).2 ∈ tb) : RowG K mg base tb st x ps := by
  obtain ⟨oc, od, dV, kV, doc, pm, an, cdv, ct, osl, rfl, lk, hcd, hD, hK⟩ := F.ex
  rcases hD with ⟨_, rfl⟩ | ⟨e, _⟩
  · obtain ⟨c, rfl⟩ := He.codeIn_ref hcd
    have ec : He.codeOf K (x, none) = c := He.codeOf_eq lk rfl
    have TB' : GxR.TabB base mg c (He.tabOf K c) := by
      have z := TB
      unfold He.cT at z
      rw [ec] at z
      exact z
    have hT' : He.tabOf K c ∈ tb := by
      have z := hT
      unfold He.cT at z
      rw [ec] at z
      exact z
    exact ⟨_, _, oc, od, kV, doc, pm, an, c, ct, osl, _, hm, rfl, lk, hcd, F.kp, hb kV doc pm an _ ct, TB', hT'⟩
  · exact absurd rfl e
/-- the law at a heap, by the Hook's facts -/
theorem lawAtX {l : PySem.W.OpenLaw} {n : Nat} {fa : Addr} {h : Heap} {fas : List He.Fa} {fn : List He.DefD} {ts : List He.Tab} {tf : List He.Defn} {ex : PySem.W.Frag → Bool} (X : K.In h) (c : He.SaysX fas fn ts tf ex w h K) (R : Row K mg st x ["script"]) (hfa : mg x = some (.ref fa))
    (F : ∀ (base : Heap), (∀ p ∈ tf, GxR.TabB base mg (He.cT K p).1 (He.cT K p).2) → Has l.prog w K mg base (tf.map fun p => (He.cT K p).2) k x ["script"] m)
    (hm : ∀ ns : List Int, ns.length ≤ n → (∀ z ∈ ns, Builtin.Int.intBits z ≤ 1048576) → ∃ W', m [.pv (.scr (ns.map D.int))] [] = .ok (.pv (.bl true)) W') : LamX.LawAtS l w K (L2N.CX l.prog w) k n "script" mg fa h := by
  obtain ⟨f, fd, h1, Fn, b⟩ := R.ex
  have e := hfa.symm.trans h1
  cases e
  refine ⟨fd, tf.map (He.cT K), spD K mg (tf.map fun p => (He.cT K p).2) m, fun p hp => ?_, fun p hp => ?_, fun p hp => ?_, fun s u => .of_eq (b [u] rfl), fun H a ns hl hb hH hS => law_sp hS (fun a z => ?_) (hm ns hl hb), fun base _ _ hT => ?_⟩
  · obtain ⟨q, hq, rfl⟩ := List.mem_map.mp hp
    exact c.empty q hq
  · obtain ⟨q, hq, rfl⟩ := List.mem_map.mp hp
    exact c.out q hq
  · obtain ⟨q, hq, rfl⟩ := List.mem_map.mp hp
    exact PySem.W.codeHd_of_K X (c.hd q hq)
  · obtain ⟨q, hq, rfl⟩ := List.mem_map.mp z
    exact ⟨#[], hH _ (List.mem_map.mpr ⟨q, hq, rfl⟩), by unfold TriplesOk; first | trivial | simp⟩
  · obtain ⟨f', fd', q1, _, _, q4, oc, od, osl, q5⟩ := (F base (fun p hp => let z := hT _ (List.mem_map.mpr ⟨p, hp, rfl⟩); ⟨z.code, z.bm, z.gP⟩)).ex
    have e := hfa.symm.trans q1
    cases e
    obtain ⟨oc2, od2, kV, doc, pm, an, cdv, ct, osl2, _, lk, _⟩ := Fn.ex
    rw [q5] at lk
    cases lk
    exact q4
end
end DL
namespace DL
open PySem PySem.Spec PyProof.Rows L2
/-! ### exceptions of the program's own classes -/
/-- T nm y: is the class nm one of y's -/
structure XF (K : PySem.W.Frag) (mg : Str → Option Value) (T : Str → Str → Option Bool) : Prop where
  is : ∀ (nm y : Str) (b : Bool) (D C : Addr), T nm y = some b → mg nm = some (.ref D) → mg y = some (.ref C) → PySem.W.kitOne K (.ref D) (.ref C) = some b ∧ PySem.W.exmOne K (.ref D) (.ref C) = some b
  ve : ∀ (nm : Str) (b : Bool) (D : Addr), T nm "ValueError" = some b → mg nm = some (.ref D) → PySem.W.kitOne K (.ref D) (.type "ValueError") = some b
  ec : ∀ (nm y : Str) (b : Bool) (D : Addr), T nm y = some b → mg nm = some (.ref D) → ExcC K D
  rz : ∀ (nm y : Str) (b : Bool), T nm y = some b → ∃ D, mg nm = some (.ref D) ∧ PySem.W.excIn K D He.veBase "ValueError.__new__" = true ∧ PySem.W.keepIn K (.ref D) = true ∧ PySem.W.subIn K (.ref D) (.type "BaseException") = some true ∧
    PySem.W.typeIn K (.ref D) = some (.type "type")
theorem SR.reG {K : PySem.W.Frag} {mg : Str → Option Value} {G : Gm} {P : Addr → Prop} {A : List (Option Addr)} {L : List Addr} {s : S} {σ : L2.St} {H : Hp} (a : Addr) (hs : SR K mg G P A L s σ H) (h : ∀ i : Nat, s.η[i]? = some .ex → σ[i]? = some (some (.ref a))) :
    SR K mg { G with xa := a } P A L s σ H := { hs with tab := hs.tab, ent := hs.ent, ownNew := hs.ownNew, exn := h }
theorem RVOk.reG {K : PySem.W.Frag} {mg : Str → Option Value} {G G' : Gm} {P : Addr → Prop} {A : List (Option Addr)} {L : List Addr} {σ : L2.St} {H : Hp} {r : RV} {v : V} (e : G'.H0 = G.H0) (h : RVOk K mg G P A L σ H r v) : RVOk K mg G' P A L σ H r v := by
  cases r with
  | pv d => exact h
  | vr i => exact h
  | lc n => exact h
  | ow ds => obtain ⟨a, vs, e1, h1, h2, h3, h4, h5⟩ := h; exact ⟨a, vs, e1, h1, h2, h3, h4, by rw [e]; exact h5⟩
theorem RVOk.re {K : PySem.W.Frag} {mg : Str → Option Value} {G G' : Gm} {P : Addr → Prop} {A A' : List (Option Addr)} {L L' : List Addr} {σ σ' : L2.St} {H H' : Hp} {r : RV} {v : V} (n : ∀ i, r ≠ .vr i) (e : G'.H0 = G.H0) (h : RVOk K mg G P A L σ H r v) (st : Step A L H A' L' H') : RVOk K mg G' P A' L' σ' H' r v := by
  have h2 := h.step st
  cases r with
  | pv d => exact h2
  | vr i => exact absurd rfl (n i)
  | lc n => exact h2
  | ow ds => obtain ⟨a, vs, e1, h1, h2, h3, h4, h5⟩ := h2; exact ⟨a, vs, e1, h1, h2, h3, h4, by rw [e]; exact h5⟩
/-- nothing of the handled exception stays -/
def clr : Slot → Slot
  | .ex => .no
  | x => x
@[simp] theorem clr_no : clr .no = .no := rfl
@[simp] theorem clr_ex : clr .ex = .no := rfl
@[simp] theorem clr_pv (d : D) : clr (.pv d) = .pv d := rfl
@[simp] theorem clr_ow (d : List D) : clr (.ow d) = .ow d := rfl
@[simp] theorem clr_od (d : List (Key × D)) : clr (.od d) = .od d := rfl
@[simp] theorem clr_lc (d : Nat) : clr (.lc d) = .lc d := rfl
theorem clr_ne (x : Slot) : clr x ≠ .ex := by cases x <;> nofun
section
variable {K : PySem.W.Frag} {mg : Str → Option Value} {X : Cx} {G : Gm} {Wx : WX} {e : Expr} {es : List Expr} {fe : EV} {pos : Pos} {T : Str → Str → Option Bool}
variable {P P' : Addr → Prop} {A A' A1 : List (Option Addr)} {σ σ' : L2.St} {L L' L1 : List Addr} {H H' H1 : Hp} {s s' : S}
theorem SR.clr {a : Addr} (hs : SR K mg { G with xa := a } P A L s σ H) : SR K mg G P A L { s with η := s.η.map clr } σ H := by
  have no : ∀ i : Nat, (s.η.map DL.clr)[i]? ≠ some .ex := fun i e => by
    rw [List.getElem?_map] at e
    obtain ⟨x, _, h⟩ := Option.map_eq_some_iff.mp e
    exact clr_ne x h
  exact { hs with
    lenσ := by show _ = (s.η.map DL.clr).length; rw [List.length_map]; exact hs.lenσ
    lenA := by show _ = (s.η.map DL.clr).length; rw [List.length_map]; exact hs.lenA
    slot := fun i x e => by
      have e : (s.η.map DL.clr)[i]? = some x := e
      rw [List.getElem?_map] at e
      obtain ⟨y, h1, h2⟩ := Option.map_eq_some_iff.mp e
      obtain ⟨ov, oa, e1, e2, q⟩ := hs.slot i y h1
      refine ⟨ov, oa, e1, e2, ?_⟩
      subst h2
      cases y <;> exact q
    tab := hs.tab
    ent := hs.ent
    ownNew := hs.ownNew
    exn := fun i e => absurd e (no i) }
/-- slot i is unbound -/
theorem SR.unset (hs : SR K mg G P A L s σ H) (i : Nat) : ∃ A', SR K mg G P A' L { s with η := s.η.set i .no } (σ.set i none) H ∧ Step A L H A' L H := by
  by_cases hi : i < s.η.length
  · exact ⟨A.set i none, hs.set (x := .no) (ov := none) (oa := none) hi (fun _ z => z) (fun _ z => nomatch z) ⟨by simp, List.getElem?_set_self (by rw [hs.lenσ]; exact hi), fun j hj => List.getElem?_set_ne (Ne.symm hj)⟩ rfl, Step.drop⟩
  · refine ⟨A, ?_, Step.refl _ _ _⟩
    rw [show s.η.set i .no = s.η from List.set_eq_of_length_le (by omega), show σ.set i none = σ from List.set_eq_of_length_le (by rw [hs.lenσ]; omega)]
    exact hs
def sRaise (nm : Str) : SV := fun s => .err nm s
theorem sd_raise (F : XF X.K X.mg T) {nm m : Str} {j : Nat} {p p2 pos' : Pos} (hc : X.calm = true) (tk : L2N.Takes X Wx) (h : T nm nm = some true) (hg : Gl X nm) (hdb : (nm == ("__debug__" : Str)) = false) :
    SD X G Wx (.Raise (some (.Call (.Name nm p) [.Constant (.str m) j p2] [] pos)) none pos') (sRaise nm) := by
  obtain ⟨D, g, q, k, h1, h2⟩ := F.rz nm nm true h
  exact ⟨PS.imp (L2N.ps_raise hc tk (L2N.pmk_own PySem.F.excBase_ValueError q g k (raises_own h1 h2) hg hdb)) fun D σ H ⟨P, A, L, s, hs, h⟩ => h A L σ H _ hs (Step.refl _ _ _) g⟩
/-! try -/
def sTry (kt : Str → Option Bool) (i : Nat) (f : SV) (g : Str → SV) : SV := fun s => match f s with
  | .ok fl s' => .ok fl s'
  | .err nm s' => match kt nm with
    | some true => if i < s'.η.length then match g nm { s' with η := (s'.η.map clr).set i .ex } with
      | .ok fl s2 => .ok fl { s2 with η := (s2.η.map clr).set i .no }
      | _ => .bad else .bad
    | some false => .err nm s'
    | none => .bad
  | .bad => .bad
theorem sd_try {i : Nat} {n x : Str} {np pos' : Pos} {body suite : List Stmt} {b0 : Stmt} (kt : Str → Option Bool) {f : SV} {g : Str → SV} {c : Value} (hs : X.stack = X.env :: X.outer) (hf : X.env.frame = some X.env.locals) (hN : X.N.Nodup) (hi : X.N[i]? = some n)
    (hln : X.env.kindOf n = some .local) (hc : Names X x c) (tk : L2N.Takes X Wx) (hk : ∀ nm b C, kt nm = some b → X.mg nm = some (.ref C) → PySem.W.exmOne X.K (.ref C) c = some b)
    (hb : ∀ (W : WX) (pn : List (Addr × Obj)) (xe : Value → Shared → Prop), L2N.Takes (X.tr pn xe) W → PassesOwn (model X.prog X.w) X.A X.env xe → SsD (X.tr pn xe) G W body f)
    (hsu : ∀ (nm : Str) (a : Addr) (oe : Obj) (C : Addr) (pn : List (Addr × Obj)), kt nm = some true → X.mg nm = some (.ref C) → L2N.Zn (.ref C) none oe → (∃ vs, oe.data = .fields vs) → SsD (X.suite a ((a, oe) :: pn)) { G with xa := a } W0 (b0 :: suite) (g nm)) :
    SD X G Wx (.Try body [.ExceptHandler (some (.Name x np)) (some n) (b0 :: suite) pos'] [] [] pos) (sTry kt i f g) := by
  refine ⟨PS.imp (L2N.ps_try_as (tb := fun W => tS X.K X.mg G W f) (ts := fun a cls d D σ H => (∃ nm C, kt nm = some true ∧ cls = .ref C ∧ d = none ∧ X.mg nm = some (.ref C) ∧ tS X.K X.mg { G with xa := a } W0 (g nm) D σ H))
    hs hf hN hi hln hc tk (fun W pn xe tk' po => (hb W pn xe tk' po).pss) (fun a oe cls d pn hz hv => ?_)) fun D σ H ⟨P, A, L, s, hs, h⟩ => ?_⟩
  · refine ⟨fun pins sh σ H D I hw => ?_⟩
    obtain ⟨nm, C, k1, rfl, rfl, k2, k3⟩ := hw
    exact (hsu nm a oe C pn k1 k2 hz hv).pss.run pins sh σ H D I k3
  · refine ⟨P, A, L, s, hs, ?_⟩
    unfold sTry at h
    cases q : f s with
    | bad => rw [q] at h; exact h
    | ok fl s' => rw [q] at h; exact h
    | err nm s' =>
      rw [q] at h
      intro A2 L2 σ2 H2 C hs2 st2 hC
      have h : RunS X.K X.mg G Wx P A L H (match kt nm with
        | some true => if i < s'.η.length then match g nm { s' with η := (s'.η.map clr).set i .ex } with
          | .ok fl s2 => .ok fl { s2 with η := (s2.η.map clr).set i .no }
          | _ => .bad else .bad
        | some false => .err nm s'
        | none => .bad) (PostS X.K X.mg G P A L H D) := h
      cases k : kt nm with
      | none => rw [k] at h; exact h.elim
      | some b =>
        rw [k] at h
        refine ⟨b, hk nm b C k hC, fun eb a na => ?_, fun eb => ?_⟩
        · subst eb
          have h : RunS X.K X.mg G Wx P A L H (if i < s'.η.length then match g nm { s' with η := (s'.η.map clr).set i .ex } with
            | .ok fl s2 => .ok fl { s2 with η := (s2.η.map clr).set i .no }
            | _ => .bad else .bad) (PostS X.K X.mg G P A L H D) := h
          -- the state in which the suite begins
          by_cases hil : i < s'.η.length
          · rw [if_pos hil] at h
            have hsX : SR X.K X.mg { G with xa := a } P (A2.set i none) L2 { s' with η := (s'.η.map clr).set i .ex } (σ2.set i (some (.ref a))) H2 := by
              have h0 : SR X.K X.mg { G with xa := a } P A2 L2 { s' with η := s'.η.map clr } σ2 H2 := by
                have := SR.clr (a := G.xa) hs2
                refine this.reG a fun j e => ?_
                rw [List.getElem?_map] at e
                obtain ⟨x, _, hx⟩ := Option.map_eq_some_iff.mp e
                exact absurd hx (clr_ne x)
              exact h0.set (x := .ex) (ov := some (.ref a)) (oa := none) (by show i < (s'.η.map clr).length; rw [List.length_map]; exact hil) (fun _ z => z) (fun _ z => nomatch z) ⟨by simp, List.getElem?_set_self (by rw [hs2.lenσ]; exact hil), fun j hj => List.getElem?_set_ne (Ne.symm hj)⟩ rfl (fun _ => rfl)
            refine ⟨nm, C, k, rfl, rfl, hC, P, _, L2, _, hsX, ?_⟩
            have fin : ∀ {P0 : Addr → Prop} {A' : List (Option Addr)} {L' : List Addr} {σ' : List (Option V)} {H' : Hp} {s2 : S}, SR X.K X.mg { G with xa := a } P0 A' L' s2 σ' H' → Step (A2.set i none) L2 H2 A' L' H' →
                ∃ A'', SR X.K X.mg G P0 A'' L' { s2 with η := (s2.η.map clr).set i .no } (σ'.set i none) H' ∧ Step A L H A'' L' H' ∧ Step A' L' H' A'' L' H' := fun {P0 A' L' σ' H' s2} sr st => by
              obtain ⟨A'', sr', st'⟩ := (SR.clr sr).unset i
              exact ⟨A'', sr', (st2.trans (Step.drop.trans st)).trans st', st'⟩
            cases q2 : g nm { s' with η := (s'.η.map clr).set i .ex } with
            | bad => rw [q2] at h; exact h.elim
            | err _ _ => rw [q2] at h; exact h.elim
            | ok fl s2 =>
              rw [q2] at h
              cases fl with
              | nx => exact fun A' L' σ' H' sr st => let ⟨A'', sr', st', _⟩ := fin sr st; h A'' L' _ H' sr' st'
              | bk => exact fun A' L' σ' H' sr st => let ⟨A'', sr', st', _⟩ := fin sr st; h A'' L' _ H' sr' st'
              | ct => exact fun A' L' σ' H' sr st => let ⟨A'', sr', st', _⟩ := fin sr st; h A'' L' _ H' sr' st'
              | rt r => exact ⟨h.1, fun A' L' σ' v H' sr ok st => let ⟨A'', sr', st', stA⟩ := fin sr st; h.2 A'' L' _ v H' sr' (RVOk.re h.1 rfl ok stA) st'⟩
          · rw [if_neg hil] at h
            exact h.elim
        · subst eb
          exact h A2 L2 σ2 H2 C hs2 st2 hC
end
end DL
namespace DL
open PySem PySem.Spec PyProof.Rows L2
/-- the handled exception stands among the context's pins; its class is nm -/
structure HotX (X : Cx) (G : Gm) (nm : Str) : Prop where
  ex : ∃ (oe : Obj) (C : Addr), X.A.handled = some (.ref G.xa) ∧ (G.xa, oe) ∈ X.pn ∧ X.mg nm = some (.ref C) ∧ L2N.Zn (.ref C) none oe ∧ ∃ vs, oe.data = .fields vs
theorem HotX.hot {X : Cx} {G : Gm} {nm : Str} (h : HotX X G nm) : L2H.HotC X := by
  obtain ⟨oe, C, h1, h2, h3, h4, vs, h5⟩ := h.ex
  exact ⟨(G.xa, oe), ⟨h1, vs, h5, h4.2.2 vs h5⟩, h2⟩
theorem HotX.suite {X : Cx} {G : Gm} {nm : Str} {a : Addr} {oe : Obj} {C : Addr} {pn : List (Addr × Obj)} (h3 : X.mg nm = some (.ref C)) (h4 : L2N.Zn (.ref C) none oe) (h5 : ∃ vs, oe.data = .fields vs) : HotX (X.suite a ((a, oe) :: pn)) { G with xa := a } nm :=
  ⟨oe, C, rfl, List.mem_cons_self, h3, h4, h5⟩
section
variable {K : PySem.W.Frag} {mg : Str → Option Value} {X : Cx} {G : Gm} {Wx : WX} {e : Expr} {es : List Expr} {fe : EV} {pos p p2 p3 : Pos} {T : Str → Str → Option Bool} {nm : Str}
variable {P P' : Addr → Prop} {A A' A1 : List (Option Addr)} {σ σ' : L2.St} {L L' L1 : List Addr} {H H' H1 : Hp} {s s' : S}
theorem call_isX {a D : Addr} {oe : Obj} (hp : (a, oe) ∈ X.pn) (C : ExcC X.K D) (hz : L2N.Zn (.ref D) none oe) (hf : ∃ vs, oe.data = .fields vs) : CallR X (.builtin "isinstance") (rIsE X.K D a) := by
  intro pins s σ H xs us Q I r h
  obtain ⟨c, cv, b, rfl, hcv, e, q⟩ := h
  cases r with
  | cons rx rr =>
    cases rr with
    | cons rt rr =>
      cases rr
      cases rx
      have ec := hcv _ rt
      subst ec
      have hget := (I.pin (a, oe) (List.mem_append.mpr (.inl hp))).1
      have J : PySem.W.InstAt s.heap a oe D none := by
        obtain ⟨h1, h2, _⟩ := hz
        obtain ⟨oc, od, oda, osl⟩ := oe
        dsimp only at h1 h2 hget
        subst h1 h2
        obtain ⟨vs, hv⟩ := hf
        subst hv
        exact ⟨hget, rfl, rfl, trivial⟩
      exact PySem.W.kia_one (PySem.W.handS_kitx_exc C.hg C.hk C.hs C.hd C.ha C.hn C.ht C.hm) I.kIn J e (fun z => nomatch z) fun tk => ⟨.bl b, H, I.kept (t' := tk) fun _ _ z => z, rfl, q⟩
/-- isinstance(e, y), e in the slot i -/
def eIsX (T : Str → Str → Option Bool) (i : Nat) (nm y : Str) : EV := fun s => match s.η[i]? with
  | some .ex => match T nm y with
    | some b => .ok (.pv (.bl b)) s
    | none => .bad
  | _ => .bad
theorem ed_isX (F : XF X.K X.mg T) (hx : HotX X G nm) (i : Nat) {n y : Str} (hg : Gl X "isinstance") (hm : X.mg "isinstance" = none) (hN : X.N[i]? = some n) (hv : Vis X.env.scope n) (hgy : Gl X y)
    (hd : (n == ("__debug__" : Str)) = false) (hcd : (n == ("__classdict__" : Str)) = false) (hdy : (y == ("__debug__" : Str)) = false) (hy : (∃ C, X.mg y = some (.ref C)) ∨ (X.mg y = none ∧ y = "ValueError"))
    (he : starEach [.Name n p2, .Name y p3] X.env = (false, eval (.Name n p2) X.env) :: starEach [.Name y p3] X.env) (he2 : starEach [.Name y p3] X.env = (false, eval (.Name y p3) X.env) :: starEach [] X.env) (hpl : (backTo pos (starEach [.Name y p3] X.env)).any (·.1) = false) :
    ED X G Wx (.Call (.Name "isinstance" p) [.Name n p2, .Name y p3] [] pos) (eIsX T i nm y) := by
  obtain ⟨oe, D, h1, h2, h3, h4, h5⟩ := hx.ex
  -- the class as a value
  have cls : ∀ b, T nm y = some b → ∃ (c : V) (cv : Value), PE X (.Name y p3) (tC c) ∧ (∀ u, RelV c u → u = cv) ∧ PySem.W.kitOne X.K (.ref D) cv = some b := fun b hb => by
    rcases hy with ⟨C, hC⟩ | ⟨hn, rfl⟩
    · exact ⟨.ref C, .ref C, pe_glob hgy hC rfl hdy, fun u r => r, (F.is nm y b D C hb h3 hC).1⟩
    · exact ⟨.ty "ValueError", .type "ValueError", pe_bltn hgy hn (by decide +kernel) rfl (by decide) hdy, fun u r => r, F.ve nm b D hb h3⟩
  refine ⟨⟨fun pins sh σ H Q I ⟨P, A, L, s, hs, h⟩ => ?_⟩⟩
  unfold eIsX at h
  cases q : s.η[i]? with
  | none => rw [q] at h; exact h.elim
  | some x =>
    rw [q] at h
    cases x with
    | ex =>
      cases t : T nm y with
      | none => rw [t] at h; exact h.elim
      | some b =>
        rw [t] at h
        have h : Run X.K X.mg G Wx P A L H σ (.ok (.pv (.bl b)) s) (PostE X.K X.mg G P A L H σ Q) := h
        obtain ⟨c, cv, pc, hc, kb⟩ := cls b t
        refine (pe_callB (call_isX h2 (F.ec nm y b D t h3) h4 h5) hg hm bt_isinstance (pa_cons (pe_var hN hv hd hcd) (pa_cons pc pa_nil he2) he) (by decide) (by decide) he hpl).run pins sh σ H Q I ?_
        exact ⟨.ref G.xa, hs.exn i q, c, cv, b, rfl, hc, kb, tE_pure hs h (by unfold Rep; rfl)⟩
    | no => exact h.elim
    | pv _ => exact h.elim
    | ow _ => exact h.elim
    | od _ => exact h.elim
    | lc _ => exact h.elim
/-! ### a def of one parameter, called with the handled exception -/
/-- F nm W: what it hands out for an exception of the class nm -/
structure HasX (Pg : Program) (w : World) (K : PySem.W.Frag) (mg : Str → Option Value) (base : Heap) (tb : List Addr) (k : Nat) (x pn : Str) (F : Str → List (List D) → Rf) : Prop where
  ex : ∃ f fd, mg x = some (.ref f) ∧ PySem.W.keepIn K (.ref f) = true ∧ Binds K fd [pn] [] ∧
    ∀ (A : Around) (outer : List Env) (s : Shared) (H : Hp) (args : Args) (Q : VK) (E : XK) (p : Addr × Obj) (nm : Str) (C : Addr), L2H.RoomH k A → L2H.Hot1 A p → L2H.PinOk outer H s p → Env0 Pg w K mg base A outer s H → BindsTo s fd args ([pn].zip [.ref p.1]) →
      mg nm = some (.ref C) → L2N.Zn (.ref C) none p.2 → spD K mg tb (fun _ W => F nm W) [] H Q E → codeAny (model Pg w) A (.call (.ref f) args) (CR (L2N.CX Pg w) outer Pg w H s Q E) s
theorem no_ex1 {m : Nat} (i : Nat) (h : (Slot.ex :: List.replicate m .no)[i]? = some .ex) : i = 0 := by
  cases i with
  | zero => rfl
  | succ i =>
    rw [List.getElem?_cons_succ, List.getElem?_replicate] at h
    split at h <;> cases h
theorem run_bodyX {body : SV} {W : List (List D)} {n : Nat} {Q : VK} {E : XK} {tb : List Addr} {a : Addr} (sr : SR K mg ⟨H, L, tb, 0⟩ P [] L ⟨[], W⟩ [] H) {N : List Str} (hn : N.length = n + 1)
    (h : match outF (body ⟨.ex :: List.replicate n .no, W⟩) with
      | .ok r W' => ∀ L' v H', SR K mg ⟨H, L, tb, 0⟩ (Wi P r v) [] L' ⟨[], W'⟩ [] H' → RVOk K mg ⟨H, L, tb, 0⟩ P [] L' [] H' r v → Q v H'
      | .err c W' => ∀ L' H' C, SR K mg ⟨H, L, tb, 0⟩ P [] L' ⟨[], W'⟩ [] H' → mg c = some (.ref C) → E (.ref C) none H'
      | .bad => False) : tS K mg ⟨H, L, tb, a⟩ (fun cls d _ H' => E cls d H') body { nx := fun _ H' => Q .non H', rt := Q } (L2.start N [.ref a]) H := by
  let η : List Slot := .ex :: List.replicate n .no
  have lη : η.length = n + 1 := by simp [η]
  have lσ : (L2.start N [.ref a]).length = η.length := by unfold L2.start; rw [lη, hn]; simp
  have sr2 : SR K mg ⟨H, L, tb, a⟩ P (List.replicate η.length none) L ⟨η, W⟩ (L2.start N [.ref a]) H := by
    have noA : ∀ b, some b ∉ List.replicate η.length (none : Option Addr) := fun b z => by have := List.eq_of_mem_replicate z; cases this
    have sub : ∀ b, Bd P (List.replicate η.length none) L b → Bd P [] L b := Bd.sub (fun b z => absurd z (noA b)) fun _ z => z
    refine ⟨lσ, by simp, fun i x e => ?_, fun i j b e => ?_, fun b z => absurd z (noA b), sr.nd, sr.lenL, fun n ds e => ?_, fun b z => absurd z (noA b), sr.tab, sr.ent, fun b z => absurd z (noA b), fun b z => ?_, fun i e => ?_⟩
    · have hi := (List.getElem?_eq_some_iff.mp e).1
      refine ⟨(L2.start N [.ref a])[i]'(by rw [lσ]; exact hi), none, List.getElem?_eq_getElem _, by rw [List.getElem?_replicate, if_pos hi], ?_⟩
      have hx : x = .ex ∨ x = .no := by
        rcases List.mem_cons.mp (List.mem_of_getElem? e) with h | h
        · exact .inl h
        · exact .inr (List.eq_of_mem_replicate h)
      rcases hx with rfl | rfl <;> rfl
    · exact absurd (List.mem_of_getElem? e) (noA b)
    · obtain ⟨b, vs, e1, e2, r⟩ := sr.loc n ds e; exact ⟨b, vs, e1, e2, r.less sub⟩
    · have w := sr.pOk b z; exact ⟨w.1, noA b, w.2.2⟩
    · have := no_ex1 i e
      subst this
      unfold L2.start; rfl
  refine ⟨P, _, L, ⟨η, W⟩, sr2, ?_⟩
  have back : ∀ {P0 : Addr → Prop} {A2 : List (Option Addr)} {L2' : List Addr} {s2 : S} {σ2 : List (Option V)} {H2 : Hp}, SR K mg ⟨H, L, tb, a⟩ P0 A2 L2' s2 σ2 H2 → SR K mg ⟨H, L, tb, 0⟩ P0 [] L2' ⟨[], s2.W⟩ [] H2 := fun sr => sr.strip.reG (G := ⟨H, L, tb, a⟩) 0 fun i e => by simp at e
  cases q : body ⟨η, W⟩ with
  | bad => rw [q] at h; exact h
  | err c s2 =>
    rw [q] at h
    exact fun A2 L2 σ2 H2 C sr3 st3 hc => h L2 H2 C (back sr3) hc
  | ok fl s2 =>
    rw [q] at h
    cases fl with
    | bk => exact h.elim
    | ct => exact h.elim
    | nx => exact fun A2 L2 σ2 H2 sr3 st3 => h L2 .non H2 ((back sr3).lessP (Wi.pv nofun)) (by show Rep _ _ _ _ _ _; unfold Rep; rfl)
    | rt r =>
      have fin : (∀ i, r ≠ .vr i) → (∀ L' v H', SR K mg ⟨H, L, tb, 0⟩ (Wi P r v) [] L' ⟨[], s2.W⟩ [] H' → RVOk K mg ⟨H, L, tb, 0⟩ P [] L' [] H' r v → Q v H') →
          PostS K mg ⟨H, L, tb, a⟩ P (List.replicate η.length none) L H { nx := fun _ H' => Q .non H', rt := Q } (.rt r) s2 := fun nv h => ⟨nv, fun A2 L2 σ2 v H2 sr3 ok3 st3 => h L2 v H2 (back sr3) ((ok3.strip nv).reG rfl)⟩
      cases r with
      | vr i => exact h.elim
      | pv d => exact fin nofun h
      | ow d => exact fin nofun h
      | lc d => exact fin nofun h
end
/-- THE RULE for such a def -/
theorem HasX.of {Pg : Program} {w : World} {K : PySem.W.Frag} {mg : Str → Option Value} {base : Heap} {tb : List Addr} {k : Nat} {x pn : Str} {N : List Str} {n : Nat} {st : Stmt} {body : Str → SV} (R : Row K mg st x [pn]) (Sc : FnScope N [pn] (defScope st)) (hn : N.length = n + 1)
    (hb : ∀ (f : Addr) (cdv : Value) (A : Around) (outer : List Env) (s : Shared) (H : Hp) (E : XK) (p : Addr × Obj) (nm : Str) (G : Gm), G.tb = tb → L2H.RoomH k (A.deeper (envOfC x (defScope st) s.heap.objs.size f cdv)) →
      HotX (L2H.cxH (L2N.CX Pg w) Pg w K mg base N x (defScope st) f cdv A outer s H E p) G nm →
      SsD (L2H.cxH (L2N.CX Pg w) Pg w K mg base N x (defScope st) f cdv A outer s H E p) G (fun cls d _ H' => E cls d H') (defBody st) (body nm)) :
    HasX Pg w K mg base tb (k + 1) x pn (fun nm W => outF (body nm ⟨.ex :: List.replicate n .no, W⟩)) := by
  obtain ⟨f, fd, h1, F, b⟩ := R.ex
  obtain ⟨oc, od, kV, doc, pm, an, cdv, ct, osl, e0, lk, hcd⟩ := F.ex
  refine ⟨f, fd, h1, F.kp, .all b, fun A outer s H args Q E p nm C hr hot hpin env0 hbd hnm hz hsp => ?_⟩
  subst e0
  obtain ⟨C', L, args', W, sr, _, h⟩ := hsp
  have KX : K.In s.heap := env0.mod.kin.keeps fun b o e => (env0.bs b o e).1
  have lim : s.heap.NoLimit := env0.mod.nolimit.keeps fun b o e => (env0.bs b o e).1
  have hkind : ∀ y ∈ [pn].zip [Value.ref p.1], (defScope st).names.lookup y.1 = some .local ∨ ((defScope st).names.lookup y.1 = some .cell ∧ ((cellsFrom (s.heap.objs.size + 1) (defScope st).names []).lookup y.1).isSome = true) := fun ⟨n, v⟩ hy => by
    rcases Sc.par n (List.of_mem_zip hy).1 with q | q
    · exact .inl q
    · exact .inr ⟨q, PySem.W.cellsFrom_some _ _ _ (.inl q)⟩
  refine codeAny_call_function hr.depth (KX _ _ lk) rfl Sc.co Sc.gen rfl (PySem.W.codeRec_of KX hcd) (hbd _ _ _ _ ?_)
  refine wpAny_newFunctionEnv_cells Sc.kind hkind fun env he s1 xc => ?_
  subst he
  refine ⟨lim.keeps xc.toInCall.keep, codeAny_func ?_⟩
  have I : Inv (L2H.cxH (L2N.CX Pg w) Pg w K mg base N x (defScope st) f cdv A outer s H E p) [] (L2.start N [.ref p.1]) H s1 := L2H.inv_startH Sc hpin env0 rfl (.cons rfl .nil) xc
  have hx : HotX (L2H.cxH (L2N.CX Pg w) Pg w K mg base N x (defScope st) f cdv A outer s H E p) ⟨H, L, tb, p.1⟩ nm := by
    obtain ⟨a, oe⟩ := p
    obtain ⟨h1, vs, h2, _⟩ := hot
    exact ⟨oe, C, h1, List.mem_singleton.mpr rfl, hnm, hz, vs, h2⟩
  have pb := (hb f cdv A outer s H E p nm ⟨H, L, tb, p.1⟩ rfl (hr.deeper _) hx).pss
  refine wpAny_mono (pb.run [] s1 (L2.start N [.ref p.1]) H _ I (run_bodyX sr hn h)) (fun fl s' hs => ?_) fun e s' hs => hs
  have fin : ∀ {σ' : L2.St} {H' : Hp} {v : V} {u : Value}, Inv (L2H.cxH (L2N.CX Pg w) Pg w K mg base N x (defScope st) f cdv A outer s H E p) [] σ' H' s' → RelV v u → Q v H' → CE outer Pg w H s Q u s' :=
    fun {σ' H' v u} J rv q => ⟨v, H', J.os, J.bare, J.base, J.hok, rv, q⟩
  cases fl with
  | ret u =>
    obtain ⟨v, σ', H', J, rv, q⟩ := hs
    exact fin J rv q
  | next =>
    obtain ⟨σ', H', J, q⟩ := hs
    exact fin (v := V.non) (u := Value.none) J rfl q
  | brk =>
    obtain ⟨_, _, _, q⟩ := hs
    exact False.elim q
  | cont =>
    obtain ⟨_, _, _, q⟩ := hs
    exact False.elim q
end DL
namespace DL
open PySem PySem.Spec PyProof.Rows L2
/-! ### walks' ends while an exception is handled -/
section
variable {prog : Program} {w : World} {A : Around} {E : Value → Shared → Prop} {s : Shared}
theorem hot_ne {x1 it : Addr} {o : Obj} {a b : Value} (hot : HotX.HotAt A x1 s.heap) (ho : s.heap.get? it = some o) (hd : o.data = .fields #[a, b]) : x1 ≠ it := by
  obtain ⟨_, o1, vs1, h1, d1, c1⟩ := hot
  rintro rfl
  rw [ho] at h1
  cases h1
  rw [hd] at d1
  cases d1
  simp at c1
theorem list_end_hot {it l x1 : Addr} {i : Nat} {items} {Q : Option Value → Shared → Prop} (hot : HotX.HotAt A x1 s.heap) (hit : s.heap.IsListIter it l i) (hl : s.heap.IsList l items) (hx : items[i]? = none)
    (hQ : ∀ h', Heap.ExtBut it s.heap h' → Q none { s with heap := h' }) : wpAny (model prog w) A (pyNext (.ref it)) Q E s := by
  obtain ⟨o, ho, hc, hd⟩ := id hit
  obtain ⟨ol, hol, _, nl, hdl⟩ := hl
  have hne := hot_ne hot ho hd
  obtain ⟨hh, o1, vs1, h1, d1, c1⟩ := hot
  unfold pyNext
  refine wpAny_bind (wpAny_attempt (wpAny_callSpecial?_slot (name := Str.ofString "__next__") hit.typeIs slot_listiter_next
    (wpAny_call_entry slot_listiter_next hit.typeIs entry_listiter_next ?_ (args_listiter_next _))))
  show wpAny _ _ (field (.ref it) 0 >>= _) _ _ s
  refine wpAny_bind (wpAny_field ho hd (x := .ref l) rfl ?_)
  show wpAny _ _ (if (Value.ref l == Value.none) = true then _ else _) _ _ s
  rw [if_neg (show ¬ ((Value.ref l == Value.none) = true) from Bool.false_ne_true)]
  show wpAny _ _ (field (.ref it) 1 >>= _) _ _ s
  refine wpAny_bind (wpAny_field ho hd (x := .int i 0) rfl ?_)
  show wpAny _ _ (seqItems? (.ref l) >>= _) _ _ s
  refine wpAny_bind (wpAny_seqItems hol hdl ?_)
  simp only [Int.toNat_natCast, hx]
  refine wpAny_bind (wpAny_rule (wpAny_bind (wpAny_setField ho hd (by simp) ?_)))
  show wpAny _ _ (newExc (.type "StopIteration") [] >>= _) _ _ _
  refine wpAny_bind ?_
  simp only [newExc, newTuple]
  refine wpAny_bind (wpAny_newObj_type ?_ (by size_fits))
  refine wpAny_bind (m := firstArgMember _ _) (wpAny_of_eq (a := Value.none) (by first | rfl | (simp only [firstArgMember]; rfl)) ?_)
  refine wpAny_newObj_type ?_ (by size_fits)
  have g1 := (Heap.get?_update_other s.heap (Obj.mapFields (·.setIfInBounds 0 Value.none)) hne.symm).trans h1
  have g2 := Heap.get?_push_of_some { cls := .type "tuple", data := .seq #[] } g1
  refine HotX.raiseNew_hot ⟨hh, o1, vs1, Heap.get?_push_of_some _ g2, d1, c1⟩ (Nat.ne_of_lt (Heap.lt_size g2)) (Heap.get?_push_size _ rfl) rfl (by first | (simp; done) | (simp; omega) | (simp only [Array.size_append]; simp; omega)) ?_
  refine wpAny_bind (wpAny_isInstance (T := "StopIteration") (b := true) ⟨_, Heap.get?_update_self _ (Heap.get?_push_size _ rfl) rfl, rfl⟩ isSubtype_stop ?_)
  refine wpAny_pure (hQ _ fun b o hb e => ?_)
  have e1 := (Heap.get?_update_other s.heap (Obj.mapFields (·.setIfInBounds 0 Value.none)) (Ne.symm hb)).trans e
  have e2 := Heap.get?_push_of_some { cls := .type "tuple", data := .seq #[] } e1
  rw [Heap.get?_update_other _ _ (Nat.ne_of_gt (Heap.lt_size e2))]
  exact Heap.get?_push_of_some _ e2
theorem tuple_end_hot {it t x1 : Addr} {i : Nat} {items} {Q : Option Value → Shared → Prop} (hot : HotX.HotAt A x1 s.heap) (hit : IsTupIter s.heap it t i) (ht : IsTup s.heap t items) (hx : items[i]? = none)
    (hQ : ∀ h', Heap.ExtBut it s.heap h' → Q none { s with heap := h' }) : wpAny (model prog w) A (pyNext (.ref it)) Q E s := by
  obtain ⟨o, ho, hc, hd⟩ := id hit
  obtain ⟨ol, hol, _, nl, hdl⟩ := ht
  have hne := hot_ne hot ho hd
  obtain ⟨hh, o1, vs1, h1, d1, c1⟩ := hot
  unfold pyNext
  refine wpAny_bind (wpAny_attempt (wpAny_callSpecial?_slot (name := Str.ofString "__next__") hit.typeIs slot_tupleiter_next
    (wpAny_call_entry slot_tupleiter_next hit.typeIs entry_tupleiter_next ?_ (args_tupleiter_next _))))
  show wpAny _ _ (field (.ref it) 0 >>= _) _ _ s
  refine wpAny_bind (wpAny_field ho hd (x := .ref t) rfl ?_)
  show wpAny _ _ (if (Value.ref t == Value.none) = true then _ else _) _ _ s
  rw [if_neg (show ¬ ((Value.ref t == Value.none) = true) from Bool.false_ne_true)]
  show wpAny _ _ (field (.ref it) 1 >>= _) _ _ s
  refine wpAny_bind (wpAny_field ho hd (x := .int i 0) rfl ?_)
  show wpAny _ _ (seqItems? (.ref t) >>= _) _ _ s
  refine wpAny_bind (wpAny_seqItems hol hdl ?_)
  simp only [Int.toNat_natCast, hx]
  refine wpAny_bind (wpAny_rule (wpAny_bind (wpAny_setField ho hd (by simp) ?_)))
  show wpAny _ _ (newExc (.type "StopIteration") [] >>= _) _ _ _
  refine wpAny_bind ?_
  simp only [newExc, newTuple]
  refine wpAny_bind (wpAny_newObj_type ?_ (by size_fits))
  refine wpAny_bind (m := firstArgMember _ _) (wpAny_of_eq (a := Value.none) (by first | rfl | (simp only [firstArgMember]; rfl)) ?_)
  refine wpAny_newObj_type ?_ (by size_fits)
  have g1 := (Heap.get?_update_other s.heap (Obj.mapFields (·.setIfInBounds 0 Value.none)) hne.symm).trans h1
  have g2 := Heap.get?_push_of_some { cls := .type "tuple", data := .seq #[] } g1
  refine HotX.raiseNew_hot ⟨hh, o1, vs1, Heap.get?_push_of_some _ g2, d1, c1⟩ (Nat.ne_of_lt (Heap.lt_size g2)) (Heap.get?_push_size _ rfl) rfl (by first | (simp; done) | (simp; omega) | (simp only [Array.size_append]; simp; omega)) ?_
  refine wpAny_bind (wpAny_isInstance (T := "StopIteration") (b := true) ⟨_, Heap.get?_update_self _ (Heap.get?_push_size _ rfl) rfl, rfl⟩ isSubtype_stop ?_)
  refine wpAny_pure (hQ _ fun b o hb e => ?_)
  have e1 := (Heap.get?_update_other s.heap (Obj.mapFields (·.setIfInBounds 0 Value.none)) (Ne.symm hb)).trans e
  have e2 := Heap.get?_push_of_some { cls := .type "tuple", data := .seq #[] } e1
  rw [Heap.get?_update_other _ _ (Nat.ne_of_gt (Heap.lt_size e2))]
  exact Heap.get?_push_of_some _ e2
theorem assign_tup_hot {env : Env} {elts : List Expr} {k : Nat} {pos : Pos} {t x1 : Addr} {items : Array Value} {Q : Unit → Shared → Prop} (hot : HotX.HotAt A x1 s.heap) (ht : IsTup s.heap t items) (hn : (assignEach elts env).length = items.size)
    (hstar : (assignEach elts env).findIdx? (·.1) = none) (h : ∀ h', Heap.ExtBut s.heap.objs.size s.heap h' → wpAny (model prog w) A (assignInOrder ((assignEach elts env).map (·.2)) items.toList) Q E { s with heap := h' }) :
    wpAny (model prog w) A (assign (.Tuple elts k pos) env (.ref t)) Q E s := by
  rw [assign_Tuple]
  refine wpAny_bind (wpAny_standAt ?_)
  unfold unpack
  rw [hn, hstar]
  refine wpAny_bind (wpAny_holding ?_)
  have hlt : t ≠ s.heap.objs.size := by obtain ⟨o, ho, _⟩ := ht; exact Nat.ne_of_lt (Heap.lt_size ho)
  unfold unpackItems
  refine wpAny_bind ?_
  unfold notIterableAtAll
  refine wpAny_bind (wpAny_specialOf ht.typeIs slot_tuple_iter.lookup ?_)
  refine wpAny_pure ?_
  simp only [Bool.false_eq_true, if_false]
  refine wpAny_bind (wpAny_holding (iter_tuple ht ?_))
  refine wpAny_bind (wpAny_holding (draw_tuple hlt items.size 0 _ _ ⟨_, Heap.get?_push_size _ rfl, rfl, rfl⟩ (ht.push _) (by omega) fun h₁ hit₁ hs₁ => ?_))
  rw [show List.take items.size (List.drop 0 items.toList) = items.toList by rw [List.drop_zero]; exact List.take_of_length_le (by simp)]
  rw [if_neg (by simp)]
  have ht₁ : IsTup h₁ t items := (ht.push _).extBut hs₁.extBut hlt
  have hot₁ : HotX.HotAt A x1 h₁ := by
    obtain ⟨hh, o1, vs1, e1, d1, c1⟩ := hot
    exact ⟨hh, o1, vs1, hs₁.extBut _ _ (Nat.ne_of_lt (Heap.lt_size e1)) (Heap.get?_push_of_some _ e1), d1, c1⟩
  refine wpAny_bind (wpAny_holding (tuple_end_hot hot₁ hit₁ ht₁ (by simp) fun h₂ he₂ => ?_))
  simp only [Option.isSome_none, Bool.false_eq_true, if_false]
  exact wpAny_pure (h h₂ fun b o hb e => he₂ b o hb (hs₁.extBut b o hb (Heap.get?_push_of_some _ e)))
end
section
variable {K : PySem.W.Frag} {mg : Str → Option Value} {X : Cx} {G : Gm} {Wx : WX} {e : Expr} {fe : EV} {pos : Pos}
/-- its walk -/
theorem turnH_list {P : Program} {w : World} {K : PySem.W.Frag} {tg : Expr} (a it : Addr) : L2H.TurnH P w K tg (Itl K a) [it] it (fun i h => h.IsListIter it a i) where
  mem := by simp
  obj := (turn_list (P := P) (w := w) (K := K) (tg := tg) a it).obj
  keep := (turn_list (P := P) (w := w) (K := K) (tg := tg) a it).keep
  item := by
    intro X hP hw hK hc i pins s σ H E I hf st hg
    subst hP hw hK
    obtain ⟨xs, x, hq, hx⟩ := hg
    obtain ⟨its, rv, p, hz⟩ := I.list hq
    obtain ⟨u, hu, ru⟩ := rv.get hx
    obtain ⟨f0, f1, f2, f3, f4, f5⟩ := hf it (by simp)
    refine wpAny_pyNext_list_item st p.isList (x := u) (by simpa using hu) fun h' st' sb => ?_
    have I1 : Inv X pins σ H { s with heap := h' } := I.turned (t' := s.toks) (fun b o hb e => (sb.2 b hb).trans e) f0 f1 f3 f4 f5
    obtain ⟨o, e, c, d⟩ := id st'
    exact ⟨u, rfl, go_of (s := { s with heap := h' }) e c d (by decide) ⟨x, H, I1, ru, ⟨rfl, fun ys hy => by rw [I.list_inj hy hq]; exact hx⟩, st', fun b hb => (hf b hb).1⟩⟩
  done := by
    intro X hP hw hK hc i pins s σ H E I hf st hg
    subst hP hw hK
    obtain ⟨xs, hq, hx⟩ := hg
    obtain ⟨its, rv, p, hz⟩ := I.list hq
    obtain ⟨f0, f1, f2, f3, f4, f5⟩ := hf it (by simp)
    obtain ⟨x1, hot⟩ := hc.at I
    have hl := rv.length
    exact list_end_hot hot st p.isList (by simp; omega) fun h' eb => ⟨rfl, I.turned (t' := s.toks) (fun b o hb e => eb b o hb e) f0 f1 f3 f4 f5⟩
  self := fun _ _ _ _ _ st h => wpAny_pyIter_listiter st h
theorem pi_listH {tg l : Expr} {tl : TE} (hl : PE X l tl) : L2H.PIH X tg l (iList X.K tl) := by
  refine ⟨fun pins s σ H R I h => ?_⟩
  refine thn (hl.run pins s σ H _ I h) fun v s1 ⟨x, H1, I1, r1, q1⟩ => ?_
  obtain ⟨a, e, ⟨xs, hq⟩, q⟩ := q1
  subst e
  cases r1
  obtain ⟨its, rv, p, hz⟩ := I1.list hq
  refine wpAny_pyIter_list p.isList ?_
  refine ⟨s1.heap.objs.size, [s1.heap.objs.size], _, _, H1, rfl, I1.kept (t' := s1.toks) fun b o e => Heap.get?_push_of_some _ e, turnH_list a _, ⟨_, Heap.get?_push_size _ rfl, rfl, rfl⟩, fun b hb => ?_, q⟩
  have e : b = s1.heap.objs.size := by simpa using hb
  subst e
  exact I1.fpOk (Nat.le_refl _) (I1.hok.fresh (Nat.le_refl _))
theorem pg_tupH {es : List Expr} {k : Nat} {t : TGs} {n : Nat} (hc : L2H.HotC X) (h : PGs X es t) (hn : (assignEach es X.env).length = n := by rfl) (hst : (assignEach es X.env).findIdx? (·.1) = none := by rfl) : PG X (.Tuple es k pos) (gTup X.K n t) := by
  refine ⟨fun pins s σ H v u Q I r hw => ?_⟩
  obtain ⟨a, xs, e1, hq, hl, hw⟩ := hw
  subst e1
  cases r
  obtain ⟨its, rv, ht, hz⟩ := I.tuple hq
  obtain ⟨x1, hot⟩ := hc.at I
  refine assign_tup_hot hot ht (by simp [hn, ← hl, rv.length]) hst fun h' hx => ?_
  have I1 : Inv X pins σ H { s with heap := h' } := I.kept (t' := s.toks) fun b o e => hx b o (Nat.ne_of_lt (Heap.lt_size e)) e
  exact h.run pins _ σ H xs _ Q I1 (by simpa using rv) hw
end
end DL
namespace DL
open PySem PySem.Spec PyProof.Rows L2
/-! ### list comprehensions while an exception is handled: lc_core turned to the walks of TurnH -/
section
variable {X : Cx}
/-- the block's context; the handled exception is pinned -/
abbrev BlkH (X : Cx) (p : Addr × Obj) (scope : Scope) (s : Shared) (H : Hp) (ce : Env) (fp : List Addr) : Cx := { X.blk s H scope ce fp with pn := [p] }
theorem hotBlk {p : Addr × Obj} {s : Shared} {H : Hp} {scope : Scope} {ce : Env} {fp : List Addr} (h : L2H.Hot1 X.A p) : L2H.HotC (BlkH X p scope s H ce fp) := ⟨p, h, List.mem_singleton.mpr rfl⟩
theorem inv_blkH {p : Addr × Obj} {s s1 : Shared} {H H1 : Hp} {scope : Scope} {ce : Env} {fp : List Addr} {σ : L2.St} (I : Inv (X.blk s H scope ce fp) [] σ H1 s1)
    (h : s1.heap.get? p.1 = some p.2 ∧ H1 p.1 = none ∧ p.1 ≠ ce.locals ∧ p.1 ∉ frs X.stack ∧ ∀ v, p.2.data ≠ .cell v) : Inv (BlkH X p scope s H ce fp) [] σ H1 s1 :=
  ⟨⟨I.ok.mod, I.ok.kind, I.ok.glob, I.ok.blt, I.ok.above, I.ok.inj, I.ok.has, I.ok.cab, I.ok.hd, I.ok.frames, I.ok.stk, I.ok.exf, I.ok.bs, I.ok.bsz, I.ok.noex, I.ok.exfs, I.ok.funs, I.ok.frf⟩, I.os, I.bare, I.base, I.loc, I.cell, I.free, I.freeC,
    fun q hq => by
      have e : q = p := by simpa using hq
      subst e; exact h, I.hok, I.len⟩
theorem lc_coreH {pins : List (Addr × Obj)} {s : Shared} {σ : L2.St} {H : Hp} {Q : VK} {elt tg iter : Expr} {ifs : List Expr} {scope : Scope} {own : List (Str × Nat)} {pos pos' : Pos} {wi : TI} {g : TG} {tt : TT} {te : TE} {use : Option (Value → Sem Unit)} {Qf : Value → Shared → Prop}
    {p : Addr × Obj} (hp1 : L2H.Hot1 X.A p) (hp2 : p ∈ X.pn) (hN : X.N.Nodup) (I : Inv X pins σ H s) (hi : L2H.PIH X tg iter wi) (ok : BlkOk X.N X.env.scope scope own)
    (hg : ∀ (s : Shared) (H : Hp) (C : Addr) (cl : List (Str × Addr)) (fp : List Addr), PG (BlkH X p scope s H (compEnvC scope cl C X.env) fp) tg g) (ht : ∀ (s : Shared) (H : Hp) (C : Addr) (cl : List (Str × Addr)) (fp : List Addr), PTs (BlkH X p scope s H (compEnvC scope cl C X.env) fp) ifs tt)
    (he : ∀ (s : Shared) (H : Hp) (C : Addr) (cl : List (Str × Addr)) (fp : List Addr), PE (BlkH X p scope s H (compEnvC scope cl C X.env) fp) elt te) (hs : ∀ x, foldedSetIterable iter X.env x = pure x)
    (h : tLc wi g tt te (own.map (·.2)) σ H Q)
    (hRR : ∀ D C s' m H', Inv X pins σ H' s' → Q (.ref D) H' → s'.heap.Ns C m → FpOk X pins H' C → compPost (model X.prog X.w) X.A X.xe use Qf (.ref D) C (.ok .next) s') :
    wpAny (model X.prog X.w) X.A (comprehension (.ListComp elt [⟨tg, iter, ifs, 0⟩] scope pos) scope X.env pos' (newList []) false (eval iter X.env) use) Qf X.xe s := by
  have hfree : ∀ y ∈ scope.names, y.2 = .free → ∃ c, X.env.cells.lookup y.1 = some c := fun y hy e => by
    rcases ok.free y hy e with k | k
    · exact I.ok.has _ (.inl k)
    · exact I.ok.has _ (.inr k)
  refine wpAny_comprehension_free (use := use) rfl hs (closure_ok hfree) ok.kind (fun y hy e => by rw [ok.uniq y hy, e])
    (thn (hi.run pins s σ H _ I h) fun xv s1 hx => thn hx fun itv s2 h2 => ?_)
  obtain ⟨it, fp, tn, J, H2, e, I2, T, st2, f2, q⟩ := h2
  subst e
  refine wpAny_newObj_type (newEnv_comp ?_) (by show 0 ≤ sizeLine; decide)
  generalize hD : s2.heap.objs.size = D
  have hDn : H2 D = none := I2.hok.fresh (Nat.le_of_eq hD)
  obtain ⟨W, ⟨m0, w0⟩, turn⟩ := q D hDn
  generalize hs3 : ({ s2 with heap := s2.heap.push { cls := .type "list", data := .seq ([] : List Value).toArray } } : Shared) = s3
  have I3 : Inv X pins σ (upd H2 D (.lst [])) s3 := by
    rw [← hs3]
    refine I2.laid (t' := s2.toks) (fun b o e => Heap.get?_push_of_some _ e) (Nat.le_of_eq hD) ⟨Nat.zero_le _, [], 0, .nil, ?_⟩
    rw [← hD]
    exact Heap.get?_push_size _ rfl
  have h3 : s3.heap = s2.heap.push { cls := .type "list", data := .seq ([] : List Value).toArray } := by rw [← hs3]
  have f3 : ∀ b ∈ fp, FpOk X pins (upd H2 D (.lst [])) b ∧ b < s3.heap.objs.size := fun b hb => by
    obtain ⟨o, e, _⟩ := T.obj _ _ st2 b hb
    have hlt := Heap.lt_size e
    refine ⟨⟨?_, (f2 b hb).2⟩, by rw [h3, Heap.size_push]; exact Nat.lt_succ_of_lt hlt⟩
    rw [upd_ne (by rw [← hD]; exact Nat.ne_of_lt hlt)]
    exact (f2 b hb).1
  have st3 : tn 0 s3.heap := T.keep _ _ _ st2 fun b _ o e => by rw [h3]; exact Heap.get?_push_of_some _ e
  have I4 := block_start I3 ok hN f3
  have pg := hg s3 (upd H2 D (.lst [])) s3.heap.objs.size (cellsFrom (s3.heap.objs.size + 1) scope.names (cloFrom X.env.cells scope.names [])) fp
  have pt := ht s3 (upd H2 D (.lst [])) s3.heap.objs.size (cellsFrom (s3.heap.objs.size + 1) scope.names (cloFrom X.env.cells scope.names [])) fp
  have pe := he s3 (upd H2 D (.lst [])) s3.heap.objs.size (cellsFrom (s3.heap.objs.size + 1) scope.names (cloFrom X.env.cells scope.names [])) fp
  show codeAny _ _ (.compStart (.ListComp elt [⟨tg, iter, ifs, 0⟩] scope pos) 0 (.ref it) (.ref D) (compEnvC scope (cellsFrom (s3.heap.objs.size + 1) scope.names (cloFrom X.env.cells scope.names [])) s3.heap.objs.size X.env)) (compPost (model X.prog X.w) X.A X.xe use Qf (.ref D) s3.heap.objs.size) { s3 with heap := pushCells (s3.heap.push { cls := .type "dict", data := .dict #[] }) scope.names }
  have nfp : ∀ b ∈ fp, (upd H2 D (.lst [])) b = none := fun b hb => (f3 b hb).1.1
  generalize hce : compEnvC scope (cellsFrom (s3.heap.objs.size + 1) scope.names (cloFrom X.env.cells scope.names [])) s3.heap.objs.size X.env = ce at I4 pg pt pe ⊢
  have cL : ce.locals = s3.heap.objs.size := by subst hce; rfl
  generalize hH3 : upd H2 D (.lst []) = H3 at I3 I4 pg pt pe w0 nfp f3
  generalize hs4 : ({ s3 with heap := pushCells (s3.heap.push { cls := .type "dict", data := .dict #[] }) scope.names } : Shared) = s4 at I4 ⊢
  have st4 : tn 0 s4.heap := T.keep _ _ _ st3 fun b _ o e => by rw [← hs4]; exact pushCells_keeps _ _ _ _ (Heap.get?_push_of_some _ e)
  have hcB : L2H.HotC (BlkH X p scope s3 H3 ce fp) := hotBlk hp1
  have P3 := I3.pin p (List.mem_append_left _ hp2)
  have I4 := inv_blkH (p := p) I4 ⟨by rw [← hs4]; exact pushCells_keeps _ _ _ _ (Heap.get?_push_of_some _ P3.1), P3.2.1, by rw [cL]; exact Nat.ne_of_lt (Heap.lt_size P3.1), fun hm => (List.mem_cons.mp (I3.stkSub p.1 hm)).elim P3.2.2.1 P3.2.2.2.1, P3.2.2.2.2⟩
  have stat : ∀ {σ' : L2.St} {H' : Hp} {s' : Shared}, Inv (BlkH X p scope s3 H3 ce fp) [] σ' H' s' → (∀ b ∈ fp, H' b = none) → ∀ b ∈ fp, FpOk (BlkH X p scope s3 H3 ce fp) [] H' b := fun {σ' H' s'} I' hn b hb =>
    ⟨hn b hb, (I'.ok.exf b hb).1, I'.ok.exfs b hb, .inl hb, fun x c e => (I'.ok.exf b hb).2 x c e, fun q hq => by
      have e : q = p := by simpa using hq
      subst e
      exact (f3 b hb).1.2.2.2.2.2 q (List.mem_append_left _ hp2)⟩
  have loop : codeAny (model X.prog X.w) X.A (.compLoop (.ListComp elt [⟨tg, iter, ifs, 0⟩] scope pos) 0 (.ref it) (.ref D) ce) (compPost (model X.prog X.w) X.A X.xe use Qf (.ref D) s3.heap.objs.size) s4 := by
    refine compLoop_any (fun n s' => ∃ i H', Inv (BlkH X p scope s3 H3 ce fp) [] (wipe σ (own.map (·.2))) H' s' ∧ tn i s'.heap ∧ (∀ b ∈ fp, H' b = none) ∧ W i n H') ?_ m0 ⟨0, H3, I4, st4, nfp, w0⟩
    rintro n s5 ⟨i, H5, I5, st5, n5, w5⟩
    rcases turn i n H5 w5 with ⟨stop, qq⟩ | ⟨go, Nx, hNx, step⟩
    · have td := T.done (BlkH X p scope s3 H3 ce fp) rfl rfl rfl hcB i [] s5 _ H5 (fun _ _ => False) I5 (stat I5 n5) st5 stop
      refine thnF td fun r s6 ⟨hr, I6⟩ => ?_
      subst hr
      have I7 : Inv X pins σ H5 s6 := I3.call' (ch := fp) I6.os I6.base I6.hok I6.bare fun b hb => ⟨(f3 b hb).1.2.2.2.1, (f3 b hb).1.2.1, (f3 b hb).1.2.2.2.2.1, (f3 b hb).1.2.2.2.2.2⟩
      have nC : H5 s3.heap.objs.size = none := by
        have z : H5 ce.locals = none := I6.free
        rw [cL] at z
        exact z
      obtain ⟨m, hn, _⟩ := I6.loc
      have hn : s6.heap.Ns ce.locals m := hn
      rw [cL] at hn
      exact hRR D s3.heap.objs.size s6 m H5 I7 qq hn (I3.fpOk (Nat.le_refl _) nC)
    · have ti := T.item (BlkH X p scope s3 H3 ce fp) rfl rfl rfl hcB i [] s5 _ H5 (fun _ _ => False) I5 (stat I5 n5) st5 go
      refine thnF ti fun r s6 ⟨u, hr, h6⟩ => ?_
      subst hr
      refine thnF h6 fun _ s7 ⟨x, H7, I7, r7, y7, st7, n7⟩ => ?_
      have I7' := I7.pinned (stat I7 n7) (T.obj _ _ st7)
      refine thnF (pg.run _ s7 _ H7 x u _ I7' r7 (step x H7 y7)) fun _ s8 ⟨σ8, H8, I8, hw8, q8⟩ => ?_
      refine thnF (pt.run _ s8 σ8 H8 _ I8 q8) fun b s9 ⟨H9, I9, q9⟩ => ?_
      have fin : ∀ {s' : Shared} {H' : Hp}, Inv (BlkH X p scope s3 H3 ce fp) ([] ++ pinsAt fp s7.heap) σ8 H' s' → Nx H' → ∃ m, m < n ∧ ∃ i H', Inv (BlkH X p scope s3 H3 ce fp) [] (wipe σ (own.map (·.2))) H' s' ∧ tn i s'.heap ∧ (∀ b ∈ fp, H' b = none) ∧ W i m H' := fun {s' H'} I' nx => by
        obtain ⟨m', hm, w'⟩ := hNx H' nx
        have pin' : ∀ b ∈ fp, ∀ o, s7.heap.get? b = some o → s'.heap.get? b = some o ∧ H' b = none := fun b hb o e =>
          let z := I'.pin (b, o) (List.mem_append_right _ (List.mem_append_right _ (mem_pinsAt hb e)))
          ⟨z.1, z.2.1⟩
        have hl : (wipe σ (own.map (·.2))).length = σ8.length := by rw [← hw8, wipe_length]
        refine ⟨m', hm, i + 1, H', (I'.unpinned (pins := [])).weak hl (fun j v e => ?_), T.keep _ _ _ st7 fun b hb o e => (pin' b hb o e).1, fun b hb => ?_, w'⟩
        · rw [← hw8] at e
          exact (wipe_some e).1
        · obtain ⟨o, e, _⟩ := T.obj _ _ st7 b hb
          exact (pin' b hb o e).2
      cases b with
      | false =>
        simp only [Bool.false_eq_true, if_false] at q9 ⊢
        exact fin I9 q9
      | true =>
        simp only [if_true] at q9 ⊢
        refine thnF (pe.run _ s9 σ8 H9 _ I9 q9) fun z s10 ⟨yv, H10, I10, r10, acc, hD10, hz10, nx⟩ => ?_
        exact app_ok (X := BlkH X p scope s3 H3 ce fp) I10 hD10 hz10 r10 fun s11 I11 => fin I11 nx
  exact codeAny_compStart_list loop (T.self X.A 0 _ _ _ st4 loop)
end
end DL
namespace DL
open PySem PySem.Spec PyProof.Rows L2
section
variable {K : PySem.W.Frag} {mg : Str → Option Value} {X : Cx} {G : Gm} {Wx : WX} {e : Expr} {fe : EV} {pos : Pos} {nm : Str}
variable {elt tg iter c : Expr} {ifs : List Expr} {scope : Scope} {it : IV} {g : GV} {t : TV} {tt : TT}
theorem pe_lcH {p : Addr × Obj} {own : List (Str × Nat)} {wi : TI} {g : TG} {te : TE} (hp1 : L2H.Hot1 X.A p) (hp2 : p ∈ X.pn) (hN : X.N.Nodup) (hi : L2H.PIH X tg iter wi) (ok : BlkOk X.N X.env.scope scope own)
    (hg : ∀ (s : Shared) (H : Hp) (C : Addr) (cl : List (Str × Addr)) (fp : List Addr), PG (BlkH X p scope s H (compEnvC scope cl C X.env) fp) tg g) (ht : ∀ (s : Shared) (H : Hp) (C : Addr) (cl : List (Str × Addr)) (fp : List Addr), PTs (BlkH X p scope s H (compEnvC scope cl C X.env) fp) ifs tt)
    (he : ∀ (s : Shared) (H : Hp) (C : Addr) (cl : List (Str × Addr)) (fp : List Addr), PE (BlkH X p scope s H (compEnvC scope cl C X.env) fp) elt te) (hs : ∀ x, foldedSetIterable iter X.env x = pure x := by intro _; rfl) :
    PE X (.ListComp elt [⟨tg, iter, ifs, 0⟩] scope pos) (tLc wi g tt te (own.map (·.2))) := by
  refine ⟨fun pins s σ H Q I h => ?_⟩
  rw [eval_ListComp]
  refine lc_coreH hp1 hp2 hN I hi ok hg ht he hs h fun D C s' m H' I' q hn f => ⟨m, hn, fun h'' sb => ?_⟩
  obtain ⟨f0, f1, f2, f3, f4, f5⟩ := f
  exact ⟨.ref D, H', I'.turned (t' := s'.toks) (fun b o hb e => (sb.2 b hb).trans e) f0 f1 f3 f4 f5, rfl, q⟩
theorem ps_setLcH {p : Addr × Obj} {own : List (Str × Nat)} {i : Nat} {y : Str} {py spos : Pos} {wi : TI} {g : TG} {te : TE} (hp1 : L2H.Hot1 X.A p) (hp2 : p ∈ X.pn) (hN : X.N.Nodup) (hy : X.N[i]? = some y) (hyl : X.env.scope.names.lookup y = some .local)
    (hsw : swapsWith (.ListComp elt [⟨tg, iter, ifs, 0⟩] scope pos) (some (.Name y py)) spos.line X.env = pure true) (hi : L2H.PIH X tg iter wi) (ok : BlkOk X.N X.env.scope scope own)
    (hg : ∀ (s : Shared) (H : Hp) (C : Addr) (cl : List (Str × Addr)) (fp : List Addr), PG (BlkH X p scope s H (compEnvC scope cl C X.env) fp) tg g) (ht : ∀ (s : Shared) (H : Hp) (C : Addr) (cl : List (Str × Addr)) (fp : List Addr), PTs (BlkH X p scope s H (compEnvC scope cl C X.env) fp) ifs tt)
    (he : ∀ (s : Shared) (H : Hp) (C : Addr) (cl : List (Str × Addr)) (fp : List Addr), PE (BlkH X p scope s H (compEnvC scope cl C X.env) fp) elt te) (hs : ∀ x, foldedSetIterable iter X.env x = pure x := by intro _; rfl) :
    PS X (.Assign [.Name y py] (.ListComp elt [⟨tg, iter, ifs, 0⟩] scope pos) spos) (tAsg (tLc wi g tt te (own.map (·.2))) (gName i)) := by
  refine ⟨fun pins s σ H D I h => ?_⟩
  rw [exec_Assign_Name_used _ _ _ _ hsw]
  refine wpAny_bind (wpAny_standAt (wpAny_bind ?_))
  show wpAny _ X.A (do let _ ← comprehension (.ListComp elt [⟨tg, iter, ifs, 0⟩] scope pos) scope X.env (firstIterPos [⟨tg, iter, ifs, 0⟩] pos) (newList []) false (eval iter X.env) (some (assign (.Name y py) X.env))) _ _ s
  have h : tLc wi g tt te (own.map (·.2)) σ H (fun x H1 => gName i x σ H1 D.nx) := h
  refine wpAny_bind (thn (lc_coreH (Qf := fun _ s' => SP X pins D .next s') hp1 hp2 hN I hi ok hg ht he hs h fun L C s' m H' I' q hn f => ?_) fun _ s' hq => wpAny_pure (wpAny_pure hq))
  show wpAny _ _ (assign (.Name y py) X.env (.ref L)) _ _ _
  refine wpAny_assign_Name (store_ok2 (v := V.ref L) I' hN hy (.inl hyl) rfl (fun s2 I2 ⟨a, sb, ha⟩ => ?_) (.inr hyl))
  obtain ⟨f0, f1, f2, f3, f4, f5⟩ := f
  have haC : C ≠ a := by
    rcases ha with z | z
    · rw [z]; exact f1
    · exact fun e => f4 y a z e.symm
  refine ⟨m, hn.sameBut sb haC, fun h3 sb3 => ?_⟩
  exact ⟨_, H', I2.turned (t' := s2.toks) (fun b o hb e => (sb3.2 b hb).trans e) f0 f1 f3 f4 f5, q⟩
/-! walked lists -/
structure IDH (X : Cx) (G : Gm) (Wx : WX) (tg e : Expr) (f : IV) : Prop where
  pi : L2H.PIH X tg e (tI X.K X.mg G Wx f)
def iOfL (fe : EV) : IV := fun s => (fe s).bind fun r s1 => match fz r s1 with
  | some (.lst xs, s2) => .ok xs s2
  | some (.scr xs, s2) => .ok xs s2
  | _ => .bad
theorem id_listH (he : ED X G Wx e fe) : IDH X G Wx tg e (iOfL fe) := by
  refine ⟨⟨fun pins sh σ H R I ⟨P, A, L, s, hs, h⟩ => (pi_listH (tg := tg) he.pe).run pins sh σ H R I ⟨P, A, L, s, hs, ?_⟩⟩⟩
  unfold iOfL at h
  cases q : fe s with
  | bad => rw [q] at h; exact h.elim
  | err c s1 => rw [q] at h; exact h
  | ok r s1 =>
    rw [q] at h
    have h : Run X.K X.mg G Wx P A L H σ (match fz r s1 with
      | some (.lst xs, s2) => .ok xs s2
      | some (.scr xs, s2) => .ok xs s2
      | _ => .bad) (PostI X.K X.mg G P A L H σ R) := h
    intro A1 L1 v H1 a1
    split at h
    · rename_i xs s2 e1
      obtain ⟨A2, sr, rp, st⟩ := a1.frz e1
      unfold Rep at rp
      obtain ⟨p, vs, rfl, t, nb, r⟩ := rp
      exact ⟨p, rfl, ⟨vs, SqL.of t⟩, h A2 L1 H1 _ sr (itl_ok (.inl ⟨.inl t, nb⟩) r) st⟩
    · rename_i xs s2 e1
      obtain ⟨A2, sr, rp, st⟩ := a1.frz e1
      unfold Rep at rp
      obtain ⟨p, vs, rfl, t, r⟩ := rp
      exact ⟨p, rfl, ⟨vs, t.sq⟩, h A2 L1 H1 _ sr (itl_ok t r) st⟩
    · exact h.elim
/-! a tuple, taken apart -/
def gTupH (n : Nat) (gs : GVs) : GV := fun r s => match rd r s with
  | some (.tup ds) => if ds.length = n then gs ds s else .bad
  | _ => .bad
theorem gv_tupH {vs : List Nat} {es : List Expr} {k : Nat} {gs : GVs} {n : Nat} (hc : L2H.HotC X) (h : GsDv X G vs es gs) (hn : (assignEach es X.env).length = n := by rfl) (hst : (assignEach es X.env).findIdx? (·.1) = none := by rfl) : GDv X G vs (.Tuple es k pos) (gTupH n gs) := by
  refine ⟨PG.imp (pg_tupH hc h.pgs hn hst) fun v σ H Q ⟨P, A0, L0, H0, A, L, s, r, s', a, h, q⟩ => ?_⟩
  unfold gTupH at h
  have w := a.weak
  cases e1 : rd r s with
  | none => rw [e1] at h; cases h
  | some d =>
    rw [e1] at h
    have pr := rd_ok w a.ok e1
    cases d with
    | tup ds =>
      have h : (if ds.length = n then gs ds s else .bad) = .ok () s' := h
      split at h
      · rename_i hl
        obtain ⟨p, vs', rfl, t, r⟩ := pr.tup
        exact ⟨p, vs', rfl, t.sq, by rw [← r.length]; exact hl, P, A, L, s, ds, s', w, r, h, fun A3 L3 σ3 H3 sr3 st3 w3 => q A3 L3 σ3 H3 sr3 (a.st.trans st3) w3⟩
      · cases h
    | _ => cases h
/-! the comprehension -/
variable {i : Nat}
theorem ed_compH (own : List (Str × Nat)) (hx : HotX X G nm) (hN : X.N.Nodup) (hi : IDH X G Wx tg iter it) (ok : BlkOk X.N X.env.scope scope own)
    (hg : ∀ (p : Addr × Obj) (s : Shared) (H : Hp) (C : Addr) (cl : List (Str × Addr)) (fp : List Addr), L2H.HotC (BlkH X p scope s H (compEnvC scope cl C X.env) fp) → GDv (BlkH X p scope s H (compEnvC scope cl C X.env) fp) G (own.map (·.2)) tg g)
    (ht : ∀ (p : Addr × Obj) (s : Shared) (H : Hp) (C : Addr) (cl : List (Str × Addr)) (fp : List Addr), CD (BlkH X p scope s H (compEnvC scope cl C X.env) fp) G ifs t tt)
    (he : ∀ (p : Addr × Obj) (s : Shared) (H : Hp) (C : Addr) (cl : List (Str × Addr)) (fp : List Addr), ED (BlkH X p scope s H (compEnvC scope cl C X.env) fp) G W0 elt fe) (hs : ∀ x, foldedSetIterable iter X.env x = pure x := by intro _; rfl) :
    ED X G Wx (.ListComp elt [⟨tg, iter, ifs, 0⟩] scope pos) (eComp (own.map (·.2)) it g t fe) := by
  obtain ⟨p, hp1, hp2⟩ := hx.hot
  refine ⟨⟨fun pins sh σ H Q I h => ?_⟩⟩
  exact (pe_lcH (te := tE X.K X.mg G W0 fe) (g := tGv X.K X.mg G (own.map (·.2)) g) hp1 hp2 hN hi.pi ok (fun s H C cl fp => (hg p s H C cl fp (hotBlk hp1)).pg) (fun s H C cl fp => (ht p s H C cl fp).pts) (fun s H C cl fp => (he p s H C cl fp).pe) hs).run pins sh σ H Q I
    (ed_compQ (elt := elt) (tg := tg) (iter := iter) (ifs := ifs) (scope := scope) (own := own) (ht p sh H 0 [] []).of (fun h => h) h)
theorem sd_setCompH {y : Str} {py spos : Pos} (own : List (Str × Nat)) (hx : HotX X G nm) (hN : X.N.Nodup) (hy : X.N[i]? = some y) (hyl : X.env.scope.names.lookup y = some .local)
    (hsw : swapsWith (.ListComp elt [⟨tg, iter, ifs, 0⟩] scope pos) (some (.Name y py)) spos.line X.env = pure true) (hi : IDH X G Wx tg iter it) (ok : BlkOk X.N X.env.scope scope own)
    (hg : ∀ (p : Addr × Obj) (s : Shared) (H : Hp) (C : Addr) (cl : List (Str × Addr)) (fp : List Addr), L2H.HotC (BlkH X p scope s H (compEnvC scope cl C X.env) fp) → GDv (BlkH X p scope s H (compEnvC scope cl C X.env) fp) G (own.map (·.2)) tg g)
    (ht : ∀ (p : Addr × Obj) (s : Shared) (H : Hp) (C : Addr) (cl : List (Str × Addr)) (fp : List Addr), CD (BlkH X p scope s H (compEnvC scope cl C X.env) fp) G ifs t tt)
    (he : ∀ (p : Addr × Obj) (s : Shared) (H : Hp) (C : Addr) (cl : List (Str × Addr)) (fp : List Addr), ED (BlkH X p scope s H (compEnvC scope cl C X.env) fp) G W0 elt fe) (hs : ∀ x, foldedSetIterable iter X.env x = pure x := by intro _; rfl) :
    SD X G Wx (.Assign [.Name y py] (.ListComp elt [⟨tg, iter, ifs, 0⟩] scope pos) spos) (sAsg (eComp (own.map (·.2)) it g t fe) (gSet i)) := by
  obtain ⟨p, hp1, hp2⟩ := hx.hot
  refine ⟨⟨fun pins sh σ H Dn I h => ?_⟩⟩
  refine (ps_setLcH (te := tE X.K X.mg G W0 fe) (g := tGv X.K X.mg G (own.map (·.2)) g) hp1 hp2 hN hy hyl hsw hi.pi ok (fun s H C cl fp => (hg p s H C cl fp (hotBlk hp1)).pg) (fun s H C cl fp => (ht p s H C cl fp).pts) (fun s H C cl fp => (he p s H C cl fp).pe) hs).run pins sh σ H Dn I ?_
  refine ed_compQ (Wx := Wx) (elt := elt) (tg := tg) (iter := iter) (ifs := ifs) (scope := scope) (own := own) (ht p sh H 0 [] []).of (fun h => h) ?_
  exact tE.mono (tS_asg h) fun v H1 ⟨P, A0, L0, H0, A, L, s, r, a, h⟩ => run_gSet a h
/-! ### a def called with the handled exception -/
def eCallX (i : Nat) (F : Str → List (List D) → Rf) (nm : Str) : EV := fun s => match s.η[i]? with
  | some .ex => eCall (fun _ W => F nm W) aNil s
  | _ => .bad
theorem ed_callX {k j : Nat} {tb : List Addr} {F : Str → List (List D) → Rf} {x pn n : Str} {p p2 : Pos} (Fk : HasX X.prog X.w X.K X.mg X.base tb j x pn F) (hr : L2H.RoomH k X.A) (htb : G.tb = tb) (tk : L2N.Takes X Wx) (hx : HotX X G nm) (i : Nat)
    (hjk : j ≤ k) (hg : Gl X x) (hN : X.N[i]? = some n) (hv : Vis X.env.scope n) (hd : (n == ("__debug__" : Str)) = false) (hcd : (n == ("__classdict__" : Str)) = false)
    (hdb : (x == ("__debug__" : Str)) = false) (he : starEach [.Name n p2] X.env = (false, eval (.Name n p2) X.env) :: starEach [] X.env) (hpl : (backTo pos (starEach [] X.env)).any (·.1) = false) :
    ED X G Wx (.Call (.Name x p) [.Name n p2] [] pos) (eCallX i F nm) := by
  obtain ⟨f, fd, hm, hk, hb, hF⟩ := Fk.ex
  obtain ⟨oe, C, h1, h2, h3, h4, vs, h5⟩ := hx.ex
  refine ⟨⟨fun pins sh σ H Q I ⟨P, A, L, s, hs, h⟩ => ?_⟩⟩
  unfold eCallX at h
  have hex : s.η[i]? = some .ex := by
    cases q : s.η[i]? with
    | none => rw [q] at h; exact h.elim
    | some x => rw [q] at h; cases x <;> first | rfl | exact h.elim
  rw [hex] at h
  obtain ⟨P2, A2, L2', s2, hs2, h7⟩ := tE_call htb (⟨P, A, L, s, hs, h⟩ : tE X.K X.mg G Wx (eCall (fun _ W => F nm W) aNil) σ H Q)
  have hsp : spD X.K X.mg tb (fun _ W => F nm W) [] H Q fun cls d H' => Wx cls d σ H' := h7 A2 L2' [] H hs2 (by unfold ArgsOk; rfl) (Step.refl _ _ _)
  refine wpAny_Call_Name_kw (ld_glob I hg hm ?_ hdb)
  refine PySem.W.callWith_K (h₀ := X.base) I.ok.mod.kin hk (thn ((pa_cons (pe_var hN hv hd hcd) pa_nil he).run pos pins sh σ H (fun vs H1 => H1 = H ∧ vs = [.ref G.xa]) I ⟨.ref G.xa, hs.exn i hex, rfl, rfl⟩) fun us s1 ⟨vs', H1, I1, r, e1, e2⟩ => ⟨I1.kIn, ?_⟩) he hpl
  subst e1 e2
  obtain rfl : us = [Value.ref G.xa] := by
    cases r with
    | cons r rr => cases rr; cases r; rfl
  have P1 := I1.pin (G.xa, oe) (List.mem_append_left _ h2)
  have hpin : L2H.PinOk X.stack H1 s1 (G.xa, oe) := ⟨P1.1, P1.2.1, fun hm => (List.mem_cons.mp (I1.stkSub G.xa hm)).elim P1.2.2.1 P1.2.2.2.1, P1.2.2.2.2⟩
  have b := hb s1 [Value.ref G.xa] I1.kIn rfl
  rw [List.append_nil] at b
  refine wpAny_call (codeAny_mono (hF X.A X.stack s1 H1 ⟨[.ref G.xa], []⟩ Q _ (G.xa, oe) nm C (hr.mono hjk) ⟨h1, vs, h5, h4.2.2 vs h5⟩ hpin I1.env0 b h3 h4 hsp) fun r s' hq => ?_)
  cases r with
  | error e => exact L2N.passAt tk σ pins H1 s1 e s' I1 hq
  | ok fl =>
    cases fl with
    | ret u => exact I1.after hq
    | next => exact False.elim hq
    | brk => exact False.elim hq
    | cont => exact False.elim hq
end
theorem takesX {X : Cx} : L2N.Takes X (fun _ _ _ _ => False) := fun _ _ x => by
  obtain ⟨_, _, _, _, _, _, _, _, _, _, _, _, _, _, _, _, z⟩ := x
  exact z.elim
end DL
namespace DL
open PySem PySem.Spec PyProof.Rows L2
section
variable {K : PySem.W.Frag} {mg : Str → Option Value} {X : Cx} {G : Gm} {Wx : WX} {o e : Expr} {es : List Expr} {fa fb : EV} {pos : Pos}
/-! ### l.index(x), flat values -/
def flD : D → Option V
  | .non => some .non
  | .bl b => some (.bl b)
  | .int i => some (.int i)
  | .str s => some (.str s)
  | _ => none
def flDs : List D → Option (List V)
  | [] => some []
  | d :: ds => match flD d, flDs ds with
    | some v, some vs => some (v :: vs)
    | _, _ => none
def lsD : D → Option (List D)
  | .lst xs => some xs
  | .scr xs => some xs
  | _ => none
def idxOf (ds : List D) (y : D) : Option Nat := match flDs ds, flD y with
  | some vs, some w => vs.findIdx? fun z => eqV z w
  | _, _ => none
def idxD : Ob2 := fun a y => match lsD a with
  | some xs => match idxOf xs y with
    | some j => some (.pv (.int j))
    | none => none
  | none => none
theorem flD_ok {B : Addr → Prop} {H : Hp} {d : D} {v w : V} (h : Rep K mg B H d v) (e : flD d = some w) : v = w ∧ flatV w = true := by
  cases d <;> cases e <;> unfold Rep at h <;> exact ⟨h, rfl⟩
theorem flDs_ok {B : Addr → Prop} {H : Hp} : ∀ {ds : List D} {vs ws : List V}, Reps K mg B H ds vs → flDs ds = some ws → vs = ws ∧ ws.all flatV = true
  | [], vs, ws, h, e => by unfold Reps at h; cases e; exact ⟨h, rfl⟩
  | d :: ds, vs, ws, h, e => by
    unfold Reps at h
    obtain ⟨v, vs, rfl, h1, h2⟩ := h
    unfold flDs at e
    split at e
    · rename_i w ws' e1 e2
      cases e
      obtain ⟨rfl, f1⟩ := flD_ok h1 e1
      obtain ⟨rfl, f2⟩ := flDs_ok h2 e2
      exact ⟨rfl, by simp [f1, f2]⟩
    · cases e
theorem lsD_ok {B : Addr → Prop} {H : Hp} {a : D} {xs : List D} {x : V} (h : PRep K mg B H a x) (e : lsD a = some xs) : ∃ p vs, x = .ref p ∧ SqL K H p vs ∧ Reps K mg B H xs vs := by
  cases a with
  | lst ys => cases e; obtain ⟨p, vs, rfl, t, r⟩ := h.lst; exact ⟨p, vs, rfl, SqL.of t, r⟩
  | scr ys => cases e; obtain ⟨p, vs, rfl, t, r⟩ := h.scr; exact ⟨p, vs, rfl, t.sq, r⟩
  | _ => cases e
theorem opv_idx : OpV K mg (fun x y H Q => rIndex K x [y] H Q) idxD := by
  intro B H x y a b res Q hB ha hb e q
  unfold idxD at e
  split at e
  · rename_i xs e1
    split at e
    · rename_i j e2
      cases e
      obtain ⟨p, vs, rfl, sq, r⟩ := lsD_ok ha e1
      unfold idxOf at e2
      split at e2
      · rename_i ws w f1 f2
        obtain ⟨rfl, g1⟩ := flDs_ok r f1
        have hb' : y = w ∧ flatV w = true := by
          rcases hb with hb | ⟨ds, _, _, z, _⟩
          · exact flD_ok hb f2
          · subst z; cases f2
        obtain ⟨rfl, g2⟩ := hb'
        rw [List.findIdx?_eq_some_iff_getElem] at e2
        obtain ⟨hl, h1, h2⟩ := e2
        refine ⟨p, vs, y, j, vs[j], rfl, rfl, sq, g2, g1, List.getElem?_eq_getElem hl, h1, fun m z' hm hz => ?_, q _ _ .int⟩
        obtain ⟨hml, rfl⟩ := List.getElem?_eq_some_iff.mp hz
        simpa using h2 m hm
      · cases e2
    · cases e
  · cases e
/-- o.m(e), o a list -/
def eM1 (f : Ob2) (fa fb : EV) : EV := fun s => (fa s).bind fun ra s1 => match (rd ra s1).bind lsD with
  | some _ => (fb s1).bind fun rb s2 => fin2 f ra rb s2
  | none => .bad
theorem ed_m1 {m : Str} {id : String} {r : V → List V → Hp → VK → Prop} {f : Ob2} {apos cpos : Pos} (pa : PlainAttrs "list") (slot : PySem.Slot "list" m id) (hty : typeOf (.builtin id) = pure (.type "method_descriptor")) (hm : MtR X id r) (hv : OpV X.K X.mg (fun x y H Q => r x [y] H Q) f)
    (ho : ED X G Wx o fa) (he : ED X G Wx e fb)
    (hbase : attributeBase o m X.env (eval o X.env) = eval o X.env)
    (hfew : ((backTo cpos (starEach [e] X.env)).all (fun x => !x.1) && (backToKw cpos (keywordEach [] X.env)).all (fun x => x.1.isSome) && decide ([e].length + ([] : List Keyword).length + (if ([] : List Keyword).isEmpty then 0 else 1) < 30)) = true)
    (hline : (apos.endLine == cpos.line) = true) (hs : starEach [e] X.env = (false, eval e X.env) :: starEach [] X.env) : ED X G Wx (.Call (.Attribute o m apos) [e] [] cpos) (eM1 f fa fb) := by
  refine ⟨PE.imp (pe_bm pa slot hty hm ho.pe (pa_cons he.pe pa_nil hs) hbase hfew hline hs rfl) fun σ H Q ⟨P, A, L, s, hs, h⟩ => ?_⟩
  unfold eM1 at h
  refine (tE_one hs h).mono fun x H1 ⟨A1, L1, s1, ra, a1, h1⟩ => ?_
  split at h1
  · rename_i xs e1
    obtain ⟨d, e2, e3⟩ := Option.bind_eq_some_iff.mp e1
    have pr := rd_ok a1.weak a1.ok e2
    obtain ⟨q, vs, rfl, sq, _⟩ := lsD_ok pr e3
    refine ⟨.inl ⟨rfl, _, sq⟩, ?_⟩
    exact ⟨Wi P ra _, A1, L1, s1, a1.sr, ((Run.bind h1).on a1.st fun a z => .inl z).imp fun rb s2 _ hk2 A2 L2 y H2 a2 => run_fin2 hv (a2.sr.lessP fun a z => .inl (.inl z)) hs.p0 (a1.ok.step a2.st) (a2.ok.lessP fun a z => .inl z) (a1.st.trans a2.st) hk2⟩
  · exact h1.elim
theorem ed_index {apos cpos : Pos} (ho : ED X G Wx o fa) (he : ED X G Wx e fb)
    (hbase : attributeBase o "index" X.env (eval o X.env) = eval o X.env := by rfl)
    (hfew : ((backTo cpos (starEach [e] X.env)).all (fun x => !x.1) && (backToKw cpos (keywordEach [] X.env)).all (fun x => x.1.isSome) && decide ([e].length + ([] : List Keyword).length + (if ([] : List Keyword).isEmpty then 0 else 1) < 30)) = true := by rfl)
    (hline : (apos.endLine == cpos.line) = true := by rfl) (hs : starEach [e] X.env = (false, eval e X.env) :: starEach [] X.env := by rfl) : ED X G Wx (.Call (.Attribute o "index" apos) [e] [] cpos) (eM1 idxD fa fb) :=
  ed_m1 PySem.F.plainAttrs_list PySem.F.slot_list_index PySem.F.type_list_index mt_index opv_idx ho he hbase hfew hline hs
end
end DL
namespace DL
open PySem PySem.Spec PyProof.Rows L2
/-! ### the classes of a program, by a table -/
abbrev CT := List (Str × Str × Bool)
def xT (tb : CT) (x y : Str) : Option Bool := (tb.find? fun p => p.1 == x && p.2.1 == y).map (·.2.2)
def excB (K : PySem.W.Frag) (D : Addr) : Bool :=
  decide (PySem.W.findIn K (.ref D) "__getattribute__" = some (some (.builtin "BaseException.__getattribute__"))) && decide (PySem.W.findIn K (.ref D) "__getattr__" = some none) && decide (PySem.W.subIn K (.ref D) (.type "BaseException") = some true) &&
  PySem.W.hasDictIn K D && decide (PySem.W.findIn K (.ref D) "__class__" = some (some (.builtin "object.__class__"))) && decide (PySem.W.specialIn K (.builtin "object.__class__") "__get__" = some (some (.builtin "getset_descriptor.__get__"))) &&
  decide (PySem.W.takesIn K (.builtin "object.__class__") = some true) && decide (PySem.W.mroIn K D (.type "object") = some true)
theorem excB_ok {K : PySem.W.Frag} {D : Addr} (h : excB K D = true) : ExcC K D := by
  unfold excB at h
  simp only [Bool.and_eq_true, decide_eq_true_eq] at h
  obtain ⟨⟨⟨⟨⟨⟨⟨h1, h2⟩, h3⟩, h4⟩, h5⟩, h6⟩, h7⟩, h8⟩ := h
  exact ⟨h1, h2, h3, h4, h5, h6, h7, h8⟩
def exB (ns : List Str) (tb : CT) (K : PySem.W.Frag) : Bool :=
  (ns.all fun x => excB K (He.ga K x) && (He.Fa.exc x).ok K) &&
  tb.all fun p => if p.2.1 == "ValueError" then decide (PySem.W.kitOne K (.ref (He.ga K p.1)) (.type "ValueError") = some p.2.2)
    else decide (PySem.W.kitOne K (.ref (He.ga K p.1)) (.ref (He.ga K p.2.1)) = some p.2.2) && decide (PySem.W.exmOne K (.ref (He.ga K p.1)) (.ref (He.ga K p.2.1)) = some p.2.2)
theorem xT_mem {tb : CT} {x y : Str} {b : Bool} (h : xT tb x y = some b) : (x, y, b) ∈ tb := by
  unfold xT at h
  obtain ⟨p, e, rfl⟩ := Option.map_eq_some_iff.mp h
  have m := List.mem_of_find?_eq_some e
  have q := List.find?_some e
  simp only [Bool.and_eq_true, beq_iff_eq] at q
  obtain ⟨rfl, rfl⟩ := q
  exact m
theorem xf_of {ns : List Str} {tb : CT} {K : PySem.W.Frag} {mg : Str → Option Value} (hE : exB ns tb K = true) (hm : ∀ x ∈ ns, mg x = some (.ref (He.ga K x))) (hv : mg "ValueError" = none)
    (hc : (tb.all fun p => ns.contains p.1 && (p.2.1 == "ValueError" || ns.contains p.2.1)) = true) : XF K mg (xT tb) := by
  unfold exB at hE
  obtain ⟨h1, h2⟩ := (Bool.and_eq_true _ _).mp hE
  have n1 : ∀ x y b, xT tb x y = some b → x ∈ ns ∧ (y = "ValueError" ∨ y ∈ ns) := fun x y b e => by
    have q := List.all_eq_true.mp hc _ (xT_mem e)
    simp only [Bool.and_eq_true, Bool.or_eq_true, beq_iff_eq, List.contains_iff_mem] at q
    exact q
  have one : ∀ x ∈ ns, excB K (He.ga K x) = true ∧ (He.Fa.exc x).ok K = true := fun x hx => by
    have q := List.all_eq_true.mp h1 _ hx
    exact (Bool.and_eq_true _ _).mp q
  have at_ : ∀ x D, x ∈ ns → mg x = some (.ref D) → D = He.ga K x := fun x D hx e => by
    rw [hm x hx] at e; cases e; rfl
  refine ⟨fun nm y b D C e eD eC => ?_, fun nm b D e eD => ?_, fun nm y b D e eD => ?_, fun nm y b e => ?_⟩
  · obtain ⟨hx, hy⟩ := n1 _ _ _ e
    have ny : y ≠ "ValueError" := fun z => by subst z; rw [hv] at eC; cases eC
    have hy := hy.resolve_left ny
    obtain rfl := at_ _ _ hx eD
    obtain rfl := at_ _ _ hy eC
    have q := List.all_eq_true.mp h2 _ (xT_mem e)
    simp only at q
    rw [if_neg (by simpa using ny)] at q
    obtain ⟨q1, q2⟩ := (Bool.and_eq_true _ _).mp q
    exact ⟨of_decide_eq_true q1, of_decide_eq_true q2⟩
  · obtain ⟨hx, _⟩ := n1 _ _ _ e
    obtain rfl := at_ _ _ hx eD
    have q := List.all_eq_true.mp h2 _ (xT_mem e)
    simp only at q
    rw [if_pos (by decide +kernel)] at q
    exact of_decide_eq_true q
  · obtain ⟨hx, _⟩ := n1 _ _ _ e
    obtain rfl := at_ _ _ hx eD
    exact excB_ok (one _ hx).1
  · obtain ⟨hx, _⟩ := n1 _ _ _ e
    exact ⟨_, hm _ hx, He.exc_ok (one _ hx).2⟩
section
variable {X : Cx} {G : Gm} {Wx : WX} {e : Expr} {es : List Expr} {st : Stmt} {pos : Pos} {T : Str → Str → Option Bool}
theorem ed_bad : ED X G Wx e fun _ => .bad := ⟨⟨fun pins s σ H Q I ⟨_, _, _, _, _, h⟩ => h.elim⟩⟩
theorem sd_bad : SD X G Wx st fun _ => .bad := ⟨⟨fun pins s σ H Q I ⟨_, _, _, _, _, h⟩ => h.elim⟩⟩
def sBad : SV := fun _ => .bad
theorem sd_bad' : SD X G Wx st sBad := sd_bad
theorem sd_tryP {i : Nat} {n y : Str} {np pos' : Pos} {body suite : List Stmt} {b0 : Stmt} {f : SV} {g : Str → SV} (F : XF X.K X.mg T) (hT : T y y = some true) (hs : X.stack = X.env :: X.outer) (hf : X.env.frame = some X.env.locals) (hN : X.N.Nodup) (hi : X.N[i]? = some n)
    (hln : X.env.kindOf n = some .local) (hg : Gl X y) (hdb : (y == ("__debug__" : Str)) = false) (tk : L2N.Takes X Wx)
    (hb : ∀ (W : WX) (pn : List (Addr × Obj)) (xe : Value → Shared → Prop), L2N.Takes (X.tr pn xe) W → PassesOwn (model X.prog X.w) X.A X.env xe → SsD (X.tr pn xe) G W body f)
    (hsu : ∀ (nm : Str) (a : Addr) (oe : Obj) (pn : List (Addr × Obj)), T nm y = some true → HotX (X.suite a ((a, oe) :: pn)) { G with xa := a } nm → SsD (X.suite a ((a, oe) :: pn)) { G with xa := a } W0 (b0 :: suite) (g nm)) :
    SD X G Wx (.Try body [.ExceptHandler (some (.Name y np)) (some n) (b0 :: suite) pos'] [] [] pos) (sTry (fun nm => T nm y) i f g) := by
  obtain ⟨P, hP, _⟩ := F.rz y y true hT
  refine sd_try (c := .ref P) (fun nm => T nm y) hs hf hN hi hln ?_ tk (fun nm b C e eC => (F.is nm y b C P e eC hP).2) hb fun nm a oe C pn e eC hz hv => hsu nm a oe pn e (HotX.suite eC hz hv)
  exact ⟨hg, hdb, .inl hP⟩
end
end DL
namespace DL
open PySem PySem.Spec PyProof.Rows L2
/-! ### the rules of exceptions with their side conditions found -/
theorem XF.cls {K : PySem.W.Frag} {mg : Str → Option Value} {T : Str → Str → Option Bool} (F : XF K mg T) {y : Str} (h : T y y = some true) : ∃ C, mg y = some (.ref C) := let ⟨D, e, _⟩ := F.rz y y true h; ⟨D, e⟩
theorem roomS {k : Nat} {A A' : Around} (r : Room k A) (h1 : A'.depth = A.depth) (h2 : A'.units = A.units) : L2H.RoomH k A' := ⟨by rw [h1]; exact r.dp, by rw [h2]; exact r.un⟩
theorem u64H {k : Nat} {A : Around} (r : L2H.RoomH k A) : A.units + 64 < cLine := by have := r.un; omega
theorem u65H {k : Nat} {A : Around} (r : L2H.RoomH k A) : A.units + 65 < cLine := by have := r.un; omega
section
variable {X : Cx} {G : Gm} {Wx : WX} {e c : Expr} {es : List Expr} {st : Stmt} {pos p p2 p3 : Pos} {T : Str → Str → Option Bool} {nm : Str}
theorem ed_isC (F : XF X.K X.mg T) (hx : HotX X G nm) (i : Nat) {n y : Str} (hm : X.mg "isinstance" = none) (hT : T y y = some true) (hg : Gl X "isinstance" := by rfl) (hN : X.N[i]? = some n := by rfl)
    (hv : Vis X.env.scope n := by first | exact Or.inl rfl | exact Or.inr (Or.inl rfl) | exact Or.inr (Or.inr rfl)) (hgy : Gl X y := by rfl)
    (hd : (n == ("__debug__" : Str)) = false := by decide) (hcd : (n == ("__classdict__" : Str)) = false := by decide) (hdy : (y == ("__debug__" : Str)) = false := by decide)
    (he : starEach [.Name n p2, .Name y p3] X.env = (false, eval (.Name n p2) X.env) :: starEach [.Name y p3] X.env := by rfl) (he2 : starEach [.Name y p3] X.env = (false, eval (.Name y p3) X.env) :: starEach [] X.env := by rfl) (hpl : (backTo pos (starEach [.Name y p3] X.env)).any (·.1) = false := by rfl) :
    ED X G Wx (.Call (.Name "isinstance" p) [.Name n p2, .Name y p3] [] pos) (eIsX T i nm y) := ed_isX F hx i hg hm hN hv hgy hd hcd hdy (.inl (F.cls hT)) he he2 hpl
theorem ed_isV (F : XF X.K X.mg T) (hx : HotX X G nm) (i : Nat) {n : Str} (hm : X.mg "isinstance" = none) (hV : X.mg "ValueError" = none) (hg : Gl X "isinstance" := by rfl) (hN : X.N[i]? = some n := by rfl)
    (hv : Vis X.env.scope n := by first | exact Or.inl rfl | exact Or.inr (Or.inl rfl) | exact Or.inr (Or.inr rfl)) (hgy : Gl X "ValueError" := by rfl)
    (hd : (n == ("__debug__" : Str)) = false := by decide) (hcd : (n == ("__classdict__" : Str)) = false := by decide)
    (he : starEach [.Name n p2, .Name "ValueError" p3] X.env = (false, eval (.Name n p2) X.env) :: starEach [.Name "ValueError" p3] X.env := by rfl) (he2 : starEach [.Name "ValueError" p3] X.env = (false, eval (.Name "ValueError" p3) X.env) :: starEach [] X.env := by rfl) (hpl : (backTo pos (starEach [.Name "ValueError" p3] X.env)).any (·.1) = false := by rfl) :
    ED X G Wx (.Call (.Name "isinstance" p) [.Name n p2, .Name "ValueError" p3] [] pos) (eIsX T i nm "ValueError") := ed_isX F hx i hg hm hN hv hgy hd hcd (by decide) (.inr ⟨hV, rfl⟩) he he2 hpl
theorem ed_callW {k j : Nat} {tb : List Addr} {F : Str → List (List D) → Rf} {x pn n : Str} (Fk : HasX X.prog X.w X.K X.mg X.base tb j x pn F) (hr : L2H.RoomH k X.A) (htb : G.tb = tb) (tk : L2N.Takes X Wx) (hx : HotX X G nm) (i : Nat)
    (hjk : j ≤ k) (hg : Gl X x := by rfl) (hN : X.N[i]? = some n := by rfl) (hv : Vis X.env.scope n := by first | exact Or.inl rfl | exact Or.inr (Or.inl rfl) | exact Or.inr (Or.inr rfl)) (hd : (n == ("__debug__" : Str)) = false := by decide) (hcd : (n == ("__classdict__" : Str)) = false := by decide)
    (hdb : (x == ("__debug__" : Str)) = false := by decide) (he : starEach [.Name n p2] X.env = (false, eval (.Name n p2) X.env) :: starEach [] X.env := by rfl) (hpl : (backTo pos (starEach [] X.env)).any (·.1) = false := by rfl) :
    ED X G Wx (.Call (.Name x p) [.Name n p2] [] pos) (eCallX i F nm) := ed_callX Fk hr htb tk hx i hjk hg hN hv hd hcd hdb he hpl
theorem sd_raiseD {F : XF X.K X.mg T} {nm m : Str} {j : Nat} {pos' : Pos} (hc : X.calm = true) (tk : L2N.Takes X Wx) (h : T nm nm = some true) (hg : Gl X nm := by rfl) (hdb : (nm == ("__debug__" : Str)) = false := by decide) :
    SD X G Wx (.Raise (some (.Call (.Name nm p) [.Constant (.str m) j p2] [] pos)) none pos') (sRaise nm) := sd_raise F hc tk h hg hdb
variable {elt tg iter : Expr} {scope : Scope} {it : IV} {g : GV} {t : TV} {fe : EV}
theorem ed_compH0 (own : List (Str × Nat)) (hx : HotX X G nm) (hN : X.N.Nodup) (hi : IDH X G Wx tg iter it) (ok : BlkOk X.N X.env.scope scope own)
    (hg : ∀ (p : Addr × Obj) (s : Shared) (H : Hp) (C : Addr) (cl : List (Str × Addr)) (fp : List Addr), L2H.HotC (BlkH X p scope s H (compEnvC scope cl C X.env) fp) → GDv (BlkH X p scope s H (compEnvC scope cl C X.env) fp) G (own.map (·.2)) tg g)
    (he : ∀ (p : Addr × Obj) (s : Shared) (H : Hp) (C : Addr) (cl : List (Str × Addr)) (fp : List Addr), ED (BlkH X p scope s H (compEnvC scope cl C X.env) fp) G W0 elt fe) (hs : ∀ x, foldedSetIterable iter X.env x = pure x := by intro _; rfl) :
    ED X G Wx (.ListComp elt [⟨tg, iter, [], 0⟩] scope pos) (eComp (own.map (·.2)) it g tTrue fe) := ed_compH (tt := tYes) own hx hN hi ok hg (fun _ _ _ _ _ _ => cd_nil) he hs
theorem ed_compH1 (own : List (Str × Nat)) (hx : HotX X G nm) (hN : X.N.Nodup) (hi : IDH X G Wx tg iter it) (ok : BlkOk X.N X.env.scope scope own)
    (hg : ∀ (p : Addr × Obj) (s : Shared) (H : Hp) (C : Addr) (cl : List (Str × Addr)) (fp : List Addr), L2H.HotC (BlkH X p scope s H (compEnvC scope cl C X.env) fp) → GDv (BlkH X p scope s H (compEnvC scope cl C X.env) fp) G (own.map (·.2)) tg g)
    (ht : ∀ (p : Addr × Obj) (s : Shared) (H : Hp) (C : Addr) (cl : List (Str × Addr)) (fp : List Addr), TD (BlkH X p scope s H (compEnvC scope cl C X.env) fp) G W0 c t)
    (he : ∀ (p : Addr × Obj) (s : Shared) (H : Hp) (C : Addr) (cl : List (Str × Addr)) (fp : List Addr), ED (BlkH X p scope s H (compEnvC scope cl C X.env) fp) G W0 elt fe) (hs : ∀ x, foldedSetIterable iter X.env x = pure x := by intro _; rfl) :
    ED X G Wx (.ListComp elt [⟨tg, iter, [c], 0⟩] scope pos) (eComp (own.map (·.2)) it g t fe) := ed_compH (tt := tT X.K X.mg G W0 t) own hx hN hi ok hg (fun p s H C cl fp => cd_one (ht p s H C cl fp)) he hs
theorem sd_setCompH1 {i : Nat} {y : Str} {py spos : Pos} (own : List (Str × Nat)) (hx : HotX X G nm) (hN : X.N.Nodup) (hy : X.N[i]? = some y) (hyl : X.env.scope.names.lookup y = some .local)
    (hsw : swapsWith (.ListComp elt [⟨tg, iter, [c], 0⟩] scope pos) (some (.Name y py)) spos.line X.env = pure true) (hi : IDH X G Wx tg iter it) (ok : BlkOk X.N X.env.scope scope own)
    (hg : ∀ (p : Addr × Obj) (s : Shared) (H : Hp) (C : Addr) (cl : List (Str × Addr)) (fp : List Addr), L2H.HotC (BlkH X p scope s H (compEnvC scope cl C X.env) fp) → GDv (BlkH X p scope s H (compEnvC scope cl C X.env) fp) G (own.map (·.2)) tg g)
    (ht : ∀ (p : Addr × Obj) (s : Shared) (H : Hp) (C : Addr) (cl : List (Str × Addr)) (fp : List Addr), TD (BlkH X p scope s H (compEnvC scope cl C X.env) fp) G W0 c t)
    (he : ∀ (p : Addr × Obj) (s : Shared) (H : Hp) (C : Addr) (cl : List (Str × Addr)) (fp : List Addr), ED (BlkH X p scope s H (compEnvC scope cl C X.env) fp) G W0 elt fe) (hs : ∀ x, foldedSetIterable iter X.env x = pure x := by intro _; rfl) :
    SD X G Wx (.Assign [.Name y py] (.ListComp elt [⟨tg, iter, [c], 0⟩] scope pos) spos) (sAsg (eComp (own.map (·.2)) it g t fe) (gSet i)) := sd_setCompH (tt := tT X.K X.mg G W0 t) own hx hN hy hyl hsw hi ok hg (fun p s H C cl fp => cd_one (ht p s H C cl fp)) he hs
end
end DL
namespace DL
open PySem PySem.Spec PyProof.Rows
/-! ### zip of a list and a tuple: the proofs of two tuples, turned -/
section
variable {prog : Program} {w : World} {A : Around} {E : Value → Shared → Prop} {s : Shared}
theorem zipM_next_item {z TI TO i1 i2 l1 l2 : Addr} {k1 k2 : Nat} {xs ys : Array Value} {x y a b : Value} {Q : Value → Shared → Prop} (D : ZipApart z TI TO i1 i2 l1 l2)
    (hz : IsZip s.heap z TI TO .none) (hTI : IsPair s.heap TI (.ref i1) (.ref i2)) (hTO : IsPair s.heap TO a b)
    (h1 : s.heap.IsListIter i1 l1 k1) (h2 : s.heap.IsTupleIter i2 l2 k2) (hl1 : s.heap.IsList l1 xs) (hl2 : s.heap.IsTuple l2 ys) (hx : xs[k1]? = some x) (hy : ys[k2]? = some y)
    (hQ : ∀ h', IsZip h' z TI TO (rawInt s.heap.objs.size) → IsPair h' TO x y → h'.IsListIter i1 l1 (k1 + 1) → h'.IsTupleIter i2 l2 (k2 + 1) → IsPair h' s.heap.objs.size x y → h'.objs.size = s.heap.objs.size + 1 →
      (∀ c o, c ≠ z → c ≠ TO → c ≠ i1 → c ≠ i2 → s.heap.get? c = some o → h'.get? c = some o) → Q (.ref s.heap.objs.size) { s with heap := h' }) :
    wpAny (model prog w) A (Builtin.«zip.__next__» ⟨[.ref z], []⟩) (fun fin s' => ∃ v, fin = .done (.ret v) ∧ Q v s') E s := by
  show wpAny _ _ (field (.ref z) 2 >>= _) _ _ _
  refine wpAny_bind (wpAny_field hz rfl (x := .bool false) rfl ?_)
  show wpAny _ _ (field (.ref z) 3 >>= _) _ _ _
  refine wpAny_bind (wpAny_field hz rfl (x := .ref TI) rfl ?_)
  refine wpAny_bind (wpAny_seqItems hTI rfl ?_)
  show wpAny _ _ (Builtin.SmallTypes.ownedTupleIsFree (.ref z) >>= _) _ _ _
  refine wpAny_bind ?_
  unfold Builtin.SmallTypes.ownedTupleIsFree
  refine wpAny_bind (wpAny_field hz rfl (x := .none) rfl (wpAny_pure ?_))
  simp only [if_true]
  refine wpAny_bind (wpAny_rule ?_)
  refine wpAny_bind (wpAny_field hz rfl (x := .ref TO) rfl ?_)
  refine wpAny_bind (wpAny_setField_rec hz (by simp) fun h₁ hz₁ hs₁ => ?_)
  replace hz₁ : IsZip h₁ z TI TO .ellipsis := hz₁
  refine wpAny_bind ?_
  simp only [List.zipIdx_cons, List.zipIdx_nil, List.forIn_cons, List.forIn_nil]
  refine wpAny_bind (wpAny_bind (wpAny_onRaise ?_))
  show wpAny _ _ (Builtin.SmallTypes.nextOf (.ref i1) >>= _) _ _ _
  refine wpAny_bind (wpAny_nextOf_list_item (h1.extBut hs₁.extBut D.i1z) (hl1.extBut hs₁.extBut D.l1z) hx fun h₂ h1₂ hs₂ => wpAny_pure ?_)
  have hTO₂ : IsPair h₂ TO a b := hs₂.extBut _ _ D.TOi1 (hs₁.extBut _ _ D.TOz hTO)
  refine wpAny_bind (wpAny_seqItems hTO₂ rfl ?_)
  refine wpAny_bind (wpAny_updateSeq_pair hTO₂ fun h₃ hTO₃ hs₃ => ?_)
  replace hTO₃ : IsPair h₃ TO x b := hTO₃
  refine wpAny_bind (wpAny_letGo (wpAny_pure ?_))
  refine wpAny_bind (wpAny_bind (wpAny_onRaise ?_))
  show wpAny _ _ (Builtin.SmallTypes.nextOf (.ref i2) >>= _) _ _ _
  refine wpAny_bind (RZ.nextOf_tuple_item (((h2.extBut hs₁.extBut D.i2z).extBut hs₂.extBut D.i12.symm).extBut hs₃.extBut D.TOi2.symm)
    (((hl2.extBut hs₁.extBut D.l2z).extBut hs₂.extBut D.l2i1).extBut hs₃.extBut D.l2TO) hy fun h₄ h2₄ hs₄ => wpAny_pure ?_)
  have hTO₄ : IsPair h₄ TO x b := hs₄.extBut _ _ D.TOi2 hTO₃
  refine wpAny_bind (wpAny_seqItems hTO₄ rfl ?_)
  refine wpAny_bind (wpAny_updateSeq_pair hTO₄ fun h₅ hTO₅ hs₅ => ?_)
  replace hTO₅ : IsPair h₅ TO x y := hTO₅
  refine wpAny_bind (wpAny_letGo (wpAny_pure (wpAny_pure ?_)))
  refine wpAny_bind (wpAny_seqItems hTO₅ rfl ?_)
  refine wpAny_bind (wpAny_newTuple ?_)
  have hsz : h₅.objs.size = s.heap.objs.size := by rw [hs₅.1, hs₄.1, hs₃.1, hs₂.1, hs₁.1]
  have hz₅ : IsZip h₅ z TI TO .ellipsis := hs₅.extBut _ _ D.TOz.symm (hs₄.extBut _ _ D.i2z.symm (hs₃.extBut _ _ D.TOz.symm (hs₂.extBut _ _ D.i1z.symm hz₁)))
  have hk₅ : ∀ c o, c ≠ z → c ≠ TO → c ≠ i1 → c ≠ i2 → s.heap.get? c = some o → h₅.get? c = some o := fun c o c1 c2 c3 c4 e =>
    hs₅.extBut _ _ c2 (hs₄.extBut _ _ c4 (hs₃.extBut _ _ c2 (hs₂.extBut _ _ c3 (hs₁.extBut _ _ c1 e))))
  have h1₅ : h₅.IsListIter i1 l1 (k1 + 1) := ((h1₂.extBut hs₃.extBut D.TOi1.symm).extBut hs₄.extBut D.i12).extBut hs₅.extBut D.TOi1.symm
  have h2₅ : h₅.IsTupleIter i2 l2 (k2 + 1) := h2₄.extBut hs₅.extBut D.TOi2.symm
  have hzlt : z < h₅.objs.size := Heap.lt_size hz₅
  have hTOlt : TO < h₅.objs.size := Heap.lt_size hTO₅
  have hi1lt : i1 < h₅.objs.size := by obtain ⟨_, e, _⟩ := h1₅; exact Heap.lt_size e
  have hi2lt : i2 < h₅.objs.size := by obtain ⟨_, e, _⟩ := h2₅; exact Heap.lt_size e
  show wpAny _ _ (Builtin.SmallTypes.ownedTupleHandOut (.ref z) (.ref h₅.objs.size) >>= _) _ _ _
  refine wpAny_bind ?_
  unfold Builtin.SmallTypes.ownedTupleHandOut
  have hz₆ : IsZip (h₅.push { cls := .type "tuple", data := .seq #[x, y] }) z TI TO .ellipsis := Heap.get?_push_of_some _ hz₅
  refine wpAny_bind (wpAny_setField_rec hz₆ (by simp) fun h₇ hz₇ hs₇ => ?_)
  replace hz₇ : IsZip h₇ z TI TO (rawInt h₅.objs.size) := hz₇
  refine wpAny_setField_rec hz₇ (by simp) fun h₈ hz₈ hs₈ => ?_
  replace hz₈ : IsZip h₈ z TI TO (rawInt h₅.objs.size) := hz₈
  have up : ∀ c o, c ≠ z → h₅.get? c = some o → h₈.get? c = some o := fun c o c1 e => hs₈.extBut _ _ c1 (hs₇.extBut _ _ c1 (Heap.get?_push_of_some _ e))
  have hT₈ : IsPair h₈ h₅.objs.size x y := hs₈.extBut _ _ (Nat.ne_of_gt hzlt) (hs₇.extBut _ _ (Nat.ne_of_gt hzlt) (Heap.get?_push_size _ rfl))
  have hz8 : h₈.objs.size = h₅.objs.size + 1 := by rw [hs₈.1, hs₇.1, Heap.size_push]
  rw [hsz] at hz₈ hT₈ hz8
  refine wpAny_pure ⟨_, rfl, ?_⟩
  show Q (.ref h₅.objs.size) _
  rw [hsz]
  exact hQ h₈ hz₈ (up _ _ D.TOz hTO₅) (h1₅.at fun o e => up _ o D.i1z e) (h2₅.at fun o e => up _ o D.i2z e) hT₈ hz8 fun c o c1 c2 c3 c4 e => up c o c1 (hk₅ c o c1 c2 c3 c4 e)
theorem zipM_next_end {z TI TO i1 i2 l1 l2 : Addr} {k1 k2 : Nat} {xs ys : Array Value} {a b : Value} {Q : Fin → Shared → Prop} (hh : A.handled = none) (D : ZipApart z TI TO i1 i2 l1 l2)
    (hz : IsZip s.heap z TI TO .none) (hTI : IsPair s.heap TI (.ref i1) (.ref i2)) (hTO : IsPair s.heap TO a b)
    (h1 : s.heap.IsListIter i1 l1 k1) (h2 : s.heap.IsTupleIter i2 l2 k2) (hl1 : s.heap.IsList l1 xs) (hl2 : s.heap.IsTuple l2 ys) (hend : xs[k1]? = none ∨ ys[k2]? = none)
    (hE : ∀ h' e, (∀ c o, c ≠ z → c ≠ TO → c ≠ i1 → c ≠ i2 → s.heap.get? c = some o → h'.get? c = some o) → (∃ o, h'.get? e = some o ∧ o.cls = .type "StopIteration") → E (.ref e) { s with heap := h' }) :
    wpAny (model prog w) A (Builtin.«zip.__next__» ⟨[.ref z], []⟩) Q E s := by
  show wpAny _ _ (field (.ref z) 2 >>= _) _ _ _
  refine wpAny_bind (wpAny_field hz rfl (x := .bool false) rfl ?_)
  show wpAny _ _ (field (.ref z) 3 >>= _) _ _ _
  refine wpAny_bind (wpAny_field hz rfl (x := .ref TI) rfl ?_)
  refine wpAny_bind (wpAny_seqItems hTI rfl ?_)
  show wpAny _ _ (Builtin.SmallTypes.ownedTupleIsFree (.ref z) >>= _) _ _ _
  refine wpAny_bind ?_
  unfold Builtin.SmallTypes.ownedTupleIsFree
  refine wpAny_bind (wpAny_field hz rfl (x := .none) rfl (wpAny_pure ?_))
  simp only [if_true]
  refine wpAny_bind (wpAny_rule ?_)
  refine wpAny_bind (wpAny_field hz rfl (x := .ref TO) rfl ?_)
  refine wpAny_bind (wpAny_setField_rec hz (by simp) fun h₁ hz₁ hs₁ => ?_)
  replace hz₁ : IsZip h₁ z TI TO .ellipsis := hz₁
  refine wpAny_bind ?_
  simp only [List.zipIdx_cons, List.zipIdx_nil, List.forIn_cons, List.forIn_nil]
  refine wpAny_bind (wpAny_bind (wpAny_onRaise ?_))
  show wpAny _ _ (Builtin.SmallTypes.nextOf (.ref i1) >>= _) _ _ _
  cases hx : xs[k1]? with
  | none =>
    refine wpAny_bind (wpAny_nextOf_list_end hh (h1.extBut hs₁.extBut D.i1z) (hl1.extBut hs₁.extBut D.l1z) hx fun h₂ e hs₂ he => ?_)
    obtain ⟨oe, hoe, hce⟩ := he
    have hz₂ : IsZip h₂ z TI TO .ellipsis := hs₂ _ _ D.i1z.symm hz₁
    have hez : e ≠ z := fun x => by subst x; rw [hz₂] at hoe; cases hoe; simp at hce
    refine wpAny_setField_rec hz₂ (by simp) fun h₃ _ hs₃ => hE h₃ e (fun c o c1 _ c3 _ x => hs₃.extBut _ _ c1 (hs₂ _ _ c3 (hs₁.extBut _ _ c1 x))) ⟨oe, hs₃.extBut _ _ hez hoe, hce⟩
  | some x =>
    have hy : ys[k2]? = none := by rcases hend with h | h; rw [hx] at h; cases h; exact h
    refine wpAny_bind (wpAny_nextOf_list_item (h1.extBut hs₁.extBut D.i1z) (hl1.extBut hs₁.extBut D.l1z) hx fun h₂ h1₂ hs₂ => wpAny_pure ?_)
    have hTO₂ : IsPair h₂ TO a b := hs₂.extBut _ _ D.TOi1 (hs₁.extBut _ _ D.TOz hTO)
    refine wpAny_bind (wpAny_seqItems hTO₂ rfl ?_)
    refine wpAny_bind (wpAny_updateSeq_pair hTO₂ fun h₃ hTO₃ hs₃ => ?_)
    refine wpAny_bind (wpAny_letGo (wpAny_pure ?_))
    refine wpAny_bind (wpAny_bind (wpAny_onRaise ?_))
    show wpAny _ _ (Builtin.SmallTypes.nextOf (.ref i2) >>= _) _ _ _
    refine wpAny_bind (RZ.nextOf_tuple_end hh (((h2.extBut hs₁.extBut D.i2z).extBut hs₂.extBut D.i12.symm).extBut hs₃.extBut D.TOi2.symm)
      (((hl2.extBut hs₁.extBut D.l2z).extBut hs₂.extBut D.l2i1).extBut hs₃.extBut D.l2TO) hy fun h₄ e hs₄ he => ?_)
    obtain ⟨oe, hoe, hce⟩ := he
    have hz₄ : IsZip h₄ z TI TO .ellipsis := hs₄ _ _ D.i2z.symm (hs₃.extBut _ _ D.TOz.symm (hs₂.extBut _ _ D.i1z.symm hz₁))
    have hez : e ≠ z := fun x => by subst x; rw [hz₄] at hoe; cases hoe; simp at hce
    refine wpAny_setField_rec hz₄ (by simp) fun h₅ _ hs₅ => hE h₅ e (fun c o c1 c2 c3 c4 x => hs₅.extBut _ _ c1 (hs₄ _ _ c4 (hs₃.extBut _ _ c2 (hs₂.extBut _ _ c3 (hs₁.extBut _ _ c1 x))))) ⟨oe, hs₅.extBut _ _ hez hoe, hce⟩
theorem pyNext_zipM_item {z TI TO i1 i2 l1 l2 : Addr} {k1 k2 : Nat} {xs ys : Array Value} {x y a b : Value} {Q : Option Value → Shared → Prop} (D : ZipApart z TI TO i1 i2 l1 l2)
    (hz : IsZip s.heap z TI TO .none) (hTI : IsPair s.heap TI (.ref i1) (.ref i2)) (hTO : IsPair s.heap TO a b)
    (h1 : s.heap.IsListIter i1 l1 k1) (h2 : s.heap.IsTupleIter i2 l2 k2) (hl1 : s.heap.IsList l1 xs) (hl2 : s.heap.IsTuple l2 ys) (hx : xs[k1]? = some x) (hy : ys[k2]? = some y)
    (hQ : ∀ h', IsZip h' z TI TO (rawInt s.heap.objs.size) → IsPair h' TO x y → h'.IsListIter i1 l1 (k1 + 1) → h'.IsTupleIter i2 l2 (k2 + 1) → IsPair h' s.heap.objs.size x y → h'.objs.size = s.heap.objs.size + 1 →
      (∀ c o, c ≠ z → c ≠ TO → c ≠ i1 → c ≠ i2 → s.heap.get? c = some o → h'.get? c = some o) → Q (some (.ref s.heap.objs.size)) { s with heap := h' }) :
    wpAny (model prog w) A (pyNext (.ref z)) Q E s := by
  have hT : s.TypeIs (.ref z) "zip" := ⟨_, hz, rfl⟩
  unfold pyNext
  exact wpAny_bind (wpAny_attempt (wpAny_callSpecial?_slot (name := Str.ofString "__next__") hT F.slot_zip_next
    (wpAny_call_entry F.slot_zip_next hT F.entry_zip_next
      (zipM_next_item D hz hTI hTO h1 h2 hl1 hl2 hx hy fun h' a1 a2 a3 a4 a5 a6 a7 => wpAny_pure (hQ h' a1 a2 a3 a4 a5 a6 a7)) (F.args_zip_next_1 _))))
theorem pyNext_zipM_end {z TI TO i1 i2 l1 l2 : Addr} {k1 k2 : Nat} {xs ys : Array Value} {a b : Value} {Q : Option Value → Shared → Prop} (hh : A.handled = none) (D : ZipApart z TI TO i1 i2 l1 l2)
    (hz : IsZip s.heap z TI TO .none) (hTI : IsPair s.heap TI (.ref i1) (.ref i2)) (hTO : IsPair s.heap TO a b)
    (h1 : s.heap.IsListIter i1 l1 k1) (h2 : s.heap.IsTupleIter i2 l2 k2) (hl1 : s.heap.IsList l1 xs) (hl2 : s.heap.IsTuple l2 ys) (hend : xs[k1]? = none ∨ ys[k2]? = none)
    (hQ : ∀ h', (∀ c o, c ≠ z → c ≠ TO → c ≠ i1 → c ≠ i2 → s.heap.get? c = some o → h'.get? c = some o) → Q none { s with heap := h' }) : wpAny (model prog w) A (pyNext (.ref z)) Q E s := by
  have hT : s.TypeIs (.ref z) "zip" := ⟨_, hz, rfl⟩
  unfold pyNext
  refine wpAny_bind (wpAny_attempt (wpAny_callSpecial?_slot (name := Str.ofString "__next__") hT F.slot_zip_next
    (wpAny_call_entry F.slot_zip_next hT F.entry_zip_next (zipM_next_end hh D hz hTI hTO h1 h2 hl1 hl2 hend fun h' e hk he => ?_) (F.args_zip_next_1 _))))
  obtain ⟨o, ho, hc⟩ := he
  refine wpAny_bind (wpAny_isInstance (T := "StopIteration") (b := true) ⟨o, ho, hc⟩ isSubtype_stop ?_)
  exact wpAny_pure (hQ _ hk)
end
abbrev zipMH1 (h : Heap) (l1 : Addr) : Heap := h.push { cls := .type "list_iterator", data := .fields #[.ref l1, .int 0 0] }
abbrev zipMH2 (h : Heap) (l1 l2 : Addr) : Heap := (zipMH1 h l1).push { cls := .type "tuple_iterator", data := .fields #[.ref l2, .int 0 0] }
abbrev zipMH3 (h : Heap) (l1 l2 : Addr) : Heap := (zipMH2 h l1 l2).push { cls := .type "tuple", data := .seq #[.ref h.objs.size, .ref (zipMH1 h l1).objs.size] }
abbrev zipMH4 (h : Heap) (l1 l2 : Addr) : Heap := (zipMH3 h l1 l2).push { cls := .type "tuple", data := .seq #[.none, .none] }
abbrev zipMH5 (h : Heap) (l1 l2 : Addr) : Heap := (zipMH4 h l1 l2).push { cls := .type "zip", data := .fields #[.none, .bool false, .bool false, .ref (zipMH2 h l1 l2).objs.size, .ref (zipMH3 h l1 l2).objs.size] }
theorem meets_zipM_new (l1 l2 : Addr) (xs ys : Array Value) :
    Meets (Builtin.«zip.__new__» ⟨[.type "zip", .ref l1, .ref l2], []⟩) (fun _ R s => s.heap.IsList l1 xs ∧ s.heap.IsTuple l2 ys ∧
      R (.ok (.ret (.ref (zipMH4 s.heap l1 l2).objs.size))) { s with heap := zipMH5 s.heap l1 l2 }) :=
  .of_wp fun prog w A R s h => by
    obtain ⟨hp, g, d, tk, os⟩ := s; obtain ⟨hl1, hl2, h⟩ := h
    have hsub := sub_zip
    have hL1 : Heap.IsList (Shared.heap ⟨hp, g, d, tk, os⟩) l1 xs := hl1
    have hL2 : Heap.IsTuple (Shared.heap ⟨hp.push { cls := .type "list_iterator", data := .fields #[.ref l1, .int 0 0] }, g, d, tk, os⟩) l2 ys := Heap.IsTuple.push hl2 _
    wp_walk using wpAny_pyIter_list hL1, wpAny_pyIter_tuple hL2
    exact ⟨_, rfl, h⟩
section
variable {prog : Program} {w : World} {A : Around} {E : Value → Shared → Prop} {s : Shared}
theorem call_zipM {l1 l2 : Addr} {xs ys : Array Value} {Q : Value → Shared → Prop} (hl1 : s.heap.IsList l1 xs) (hl2 : s.heap.IsTuple l2 ys)
    (h : ∀ h', IsZip h' (s.heap.objs.size + 4) (s.heap.objs.size + 2) (s.heap.objs.size + 3) .none → IsPair h' (s.heap.objs.size + 2) (.ref s.heap.objs.size) (.ref (s.heap.objs.size + 1)) →
      IsPair h' (s.heap.objs.size + 3) .none .none → h'.IsListIter s.heap.objs.size l1 0 → h'.IsTupleIter (s.heap.objs.size + 1) l2 0 → h'.objs.size = s.heap.objs.size + 5 →
      (∀ c o, s.heap.get? c = some o → h'.get? c = some o) → Q (.ref (s.heap.objs.size + 4)) { s with heap := h' }) :
    wpAny (model prog w) A (call (.type "zip") [.ref l1, .ref l2]) Q E s := by
  refine callType_new F.called_zip (by decide) (F.typeCall_zip_2 _ _) (F.newCall_zip_2 _ _) (fun obj => F.args_object_init_3 obj _ _) F.entry_zip_new
    (meets_zipM_new l1 l2 xs ys) ⟨hl1, hl2, ?_⟩
  have z1 : (zipMH1 s.heap l1).objs.size = s.heap.objs.size + 1 := Heap.size_push ..
  have z2 : (zipMH2 s.heap l1 l2).objs.size = s.heap.objs.size + 2 := by rw [Heap.size_push, z1]
  have z3 : (zipMH3 s.heap l1 l2).objs.size = s.heap.objs.size + 3 := by rw [Heap.size_push, z2]
  have z4 : (zipMH4 s.heap l1 l2).objs.size = s.heap.objs.size + 4 := by rw [Heap.size_push, z3]
  have z5 : (zipMH5 s.heap l1 l2).objs.size = s.heap.objs.size + 5 := by rw [Heap.size_push, z4]
  have g5 : (zipMH5 s.heap l1 l2).get? (zipMH4 s.heap l1 l2).objs.size = some _ := Heap.get?_push_size _ rfl
  have g4 : (zipMH5 s.heap l1 l2).get? (zipMH3 s.heap l1 l2).objs.size = some _ := Heap.get?_push_of_some _ (Heap.get?_push_size _ rfl)
  have g3 : (zipMH5 s.heap l1 l2).get? (zipMH2 s.heap l1 l2).objs.size = some _ := Heap.get?_push_of_some _ (Heap.get?_push_of_some _ (Heap.get?_push_size _ rfl))
  have g2 : (zipMH5 s.heap l1 l2).get? (zipMH1 s.heap l1).objs.size = some _ := Heap.get?_push_of_some _ (Heap.get?_push_of_some _ (Heap.get?_push_of_some _ (Heap.get?_push_size _ rfl)))
  have g1 : (zipMH5 s.heap l1 l2).get? s.heap.objs.size = some _ := Heap.get?_push_of_some _ (Heap.get?_push_of_some _ (Heap.get?_push_of_some _ (Heap.get?_push_of_some _ (Heap.get?_push_size _ rfl))))
  show _ ∧ _
  rw [z2, z3, z4] at g5
  rw [z1, z2] at g3
  rw [z3] at g4
  rw [z1] at g2
  rw [z4]
  exact ⟨⟨_, g5, rfl⟩, h _ g5 g3 g4 ⟨_, g1, rfl, rfl⟩ ⟨_, g2, rfl, rfl⟩ z5 fun c o x =>
    Heap.get?_push_of_some _ (Heap.get?_push_of_some _ (Heap.get?_push_of_some _ (Heap.get?_push_of_some _ (Heap.get?_push_of_some _ x))))⟩
end
section
open L2
def ItzM (K : PySem.W.Frag) (a b : Addr) : It :=
  ⟨fun i H => ∃ (xs ys : List V) (x y : V), SqL K H a xs ∧ SqT K H b ys ∧ xs[i]? = some x ∧ ys[i]? = some y,
    fun i H v H' => ∃ T x y, v = .ref T ∧ H T = none ∧ H' = upd H T (.tup [x, y]) ∧ (∀ xs, SqL K H a xs → xs[i]? = some x) ∧ ∀ ys, SqT K H b ys → ys[i]? = some y,
    fun i H => ∃ xs ys : List V, SqL K H a xs ∧ SqT K H b ys ∧ (xs.length ≤ i ∨ ys.length ≤ i)⟩
theorem turn_zipM {P : Program} {w : World} {K : PySem.W.Frag} {elts : List Expr} {kk : Nat} {tpos : Pos} {a b z TI TO i1 i2 : Addr} (D : ZipApart z TI TO i1 i2 a b) :
    Turn P w K (.Tuple elts kk tpos) (ItzM K a b) [z, TI, TO, i1, i2] z (fun i h => IsZip h z TI TO .none ∧ IsPair h TI (.ref i1) (.ref i2) ∧ (∃ x y, IsPair h TO x y) ∧ h.IsListIter i1 a i ∧ h.IsTupleIter i2 b i) where
  mem := by simp
  obj := fun i h st c hc => by
    obtain ⟨hz, hTI, ⟨x, y, hTO⟩, ⟨o1, e1, _, d1⟩, ⟨o2, e2, _, d2⟩⟩ := st
    have e' : c = z ∨ c = TI ∨ c = TO ∨ c = i1 ∨ c = i2 := by simpa using hc
    rcases e' with q | q | q | q | q
    · rw [q]; exact ⟨_, hz, fun v q => nomatch q⟩
    · rw [q]; exact ⟨_, hTI, fun v q => nomatch q⟩
    · rw [q]; exact ⟨_, hTO, fun v q => nomatch q⟩
    · rw [q]; exact ⟨o1, e1, fun v q => by rw [d1] at q; cases q⟩
    · rw [q]; exact ⟨o2, e2, fun v q => by rw [d2] at q; cases q⟩
  keep := fun i h h' st k => by
    obtain ⟨hz, hTI, ⟨x, y, hTO⟩, h1, h2⟩ := st
    exact ⟨k z (by simp) _ hz, k TI (by simp) _ hTI, ⟨x, y, k TO (by simp) _ hTO⟩, h1.at fun o q => k i1 (by simp) o q, h2.at fun o q => k i2 (by simp) o q⟩
  item := by
    intro X hP hw hK hc i pins s σ H E I hf st hg
    subst hP hw hK
    obtain ⟨hz, hTI, ⟨x0, y0, hTO⟩, h1, h2⟩ := st
    obtain ⟨xs, ys, x, y, hqx, hqy, hx, hy⟩ := hg
    obtain ⟨its, rv, p, _⟩ := I.list hqx
    obtain ⟨its2, rv2, p2, _⟩ := I.tuple hqy
    obtain ⟨u, hu, ru⟩ := rv.get hx
    obtain ⟨u2, hu2, ru2⟩ := rv2.get hy
    have hzl : z < s.heap.objs.size := Heap.lt_size hz
    refine pyNext_zipM_item D hz hTI hTO h1 h2 p.isList p2 (x := u) (y := u2) (by simpa using hu) (by simpa using hu2) fun h' z' TO' h1' h2' hT hsz hk => ?_
    refine ⟨_, rfl, wpAny_letOwnedTupleGo_zip (s := { s with heap := h' }) z' fun h'' z'' sb => ?_⟩
    have hT2 : h''.get? s.heap.objs.size = some { cls := .type "tuple", data := .seq #[u, u2] } := (sb.2 _ (Nat.ne_of_gt hzl)).trans hT
    have new : ObjOk X.prog X.w (upd H s.heap.objs.size (.tup [x, y])) h'' s.heap.objs.size (.tup [x, y]) :=
      ⟨by show 2 ≤ sizeLine; decide, [u, u2], .cons ru (.cons ru2 .nil), ⟨_, hT2, rfl, _, rfl⟩⟩
    have I1 : Inv X pins σ (upd H s.heap.objs.size (.tup [x, y])) { s with heap := h'' } :=
      I.turnedNew (t' := s.toks) (ch := [z, TI, TO, i1, i2]) (fun c o hb q => (sb.2 c (fun q' => hb (by simp [q']))).trans (hk c o (fun q' => hb (by simp [q'])) (fun q' => hb (by simp [q'])) (fun q' => hb (by simp [q'])) (fun q' => hb (by simp [q'])) q)) hf (Nat.le_refl _) new
    refine ⟨.ref s.heap.objs.size, _, I1, rfl, ⟨_, x, y, rfl, I.hok.fresh (Nat.le_refl _), rfl, fun l hl => by rw [I.list_inj hl hqx]; exact hx, fun l hl => by rw [I.tuple_inj hl hqy]; exact hy⟩, ⟨z'', ?_, ⟨u, u2, ?_⟩, ?_, ?_⟩, fun c hcm => ?_⟩
    · exact (sb.2 _ D.TIz).trans (hk _ _ D.TIz D.TITO D.TIi1 D.TIi2 hTI)
    · exact (sb.2 _ D.TOz).trans TO'
    · exact h1'.at fun o q => (sb.2 _ D.i1z).trans q
    · exact h2'.at fun o q => (sb.2 _ D.i2z).trans q
    · have hlt : c < s.heap.objs.size := by
        have e' : c = z ∨ c = TI ∨ c = TO ∨ c = i1 ∨ c = i2 := by simpa using hcm
        rcases e' with q | q | q | q | q
        · rw [q]; exact hzl
        · rw [q]; exact Heap.lt_size hTI
        · rw [q]; exact Heap.lt_size hTO
        · rw [q]; obtain ⟨_, e1, _⟩ := h1; exact Heap.lt_size e1
        · rw [q]; obtain ⟨_, e2, _⟩ := h2; exact Heap.lt_size e2
      rw [upd_ne (Nat.ne_of_lt hlt)]
      exact (hf c hcm).1
  done := by
    intro X hP hw hK hc i pins s σ H E I hf st hg
    subst hP hw hK
    obtain ⟨hz, hTI, ⟨x0, y0, hTO⟩, h1, h2⟩ := st
    obtain ⟨xs, ys, hqx, hqy, hend⟩ := hg
    obtain ⟨its, rv, p, _⟩ := I.list hqx
    obtain ⟨its2, rv2, p2, _⟩ := I.tuple hqy
    have l1 := rv.length
    have l2 := rv2.length
    have he : its.toArray[i]? = none ∨ its2.toArray[i]? = none := by
      rcases hend with q | q
      · exact .inl (by simp; omega)
      · exact .inr (by simp; omega)
    exact pyNext_zipM_end (I.ok.hd hc) D hz hTI hTO h1 h2 p.isList p2 he fun h' hk => ⟨rfl, I.turnedL (t' := s.toks) (ch := [z, TI, TO, i1, i2]) (fun c o hb q =>
      hk c o (fun q' => hb (by simp [q'])) (fun q' => hb (by simp [q'])) (fun q' => hb (by simp [q'])) (fun q' => hb (by simp [q'])) q) hf⟩
  self := fun A i s Q E st h => wpAny_pyIter_zip st.1 h
end
end DL
namespace DL
open PySem PySem.Spec PyProof.Rows L2
section
variable {K : PySem.W.Frag} {mg : Str → Option Value} {X : Cx} {G : Gm} {Wx : WX} {e e2 : Expr} {pos : Pos}
variable {P P' : Addr → Prop} {A A' A1 : List (Option Addr)} {σ σ' : L2.St} {L L' L1 : List Addr} {H H' H1 : Hp} {s s' : S}
def iZipB (K : PySem.W.Frag) (ta : TA) : TI := fun σ H R => ta σ H fun vs H1 => ∃ a b xs ys, vs = [.ref a, .ref b] ∧ ((SqL K H1 a xs ∧ SqL K H1 b ys ∧ R (Itz K a b) H1) ∨ (SqT K H1 a xs ∧ SqT K H1 b ys ∧ R (RZ.ItzT K a b) H1) ∨ (SqL K H1 a xs ∧ SqT K H1 b ys ∧ R (ItzM K a b) H1))
theorem pi_zipB {ta : TA} {p pos tpos : Pos} {elts : List Expr} {kk : Nat} (hg : Gl X "zip") (hm : X.mg "zip" = none) (ha : PA X [e, e2] ta)
    (hs : starEach [e, e2] X.env = (false, eval e X.env) :: starEach [e2] X.env := by rfl) (hpl : (backTo pos (starEach [e2] X.env)).any (·.1) = false := by rfl) :
    PI X (.Tuple elts kk tpos) (.Call (.Name "zip" p) [e, e2] [] pos) (iZipB X.K ta) := by
  refine ⟨fun pins s σ H R I h => ?_⟩
  refine Call_ (ld_blt I hg hm PyProof.Rows.boot_zip (PyProof.Rows.callWith_type1 (thn (ha.run pos pins s σ H _ I h) fun us s1 ⟨vs, H1, I1, r1, q1⟩ => ?_) hs hpl))
  obtain ⟨a, b, xs, ys, ex, q1⟩ := q1
  subst ex
  cases r1 with
  | cons r rr =>
    cases rr with
    | cons r' rr =>
      cases rr
      cases r
      cases r'
      have fresh5 : ∀ c, c ∈ [s1.heap.objs.size + 4, s1.heap.objs.size + 2, s1.heap.objs.size + 3, s1.heap.objs.size, s1.heap.objs.size + 1] → FpOk X pins H1 c := fun c hcm => by
        have hle : s1.heap.objs.size ≤ c := by
          have e' : c = s1.heap.objs.size + 4 ∨ c = s1.heap.objs.size + 2 ∨ c = s1.heap.objs.size + 3 ∨ c = s1.heap.objs.size ∨ c = s1.heap.objs.size + 1 := by simpa using hcm
          rcases e' with z | z | z | z | z
          · rw [z]; exact Nat.le_add_right _ _
          · rw [z]; exact Nat.le_add_right _ _
          · rw [z]; exact Nat.le_add_right _ _
          · rw [z]; exact Nat.le_refl _
          · rw [z]; exact Nat.le_add_right _ _
        exact I1.fpOk hle (I1.hok.fresh hle)
      rcases q1 with ⟨hqx, hqy, q⟩ | ⟨hqx, hqy, q⟩ | ⟨hqx, hqy, q⟩
      · obtain ⟨its, rv, p1, _⟩ := I1.list hqx
        obtain ⟨its2, rv2, p2, _⟩ := I1.list hqy
        refine call_zip_2 p1.isList p2.isList fun h' hz hTI hTO h1 h2 hsz hk => wpAny_pyIter_zip hz ?_
        exact ⟨s1.heap.objs.size + 4, [s1.heap.objs.size + 4, s1.heap.objs.size + 2, s1.heap.objs.size + 3, s1.heap.objs.size, s1.heap.objs.size + 1], _, _, H1, rfl, I1.kept (t' := s1.toks) hk, turn_zip (PySem.W.ktu_apart s1.heap.objs.size a b p1.lt p2.lt), ⟨hz, hTI, ⟨_, _, hTO⟩, h1, h2⟩, fresh5, q⟩
      · obtain ⟨its, rv, p1, _⟩ := I1.tuple hqx
        obtain ⟨its2, rv2, p2, _⟩ := I1.tuple hqy
        obtain ⟨o1, ho1, _⟩ := id p1
        obtain ⟨o2, ho2, _⟩ := id p2
        refine RZ.call_zipT (show s1.heap.IsTuple a its.toArray from p1) (show s1.heap.IsTuple b its2.toArray from p2) fun h' hz hTI hTO h1 h2 hsz hk => wpAny_pyIter_zip hz ?_
        exact ⟨s1.heap.objs.size + 4, [s1.heap.objs.size + 4, s1.heap.objs.size + 2, s1.heap.objs.size + 3, s1.heap.objs.size, s1.heap.objs.size + 1], _, _, H1, rfl, I1.kept (t' := s1.toks) hk, RZ.turn_zipT (PySem.W.ktu_apart s1.heap.objs.size a b (Heap.lt_size ho1) (Heap.lt_size ho2)), ⟨hz, hTI, ⟨_, _, hTO⟩, h1, h2⟩, fresh5, q⟩
      · obtain ⟨its, rv, p1, _⟩ := I1.list hqx
        obtain ⟨its2, rv2, p2, _⟩ := I1.tuple hqy
        obtain ⟨o2, ho2, _⟩ := id p2
        refine call_zipM p1.isList (show s1.heap.IsTuple b its2.toArray from p2) fun h' hz hTI hTO h1 h2 hsz hk => wpAny_pyIter_zip hz ?_
        exact ⟨s1.heap.objs.size + 4, [s1.heap.objs.size + 4, s1.heap.objs.size + 2, s1.heap.objs.size + 3, s1.heap.objs.size, s1.heap.objs.size + 1], _, _, H1, rfl, I1.kept (t' := s1.toks) hk, turn_zipM (PySem.W.ktu_apart s1.heap.objs.size a b p1.lt (Heap.lt_size ho2)), ⟨hz, hTI, ⟨_, _, hTO⟩, h1, h2⟩, fresh5, q⟩
theorem itzM_ok {p q : Addr} {vs us : List V} {ds es : List D} (h : ScrOk K (Bd P A L) H p vs) (r : Reps K mg (Bd P A L) H ds vs) (h2 : TupOk K (Bd P A L) H q us) (r2 : Reps K mg (Bd P A L) H es us) : ItOk K mg P A L H (ItzM K p q) (zipD ds es) := by
  intro P' A' L' H' hP st hB
  have h' := (h.step st hP).sq
  have h2' := (h2.step st hP).sq
  have r' : Reps K mg (Bd P' A' L') H' ds vs := r.move (st.mvP hP)
  have r2' : Reps K mg (Bd P' A' L') H' es us := r2.move (st.mvP hP)
  have l1 := r'.length
  have l2 := r2'.length
  refine ⟨fun i hi => ?_, ⟨vs, us, h', h2', by rw [zipD_len]; omega⟩, fun i d x H'' e y => ?_⟩
  · rw [zipD_len] at hi
    obtain ⟨v, e, _⟩ := r'.get (List.getElem?_eq_getElem (show i < ds.length by omega))
    obtain ⟨u, e2, _⟩ := r2'.get (List.getElem?_eq_getElem (show i < es.length by omega))
    exact ⟨vs, us, v, u, h', h2', e, e2⟩
  · obtain ⟨T, v, u, rfl, nT, rfl, y1, y2⟩ := y
    obtain ⟨d1, d2, e2, e3, rfl⟩ := zipD_get e
    obtain ⟨v', f1, rv⟩ := r'.get e2
    obtain ⟨u', f2, ru⟩ := r2'.get e3
    have q1 := y1 vs h'
    have q2 := y2 us h2'
    rw [f1] at q1; rw [f2] at q2
    cases q1; cases q2
    exact ResOk.tup hB nT (reps2 rv ru)
def iZipE (f : AV) : IV := fun s => (f s).bind fun rs s1 => match rs with
  | [.pv (.tup xs), .pv (.tup ys)] => .ok (zipD xs ys) s1
  | [.pv (.lst xs), .pv (.lst ys)] => .ok (zipD xs ys) s1
  | [.pv (.lst xs), .pv (.tup ys)] => .ok (zipD xs ys) s1
  | _ => .bad
theorem id_zipE {p tpos : Pos} {elts : List Expr} {kk : Nat} {f : AV} (hg : Gl X "zip") (hm : X.mg "zip" = none) (ha : AD X G Wx [e, e2] f)
    (hs : starEach [e, e2] X.env = (false, eval e X.env) :: starEach [e2] X.env := by rfl) (hpl : (backTo pos (starEach [e2] X.env)).any (·.1) = false := by rfl) :
    ID X G Wx (.Tuple elts kk tpos) (.Call (.Name "zip" p) [e, e2] [] pos) (iZipE f) := by
  refine ⟨PI.imp (pi_zipB hg hm ha.pa hs hpl) fun σ H R ⟨P, A, L, s, hs, h⟩ => ⟨P, A, L, s, hs, (Run.bind h).imp fun rs s1 _ h1 A1 L1 vs H1 sr ok st => ?_⟩⟩
  split at h1
  · unfold ArgsOk at ok
    obtain ⟨v, t, rfl, o1, ok⟩ := ok
    unfold ArgsOk at ok
    obtain ⟨u, t, rfl, o2, ok⟩ := ok
    unfold ArgsOk at ok
    subst ok
    unfold ArgOk Rep at o1 o2
    obtain ⟨p, vs, rfl, t1, r1⟩ := o1
    obtain ⟨q, us, rfl, t2, r2⟩ := o2
    exact ⟨p, q, vs, us, rfl, .inr (.inl ⟨t1.sq, t2.sq, h1 A1 L1 H1 _ sr (itzT_ok t1 r1 t2 r2) st⟩)⟩
  · unfold ArgsOk at ok
    obtain ⟨v, t, rfl, o1, ok⟩ := ok
    unfold ArgsOk at ok
    obtain ⟨u, t, rfl, o2, ok⟩ := ok
    unfold ArgsOk at ok
    subst ok
    unfold ArgOk Rep at o1 o2
    obtain ⟨p, vs, rfl, t1, n1, r1⟩ := o1
    obtain ⟨q, us, rfl, t2, n2, r2⟩ := o2
    exact ⟨p, q, vs, us, rfl, .inl ⟨SqL.of t1, SqL.of t2, h1 A1 L1 H1 _ sr (itz_ok (.inl ⟨.inl t1, n1⟩) r1 (.inl ⟨.inl t2, n2⟩) r2) st⟩⟩
  · unfold ArgsOk at ok
    obtain ⟨v, t, rfl, o1, ok⟩ := ok
    unfold ArgsOk at ok
    obtain ⟨u, t, rfl, o2, ok⟩ := ok
    unfold ArgsOk at ok
    subst ok
    unfold ArgOk Rep at o1 o2
    obtain ⟨p, vs, rfl, t1, n1, r1⟩ := o1
    obtain ⟨q, us, rfl, t2, r2⟩ := o2
    exact ⟨p, q, vs, us, rfl, .inr (.inr ⟨SqL.of t1, t2.sq, h1 A1 L1 H1 _ sr (itzM_ok (.inl ⟨.inl t1, n1⟩) r1 t2 r2) st⟩)⟩
  · exact h1.elim
end
end DL
namespace DL
open PySem PySem.Spec PyProof.Rows L2
/-! ### a chain of three comparisons, of ints -/
section
variable {K : PySem.W.Frag} {mg : Str → Option Value} {X : Cx} {G : Gm} {Wx : WX} {a b c d : Expr} {ta tb tc td : TE} {fa fb fc fd : EV} {pos : Pos} {r1 r2 r3 : R2} {f1 f2 f3 : Ob2} {o1 o2 o3 : CmpOp}
variable {P P' : Addr → Prop} {A A' A1 : List (Option Addr)} {σ σ' : L2.St} {L L' L1 : List Addr} {H H' H1 : Hp} {s s' : S}
def tChain3 (r r' r'' : R2) (ta tb tc td : TE) : TE := fun σ H Q => ta σ H fun x H1 => tb σ H1 fun y H2 => r x y H2 fun z H3 => ∃ k, z = .bl k ∧
  (if k = true then tc σ H3 fun w H4 => r' y w H4 fun z' H5 => ∃ k', z' = .bl k' ∧ (if k' = true then td σ H5 fun u H6 => r'' w u H6 Q else Q (.bl false) H5) else Q (.bl false) H3)
theorem pe_chain3 (h1 : OpR X (compareOp o1) r1) (h2 : OpR X (compareOp o2) r2) (h3 : OpR X (compareOp o3) r3) (ha : PE X a ta) (hb : PE X b tb) (hc : PE X c tc) (hd : PE X d td)
    (hm : lastMarks [o1, o2, o3] [b, c, d] = false := by with_unfolding_all rfl) : PE X (.Compare a [o1, o2, o3] [b, c, d] pos) (tChain3 r1 r2 r3 ta tb tc td) := by
  refine ⟨fun pins s σ H Q I h => ?_⟩
  refine Compare_chain (thn (ha.run pins s σ H _ I h) fun v s1 ⟨x, H1, I1, q1, w1⟩ => chain_link (thn (hb.run pins s1 σ H1 _ I1 w1) fun u s2 ⟨y, H2, I2, q2, w2⟩ =>
    thn (h1 pins s2 σ H2 x y v u _ I2 q1 q2 w2) fun e s3 ⟨z, H3, I3, q3, k, ek, w3⟩ => ?_)) hm
  subst ek
  cases q3
  refine wpAny_truthy_bool ?_
  cases k with
  | false => exact ite_ff ⟨.bl false, H3, I3, rfl, w3⟩
  | true =>
    refine ite_tt (chain_link (thn (hc.run pins s3 σ H3 _ I3 w3) fun u2 s4 ⟨y2, H4, I4, q4, w4⟩ => thn (h2 pins s4 σ H4 y y2 u u2 _ I4 q2 q4 w4) fun e2 s5 ⟨z2, H5, I5, q5, k2, ek2, w5⟩ => ?_))
    subst ek2
    cases q5
    refine wpAny_truthy_bool ?_
    cases k2 with
    | false => exact ite_ff ⟨.bl false, H5, I5, rfl, w5⟩
    | true => exact ite_tt (chain_last (thn (hd.run pins s5 σ H5 _ I5 w5) fun u3 s6 ⟨y3, H6, I6, q6, w6⟩ => h3 pins s6 σ H6 y2 y3 u2 u3 Q I6 q4 q6 w6))
theorem pt_chain3 (h1 : OpR X (compareOp o1) r1) (h2 : OpR X (compareOp o2) r2) (h3 : OpR X (compareOp o3) r3) (ha : PE X a ta) (hb : PE X b tb) (hc : PE X c tc) (hd : PE X d td)
    (hm : lastMarks [o1, o2, o3] [b, c, d] = false := by with_unfolding_all rfl) : PT X (.Compare a [o1, o2, o3] [b, c, d] pos) (tTest (tChain3 r1 r2 r3 ta tb tc td)) := by
  refine ⟨fun pins s σ H Q I h => ?_⟩
  refine isTrue_chain (thn (ha.run pins s σ H _ I h) fun v s1 ⟨x, H1, I1, q1, w1⟩ => test_link (thn (hb.run pins s1 σ H1 _ I1 w1) fun u s2 ⟨y, H2, I2, q2, w2⟩ =>
    thn (h1 pins s2 σ H2 x y v u _ I2 q1 q2 w2) fun e s3 ⟨z, H3, I3, q3, k, ek, w3⟩ => ?_)) hm
  subst ek
  cases q3
  refine wpAny_truthy_bool ?_
  cases k with
  | false =>
    obtain ⟨k', e', q'⟩ := w3
    cases e'
    exact ite_ff ⟨H3, I3, q'⟩
  | true =>
    refine ite_tt (test_link (thn (hc.run pins s3 σ H3 _ I3 w3) fun u2 s4 ⟨y2, H4, I4, q4, w4⟩ => thn (h2 pins s4 σ H4 y y2 u u2 _ I4 q2 q4 w4) fun e2 s5 ⟨z2, H5, I5, q5, k2, ek2, w5⟩ => ?_))
    subst ek2
    cases q5
    refine wpAny_truthy_bool ?_
    cases k2 with
    | false =>
      obtain ⟨k', e', q'⟩ := w5
      cases e'
      exact ite_ff ⟨H5, I5, q'⟩
    | true =>
      refine ite_tt (test_last (thn (hd.run pins s5 σ H5 _ I5 w5) fun u3 s6 ⟨y3, H6, I6, q6, w6⟩ => thn (h3 pins s6 σ H6 y2 y3 u2 u3 _ I6 q4 q6 w6) fun e3 s7 ⟨z3, H7, I7, q7, k3, ek3, w7⟩ => ?_))
      subst ek3
      cases q7
      exact wpAny_truthy_bool ⟨H7, I7, w7⟩
def lk (f : Ob2) (ra rb : RV) (s : S) (next : Int → S → Rs RV) : Rs RV := match ra, rb with
  | .pv (.int x), .pv (.int y) => match f (.int x) (.int y) with
    | some (.pv (.bl true)) => next y s
    | some (.pv (.bl false)) => .ok (.pv (.bl false)) s
    | _ => .bad
  | _, _ => .bad
def eChain3 (f1 f2 f3 : Ob2) (fa fb fc fd : EV) : EV := fun s => (fa s).bind fun ra s1 => (fb s1).bind fun rb s2 => lk f1 ra rb s2 fun y s3 => (fc s3).bind fun rc s4 => lk f2 (.pv (.int y)) rc s4 fun w s5 => (fd s5).bind fun rd s6 => fin2 f3 (.pv (.int w)) rd s6
theorem lk_ok {f : Ob2} {r : R2} (hv : OpV K mg r f) {ra rb : RV} {x y : V} {A2 : List (Option Addr)} {L2 : List Addr} {H2 : Hp} {s2 : S} {next : Int → S → Rs RV} {Qf : RV → S → Prop} {k : V → Hp → Prop} (hs2 : SR K mg G P A2 L2 s2 σ H2)
    (oa : RVOk K mg G P A2 L2 σ H2 ra x) (ob : RVOk K mg G P A2 L2 σ H2 rb y) (st : Step A L H A2 L2 H2) (h : Run K mg G Wx P A L H σ (lk f ra rb s2 next) Qf)
    (q : ∀ (m : Int) (H3 : Hp), y = .int m → SR K mg G P A2 L2 s2 σ H3 → Step A L H A2 L2 H3 → Run K mg G Wx P A L H σ (next m s2) Qf → k (.bl true) H3)
    (n : ∀ H3 : Hp, SR K mg G P A2 L2 s2 σ H3 → Step A L H A2 L2 H3 → Qf (.pv (.bl false)) s2 → k (.bl false) H3) : r x y H2 k := by
  unfold lk at h
  split at h
  · rename_i i j
    have ex : x = .int i := by have := oa; unfold RVOk Rep at this; exact this
    have ey : y = .int j := by have := ob; unfold RVOk Rep at this; exact this
    subst ex ey
    split at h
    · rename_i e
      refine hv _ _ _ _ _ _ _ _ hs2.there (rd_ok hs2 oa rfl) (rd_ok hs2 ob rfl) e fun z H3 ro => ?_
      have ez : z = .bl true := by have := ro.rep; simpa [Rep] using this
      subst ez
      exact q j H3 rfl (hs2.keep ro.keep fun a z => .inl z) (st.trans (Step.keep ro.keep)) h
    · rename_i e
      refine hv _ _ _ _ _ _ _ _ hs2.there (rd_ok hs2 oa rfl) (rd_ok hs2 ob rfl) e fun z H3 ro => ?_
      have ez : z = .bl false := by have := ro.rep; simpa [Rep] using this
      subst ez
      exact n H3 (hs2.keep ro.keep fun a z => .inl z) (st.trans (Step.keep ro.keep)) h
    · exact h.elim
  · exact h.elim
theorem tE_chain3 (hv1 : OpV K mg r1 f1) (hv2 : OpV K mg r2 f2) (hv3 : OpV K mg r3 f3) {Q : VK} (h : tE K mg G Wx (eChain3 f1 f2 f3 fa fb fc fd) σ H Q) :
    tChain3 r1 r2 r3 (tE K mg G Wx fa) (tE K mg G Wx fb) (tE K mg G Wx fc) (tE K mg G Wx fd) σ H Q := by
  obtain ⟨P, A, L, s, hs, h⟩ := h
  unfold tChain3
  refine (tE_two hs h).mono fun x H1 h1 => h1.mono fun y H2 ⟨A2, L2', s2, ra, rb, hs2, oa, ob, st, h2⟩ => ?_
  have no : ∀ {A3 : List (Option Addr)} {L3 : List Addr} {s3 : S} {H3 : Hp}, SR K mg G P A3 L3 s3 σ H3 → Step A L H A3 L3 H3 → PostE K mg G P A L H σ Q (.pv (.bl false)) s3 → Q (.bl false) H3 := fun {A3 L3 s3 H3} hs3 st3 q =>
    q A3 L3 _ H3 ⟨hs3.lessP (Wi.pv nofun), by show Rep _ _ _ _ _ _; unfold Rep; rfl, OwNew.of nofun, st3, hs.p0⟩
  refine lk_ok hv1 hs2 oa ob st h2 (fun m H3 ey hs3 st3 h3 => ⟨true, rfl, ?_⟩) fun H3 hs3 st3 q => ⟨false, rfl, ?_⟩
  · rw [if_pos rfl]
    subst ey
    refine ⟨P, A2, L2', s2, hs3, ((Run.bind h3).on st3 fun a z => z).imp fun rc s4 _ q A4 L4 w H4 a4 => ?_⟩
    refine lk_ok hv2 a4.weak (by unfold RVOk Rep; rfl) a4.ok (st3.trans a4.st) q (fun m2 H5 ey2 hs5 st5 h5 => ⟨true, rfl, ?_⟩) fun H5 hs5 st5 q => ⟨false, rfl, ?_⟩
    · rw [if_pos rfl]
      subst ey2
      refine ⟨P, A4, L4, s4, hs5, ((Run.bind h5).on st5 fun a z => z).imp fun rd s6 _ q6 A6 L6 u H6 a6 => ?_⟩
      exact run_fin2 hv3 a6.weak hs.p0 (by unfold RVOk Rep; rfl) a6.ok (st5.trans a6.st) q6
    · rw [if_neg (by decide)]
      exact no hs5 st5 q
  · rw [if_neg (by decide)]
    exact no hs3 st3 q
theorem ed_chain3 (h1 : OpR X (compareOp o1) r1) (v1 : OpV X.K X.mg r1 f1) (h2 : OpR X (compareOp o2) r2) (v2 : OpV X.K X.mg r2 f2) (h3 : OpR X (compareOp o3) r3) (v3 : OpV X.K X.mg r3 f3) (ha : ED X G Wx a fa) (hb : ED X G Wx b fb) (hc : ED X G Wx c fc) (hd : ED X G Wx d fd)
    (hm : lastMarks [o1, o2, o3] [b, c, d] = false := by with_unfolding_all rfl) : ED X G Wx (.Compare a [o1, o2, o3] [b, c, d] pos) (eChain3 f1 f2 f3 fa fb fc fd) :=
  ⟨PE.imp (pe_chain3 h1 h2 h3 ha.pe hb.pe hc.pe hd.pe hm) fun σ H Q h => tE_chain3 v1 v2 v3 h⟩
theorem td_chain3 (h1 : OpR X (compareOp o1) r1) (v1 : OpV X.K X.mg r1 f1) (h2 : OpR X (compareOp o2) r2) (v2 : OpV X.K X.mg r2 f2) (h3 : OpR X (compareOp o3) r3) (v3 : OpV X.K X.mg r3 f3) (ha : ED X G Wx a fa) (hb : ED X G Wx b fb) (hc : ED X G Wx c fc) (hd : ED X G Wx d fd)
    (hm : lastMarks [o1, o2, o3] [b, c, d] = false := by with_unfolding_all rfl) : TD X G Wx (.Compare a [o1, o2, o3] [b, c, d] pos) (tOfB (eChain3 f1 f2 f3 fa fb fc fd)) := by
  refine ⟨PT.imp (pt_chain3 h1 h2 h3 ha.pe hb.pe hc.pe hd.pe hm) fun σ H Q ⟨P, A, L, s, hs, h⟩ => ?_⟩
  refine tE_chain3 v1 v2 v3 ⟨P, A, L, s, hs, (Run.bind h).imp fun r s' _ p A' L' v H' at' => ?_⟩
  unfold toB at p
  split at p
  · rename_i b0 _
    have e : v = .bl b0 := by have := at'.ok; unfold RVOk Rep at this; exact this
    exact ⟨b0, e, p A' L' H' (at'.sr.lessP fun _ z => .inl z) at'.st⟩
  · exact p.elim
end
end DL
namespace DL
open PySem PySem.Spec PyProof.Rows L2
/-! ### a dict that a variable owns: keys ints and texts -/
def keyD : D → Option Key
  | .int i => some (.inl i)
  | .str x => some (.inr x)
  | _ => none
def valD (kvs : List (Key × D)) (k : Key) : Option D := (kvs.find? fun kv => decide (kv.1 = k)).map (·.2)
def putD (kvs : List (Key × D)) (k : Key) (d : D) : List (Key × D) :=
  if (kvs.any fun kv => decide (kv.1 = k)) = true then kvs.map (fun kv => if kv.1 = k then (kv.1, d) else kv) else kvs ++ [(k, d)]
section
variable {K : PySem.W.Frag} {mg : Str → Option Value} {X : Cx} {G : Gm} {Wx : WX} {e e2 : Expr} {fe fk fv : EV} {pos : Pos}
variable {P P' : Addr → Prop} {A A' A1 : List (Option Addr)} {σ σ' : L2.St} {L L' L1 : List Addr} {H H' H1 : Hp} {s s' : S} {B : Addr → Prop}
theorem RepK.val (k : Key) : ∀ {kvs : List (Key × D)} {ws : List (Key × V)}, RepK K mg B H kvs ws → match valD kvs k with
    | some d => ∃ v, valV ws k = some v ∧ Rep K mg B H d v
    | none => valV ws k = none
  | [], ws, h => by unfold RepK at h; subst h; rfl
  | (j, d) :: kvs, ws, h => by
    unfold RepK at h
    obtain ⟨v, r, rfl, h1, h2⟩ := h
    by_cases e : j = k
    · have e1 : valD ((j, d) :: kvs) k = some d := by simp [valD, List.find?_cons, e]
      rw [e1, valV_pos e]
      exact ⟨v, rfl, h1⟩
    · have e1 : valD ((j, d) :: kvs) k = valD kvs k := by simp [valD, List.find?_cons, e]
      rw [e1, valV_neg e]
      exact RepK.val k h2
theorem RepK.app : ∀ {a : List (Key × D)} {a' : List (Key × V)} {b : List (Key × D)} {b' : List (Key × V)}, RepK K mg B H a a' → RepK K mg B H b b' → RepK K mg B H (a ++ b) (a' ++ b')
  | [], a', b, b', h, q => by unfold RepK at h; subst h; exact q
  | (j, d) :: a, a', b, b', h, q => by
    unfold RepK at h
    obtain ⟨v, r, rfl, h1, h2⟩ := h
    show RepK K mg B H ((j, d) :: (a ++ b)) ((j, v) :: (r ++ b'))
    unfold RepK
    exact ⟨v, r ++ b', rfl, h1, RepK.app h2 q⟩
theorem RepK.mapK (k : Key) {d : D} {v : V} (hd : Rep K mg B H d v) : ∀ {a : List (Key × D)} {a' : List (Key × V)}, RepK K mg B H a a' → RepK K mg B H (a.map fun kv => if kv.1 = k then (kv.1, d) else kv) (a'.map fun kv => if kv.1 = k then (kv.1, v) else kv)
  | [], a', h => by unfold RepK at h; subst h; unfold RepK; rfl
  | (j, d0) :: a, a', h => by
    unfold RepK at h
    obtain ⟨v0, r, rfl, h1, h2⟩ := h
    have ih := RepK.mapK k hd h2
    by_cases e : j = k
    · simp only [List.map_cons, e, if_true]
      unfold RepK
      exact ⟨v, _, rfl, hd, ih⟩
    · simp only [List.map_cons, e, if_false]
      unfold RepK
      exact ⟨v0, _, rfl, h1, ih⟩
theorem RepK.anyK (k : Key) : ∀ {a : List (Key × D)} {a' : List (Key × V)}, RepK K mg B H a a' → (a.any fun kv => decide (kv.1 = k)) = a'.any fun kv => decide (kv.1 = k)
  | [], a', h => by unfold RepK at h; subst h; rfl
  | (j, d0) :: a, a', h => by
    unfold RepK at h
    obtain ⟨v0, r, rfl, h1, h2⟩ := h
    rw [List.any_cons, List.any_cons, RepK.anyK k h2]
theorem RepK.put (k : Key) {d : D} {v : V} (hd : Rep K mg B H d v) {a : List (Key × D)} {a' : List (Key × V)} (h : RepK K mg B H a a') : RepK K mg B H (putD a k d) (putK a' k v) := by
  unfold putD putK
  rw [RepK.anyK k h]
  split
  · exact h.mapK k hd
  · refine h.app ?_
    unfold RepK
    exact ⟨v, [], rfl, hd, by unfold RepK; rfl⟩
theorem keyD_ok {d : D} {v : V} {k : Key} (h : Rep K mg B H d v) (e : keyD d = some k) : v = kV k := by
  cases d <;> cases e <;> unfold Rep at h <;> exact h
/-! the owner's dict -/
def odAt (i : Nat) (s : S) : Option (List (Key × D)) := match s.η[i]? with
  | some (.od kvs) => some kvs
  | _ => none
theorem updMv {p : Addr} {o : HO} (hp : some p ∈ A) : ∀ a u, H a = some u → ¬ Bd P A L a → Plain u → upd H p o a = some u ∧ ¬ Bd P A L a := fun a u h n _ => ⟨by rw [upd_ne (fun z => by subst z; exact n (.inl hp))]; exact h, n⟩
theorem Step.updA {p : Addr} {u o : HO} (hp : some p ∈ A) (hH : H p = some u) (pl : Plain u) : Step A L H A L (upd H p o) := by
  refine ⟨fun a v h hA hL q => ?_, fun a h => h.elim .inl fun h => .inr (.inl h), ⟨[], by simp⟩, fun a v h => ?_, fun a ⟨ps, h, t⟩ => ⟨ps, ?_, t⟩⟩
  · rw [upd_ne (fun z => by subst z; exact hA hp)]; exact h
  · by_cases e : a = p
    · subst e; exact ⟨_, upd_same⟩
    · exact ⟨v, by rw [upd_ne e]; exact h⟩
  · rw [upd_ne (fun z => by subst z; rw [hH] at h; cases h; exact pl _ rfl)]; exact h
theorem SR.odict {i : Nat} {kvs : List (Key × D)} (hs : SR K mg G P A L s σ H) (e : odAt i s = some kvs) : ∃ p ws, σ[i]? = some (some (.ref p)) ∧ H p = some (.dK ws) ∧ RepK K mg (Bd P A L) H kvs ws ∧
    ∀ kvs' ws', RepK K mg (Bd P A L) H kvs' ws' → SR K mg G P A L { s with η := s.η.set i (.od kvs') } σ (upd H p (.dK ws')) ∧ Step A L H A L (upd H p (.dK ws')) := by
  unfold odAt at e
  split at e
  · rename_i kvs0 q
    cases e
    obtain ⟨hi, ov, oa, e1, e2, p, ws, rfl, rfl, e3, r⟩ := hs.slot' q
    have up : some p ∈ A := List.mem_of_getElem? e2
    have pl : Plain (.dK ws) := fun ps z => nomatch z
    refine ⟨p, ws, e1, e3, r, fun kvs' ws' r' => ⟨?_, Step.updA up e3 pl⟩⟩
    have mv := updMv (P := P) (H := H) (A := A) (L := L) (p := p) (o := .dK ws') up
    have st := Step.updA (A := A) (L := L) (H := H) (o := .dK ws') up e3 pl
    exact { hs with
      lenσ := by show σ.length = (s.η.set i _).length; rw [List.length_set]; exact hs.lenσ
      lenA := by show A.length = (s.η.set i _).length; rw [List.length_set]; exact hs.lenA
      slot := fun j x ej => by
        have ej : (s.η.set i (.od kvs'))[j]? = some x := ej
        by_cases hj : j = i
        · subst hj
          rw [List.getElem?_set_self hi] at ej
          cases ej
          exact ⟨_, _, e1, e2, p, ws', rfl, rfl, upd_same, r'.move mv⟩
        · rw [List.getElem?_set_ne (Ne.symm hj)] at ej
          obtain ⟨ov', oa', f1, f2, so⟩ := hs.slot j x ej
          exact ⟨ov', oa', f1, f2, so.move mv (fun a o z _ h => by rw [upd_ne (fun w => by subst w; rw [z] at f2; exact hj (hs.uniq j i a f2 e2))]; exact h) fun _ _ h => h⟩
      exn := fun j ej => by
        have ej : (s.η.set i (.od kvs'))[j]? = some .ex := ej
        by_cases hj : j = i
        · subst hj
          rw [List.getElem?_set_self hi] at ej
          cases ej
        · rw [List.getElem?_set_ne (Ne.symm hj)] at ej
          exact hs.exn j ej
      loc := fun n ds e => by
        obtain ⟨a, vs, f1, f2, f3⟩ := hs.loc n ds e
        exact ⟨a, vs, f1, by rw [upd_ne (fun w => by subst w; exact hs.apart a up (List.mem_of_getElem? f1))]; exact f2, f3.move mv⟩
      own := fun a z => by
        by_cases h : a = p
        · subst h; exact ⟨_, upd_same, .inr ⟨ws', rfl⟩⟩
        · obtain ⟨o, e, m⟩ := hs.own a z; exact ⟨o, by rw [upd_ne h]; exact e, m⟩
      tab := fun a z => st.tab a (hs.tab a z)
      ent := by
        refine ⟨fun a o h hA hL q => ?_, hs.ent.new, hs.ent.pre, fun a o h => ?_, fun a h => st.tab a (hs.ent.tab a h)⟩
        · rw [upd_ne (fun z => by subst z; have := hs.ownNew a up; rw [this] at h; cases h)]; exact hs.ent.frm a o h hA hL q
        · obtain ⟨o', h'⟩ := hs.ent.there a o h; exact st.there a o' h'
      pOk := fun a z => let w := hs.pOk a z; ⟨let ⟨o, e⟩ := w.1; st.there a o e, w.2⟩ }
  · cases e
/-! name = {} -/
def sNewD (i : Nat) : SV := fun s => if i < s.η.length then .ok .nx { s with η := s.η.set i (.od []) } else .bad
theorem sd_newD {i : Nat} {x : Str} {p pos2 : Pos} (hN : X.N.Nodup) (hi : X.N[i]? = some x) (hx : Loc X.env.scope x) (hf : X.fn x = true ∨ X.env.scope.names.lookup x = some .local := by first | exact .inl rfl | exact .inr rfl | assumption)
    (hs : swapsWithSole [.Name x p] (.Dict [] [] pos2) pos.line X.env = pure false := by rfl) (hw : swappedStores [.Name x p] (.Dict [] [] pos2) X.env = pure none := by rfl)
    (h1 : (assignEach [.Name x p] X.env).map (·.2) = [assign (.Name x p) X.env] := by rfl) : SD X G Wx (.Assign [.Name x p] (.Dict [] [] pos2) pos) (sNewD i) := by
  refine ⟨PS.imp (ps_asg pe_dnewK (pg_name hN hi hx hf) hs hw h1) fun D σ H ⟨P, A, L, s, hs, h⟩ => ?_⟩
  unfold sNewD at h
  split at h
  · rename_i hil
    intro q hq
    have h : PostN X.K X.mg G P A L H D.nx { s with η := s.η.set i (.od []) } := h
    let P1 : Addr → Prop := fun a => P a ∨ a = q
    have sr1 : SR X.K X.mg G P1 A L s σ (upd H q (.dK [])) := hs.keep (keep_upd hq) fun a z => z.imp id fun z => by subst z; exact ⟨⟨_, upd_same⟩, hq⟩
    have nP : ¬ P q := fun z => by obtain ⟨o, e⟩ := (hs.pOk q z).1; rw [hq] at e; cases e
    have n0 : G.H0 q = none := by
      cases e : G.H0 q with
      | none => rfl
      | some o => obtain ⟨o', e'⟩ := hs.ent.there q o e; rw [hq] at e'; cases e'
    have hiσ : i < σ.length := by rw [hs.lenσ]; exact hil
    have sr2 := sr1.set (P := P) (i := i) (σ' := σ.set i (some (.ref q))) (ov := some (.ref q)) (oa := some q) (x := .od []) hil (fun _ z => .inl z)
      (fun a z => by cases z; exact ⟨.inr rfl, nP, ⟨_, upd_same, .inr ⟨[], rfl⟩⟩, n0⟩) ⟨by simp, List.getElem?_set_self hiσ, fun j hj => List.getElem?_set_ne (Ne.symm hj)⟩ ⟨q, [], rfl, rfl, upd_same, by unfold RepK; rfl⟩
    refine h _ _ _ _ sr2 ?_
    refine ⟨fun a o e hA hL pl => keep_upd hq a o e, fun a z => ?_, ⟨[], by simp⟩, fun a o e => ⟨o, keep_upd hq a o e⟩, fun a ⟨ps, e, t⟩ => ⟨ps, keep_upd hq a _ e, t⟩⟩
    rcases z with z | z
    · rcases mem_set z with z | z
      · exact .inl z
      · cases z; exact .inr (.inr hq)
    · exact .inr (.inl z)
  · exact h.elim
/-! x in name -/
def eDin (neg : Bool) (i : Nat) (fe : EV) : EV := fun s => (fe s).bind fun r s1 => match odAt i s1, (rd r s1).bind keyD with
  | some kvs, some k => .ok (.pv (.bl ((valD kvs k).isSome != neg))) s1
  | _, _ => .bad
theorem tE_din {neg : Bool} {i : Nat} {Q : VK} (h : tE K mg G Wx (eDin neg i fe) σ H Q) : tE K mg G Wx fe σ H fun y H1 => ∃ v, σ[i]? = some (some v) ∧ ∃ a o, v = .ref a ∧ DGet H1 a y o ∧ Q (.bl (o.isSome != neg)) H1 := by
  obtain ⟨P, A, L, s, hs, h⟩ := h
  refine (tE_one hs h).mono fun y H1 ⟨A1, L1, s1, r, a1, h1⟩ => ?_
  split at h1
  · rename_i kvs k e1 e2
    obtain ⟨p, ws, f1, f2, f3, _⟩ := a1.weak.odict e1
    obtain ⟨d, g1, g2⟩ := Option.bind_eq_some_iff.mp e2
    have pr := rd_ok a1.weak a1.ok g1
    have ey : y = kV k := by
      rcases pr with q | ⟨ds, _, _, z, _⟩
      · exact keyD_ok q g2
      · subst z; cases g2
    subst ey
    refine ⟨_, f1, p, valV ws k, rfl, DGet.k f2, ?_⟩
    have rv := f3.val k
    have es : (valV ws k).isSome = (valD kvs k).isSome := by
      cases q : valD kvs k with
      | none => rw [q] at rv; rw [rv]; rfl
      | some d => rw [q] at rv; obtain ⟨v, e, _⟩ := rv; rw [e]; rfl
    rw [es]
    exact h1 A1 L1 _ H1 (At.mk' a1.weak a1.st hs.p0 (ResOk.same (by unfold Rep; rfl)))
  · exact h1.elim
theorem ed_din {i : Nat} {x : Str} {p : Pos} (hu : X.A.units + 1 < cLine) (he : ED X G Wx e fe) (ho : PE X (.Name x p) (tVar i)) : ED X G Wx (.Compare e [.In] [.Name x p] pos) (eDin false i fe) :=
  ⟨PE.imp (pe_cmp (pc_din hu he.pe ho) rfl) fun σ H Q h => (tE_din h).mono fun y H1 ⟨v, e, a, o, q1, q2, q3⟩ => ⟨v, e, a, o, q1, q2, by cases o <;> exact q3⟩⟩
theorem ed_dni {i : Nat} {x : Str} {p : Pos} (hu : X.A.units + 1 < cLine) (he : ED X G Wx e fe) (ho : PE X (.Name x p) (tVar i)) : ED X G Wx (.Compare e [.NotIn] [.Name x p] pos) (eDin true i fe) :=
  ⟨PE.imp (pe_cmp (pc_dnotin hu he.pe ho) rfl) fun σ H Q h => (tE_din h).mono fun y H1 ⟨v, e, a, o, q1, q2, q3⟩ => ⟨v, e, a, o, q1, q2, by cases o <;> exact q3⟩⟩
/-! name[x] -/
def eDget (i : Nat) (fe : EV) : EV := fun s => match odAt i s with
  | some _ => (fe s).bind fun r s1 => match odAt i s1, (rd r s1).bind keyD with
    | some kvs, some k => match valD kvs k with
      | some d => .ok (.pv d) s1
      | none => .bad
    | _, _ => .bad
  | none => .bad
theorem ed_dget {i : Nat} {x : Str} {p : Pos} (hu : X.A.units + 1 < cLine) (ho : PE X (.Name x p) (tVar i)) (he : ED X G Wx e fe) (hs : NoSl e) : ED X G Wx (.Subscript (.Name x p) e pos) (eDget i fe) := by
  refine ⟨PE.imp (pe_dget hu ho he.pe hs) fun σ H Q ⟨P, A, L, s, hs, h⟩ => ?_⟩
  unfold eDget at h
  split at h
  · rename_i kvs0 e0
    obtain ⟨p0, ws0, f0, _, _, _⟩ := hs.odict e0
    refine ⟨_, f0, (tE_one hs h).mono fun y H1 ⟨A1, L1, s1, r, a1, h1⟩ => ?_⟩
    split at h1
    · rename_i kvs k e1 e2
      obtain ⟨p, ws, f1, f2, f3, _⟩ := a1.weak.odict e1
      rw [f0] at f1; cases f1
      obtain ⟨d, g1, g2⟩ := Option.bind_eq_some_iff.mp e2
      have pr := rd_ok a1.weak a1.ok g1
      have ey : y = kV k := by
        rcases pr with q | ⟨ds, _, _, z, _⟩
        · exact keyD_ok q g2
        · subst z; cases g2
      subst ey
      have rv := f3.val k
      split at h1
      · rename_i d2 e3
        rw [e3] at rv
        obtain ⟨v, ev, rp⟩ := rv
        exact ⟨p0, v, rfl, by rw [← ev]; exact DGet.k f2, h1 A1 L1 v H1 (At.mk' a1.weak a1.st hs.p0 (ResOk.same rp))⟩
      · exact h1.elim
    · exact h1.elim
  · exact h.elim
/-! name[x] = v -/
def sDput (i : Nat) (fk fv : EV) : SV := fun s => (fv s).bind fun rv s1 => (fzR rv s1).bind fun y s2 => match odAt i s2 with
  | some _ => (fk s2).bind fun rk s3 => match odAt i s3, (rd rk s3).bind keyD with
    | some kvs, some k => if kvs.length < sizeLine then .ok .nx { s3 with η := s3.η.set i (.od (putD kvs k y)) } else .bad
    | _, _ => .bad
  | none => .bad
theorem sd_dput {i : Nat} {x : Str} {p pos' : Pos} (hu : X.A.units + 1 < cLine) (ho : PE X (.Name x p) (tVar i)) (hk : ED X G Wx e fk) (hv : ED X G Wx e2 fv) (hs : swapsWith e2 (some (.Subscript (.Name x p) e pos')) pos.line X.env = pure false := by rfl) :
    SD X G Wx (.Assign [.Subscript (.Name x p) e pos'] e2 pos) (sDput i fk fv) := by
  refine ⟨PS.imp (ps_dput hu ho hk.pe hv.pe hs) fun D σ H ⟨P, A, L, s, hs, h⟩ => ?_⟩
  refine (tE_oneS hs h).mono fun v H1 ⟨A1, L1, s1, rv, a1, h1⟩ => ?_
  obtain ⟨A2, s2, y, sr2, rp, st2, h2⟩ := run_fzRS a1 h1
  split at h2
  · rename_i kvs0 e0
    obtain ⟨p0, ws0, f0, _, _, _⟩ := sr2.odict e0
    refine ⟨_, f0, P, A2, L1, s2, sr2, ((RunS.bind h2).on st2 fun _ z => z).run.imp fun rk s3 _ h3 A3 L3 v3 H3 a3 => ?_⟩
    split at h3
    · rename_i kvs k e1 e2
      split at h3
      · rename_i hz
        obtain ⟨p, ws, f1, f2, f3, f4⟩ := a3.weak.odict e1
        rw [f0] at f1; cases f1
        obtain ⟨d, g1, g2⟩ := Option.bind_eq_some_iff.mp e2
        have pr := rd_ok a3.weak a3.ok g1
        have ey : v3 = kV k := by
          rcases pr with q | ⟨ds, _, _, z, _⟩
          · exact keyD_ok q g2
          · subst z; cases g2
        subst ey
        obtain ⟨sr4, st4⟩ := f4 (putD kvs k y) (putK ws k v) (f3.put k (rp.step a3.st))
        exact ⟨p0, _, rfl, DPut.k f2 (by rw [← f3.length]; exact hz), h3 A3 L3 σ _ sr4 ((st2.trans a3.st).trans st4)⟩
      · exact h3.elim
    · exact h3.elim
  · exact h2.elim
theorem td_din {i : Nat} {x : Str} {p : Pos} (hu : X.A.units + 1 < cLine) (he : ED X G Wx e fe) (ho : PE X (.Name x p) (tVar i)) : TD X G Wx (.Compare e [.In] [.Name x p] pos) (tOfB (eDin false i fe)) := by
  refine ⟨PT.imp (pt_cmp (pc_din hu he.pe ho) rfl) fun σ H Q ⟨P, A, L, s, hs, h⟩ => ?_⟩
  refine (tE_din (Q := fun v H' => ∃ b, v = .bl b ∧ Q b H') ⟨P, A, L, s, hs, (Run.bind h).imp fun r s' _ p A' L' v H' at' => ?_⟩).mono fun y H1 ⟨v, e, a, o, q1, q2, q3⟩ => ⟨v, e, a, o, q1, q2, by cases o <;> exact q3⟩
  unfold toB at p
  split at p
  · rename_i b0 _
    have e : v = .bl b0 := by have := at'.ok; unfold RVOk Rep at this; exact this
    exact ⟨b0, e, p A' L' H' (at'.sr.lessP fun _ z => .inl z) at'.st⟩
  · exact p.elim
theorem td_dni {i : Nat} {x : Str} {p : Pos} (hu : X.A.units + 1 < cLine) (he : ED X G Wx e fe) (ho : PE X (.Name x p) (tVar i)) : TD X G Wx (.Compare e [.NotIn] [.Name x p] pos) (tOfB (eDin true i fe)) := by
  refine ⟨PT.imp (pt_cmp (pc_dnotin hu he.pe ho) rfl) fun σ H Q ⟨P, A, L, s, hs, h⟩ => ?_⟩
  refine (tE_din (Q := fun v H' => ∃ b, v = .bl b ∧ Q b H') ⟨P, A, L, s, hs, (Run.bind h).imp fun r s' _ p A' L' v H' at' => ?_⟩).mono fun y H1 ⟨v, e, a, o, q1, q2, q3⟩ => ⟨v, e, a, o, q1, q2, by cases o <;> exact q3⟩
  unfold toB at p
  split at p
  · rename_i b0 _
    have e : v = .bl b0 := by have := at'.ok; unfold RVOk Rep at this; exact this
    exact ⟨b0, e, p A' L' H' (at'.sr.lessP fun _ z => .inl z) at'.st⟩
  · exact p.elim
end
theorem u1 {k : Nat} {A : Around} (r : Room k A) : A.units + 1 < cLine := by have := r.un; omega
end DL
namespace DL
open PySem PySem.Spec PyProof.Rows L2
/-! ### sum, max, min of a tuple of ints -/
section
variable {prog : Program} {w : World} {A : Around} {E : Value → Shared → Prop} {s : Shared} {l : Addr} {its : List Value} {ns : List Int} {Q : Value → Shared → Prop}
abbrev itT (s : Shared) (l : Addr) : Shared := { s with heap := s.heap.push { cls := .type "tuple_iterator", data := .fields #[.ref l, .int 0 0] } }
theorem itT_new {xs : Array Value} (hl : s.heap.IsTuple l xs) : ((itT s l).heap.IsTupleIter s.heap.objs.size l 0 ∧ (itT s l).heap.IsTuple l xs) ∧ (∀ b ∈ [s.heap.objs.size, l], b < (itT s l).heap.objs.size) ∧ l ≠ s.heap.objs.size := by
  have hlt : l < s.heap.objs.size := by obtain ⟨_, e, _⟩ := hl; exact Heap.lt_size e
  refine ⟨⟨⟨_, Heap.get?_push_size _ rfl, rfl, rfl⟩, hl.push _⟩, fun b hb => ?_, Nat.ne_of_lt hlt⟩
  show b < (s.heap.push _).objs.size
  rw [Heap.size_push]
  rcases List.mem_cons.mp hb with rfl | hb
  · exact Nat.lt_succ_self _
  · rw [List.mem_singleton.mp hb]; exact Nat.lt_succ_of_lt hlt
theorem itT_old {h' : Heap} (hk : ∀ b o, b ∉ [s.heap.objs.size] → (itT s l).heap.get? b = some o → h'.get? b = some o) : ∀ b o, s.heap.get? b = some o → h'.get? b = some o := fun b o e =>
  hk b o (fun hm => absurd (List.mem_singleton.mp hm ▸ Heap.lt_size e) (Nat.lt_irrefl _)) (Heap.get?_push_of_some _ e)
theorem sumT_raw (hh : A.handled = none) (hl : s.heap.IsTuple l its.toArray) (hi : IntsAre its ns)
    (h : ∀ h' tk t', (∀ b o, s.heap.get? b = some o → h'.get? b = some o) → Q (.int ns.sum t') { s with heap := h', toks := tk }) : wpAny (model prog w) A (call (.builtin "sum") [.ref l]) Q E s := by
  obtain ⟨xs, e⟩ := hi.allInts.items
  have hn : numsOf (intItems xs).toList = ns := by rw [← e]; exact hi.numsOf
  rw [nums_intItems] at hn
  rw [e] at hl
  obtain ⟨st, hfp, hne⟩ := itT_new hl
  refine call_sum_walkG (wpAny_pyIter_tuple hl ?_)
  refine ⟨_, _, _, _, _, _, numAt xs, rfl, Walks.tuple (A := A.in1) hh _ l hne (intItems xs), st, hfp, (fun _ _ => intItems_at), fun h' tk t' hk => ?_⟩
  have q := h h' tk t' (itT_old hk)
  have e1 : preSum (numAt xs) (intItems xs).size = ns.sum := by
    rw [show (intItems xs).size = xs.size by simp [intItems], preSum_eq, List.take_of_length_le (by simp), hn]
  rw [e1]; exact q
theorem maxT_raw (hh : A.handled = none) (hl : s.heap.IsTuple l its.toArray) (hi : IntsAre its ns) (hne : 0 < ns.length)
    (h : ∀ h' tk M t', (∀ b o, s.heap.get? b = some o → h'.get? b = some o) → M ∈ ns → (∀ a, a ∈ ns → a ≤ M) → Q (.int M t') { s with heap := h', toks := tk }) : wpAny (model prog w) A (call (.builtin "max") [.ref l]) Q E s := by
  obtain ⟨xs, e⟩ := hi.allInts.items
  have hn : numsOf (intItems xs).toList = ns := by rw [← e]; exact hi.numsOf
  rw [nums_intItems] at hn
  subst hn
  rw [e] at hl
  have hsz : 0 < xs.size := by simpa using hne
  obtain ⟨st, hfp, hne⟩ := itT_new hl
  refine call_max_walk (wpAny_pyIter_tuple hl ?_)
  refine ⟨_, _, _, _, _, _, _, rfl, Walks.tuple (A := A.in1) hh _ l hne (intItems xs), st, hfp, by simpa [intItems] using hsz, CmpOf.ints_gt (numAt xs) (fun _ _ => intItems_at), fun v h' tk hP hk => ?_⟩
  have hv : (intItems xs)[argBest (fun i j => decide (numAt xs i > numAt xs j)) (xs.size - 1)]? = some v := by simpa [intItems] using hP
  obtain ⟨t, rfl⟩ := intItems_at hv
  obtain ⟨h1, h2⟩ := argBest_gt (numAt xs) (xs.size - 1)
  refine h h' tk _ t (itT_old hk) ?_ fun a ha => ?_
  · rw [numAt_eq]; exact PySem.getD_mem (by rw [List.length_map, Array.length_toList]; omega)
  · obtain ⟨j, hj, rfl⟩ := mem_getD ha
    rw [List.length_map, Array.length_toList] at hj
    rw [← numAt_eq]; exact h2 j (by omega)
theorem minT_raw (hh : A.handled = none) (hl : s.heap.IsTuple l its.toArray) (hi : IntsAre its ns) (hne : 0 < ns.length)
    (h : ∀ h' tk M t', (∀ b o, s.heap.get? b = some o → h'.get? b = some o) → M ∈ ns → (∀ a, a ∈ ns → M ≤ a) → Q (.int M t') { s with heap := h', toks := tk }) : wpAny (model prog w) A (call (.builtin "min") [.ref l]) Q E s := by
  obtain ⟨xs, e⟩ := hi.allInts.items
  have hn : numsOf (intItems xs).toList = ns := by rw [← e]; exact hi.numsOf
  rw [nums_intItems] at hn
  subst hn
  rw [e] at hl
  have hsz : 0 < xs.size := by simpa using hne
  obtain ⟨st, hfp, hne⟩ := itT_new hl
  refine call_min_walk (wpAny_pyIter_tuple hl ?_)
  refine ⟨_, _, _, _, _, _, _, rfl, Walks.tuple (A := A.in1) hh _ l hne (intItems xs), st, hfp, by simpa [intItems] using hsz, CmpOf.ints_lt (numAt xs) (fun _ _ => intItems_at), fun v h' tk hP hk => ?_⟩
  have hv : (intItems xs)[argBest (fun i j => decide (numAt xs i < numAt xs j)) (xs.size - 1)]? = some v := by simpa [intItems] using hP
  obtain ⟨t, rfl⟩ := intItems_at hv
  obtain ⟨h1, h2⟩ := argBest_lt (numAt xs) (xs.size - 1)
  refine h h' tk _ t (itT_old hk) ?_ fun a ha => ?_
  · rw [numAt_eq]; exact PySem.getD_mem (by rw [List.length_map, Array.length_toList]; omega)
  · obtain ⟨j, hj, rfl⟩ := mem_getD ha
    rw [List.length_map, Array.length_toList] at hj
    rw [← numAt_eq]; exact h2 j (by omega)
end
section
variable {K : PySem.W.Frag} {mg : Str → Option Value} {X : Cx}
def SqA (K : PySem.W.Frag) (H : Hp) (a : Addr) (xs : List V) : Prop := SqL K H a xs ∨ SqT K H a xs
def rSumA (K : PySem.W.Frag) : List V → Hp → VK → Prop := fun vs H Q => ∃ (a : Addr) (ns : List Int), vs = [V.ref a] ∧ SqA K H a (ns.map V.int) ∧ Q (.int ns.sum) H
def rMaxA (K : PySem.W.Frag) : List V → Hp → VK → Prop := fun vs H Q => ∃ (a : Addr) (ns : List Int), vs = [V.ref a] ∧ SqA K H a (ns.map V.int) ∧ 0 < ns.length ∧ ∀ m, m ∈ ns → (∀ y, y ∈ ns → y ≤ m) → Q (.int m) H
def rMinA (K : PySem.W.Frag) : List V → Hp → VK → Prop := fun vs H Q => ∃ (a : Addr) (ns : List Int), vs = [V.ref a] ∧ SqA K H a (ns.map V.int) ∧ 0 < ns.length ∧ ∀ m, m ∈ ns → (∀ y, y ∈ ns → m ≤ y) → Q (.int m) H
theorem cr_sumA (hc : X.calm = true) : CallR X (.builtin "sum") (rSumA X.K) := by
  intro pins s σ H vs us Q I r ⟨a, ns, e, h, q⟩
  rcases h with h | h
  · exact cr_sum hc pins s σ H vs us Q I r ⟨a, ns, e, h, q⟩
  · subst e
    obtain ⟨its, rv, hl, _⟩ := I.tuple h
    rw [Vals.ref1 r]
    exact sumT_raw (I.ok.hd hc) hl rv.ints fun h' tk t' hk => ⟨.int _, H, I.kept hk, ⟨_, rfl⟩, q⟩
theorem cr_maxA (hc : X.calm = true) : CallR X (.builtin "max") (rMaxA X.K) := by
  intro pins s σ H vs us Q I r ⟨a, ns, e, h, hne, q⟩
  rcases h with h | h
  · exact cr_max hc pins s σ H vs us Q I r ⟨a, ns, e, h, hne, q⟩
  · subst e
    obtain ⟨its, rv, hl, _⟩ := I.tuple h
    rw [Vals.ref1 r]
    exact maxT_raw (I.ok.hd hc) hl rv.ints hne fun h' tk m t' hk h1 h2 => ⟨.int _, H, I.kept hk, ⟨_, rfl⟩, q m h1 h2⟩
theorem cr_minA (hc : X.calm = true) : CallR X (.builtin "min") (rMinA X.K) := by
  intro pins s σ H vs us Q I r ⟨a, ns, e, h, hne, q⟩
  rcases h with h | h
  · exact cr_min hc pins s σ H vs us Q I r ⟨a, ns, e, h, hne, q⟩
  · subst e
    obtain ⟨its, rv, hl, _⟩ := I.tuple h
    rw [Vals.ref1 r]
    exact minT_raw (I.ok.hd hc) hl rv.ints hne fun h' tk m t' hk h1 h2 => ⟨.int _, H, I.kept hk, ⟨_, rfl⟩, q m h1 h2⟩
def sumA : D → Option RV
  | .lst xs => (allI xs).bind fun ns => pI ns.sum
  | .tup xs => (allI xs).bind fun ns => pI ns.sum
  | _ => none
def bestA (f : Int → Int → Int) : D → Option RV
  | .lst xs => match allI xs with
    | some (n :: r) => pI (r.foldl f n)
    | _ => none
  | .tup xs => match allI xs with
    | some (n :: r) => pI (r.foldl f n)
    | _ => none
  | _ => none
abbrev maxA : D → Option RV := bestA max
abbrev minA : D → Option RV := bestA min
theorem Rep.sqA {B : Addr → Prop} {H : Hp} {xs : List D} {x : V} : (PRep K mg B H (.lst xs) x ∨ PRep K mg B H (.tup xs) x) → ∃ p vs, x = .ref p ∧ SqA K H p vs ∧ Reps K mg B H xs vs := by
  rintro (h | h)
  · obtain ⟨p, vs, rfl, t, r⟩ := h.lst; exact ⟨p, vs, rfl, .inl (SqL.of t), r⟩
  · obtain ⟨p, vs, rfl, t, r⟩ := h.tup; exact ⟨p, vs, rfl, .inr t.sq, r⟩
theorem opv_sumA : OpV1 K mg (fun v => rSumA K [v]) sumA := by
  intro B H x a res Q hB ha e q
  have key : ∀ xs : List D, (PRep K mg B H (.lst xs) x ∨ PRep K mg B H (.tup xs) x) → (allI xs).bind (fun ns => pI ns.sum) = some res → rSumA K [x] H Q := fun xs hx e => by
    obtain ⟨ns, e1, e2⟩ := Option.bind_eq_some_iff.mp e
    cases e2
    obtain ⟨p, vs, rfl, t, r⟩ := Rep.sqA hx
    have := allI_some e1
    subst this
    have := r.ints
    subst this
    exact ⟨p, ns, rfl, t, q _ _ .int⟩
  unfold sumA at e
  split at e
  · exact key _ (.inl ha) e
  · exact key _ (.inr ha) e
  · cases e
theorem opv_bestA {r : List V → Hp → VK → Prop} {f : Int → Int → Int} (hr : ∀ {p : Addr} {n : Int} {ns : List Int} {H : Hp} {Q : VK}, SqA K H p ((n :: ns).map V.int) → Q (.int (ns.foldl f n)) H → r [.ref p] H Q) : OpV1 K mg (fun v => r [v]) (bestA f) := by
  intro B H x a res Q hB ha e q
  have key : ∀ xs : List D, (PRep K mg B H (.lst xs) x ∨ PRep K mg B H (.tup xs) x) → ∀ n ns, allI xs = some (n :: ns) → pI (ns.foldl f n) = some res → r [x] H Q := fun xs hx n ns e1 e => by
    cases e
    obtain ⟨p, vs, rfl, t, rr⟩ := Rep.sqA hx
    have := allI_some e1
    subst this
    have := rr.ints
    subst this
    exact hr t (q _ _ .int)
  unfold bestA at e
  split at e
  · split at e
    · rename_i e1; exact key _ (.inl ha) _ _ e1 e
    · cases e
  · split at e
    · rename_i e1; exact key _ (.inr ha) _ _ e1 e
    · cases e
  · cases e
theorem opv_maxA : OpV1 K mg (fun v => rMaxA K [v]) maxA := opv_bestA fun {p n ns H Q} t q => ⟨p, n :: ns, rfl, t, by simp, fun m hm hy => by
  obtain ⟨f1, f2⟩ := foldl_max ns n
  have : m = ns.foldl max n := Int.le_antisymm (f2 m hm) (hy _ f1)
  subst this
  exact q⟩
theorem opv_minA : OpV1 K mg (fun v => rMinA K [v]) minA := opv_bestA fun {p n ns H Q} t q => ⟨p, n :: ns, rfl, t, by simp, fun m hm hy => by
  obtain ⟨f1, f2⟩ := foldl_min ns n
  have : m = ns.foldl min n := Int.le_antisymm (hy _ f1) (f2 m hm)
  subst this
  exact q⟩
end
end DL
namespace DL
open PySem PySem.Spec PyProof.Rows L2
/-! ### tuple(reversed(a tuple)) -/
theorem nolen_rt : typeLookup (.type "reversed") "__len__" = pure none := by rw [typeLookup_type, builtinLookup_eq_fast]; kernel_rfl
theorem hint_rt : typeLookup (.type "reversed") "__length_hint__" = pure (some (.builtin "reversed.__length_hint__")) := by rw [typeLookup_type, builtinLookup_eq_fast]; kernel_rfl
theorem slot_rt_hint : PySem.Slot "reversed" "__length_hint__" "reversed.__length_hint__" :=
  .of (owner := "reversed") (n := "__length_hint__") (by rw [typeLookup_type, builtinLookup_eq_fast]; kernel_rfl) (by decide +kernel) (by decide +kernel) (by decide +kernel)
    (by first | exact .inl (by decide +kernel) | exact .inr (by decide +kernel)) (by rw [isSubtype_type]; kernel_rfl)
theorem entry_rt_hint : entryFor table "reversed.__length_hint__" = some Builtin.«reversed.__length_hint__» := entryFor_of_tree (by kernel_rfl)
theorem args_rt_hint (a : Value) : argsOk "reversed.__length_hint__" ⟨[a], []⟩ := by
  unfold argsOk; rw [signature?_of (id := "reversed.__length_hint__") (n := ['_', '_', 't', 'n', 'i', 'h', '_', 'h', 't', 'g', 'n', 'e', 'l', '_', '_']) (o := ['d', 'e', 's', 'r', 'e', 'v', 'e', 'r']) (by kernel_rfl) RT.owner_rt]; kernel_rfl
theorem bind_rt_hint (self : Value) : bindSpecial (.builtin "reversed.__length_hint__") self = pure (.builtin "reversed.__length_hint__", [self]) := by
  have hop : withoutEnding? "reversed.__length_hint__" "#opaque" = none := by decide +kernel
  have hdat : withoutEnding? "reversed.__length_hint__" "#data" = none := by decide +kernel
  have bk : builtinKind "reversed.__length_hint__" = some .method := by decide +kernel
  simp only [bindSpecial, typeOf, builtinType, hop, hdat, bk]; rfl
section
variable {prog : Program} {w : World} {A : Around} {E : Value → Shared → Prop} {s : Shared}
theorem Walks.rt (hh : A.handled = none) (I t : Addr) (hne : t ≠ I) (items : Array Value) (hz : items.size ≤ sizeLine) :
    Walks prog w A I [I, t] [I] items.size (fun i v => items[items.size - 1 - i]? = some v) (fun i h => i ≤ items.size ∧ RT.IsRt h I t ((items.size : Int) - 1 - (i : Int)) ∧ IsTup h t items) where
  sub := fun b hb => by simp at hb; simp [hb]
  frame := fun _ _ _ x hk => ⟨x.1, x.2.1.at fun o e => hk I (by simp) o e, by obtain ⟨o, e, r⟩ := x.2.2; exact ⟨o, hk t (by simp) o e, r⟩⟩
  item := fun i s Q E hi x hQ => by
    have e : (items.size : Int) - 1 - (i : Int) = ((items.size - 1 - i : Nat) : Int) := by omega
    have hit := x.2.1
    rw [e] at hit
    have hx : items[items.size - 1 - i]? = some (items[items.size - 1 - i]'(by omega)) := Array.getElem?_eq_getElem (by omega)
    refine RT.next_rt_item hit x.2.2 hx hz fun h' hit' hs' => ?_
    have e2 : ((items.size - 1 - i : Nat) : Int) - 1 = (items.size : Int) - 1 - ((i + 1 : Nat) : Int) := by omega
    rw [e2] at hit'
    exact hQ _ h' _ hx ⟨hi, hit', by obtain ⟨o, e, r⟩ := x.2.2; exact ⟨o, (hs'.2 t hne).trans e, r⟩⟩ fun b o hb eo => hs'.extBut b o (fun h => hb (by simp [h])) eo
  done := fun s Q E x hQ => by
    have e : (items.size : Int) - 1 - (items.size : Int) = -1 := by omega
    have hit := x.2.1
    rw [e] at hit
    exact RT.next_rt_end hh hit fun h' he' => hQ h' s.toks fun b o hb e => he' b o (fun h => hb (by simp [h])) e
  self := fun _ _ _ _ x hQ => RT.iter_rt x.2.1 hQ
theorem hint_raw {it t : Addr} {items : Array Value} {Q : Bool → Shared → Prop} (hit : RT.IsRt s.heap it t ((items.size : Int) - 1)) (ht : IsTup s.heap t items) (hz : items.size ≤ sizeLine)
    (h : ∀ tk, Q (decide (items.size ≠ 0)) { s with toks := tk }) : wpAny (model prog w) A (Builtin.List.listLengthHint (.ref it)) Q E s := by
  obtain ⟨o, ho, hc, hd⟩ := id hit
  have hsz := hz
  rw [sizeLine_eq] at hsz
  unfold Builtin.List.listLengthHint
  refine wpAny_bind (wpAny_specialOf hit.typeIs nolen_rt ?_)
  show wpAny _ _ (specialOf (Value.ref it) (Str.ofString "__length_hint__") >>= _) _ _ _
  refine wpAny_bind (wpAny_specialOf hit.typeIs hint_rt ?_)
  generalize hid : ("reversed.__length_hint__" : String) = id0
  wp_delta
  rw [show splitId id0 = some ("reversed", "__length_hint__") from by subst hid; decide +kernel]
  subst hid
  refine wpAny_bind (wpAny_isInstance (b := true) hit.typeIs (by rw [isSubtype_type]; kernel_rfl) ?_)
  rw [if_neg (by decide)]
  refine wpAny_bind (wpAny_rule ?_)
  refine wpAny_bind (wpAny_of_eq (bind_rt_hint _) ?_)
  refine wpAny_bind (wpAny_attempt (wpAny_call_entry slot_rt_hint hit.typeIs entry_rt_hint ?_ (args_rt_hint _)))
  unfold Builtin.«reversed.__length_hint__»
  refine wpAny_bind (wpAny_of_eq (a := Value.ref it) rfl ?_)
  refine wpAny_bind (wpAny_field ho hd (x := .ref t) rfl ?_)
  rw [if_neg (show ¬ ((Value.ref t == Value.none) = true) from Bool.false_ne_true)]
  refine wpAny_bind (PyProof.Rows.len_tuple ht (by omega) ?_)
  refine wpAny_bind (wpAny_of_eq (a := some ((items.size : Nat) : Int)) rfl ?_)
  try dsimp only
  refine wpAny_bind (wpAny_field (s := { s with toks := s.toks + 1 + 1 }) ho hd (x := rawInt ((items.size : Int) - 1)) rfl ?_)
  have es : (items.size : Int) - 1 + 1 = (items.size : Int) := by omega
  show wpAny _ _ (if (items.size : Int) < (items.size : Int) - 1 + 1 then _ else retInt ((items.size : Int) - 1 + 1)) _ _ _
  rw [es, if_neg (by omega)]
  show wpAny _ _ (mkInt _ >>= fun v => ret v) _ _ _
  refine wpAny_bind (wpAny_mkInt (wpAny_pure ⟨_, rfl, ?_⟩))
  show wpAny _ _ (asInt? (Value.int ((items.size : Nat) : Int) _) >>= _) _ _ _
  simp only [asInt?, pure_bind]
  have fitI : ¬ ((!Builtin.List.listFitsIndex ((items.size : Nat) : Int)) = true) := by
    have a1 : (-(2 ^ 63 : Int)) ≤ ((items.size : Nat) : Int) := by omega
    have a2 : ((items.size : Nat) : Int) < 2 ^ 63 := by omega
    rw [show Builtin.List.listFitsIndex ((items.size : Nat) : Int) = true from by rw [Builtin.List.listFitsIndex, decide_eq_true a1, decide_eq_true a2]; rfl]
    decide
  rw [if_neg fitI, if_neg (by omega), if_neg (by unfold Builtin.List.listTooLong; rw [Int.toNat_natCast, sizeLine_eq]; simp only [decide_eq_true_eq]; omega)]
  refine wpAny_pure ?_
  have eb : (((items.size : Nat) : Int) != 0) = decide (items.size ≠ 0) := by
    by_cases h0 : items.size = 0
    · simp [h0]
    · have : ((items.size : Nat) : Int) ≠ 0 := by omega
      simp [h0]
  rw [eb]
  exact h _
theorem collect_rt {it t : Addr} {items : Array Value} {Q : List Value → Shared → Prop} (hh : A.handled = none) (hit : RT.IsRt s.heap it t ((items.size : Int) - 1)) (ht : IsTup s.heap t items) (hne : t ≠ it) (hz : items.size ≤ sizeLine)
    (hQ : ∀ (h' : Heap) (tk : Nat) (acc : Array Value), (∀ b o, b ≠ it → s.heap.get? b = some o → h'.get? b = some o) → ItemsOf (fun i v => items[items.size - 1 - i]? = some v) acc items.size → Q acc.toList { s with heap := h', toks := tk }) :
    wpAny (model prog w) A (collect (.ref it)) Q E s := by
  have W := (Walks.rt (prog := prog) (w := w) (A := A.in1) hh it t hne items hz).toS
  obtain ⟨oi, hoi, _⟩ := id hit
  obtain ⟨ot, hot, hot2⟩ := id ht
  have hSi : s.heap.objs.size ≠ it := Nat.ne_of_gt (Heap.lt_size hoi)
  have hSl : s.heap.objs.size ≠ t := Nat.ne_of_gt (Heap.lt_size hot)
  have hSf : s.heap.objs.size ∉ [it, t] := by simp only [List.mem_cons, List.not_mem_nil, or_false, not_or]; exact ⟨hSi, hSl⟩
  unfold collect
  refine wpAny_bind (wpAny_runValue (codeAny_builtin F.entry_proto_collect ?_))
  rw [Around.under_plainId F.plain_proto_collect _]
  show wpAny _ A.in1 (newList [] >>= fun l' => again (.builtin "list.__iadd__" ⟨[l', .ref it], []⟩)) _ _ s
  refine wpAny_bind (wpAny_newObj_type ?_)
  refine wpAny_pure ⟨plainId_quiet F.plain_list_iadd _, codeAny_builtin F.entry_list_iadd ?_⟩
  rw [Around.under_plainId F.plain_list_iadd _]
  have hS₁ : (s.heap.push { cls := .type "list", data := .seq ([] : List Value).toArray }).get? s.heap.objs.size = some { cls := .type "list", data := .seq ([] : List Value).toArray } := Heap.get?_push_size _ rfl
  have hit1 : RT.IsRt (s.heap.push { cls := .type "list", data := .seq ([] : List Value).toArray }) it t ((items.size : Int) - 1) := hit.at fun o e => Heap.get?_push_of_some _ e
  have ht1 : IsTup (s.heap.push { cls := .type "list", data := .seq ([] : List Value).toArray }) t items := ⟨ot, Heap.get?_push_of_some _ hot, hot2⟩
  have hT : ({ s with heap := s.heap.push { cls := .type "list", data := .seq ([] : List Value).toArray } } : Shared).TypeIs (.ref it) "reversed" := RT.IsRt.typeIs (s := { s with heap := s.heap.push { cls := .type "list", data := .seq ([] : List Value).toArray } }) hit1
  have h1 : Builtin.List.listSameRef (.ref s.heap.objs.size) (.ref it) = false := by simp [Builtin.List.listSameRef, hSi]
  show wpAny _ A.in1 (Builtin.List.listExtendWith (.ref s.heap.objs.size) (.ref it) (.ref s.heap.objs.size)) _ _ _
  unfold Builtin.List.listExtendWith
  refine wpAny_bind (wpAny_typeOf hT ?_)
  rw [if_neg (by rw [h1]; decide)]
  refine wpAny_bind (RT.iter_rt (s := { s with heap := s.heap.push { cls := .type "list", data := .seq ([] : List Value).toArray } }) hit1 ?_)
  refine wpAny_bind (wpAny_holding (hint_raw (s := { s with heap := s.heap.push { cls := .type "list", data := .seq ([] : List Value).toArray } }) hit1 ht1 hz fun tk => ?_))
  have e0 : ((items.size : Nat) : Int) - 1 - ((0 : Nat) : Int) = (items.size : Int) - 1 := by omega
  by_cases h0 : items.size = 0
  · rw [if_neg (by rw [h0]; decide)]
    refine wpAny_pure ⟨plainId_quiet F.plain_extend_loop _, codeAny_extend_loopS W hz _ hSf _ items.size 0 _ _ _ rfl (Nat.zero_le _) ⟨Nat.zero_le _, by rw [e0]; exact hit1, ht1⟩ hS₁ (ItemsOf.nil _) fun s' acc' c' hm hS' hacc => ?_⟩
    show wpAny _ A (load s.heap.objs.size >>= _) _ _ s'
    refine wpAny_bind (wpAny_load hS' ?_)
    refine wpAny_pure ?_
    rw [Moved.eq_with hm]
    refine hQ s'.heap s'.toks acc' (fun b o hb e => hm.heap b o (fun hmem => ?_) (Heap.get?_push_of_some _ e)) hacc
    rcases List.mem_cons.mp hmem with e' | hmem
    · exact absurd (Heap.lt_size e) (by rw [e']; exact Nat.lt_irrefl _)
    · exact hb (List.mem_singleton.mp hmem)
  · rw [if_pos (by rw [decide_eq_true h0]; rfl)]
    refine wpAny_bind (wpAny_rule ?_)
    refine wpAny_bind ?_
    show wpAny _ A.in1 (updateSeq s.heap.objs.size (·.push .none) >>= fun _ => updateSeq s.heap.objs.size (·.pop)) _ _ _
    refine wpAny_bind (wpAny_updateSeq hS₁ rfl ?_)
    have hS₂ := Heap.get?_update_self (Obj.mapSeq (·.push Value.none)) hS₁ rfl
    refine wpAny_updateSeq hS₂ rfl ?_
    have hS₃ := Heap.get?_update_self (Obj.mapSeq (·.pop)) hS₂ rfl
    have oth : ∀ b o, b ≠ s.heap.objs.size → (s.heap.push { cls := .type "list", data := .seq ([] : List Value).toArray }).get? b = some o →
        (((s.heap.push { cls := .type "list", data := .seq ([] : List Value).toArray }).update s.heap.objs.size (Obj.mapSeq (·.push Value.none))).update s.heap.objs.size (Obj.mapSeq (·.pop))).get? b = some o :=
      fun b o hb e => (Heap.get?_update_other _ _ (Ne.symm hb)).trans ((Heap.get?_update_other _ _ (Ne.symm hb)).trans e)
    refine wpAny_pure ⟨plainId_quiet F.plain_extend_loop _, codeAny_extend_loopS W hz _ hSf _ items.size 0 _ _ _ rfl (Nat.zero_le _) ⟨Nat.zero_le _, by rw [e0]; exact (hit1.at fun o e => oth _ _ (Ne.symm hSi) e), (by obtain ⟨o, e, r⟩ := ht1; exact ⟨o, oth _ _ (Ne.symm hSl) e, r⟩)⟩ hS₃ (ItemsOf.nil _) fun s' acc' c' hm hS' hacc => ?_⟩
    show wpAny _ A (load s.heap.objs.size >>= _) _ _ s'
    refine wpAny_bind (wpAny_load hS' ?_)
    refine wpAny_pure ?_
    rw [Moved.eq_with hm]
    refine hQ s'.heap s'.toks acc' (fun b o hb e => hm.heap b o (fun hmem => ?_) (oth b o (Nat.ne_of_lt (Heap.lt_size e)) (Heap.get?_push_of_some _ e))) hacc
    rcases List.mem_cons.mp hmem with e' | hmem
    · exact absurd (Heap.lt_size e) (by rw [e']; exact Nat.lt_irrefl _)
    · exact hb (List.mem_singleton.mp hmem)
theorem call_tuple_rt {it l : Addr} {items : Array Value} {Q : Value → Shared → Prop} (hh : A.handled = none) (hit : RT.IsRt s.heap it l ((items.size : Int) - 1)) (hl : IsTup s.heap l items) (hne : l ≠ it) (hn : items.size ≤ sizeLine)
    (hQ : ∀ (h' : Heap) (tk : Nat) (acc : Array Value), (∀ b o, b ≠ it → s.heap.get? b = some o → h'.get? b = some o) → ItemsOf (fun i v => items[items.size - 1 - i]? = some v) acc items.size →
      Q (.ref h'.objs.size) { s with heap := h'.push { cls := .type "tuple", data := .seq acc }, toks := tk }) :
    wpAny (model prog w) A (call (.type "tuple") [.ref it]) Q E s := by
  refine callType_codes (Q₁ := fun obj s₁ => s₁.TypeIs obj "tuple" ∧ Q obj s₁) F.called_tuple (F.typeCall_tuple_1 _) F.entry_object_init (codeAny_of_tree ?_) fun obj s₁ h₁ => ?_
  · show wpAny _ A.in1.in1 (do checkBuiltinCall "tuple.__new__" ⟨[.type "tuple", .ref it], []⟩; again (.builtin "tuple.__new__" ⟨[.type "tuple", .ref it], []⟩)) _ _ s
    refine wpAny_bind (wpAny_of_eq (F.newCall_tuple_1 _) (wpAny_pure ⟨plainId_quiet F.plain_tuple_new _, codeAny_builtin F.entry_tuple_new ?_⟩))
    rw [Around.under_plainId F.plain_tuple_new _]
    have hsub := sub_tuple_self
    have hinit := init_tuple_lookup
    have hmh := madeHere_tuple
    have hTI : s.TypeIs (.ref it) "reversed" := hit.typeIs
    have hh1 : A.in1.in1.handled = none := hh
    wp_walk using wpAny_typeOf hTI, collect_rt (A := A.in1.in1) hh1 hit hl hne hn
    intro h' tk acc hk hacc
    show wpAny _ _ (Builtin.Tuple.tupleExact acc.toList.toArray >>= fun v => ret v) _ _ _
    unfold Builtin.Tuple.tupleExact
    refine wpAny_bind (wpAny_newObj_type ?_ (by show acc.toList.toArray.size ≤ sizeLine; simp only [Array.toArray_toList]; rw [hacc.1]; exact hn))
    refine wpAny_pure ?_
    have e : acc.toList.toArray = acc := by simp
    rw [e]
    exact ⟨⟨_, Heap.get?_push_size _ rfl, rfl⟩, hQ h' tk acc hk hacc⟩
  · exact ⟨h₁.1, F.args_object_init_2 obj _, object_init_meets F.called_tuple.init.lookup F.called_tuple.made (by decide) prog w A.in1 _ s₁ ⟨h₁.1, rfl, h₁.2⟩⟩
end
def tTupRevA (K : PySem.W.Frag) (te : TE) : TE := fun σ H Q => te σ H fun v H1 => ∃ (a : Addr) (xs : List V), v = .ref a ∧ SqA K H1 a xs ∧ ∀ q, H1 q = none → Q (.ref q) (upd H1 q (.tup xs.reverse))
section
variable {X : Cx} {e : Expr} {te : TE} {p p2 pos pos2 : Pos}
theorem pe_tupRevA (hc : X.calm = true) (hg : Gl X "tuple") (hm : X.mg "tuple" = none) (hg2 : Gl X "reversed") (hm2 : X.mg "reversed" = none) (he : PE X e te)
    (hs : starEach [e] X.env = (false, eval e X.env) :: starEach [] X.env := by rfl)
    (hs2 : starEach [.Call (.Name "reversed" p2) [e] [] pos2] X.env = (false, eval (.Call (.Name "reversed" p2) [e] [] pos2) X.env) :: starEach [] X.env := by rfl) :
    PE X (.Call (.Name "tuple" p) [.Call (.Name "reversed" p2) [e] [] pos2] [] pos) (tTupRevA X.K te) := by
  refine ⟨fun pins s σ H Q I h => ?_⟩
  refine Call_ (ld_blt I hg hm boot_tuple (PyProof.Rows.callWith_type1 (args_cons (Call_ (ld_blt I hg2 hm2 PyProof.Rows.boot_reversed (PyProof.Rows.callWith_type1 (args_cons (thn (he.run pins s σ H _ I h) fun u s1 ⟨v, H1, I1, r1, q1⟩ => args_nil ?_) hs) hs rfl))) hs2) hs2 rfl))
  obtain ⟨a, xs, ev, hq, q⟩ := q1
  subst ev
  obtain rfl : u = Value.ref a := r1
  obtain ⟨f0, f1, f2, f3, f4, f5⟩ := I1.fpOk (H' := H1) (b := s1.heap.objs.size) (Nat.le_refl _) (I1.hok.fresh (Nat.le_refl _))
  rcases hq with hq | hq
  · obtain ⟨its, rv, p', hz⟩ := I1.list hq
    refine call_reversed_list p'.isList (args_nil ?_)
    have k0 : ∀ b o, s1.heap.get? b = some o → (s1.heap.push (revObj a ((its.toArray.size : Int) - 1))).get? b = some o := fun b o e => Heap.get?_push_of_some _ e
    have I2 : Inv X pins σ H1 { s1 with heap := s1.heap.push (revObj a ((its.toArray.size : Int) - 1)) } := I1.kept (t' := s1.toks) k0
    have hl := p'.isList
    obtain ⟨ol, hol, _⟩ := id hl
    have hne : a ≠ s1.heap.objs.size := Nat.ne_of_lt (Heap.lt_size hol)
    have hn : its.toArray.size ≤ sizeLine := by rw [List.size_toArray, ← rv.length]; exact hz
    refine RT.call_tuple_rev (s := { s1 with heap := s1.heap.push (revObj a ((its.toArray.size : Int) - 1)) }) (I1.ok.hd hc) ⟨_, Heap.get?_push_size _ rfl, rfl, rfl⟩ (hl.push _) hne hn fun h' tk acc hk hi => ?_
    have I3 : Inv X pins σ H1 { s1 with heap := h', toks := tk } := I2.turned (t' := tk) (fun b o hb e => hk b o hb e) f0 f1 f3 f4 f5
    refine ⟨.ref h'.objs.size, upd H1 h'.objs.size (.tup xs.reverse), I3.laid (t' := tk) (fun c o e => Heap.get?_push_of_some _ e) (Nat.le_refl _) (show ObjOk X.prog X.w _ _ _ (.tup xs.reverse) from ⟨by rw [List.length_reverse]; exact hz, acc.toList, RT.vals_rev rv hi, ?_⟩), rfl, q _ (I3.hok.fresh (Nat.le_refl _))⟩
    rw [Array.toArray_toList]
    exact IsTup.new _ _
  · obtain ⟨its, rv, p', hz⟩ := I1.tuple hq
    have hn : its.toArray.size ≤ sizeLine := by rw [List.size_toArray, ← rv.length]; exact hz
    have hn2 := hn
    rw [sizeLine_eq] at hn2
    refine RT.call_reversed_tup p' (fun A E Q k => len_tuple p' (by omega) k) (args_nil ?_)
    have k0 : ∀ b o, s1.heap.get? b = some o → (s1.heap.push (RT.rtObj a ((its.toArray.size : Int) - 1))).get? b = some o := fun b o e => Heap.get?_push_of_some _ e
    have I2 : Inv X pins σ H1 { s1 with heap := s1.heap.push (RT.rtObj a ((its.toArray.size : Int) - 1)), toks := s1.toks + 1 + 1 } := I1.kept (t' := s1.toks + 1 + 1) k0
    obtain ⟨ot, hot, hot2⟩ := id p'
    have hne : a ≠ s1.heap.objs.size := Nat.ne_of_lt (Heap.lt_size hot)
    refine call_tuple_rt (s := { s1 with heap := s1.heap.push (RT.rtObj a ((its.toArray.size : Int) - 1)), toks := s1.toks + 1 + 1 }) (I1.ok.hd hc) ⟨_, Heap.get?_push_size _ rfl, rfl, rfl⟩ ⟨ot, k0 _ _ hot, hot2⟩ hne hn fun h' tk acc hk hi => ?_
    have I3 : Inv X pins σ H1 { s1 with heap := h', toks := tk } := I2.turned (t' := tk) (fun b o hb e => hk b o hb e) f0 f1 f3 f4 f5
    refine ⟨.ref h'.objs.size, upd H1 h'.objs.size (.tup xs.reverse), I3.laid (t' := tk) (fun c o e => Heap.get?_push_of_some _ e) (Nat.le_refl _) (show ObjOk X.prog X.w _ _ _ (.tup xs.reverse) from ⟨by rw [List.length_reverse]; exact hz, acc.toList, RT.vals_rev rv hi, ?_⟩), rfl, q _ (I3.hok.fresh (Nat.le_refl _))⟩
    rw [Array.toArray_toList]
    exact IsTup.new _ _
end
section
variable {K : PySem.W.Frag} {mg : Str → Option Value} {X : Cx} {G : Gm} {Wx : WX} {e : Expr} {fe : EV} {pos : Pos}
def tupRevA : D → Option RV
  | .lst xs => some (.pv (.tup xs.reverse))
  | .scr xs => some (.pv (.tup xs.reverse))
  | .tup xs => some (.pv (.tup xs.reverse))
  | _ => none
theorem opv_tupRevA : OpV1 K mg (fun v H Q => ∃ (a : Addr) (xs : List V), v = .ref a ∧ SqA K H a xs ∧ ∀ q, H q = none → Q (.ref q) (upd H q (.tup xs.reverse))) tupRevA := by
  intro B H x a res Q hB ha e q
  cases a with
  | lst xs => cases e; obtain ⟨p, vs, rfl, t, r⟩ := ha.lst; exact ⟨p, vs, rfl, .inl (SqL.of t), fun l hl => q _ _ (.tup hB hl r.reverse)⟩
  | scr xs => cases e; obtain ⟨p, vs, rfl, t, r⟩ := ha.scr; exact ⟨p, vs, rfl, .inl t.sq, fun l hl => q _ _ (.tup hB hl r.reverse)⟩
  | tup xs => cases e; obtain ⟨p, vs, rfl, t, r⟩ := ha.tup; exact ⟨p, vs, rfl, .inr t.sq, fun l hl => q _ _ (.tup hB hl r.reverse)⟩
  | _ => cases e
theorem ed_tupRevA {p p2 pos2 : Pos} (hc : X.calm = true) (hg : Gl X "tuple") (hm : X.mg "tuple" = none) (hg2 : Gl X "reversed") (hm2 : X.mg "reversed" = none) (he : ED X G Wx e fe)
    (hs : starEach [e] X.env = (false, eval e X.env) :: starEach [] X.env := by rfl)
    (hs2 : starEach [.Call (.Name "reversed" p2) [e] [] pos2] X.env = (false, eval (.Call (.Name "reversed" p2) [e] [] pos2) X.env) :: starEach [] X.env := by rfl) :
    ED X G Wx (.Call (.Name "tuple" p) [.Call (.Name "reversed" p2) [e] [] pos2] [] pos) (eOp1 tupRevA fe) :=
  ⟨PE.imp (pe_tupRevA hc hg hm hg2 hm2 he.pe hs hs2) fun σ H Q h => tE_op1 opv_tupRevA h⟩
end
end DL
namespace DL
open PySem PySem.Spec PyProof.Rows L2
/-! ### xs.remove(k), ints, k among them -/
def eRem (i : Nat) (fe : EV) : EV := fun s => match lstAt i s with
  | some _ => (fe s).bind fun r s1 => match rd r s1, lstAt i s1 with
    | some (.int k), some ds => match allI ds with
      | some ns => if k ∈ ns then .ok (.pv .non) (lstPut i ((ns.erase k).map D.int) s1) else .bad
      | none => .bad
    | _, _ => .bad
  | none => .bad
theorem reps_ints {K : PySem.W.Frag} {mg : Str → Option Value} {B : Addr → Prop} {H : Hp} : ∀ ns : List Int, Reps K mg B H (ns.map D.int) (ns.map V.int)
  | [] => by simp [Reps]
  | n :: ns => by
    rw [List.map_cons, List.map_cons]
    unfold Reps
    exact ⟨_, _, rfl, by unfold Rep; rfl, reps_ints ns⟩
theorem erase_at {k : Int} : ∀ {ns : List Int}, k ∈ ns → ∃ j : Nat, ns[j]? = some k ∧ (∀ m : Nat, m < j → ns[m]? ≠ some k) ∧ ns.eraseIdx j = ns.erase k
  | [], h => by simp at h
  | n :: ns, h => by
    by_cases e : n = k
    · subst e
      exact ⟨0, rfl, fun m hm => absurd hm (by omega), by simp⟩
    · have h2 : k ∈ ns := by
        rcases List.mem_cons.mp h with h | h
        · exact absurd h.symm e
        · exact h
      obtain ⟨j, h3, h4, h5⟩ := erase_at h2
      refine ⟨j + 1, by simpa using h3, fun m hm => ?_, ?_⟩
      · cases m with
        | zero => simpa using e
        | succ m => simpa using h4 m (by omega)
      · have e2 : (n == k) = false := by simpa using e
        rw [List.eraseIdx_cons_succ, h5, List.erase_cons, e2]; rfl
section
variable {K : PySem.W.Frag} {mg : Str → Option Value} {X : Cx} {G : Gm} {Wx : WX} {e : Expr} {fe : EV} {pos : Pos}
theorem ed_remove (i : Nat) {x : Str} {p apos cpos : Pos} (ho : PE X (.Name x p) (tVar i)) (he : ED X G Wx e fe)
    (hbase : attributeBase (.Name x p) "remove" X.env (eval (.Name x p) X.env) = eval (.Name x p) X.env := by rfl)
    (hfew : ((backTo cpos (starEach [e] X.env)).all (fun x => !x.1) && (backToKw cpos (keywordEach [] X.env)).all (fun x => x.1.isSome) && decide ([e].length + ([] : List Keyword).length + (if ([] : List Keyword).isEmpty then 0 else 1) < 30)) = true := by rfl)
    (hline : (apos.endLine == cpos.line) = true := by rfl) (hs : starEach [e] X.env = (false, eval e X.env) :: starEach [] X.env := by rfl) : ED X G Wx (.Call (.Attribute (.Name x p) "remove" apos) [e] [] cpos) (eRem i fe) := by
  refine ⟨PE.imp (pe_bm PySem.F.plainAttrs_list PySem.F.slot_list_remove PySem.F.type_list_remove mt_remove ho (pa_cons he.pe pa_nil hs) hbase hfew hline hs rfl) fun σ H Q ⟨P, A, L, s, hs, h⟩ => ?_⟩
  unfold eRem at h
  split at h
  · rename_i ds0 e0
    obtain ⟨q0, xs0, e1, e2, _, _, _⟩ := hs.mutate (ds' := []) e0
    refine ⟨_, e1, .inl ⟨rfl, _, SqL.of e2⟩, (tE_one hs h).mono fun v H1 ⟨A1, L1, s1, r, a1, h1⟩ => ?_⟩
    split at h1
    · rename_i k ds e3 e4
      split at h1
      · rename_i ns e5
        split at h1
        · rename_i hk
          obtain ⟨q, xs, f1, f2, f3, f4, f5⟩ := a1.weak.mutate (ds' := []) e4
          rw [e1] at f1; cases f1
          have := allI_some e5
          subst this
          have := f3.ints
          subst this
          have hv := rd_ok a1.weak a1.ok e3
          have hv2 : v = V.int k := hv.int
          subst hv2
          obtain ⟨j, g1, g2, g3⟩ := erase_at hk
          obtain ⟨sr3, st3⟩ := f5 ((ns.erase k).map D.int) ((ns.erase k).map V.int) (reps_ints _)
          exact ⟨q0, ns, k, j, rfl, rfl, f2, g1, g2, by rw [g3]; exact h1 A1 L1 _ _ (At.non sr3 (a1.st.trans st3) hs.p0)⟩
        · exact h1.elim
      · exact h1.elim
    · exact h1.elim
  · exact h.elim
end
end DL
namespace DL
open PySem PySem.Spec PyProof.Rows L2
/-! ### max of a list of pairs of ints: the comparisons read the heap -/
/-- comparisons that may lean on the walk's state -/
def CmpH (prog : Program) (w : World) (A : Around) (P : Nat → Value → Prop) (St : Nat → Heap → Prop) (bt : Nat → Nat → Bool) : Prop :=
  ∀ i j k vi vj (s : Shared) (Q E : Value → Shared → Prop), St k s.heap → P i vi → P j vj → Q (.bool (bt i j)) s → wpAny (model prog w) A (richCompare .Gt vi vj) Q E s
section
variable {prog : Program} {w : World} {A : Around} {R : Result → Shared → Prop} {I : Addr} {fp wr : List Addr} {n : Nat} {P : Nat → Value → Prop} {St : Nat → Heap → Prop}
theorem pair_loop (W : Walks prog w A.in1 I fp wr n P St) (bt : Nat → Nat → Bool) (hcmp : CmpH prog w A.in1 P St bt) (S : Addr) (hSf : S ∉ fp) (hname : (toString "max" ++ toString ".loop" : String) = "max.loop") :
    ∀ (k j : Nat) (s : Shared) (vb : Value) (c : Nat), n - (j + 1) = k → j + 1 ≤ n → St (j + 1) s.heap → P (argBest bt j) vb → s.heap.get? S = some { cls := .type "list", dict := none, data := .seq #[vb, vb] c, slots := #[] } →
    (∀ v h' tk, P (argBest bt (n - 1)) v → (∀ b o, b ∉ wr → b ≠ S → s.heap.get? b = some o → h'.get? b = some o) → R (.ok (.ret v)) { s with heap := h', toks := tk }) → codeAny (model prog w) A (.builtin "max.loop" ⟨[.ref I, .none, .ref S], []⟩) R s
  | 0, j, s, vb, c, hk, hj, hst, hPb, hS, hR => by
    have hSw : S ∉ wr := fun h => hSf (W.sub _ h)
    have hin : j + 1 = n := by omega
    refine codeAny_builtin F.entry_max_loop ?_
    rw [Around.under_plainId F.plain_max_loop _]
    show wpAny _ A.in1 (seqItems? (.ref S) >>= _) _ _ s
    refine wpAny_bind (wpAny_seqItems hS rfl ?_)
    show wpAny _ A.in1 (tryCatch (pyNext (.ref I)) _ >>= _) _ _ s
    refine wpAny_bind (wpAny_tryCatch (W.done s _ _ (hin ▸ hst) fun h' tk hk' => ?_))
    show wpAny _ A.in1 (updateSeq S (fun _ => #[]) >>= _) _ _ _
    exact wpAny_bind (wpAny_updateSeq (hk' S _ hSw hS) rfl (wpAny_bind (wpAny_letGo (wpAny_pure (hR vb _ tk (by rw [← hin]; exact hPb) fun b o hbw hbS e => (Heap.get?_update_other _ _ (Ne.symm hbS)).trans (hk' b o hbw e))))))
  | k + 1, j, s, vb, c, hk, hj, hst, hPb, hS, hR => by
    have hSw : S ∉ wr := fun h => hSf (W.sub _ h)
    have hlt : j + 1 < n := by omega
    refine codeAny_builtin F.entry_max_loop ?_
    rw [Around.under_plainId F.plain_max_loop _]
    show wpAny _ A.in1 (seqItems? (.ref S) >>= _) _ _ s
    refine wpAny_bind (wpAny_seqItems hS rfl ?_)
    show wpAny _ A.in1 (tryCatch (pyNext (.ref I)) _ >>= _) _ _ s
    refine wpAny_bind (wpAny_tryCatch (W.item (j + 1) s _ _ hlt hst fun v h' tk hP hst' hk' => ?_))
    have hS' := hk' S _ hSw hS
    show wpAny _ A.in1 (tryCatch (holding [v, v] (richCompare .Gt v vb >>= _)) _ >>= _) _ _ _
    refine wpAny_bind (wpAny_tryCatch (wpAny_holding (wpAny_bind (hcmp (j + 1) (argBest bt j) _ v vb _ _ _ hst' hP hPb (wpAny_bind (wpAny_holding (wpAny_truthy_bool (wpAny_bind (wpAny_letGo (wpAny_pure ?_))))))))))
    cases hb : bt (j + 1) (argBest bt j) with
    | true =>
      simp only [if_true]
      refine wpAny_bind ?_
      refine wpAny_updateSeq hS' rfl (wpAny_bind (wpAny_letGo ?_))
      rw [hname]
      refine wpAny_pure ⟨plainId_quiet F.plain_max_loop _, pair_loop W bt hcmp S hSf hname k (j + 1) _ v _ (by omega) hlt (W.frame _ _ _ hst' fun b hbf o e => ?_) (by simp only [argBest, hb, if_true]; exact hP) (Heap.get?_update_self _ hS' rfl)
        fun v' h'' tk'' hP' hk'' => hR v' h'' tk'' hP' fun b o hbw hbS e => hk'' b o hbw hbS ((Heap.get?_update_other _ _ (Ne.symm hbS)).trans (hk' b o hbw e))⟩
      exact (Heap.get?_update_other _ _ (fun h : S = b => hSf (by rw [h]; exact hbf))).trans e
    | false =>
      simp only [Bool.false_eq_true, if_false]
      refine wpAny_bind (wpAny_letGo ?_)
      rw [hname]
      exact wpAny_pure ⟨plainId_quiet F.plain_max_loop _, pair_loop W bt hcmp S hSf hname k (j + 1) _ vb c (by omega) hlt hst' (by simp only [argBest, hb, Bool.false_eq_true, if_false]; exact hPb) hS' fun v' h'' tk'' hP' hk'' => hR v' h'' tk'' hP' fun b o hbw hbS e => hk'' b o hbw hbS (hk' b o hbw e)⟩
theorem pair_first (W : Walks prog w A.in1 I fp wr n P St) (bt : Nat → Nat → Bool) (hcmp : CmpH prog w A.in1 P St bt) (S : Addr) (hSf : S ∉ fp) (hn : 0 < n) {s : Shared} {c : Nat} (hst : St 0 s.heap)
    (hS : s.heap.get? S = some { cls := .type "list", dict := none, data := .seq #[] c, slots := #[] })
    (hR : ∀ v h' tk, P (argBest bt (n - 1)) v → (∀ b o, b ∉ wr → b ≠ S → s.heap.get? b = some o → h'.get? b = some o) → R (.ok (.ret v)) { s with heap := h', toks := tk }) :
    codeAny (model prog w) A (.builtin "max.loop" ⟨[.ref I, .none, .ref S], []⟩) R s := by
  have hSw : S ∉ wr := fun h => hSf (W.sub _ h)
  have hname : (toString "max" ++ toString ".loop" : String) = "max.loop" := by decide
  refine codeAny_builtin F.entry_max_loop ?_
  rw [Around.under_plainId F.plain_max_loop _]
  show wpAny _ A.in1 (seqItems? (.ref S) >>= _) _ _ s
  refine wpAny_bind (wpAny_seqItems hS rfl ?_)
  show wpAny _ A.in1 (tryCatch (pyNext (.ref I)) _ >>= _) _ _ s
  refine wpAny_bind (wpAny_tryCatch (W.item 0 s _ _ hn hst fun v h' tk hP hst' hk' => ?_))
  have hS' := hk' S _ hSw hS
  show wpAny _ A.in1 (updateSeq S (fun _ => #[v, v]) >>= _) _ _ _
  refine wpAny_bind (wpAny_updateSeq hS' rfl ?_)
  rw [hname]
  refine wpAny_pure ⟨plainId_quiet F.plain_max_loop _, pair_loop W bt hcmp S hSf hname _ 0 _ v _ rfl hn (W.frame _ _ _ hst' fun b hbf o e => ?_) hP (Heap.get?_update_self _ hS' rfl) fun v' h'' tk'' hP' hk'' =>
    hR v' h'' tk'' hP' fun b o hbw hbS e => hk'' b o hbw hbS ((Heap.get?_update_other _ _ (Ne.symm hbS)).trans (hk' b o hbw e))⟩
  exact (Heap.get?_update_other _ _ (fun h : S = b => hSf (by rw [h]; exact hbf))).trans e
end
/-- the pairs that the walked list holds -/
structure Pairs (h : Heap) (items : Array Value) (n : Nat) (ad : Nat → Addr) (p : Nat → Int × Int) : Prop where
  at_ : ∀ j, j < n → items[j]? = some (.ref (ad j))
  tup : ∀ j, j < n → ∃ t u, h.IsTuple (ad j) #[.int (p j).1 t, .int (p j).2 u]
def gtP (p q : Int × Int) : Bool := decide (q.1 < p.1) || (decide (q.1 = p.1) && decide (q.2 < p.2))
section
variable {prog : Program} {w : World} {A : Around} {E : Value → Shared → Prop} {s : Shared} {l : Addr} {items : Array Value} {n : Nat} {ad : Nat → Addr} {p : Nat → Int × Int}
theorem Walks.pairs (hh : A.handled = none) (I l : Addr) (hne : l ≠ I) (hI : ∀ j, j < items.size → ad j ≠ I) :
    Walks prog w A I ([I, l] ++ (List.range items.size).map ad) [I] items.size (fun i v => items[i]? = some v) (fun i h => (h.IsListIter I l i ∧ h.IsList l items) ∧ Pairs h items items.size ad p) := by
  have W := Walks.list (prog := prog) (w := w) (A := A) hh I l hne items
  refine ⟨fun b hb => by simp at hb; simp [hb], fun i h h' st hk => ⟨W.frame i h h' st.1 fun b hb => hk b (List.mem_append_left _ hb), st.2.at_, fun j hj => ?_⟩, fun i s Q E hi st hQ => W.item i s Q E hi st.1 fun v h' tk hP st' hk => hQ v h' tk hP ⟨st', st.2.at_, fun j hj => ?_⟩ hk,
    fun s Q E st hQ => W.done s Q E st.1 hQ, fun i s Q E st hQ => W.self i s Q E st.1 hQ⟩
  · obtain ⟨t, u, o, ho, r⟩ := st.2.tup j hj
    exact ⟨t, u, o, hk (ad j) (List.mem_append_right _ (List.mem_map.mpr ⟨j, List.mem_range.mpr hj, rfl⟩)) o ho, r⟩
  · obtain ⟨t, u, o, ho, r⟩ := st.2.tup j hj
    exact ⟨t, u, o, hk (ad j) o (fun hm => hI j hj (List.mem_singleton.mp hm)) ho, r⟩
theorem gt_pair {a b : Addr} {x y x' y' : Int} {t u t' u' : Tok} {Q : Value → Shared → Prop} (ha : s.heap.IsTuple a #[.int x t, .int y u]) (hb : s.heap.IsTuple b #[.int x' t', .int y' u']) (hu : A.units < cLine) (hq : Q (.bool (gtP (x, y) (x', y'))) s) :
    wpAny (model prog w) A (richCompare .Gt (.ref a) (.ref b)) Q E s := by
  have R := Ob.RcOp.tuples_gt (A := A) (s := s) (e := fun j => if j = 0 then (x == x') else (y == y')) (r := fun j => if j = 0 then decide (x' < x) else decide (y' < y)) ha hb hu (fun j h1 h2 => ?_) (fun j h1 h2 _ => ?_)
  · refine R prog w E Q ?_
    have e : Ob.lexAt (fun j => if j = 0 then (x == x') else (y == y')) (fun j => if j = 0 then decide (x' < x) else decide (y' < y)) (decide (#[Value.int x t, .int y u].size > #[Value.int x' t', .int y' u'].size)) 0 (min #[Value.int x t, .int y u].size #[Value.int x' t', .int y' u'].size) = gtP (x, y) (x', y') := by
      show (if (x == x') = true then (if (y == y') = true then decide ((2 : Nat) > 2) else decide (y' < y)) else decide (x' < x)) = _
      unfold gtP
      by_cases h1 : x = x'
      · subst h1
        by_cases h2 : y = y'
        · subst h2; simp
        · simp [h2]
      · have h3 : ¬ x' = x := fun h => h1 h.symm
        simp [h1, h3]
    rw [e]; exact hq
  · have : j = 0 ∨ j = 1 := by simp at h1; omega
    rcases this with rfl | rfl
    · exact SeqAt.EqAt.int_int x t x' t'
    · exact SeqAt.EqAt.int_int y u y' u'
  · have : j = 0 ∨ j = 1 := by simp at h1; omega
    rcases this with rfl | rfl
    · exact Ob.RcOp.gt_int x x' t t'
    · exact Ob.RcOp.gt_int y y' u u'
theorem maxP_raw {Q : Value → Shared → Prop} (hh : A.handled = none) (hu : A.in1.units < cLine) (hl : s.heap.IsList l items) (hp : Pairs s.heap items items.size ad p) (hn : 0 < items.size)
    (h : ∀ j h' tk, j < items.size → (∀ i, i < items.size → gtP (p i) (p j) = false) → (∀ b o, s.heap.get? b = some o → h'.get? b = some o) → Q (.ref (ad j)) { s with heap := h', toks := tk }) : wpAny (model prog w) A (call (.builtin "max") [.ref l]) Q E s := by
  have hname : (toString "max" ++ toString ".loop" : String) = "max.loop" := by decide
  refine call_function_tree F.kind_max F.plain_max F.entry_max (F.args_max1 _) ?_
  show wpAny _ A.in1 (Builtin.Builtins.bindParams "max" ["key", "default"] 0 ⟨[], []⟩ >>= _) _ _ s
  refine wpAny_bind (wpAny_of_eq (show Builtin.Builtins.bindParams "max" ["key", "default"] 0 ⟨[], []⟩ = pure [none, none] from rfl) ?_)
  refine wpAny_bind (wpAny_pure ?_)
  have hlt : l < s.heap.objs.size := by obtain ⟨_, e, _⟩ := hl; exact Heap.lt_size e
  have hal : ∀ j, j < items.size → ad j < s.heap.objs.size := fun j hj => by obtain ⟨t, u, o, ho, _⟩ := hp.tup j hj; exact Heap.lt_size ho
  refine wpAny_bind (wpAny_pyIter_list hl ?_)
  refine wpAny_bind (wpAny_newObj_type ?_)
  have hsz : (s.heap.push { cls := .type "list_iterator", data := .fields #[.ref l, .int 0 0] }).objs.size = s.heap.objs.size + 1 := Heap.size_push ..
  have W := Walks.pairs (prog := prog) (w := w) (A := A.in1) (ad := ad) (p := p) (items := items) hh s.heap.objs.size l (Nat.ne_of_lt hlt) fun j hj => Nat.ne_of_lt (hal j hj)
  have hSf : (s.heap.push { cls := .type "list_iterator", data := .fields #[.ref l, .int 0 0] }).objs.size ∉ [s.heap.objs.size, l] ++ (List.range items.size).map ad := by
    rw [hsz]
    intro hm
    rcases List.mem_append.mp hm with hm | hm
    · rcases List.mem_cons.mp hm with e | hm
      · exact absurd e (Nat.ne_of_gt (Nat.lt_succ_self _))
      · exact absurd (List.mem_singleton.mp hm) (Nat.ne_of_gt (Nat.lt_succ_of_lt hlt))
    · obtain ⟨j, hj, e⟩ := List.mem_map.mp hm
      exact absurd e (Nat.ne_of_lt (Nat.lt_succ_of_lt (hal j (List.mem_range.mp hj))))
  have k1 : ∀ b o, s.heap.get? b = some o → ((s.heap.push { cls := .type "list_iterator", data := .fields #[.ref l, .int 0 0] }).push { cls := .type "list", data := .seq #[] }).get? b = some o := fun b o e => Heap.get?_push_of_some _ (Heap.get?_push_of_some _ e)
  have hcmp : CmpH prog w A.in1 (fun i v => items[i]? = some v) (fun i h => (h.IsListIter s.heap.objs.size l i ∧ h.IsList l items) ∧ Pairs h items items.size ad p) (fun i j => gtP (p i) (p j)) := fun i j k vi vj s' Q' E' st hi hj hq => by
    have hi' : i < items.size := (Array.getElem?_eq_some_iff.mp hi).1
    have hj' : j < items.size := (Array.getElem?_eq_some_iff.mp hj).1
    have e1 := st.2.at_ i hi'
    have e2 := st.2.at_ j hj'
    rw [hi] at e1; cases e1
    rw [hj] at e2; cases e2
    obtain ⟨t, u, t1⟩ := st.2.tup i hi'
    obtain ⟨t', u', t2⟩ := st.2.tup j hj'
    exact gt_pair t1 t2 hu hq
  rw [hname]
  refine wpAny_pure ⟨plainId_quiet F.plain_max_loop _, pair_first W (fun i j => gtP (p i) (p j)) hcmp _ hSf hn ⟨⟨⟨_, Heap.get?_push_of_some _ (Heap.get?_push_size _ rfl), rfl, rfl⟩, (hl.push _).push _⟩, hp.at_, fun j hj => ?_⟩ (Heap.get?_push_size _ rfl) fun v h' tk hP hk => ?_⟩
  · obtain ⟨t, u, o, ho, r⟩ := hp.tup j hj
    exact ⟨t, u, o, k1 _ _ ho, r⟩
  · have key : ∀ k, argBest (fun i j => gtP (p i) (p j)) k ≤ k ∧ ∀ i, i ≤ k → gtP (p i) (p (argBest (fun i j => gtP (p i) (p j)) k)) = false := by
      intro k
      induction k with
      | zero =>
        refine ⟨Nat.le_refl _, fun i hi => ?_⟩
        obtain rfl : i = 0 := by omega
        show gtP (p 0) (p 0) = false
        simp [gtP]
      | succ k ih =>
        obtain ⟨h1, h2⟩ := ih
        simp only [argBest]
        by_cases hb : gtP (p (k + 1)) (p (argBest (fun i j => gtP (p i) (p j)) k)) = true
        · rw [if_pos hb]
          refine ⟨Nat.le_refl _, fun i hi => ?_⟩
          by_cases hi2 : i = k + 1
          · subst hi2; simp [gtP]
          · have h3 := h2 i (by omega)
            revert h3 hb
            generalize p i = a
            generalize p (k + 1) = b
            generalize p (argBest (fun i j => gtP (p i) (p j)) k) = c
            intro hb h3
            simp only [gtP, Bool.or_eq_true, Bool.and_eq_true, decide_eq_true_eq, Bool.or_eq_false_iff, Bool.and_eq_false_iff, decide_eq_false_iff_not] at hb h3 ⊢
            omega
        · rw [if_neg hb]
          refine ⟨by omega, fun i hi => ?_⟩
          by_cases hi2 : i = k + 1
          · subst hi2; exact Bool.eq_false_iff.mpr hb
          · exact h2 i (by omega)
    obtain ⟨h1, h2⟩ := key (items.size - 1)
    have hj : argBest (fun i j => gtP (p i) (p j)) (items.size - 1) < items.size := by omega
    have hv := hp.at_ _ hj
    rw [hP] at hv; cases hv
    refine h _ h' tk hj (fun i hi => h2 i (by omega)) fun b o e => hk b o (fun hm => ?_) (fun hm => ?_) (k1 b o e)
    · exact absurd (List.mem_singleton.mp hm ▸ Heap.lt_size e) (Nat.lt_irrefl _)
    · have := Heap.lt_size e
      rw [hm, hsz] at this
      exact absurd this (Nat.not_lt.mpr (Nat.le_succ _))
end
section
variable {K : PySem.W.Frag} {mg : Str → Option Value} {X : Cx}
def rMaxP (K : PySem.W.Frag) : List V → Hp → VK → Prop := fun vs H Q => ∃ (a : Addr) (xs : List V) (ps : List (Int × Int)), vs = [V.ref a] ∧ SqL K H a xs ∧ xs.length = ps.length ∧ 0 < ps.length ∧
  (∀ (j : Nat) (q : Int × Int), ps[j]? = some q → ∃ t, xs[j]? = some (V.ref t) ∧ SqT K H t [V.int q.1, V.int q.2]) ∧
  ∀ (j : Nat) (q : Int × Int) (x : V), ps[j]? = some q → (∀ q' ∈ ps, gtP q' q = false) → xs[j]? = some x → Q x H
theorem cr_maxP (hc : X.calm = true) (hu : X.A.in1.units < cLine) : CallR X (.builtin "max") (rMaxP X.K) := by
  intro pins s σ H vs us Q I r ⟨a, xs, ps, e, hs, hl, h0, hp, q⟩
  subst e
  obtain ⟨its, rv, pl, _⟩ := I.list hs
  rw [Vals.ref1 r]
  have hn : its.toArray.size = ps.length := by rw [List.size_toArray, ← rv.length, hl]
  have key : ∀ j, ∃ t : Addr, j < ps.length → xs[j]? = some (V.ref t) ∧ its[j]? = some (Value.ref t) ∧ ∃ tk tk', s.heap.IsTuple t #[.int (ps.getD j (0, 0)).1 tk, .int (ps.getD j (0, 0)).2 tk'] := fun j => by
    by_cases hj : j < ps.length
    · obtain ⟨t, e1, e2⟩ := hp j _ (List.getElem?_eq_getElem hj)
      obtain ⟨u, e3, e4⟩ := rv.get e1
      cases e4
      refine ⟨t, fun _ => ⟨e1, e3, ?_⟩⟩
      obtain ⟨its2, r2, tp, _⟩ := I.tuple e2
      obtain ⟨tk, tk', e5⟩ := Vals.int2 r2
      subst e5
      have e6 : ps.getD j (0, 0) = ps[j] := by rw [List.getD_eq_getElem?_getD, List.getElem?_eq_getElem hj]; rfl
      rw [e6]
      exact ⟨tk, tk', tp⟩
    · exact ⟨0, fun h => absurd h hj⟩
  have prs : Pairs s.heap its.toArray its.toArray.size (fun j => Classical.choose (key j)) (fun j => ps.getD j (0, 0)) := by
    rw [hn]
    refine ⟨fun j hj => ?_, fun j hj => ?_⟩
    · have := (Classical.choose_spec (key j) hj).2.1
      simpa using this
    · exact (Classical.choose_spec (key j) hj).2.2
  refine maxP_raw (I.ok.hd hc) hu pl.isList prs (by rw [hn]; exact h0) fun j h' tk hj hb hk => ?_
  rw [hn] at hj hb
  have c1 := (Classical.choose_spec (key j) hj).1
  refine ⟨.ref _, H, I.kept hk, rfl, q j _ _ (List.getElem?_eq_getElem hj) (fun q' hq' => ?_) c1⟩
  obtain ⟨i, hi, e⟩ := List.getElem_of_mem hq'
  have := hb i hi
  have e1 : ps.getD i (0, 0) = ps[i] := by rw [List.getD_eq_getElem?_getD, List.getElem?_eq_getElem hi]; rfl
  have e2 : ps.getD j (0, 0) = ps[j] := by rw [List.getD_eq_getElem?_getD, List.getElem?_eq_getElem hj]; rfl
  rw [e1, e2, e] at this
  exact this
def allP : List D → Option (List (Int × Int))
  | [] => some []
  | .tup [.int i, .int j] :: r => (allP r).map fun t => (i, j) :: t
  | _ => none
abbrev pD (p : Int × Int) : D := .tup [.int p.1, .int p.2]
theorem allP_some : ∀ {xs : List D} {ps : List (Int × Int)}, allP xs = some ps → xs = ps.map pD
  | [], ps, h => by unfold allP at h; cases h; rfl
  | x :: xs, ps, h => by
    unfold allP at h
    split at h
    · rename_i e; cases e
    · rename_i i j r e
      cases e
      obtain ⟨t, e1, rfl⟩ := Option.map_eq_some_iff.mp h
      rw [allP_some e1]; rfl
    · cases h
def bestP (p : Int × Int) (r : List (Int × Int)) : Int × Int := r.foldl (fun m q => if gtP q m = true then q else m) p
theorem gtP_tr {a b c : Int × Int} (h : gtP a b = true) (h2 : gtP c b = false) : gtP c a = false := by
  simp only [gtP, Bool.or_eq_true, Bool.and_eq_true, decide_eq_true_eq, Bool.or_eq_false_iff, Bool.and_eq_false_iff, decide_eq_false_iff_not] at h h2 ⊢
  omega
theorem bestP_spec : ∀ (r : List (Int × Int)) (p : Int × Int), bestP p r ∈ p :: r ∧ ∀ q ∈ p :: r, gtP q (bestP p r) = false
  | [], p => by simp [bestP, gtP]
  | x :: r, p => by
    show (r.foldl _ (if gtP x p = true then x else p)) ∈ _ ∧ ∀ q ∈ _, gtP q (r.foldl _ (if gtP x p = true then x else p)) = false
    by_cases h : gtP x p = true
    · rw [if_pos h]
      obtain ⟨h1, h2⟩ := bestP_spec r x
      refine ⟨List.mem_cons_of_mem _ h1, fun q hq => ?_⟩
      rcases List.mem_cons.mp hq with rfl | hq
      · have h3 := h2 x List.mem_cons_self
        have e : gtP q (bestP x r) = false := by
          revert h h3
          generalize bestP x r = m
          intro h h3
          simp only [gtP, Bool.or_eq_true, Bool.and_eq_true, decide_eq_true_eq, Bool.or_eq_false_iff, Bool.and_eq_false_iff, decide_eq_false_iff_not] at h h3 ⊢
          omega
        exact e
      · exact h2 q hq
    · rw [if_neg h]
      obtain ⟨h1, h2⟩ := bestP_spec r p
      refine ⟨?_, fun q hq => ?_⟩
      · rcases List.mem_cons.mp h1 with h1 | h1
        · rw [show r.foldl (fun m q => if gtP q m = true then q else m) p = bestP p r from rfl, h1]; exact List.mem_cons_self
        · exact List.mem_cons_of_mem _ (List.mem_cons_of_mem _ h1)
      · rcases List.mem_cons.mp hq with rfl | hq
        · exact h2 q List.mem_cons_self
        · rcases List.mem_cons.mp hq with rfl | hq
          · have h3 := h2 p List.mem_cons_self
            have e : gtP q (bestP p r) = false := by
              revert h h3
              generalize bestP p r = m
              intro h h3
              simp only [gtP, Bool.or_eq_true, Bool.and_eq_true, decide_eq_true_eq, Bool.or_eq_false_iff, Bool.and_eq_false_iff, decide_eq_false_iff_not] at h h3 ⊢
              omega
            exact e
          · exact h2 q (List.mem_cons_of_mem _ hq)
def maxX : D → Option RV := fun d => match maxA d with
  | some r => some r
  | none => match d with
    | .lst xs => match allP xs with
      | some (p :: r) => some (.pv (pD (bestP p r)))
      | _ => none
    | _ => none
def rMaxX (K : PySem.W.Frag) : List V → Hp → VK → Prop := fun vs H Q => rMaxA K vs H Q ∨ rMaxP K vs H Q
theorem cr_maxX (hc : X.calm = true) (hu0 : X.A.units + 64 < cLine) : CallR X (.builtin "max") (rMaxX X.K) := by
  intro pins s σ H vs us Q I r h
  rcases h with h | h
  · exact cr_maxA hc pins s σ H vs us Q I r h
  · exact cr_maxP hc (by simp only [units_in1]; omega) pins s σ H vs us Q I r h
theorem opv_maxX : OpV1 K mg (fun v => rMaxX K [v]) maxX := by
  intro B H x a res Q hB ha e q
  unfold maxX at e
  split at e
  · rename_i r e1
    cases e
    exact .inl (opv_maxA B H x a res Q hB ha e1 q)
  · split at e
    · rename_i xs
      split at e
      · rename_i p r e1
        cases e
        obtain ⟨pa, vs, rfl, t, rr⟩ := ha.lst
        have := allP_some e1
        subst this
        refine .inr ⟨pa, vs, p :: r, rfl, SqL.of t, by rw [← rr.length, List.length_map], by simp, fun j qq hj => ?_, fun j qq x hj hbest hx => ?_⟩
        · have e2 : ((p :: r).map pD)[j]? = some (pD qq) := by rw [List.getElem?_map, hj]; rfl
          obtain ⟨v, e3, e4⟩ := rr.get e2
          unfold pD Rep at e4
          obtain ⟨b, ws, rfl, tp, rw_⟩ := e4
          have := (show Reps K mg B H (([qq.1, qq.2] : List Int).map D.int) ws from rw_).ints
          subst this
          exact ⟨b, e3, tp.sq⟩
        · obtain ⟨b1, b2⟩ := bestP_spec r p
          have hq : qq = bestP p r := by
            have h1 := hbest _ b1
            have h2 := b2 qq (List.mem_of_getElem? hj)
            revert h1 h2
            generalize bestP p r = m
            intro h1 h2
            simp only [gtP, Bool.or_eq_false_iff, Bool.and_eq_false_iff, decide_eq_false_iff_not] at h1 h2
            have : qq.1 = m.1 := by omega
            have h4 : qq.2 = m.2 := by omega
            exact Prod.ext this h4
          have e2 : ((p :: r).map pD)[j]? = some (pD qq) := by rw [List.getElem?_map, hj]; rfl
          obtain ⟨v, e3, e4⟩ := rr.get e2
          rw [hx] at e3; cases e3
          rw [← hq] at q
          exact q _ _ (.same e4)
      · cases e
    · cases e
end
end DL
namespace DL
open PySem PySem.Spec PyProof.Rows L2
/-! ### a comprehension over a list that a variable owns: the list stays its own -/
section
variable {K : PySem.W.Frag} {mg : Str → Option Value} {X : Cx} {G : Gm} {Wx : WX} {a b c e : Expr} {es : List Expr} {fa fb fc fe : EV} {pos : Pos} {α β : Type}
variable {P P' : Addr → Prop} {A A' A1 : List (Option Addr)} {σ σ' : L2.St} {L L' L1 : List Addr} {H H' H1 : Hp} {s s' : S} {vs : List Nat}
theorem comp_core {ds : List D} {g : GV} {t : TV} {tt : TT} {te : TE} {σ : L2.St} {Q : VK} {vs : List Nat} {J : It} {s1 : S} (p0 : ∀ a, P a → (∃ o, H a = some o) ∧ some a ∉ A)
    (ht : ∀ {σ H Q}, tT K mg G W0 t σ H Q → tt σ H Q) (hte : ∀ {σ H Q}, tE K mg G W0 fe σ H Q → te σ H Q)
    (sr1 : SR K mg G P A1 L1 s1 σ H1) (ok1 : ItOk K mg P A1 L1 H1 J ds) (st1 : Step A L H A1 L1 H1)
    (h1 : Run K mg G Wx P A L H σ (if noOwn s1.η vs = true then (noErr (loopC vs g t fe ds [] { s1 with η := wipeN s1.η vs })).bind fun acc s2 => .ok (.ow acc) { s2 with η := restN s1.η s2.η vs } else .bad) (PostE K mg G P A L H σ Q)) :
    tLc (fun _ H R => R J H) (tGv K mg G vs g) tt te vs σ H1 Q := by
  by_cases nO : noOwn s1.η vs = true
  · rw [if_pos nO] at h1
    cases e : loopC vs g t fe ds [] { s1 with η := wipeN s1.η vs } with
    | bad => rw [e] at h1; exact h1.elim
    | err _ _ => rw [e] at h1; exact h1.elim
    | ok acc sf =>
      rw [e] at h1
      have h1 : PostE K mg G P A L H σ Q (.ow acc) { sf with η := restN s1.η sf.η vs } := h1
      intro p hp
      let P1 : Addr → Prop := fun a => P a ∨ a = p
      have srw := sr1.wiped nO
      have sr0 : SR K mg G P1 A1 L1 { s1 with η := wipeN s1.η vs } (wipe σ vs) (upd H1 p (.lst [])) := srw.keep (keep_upd hp) fun a z => z.imp id fun z => by subst z; exact ⟨⟨_, upd_same⟩, hp⟩
      have stp : Step A1 L1 H1 A1 L1 (upd H1 p (.lst [])) := Step.keep (keep_upd hp)
      refine ⟨fun i m H' => i + m = ds.length ∧ ∃ A' L' s' cc ccV, SR K mg G P1 A' L' s' (wipe σ vs) H' ∧ Step A1 L1 H1 A' L' H' ∧ some p ∉ A' ∧ p ∉ L' ∧ H' p = some (.lst ccV) ∧ Reps K mg (fun b => b = p ∨ Bd P A' L' b) H' cc ccV ∧ s'.η.length = s1.η.length ∧ wipeN s'.η vs = s'.η ∧
          loopC vs g t fe (ds.drop i) cc s' = .ok acc sf,
        ⟨ds.length, by omega, A1, L1, _, [], [], sr0, stp, ?_, ?_, upd_same, Reps.nil, by rw [wipeN_len], ?_, e⟩, ?_⟩
      · intro z; obtain ⟨o, eo⟩ := sr1.there p (.inl z); rw [hp] at eo; cases eo
      · intro z; obtain ⟨o, eo⟩ := sr1.there p (.inr (.inl z)); rw [hp] at eo; cases eo
      · exact wipeN_idem _ _
      · rintro i m H2 ⟨em, A2, L2, s2, cc, ccV, sr2, st2, na, nl, hpv, rc, hlen, hw, e2⟩
        have np0 : G.H0 p = none := by
          cases q : G.H0 p with
          | none => rfl
          | some o =>
            obtain ⟨o', q'⟩ := sr1.ent.there p o q
            rw [hp] at q'; cases q'
        obtain ⟨go, stop, yld⟩ := ok1 P1 A2 L2 H2 (fun a z => z.imp id fun z => by rw [z]; exact hp) st2 sr2.there
        by_cases hi : i < ds.length
        · refine .inr ⟨go i hi, fun H' => ∃ A' L' s' cc ccV, SR K mg G P1 A' L' s' (wipe σ vs) H' ∧ Step A1 L1 H1 A' L' H' ∧ some p ∉ A' ∧ p ∉ L' ∧ H' p = some (.lst ccV) ∧ Reps K mg (fun b => b = p ∨ Bd P A' L' b) H' cc ccV ∧ s'.η.length = s1.η.length ∧ wipeN s'.η vs = s'.η ∧
            loopC vs g t fe (ds.drop (i + 1)) cc s' = .ok acc sf, fun H' n => ⟨m - 1, by omega, by omega, n⟩, fun x H3 y => ?_⟩
          have ro := yld i _ x H3 (List.getElem?_eq_getElem hi) y
          rw [Reps.nth hi] at e2
          unfold loopC at e2
          obtain ⟨_, s3, eg, e2⟩ := bind_ok e2
          obtain ⟨b, s4, et, e2⟩ := bind_ok e2
          have a2 : At K mg G P1 A2 L2 H2 (wipe σ vs) A2 L2 s2 H3 (.pv ds[i]) x := At.mk' sr2 (Step.refl _ _ _) sr2.p0 ro
          refine ⟨P1, A2, L2, H2, A2, L2, s2, _, s3, a2, eg, fun A3 L3 σ3 H4 sr3 st3 w3 => ?_⟩
          have w3 : wipe σ3 vs = wipe σ vs := w3.trans (wipe_ext (wipe_length _ _) fun j hj => wipe_out hj)
          have l3 : s3.η.length = s1.η.length := by rw [← sr3.lenσ, ← wipe_length σ3 vs, w3, sr2.lenσ]; exact hlen
          refine ⟨w3, ht ⟨P1, A3, L3, s3, sr3, Run.ok0 ⟨b, s4, et, fun A4 L4 H5 sr4 st4 => ?_⟩⟩⟩
          have l4 : s4.η.length = s1.η.length := by rw [← sr4.lenσ, sr3.lenσ]; exact l3
          cases b with
          | true =>
            rw [if_pos rfl] at e2
            obtain ⟨r, s5, ef, e2⟩ := bind_ok e2
            obtain ⟨y', s6, ez, e2⟩ := bind_ok e2
            refine iteT (hte ⟨P1, A4, L4, s4, sr4, Run.ok0 ⟨r, s5, ef, fun A5 L5 v H6 a5 => ?_⟩⟩)
            have ez : fz r s5 = some (y', s6) := by
              unfold fzR at ez
              split at ez
              · rename_i q; cases ez; exact q
              · cases ez
            split at e2
            · rename_i hz
              obtain ⟨A6, sr6, rp, st6⟩ := a5.frz ez
              have S' := st3.trans (st4.trans st6)
              have out := S'.out hpv na nl
              have h6 := S'.frm p _ hpv na nl (fun _ => nofun)
              obtain ⟨A7, sr7, st7, m7⟩ := sr6.wipeA vs
              rw [w3] at sr7
              have na7 : some p ∉ A7 := fun z => out.1 (m7 p z)
              refine ⟨ccV, h6, by rw [← rc.length]; exact hz, A7, L5, _, cc ++ [y'], ccV ++ [v], sr7.updP (.inr rfl) h6 np0, ((st2.trans S').trans st7).updNew hp h6, na7, out.2, upd_same, ?_, ?_, wipeN_idem _ _, e2⟩
              · refine Reps.append (rc.move fun a o h n pl => ?_) (Reps.one (rp.move fun a o h n pl => ?_))
                · have z := (S'.trans st7).mv (P := P) a o h (fun w => n (.inr w)) pl
                  have ne : a ≠ p := fun w => n (.inl w)
                  exact ⟨by rw [upd_ne ne]; exact z.1, fun w => w.elim ne z.2⟩
                · have ne : a ≠ p := fun w => n (.inr (.inr (.inr w)))
                  refine ⟨by rw [upd_ne ne]; exact h, fun w => w.elim ne fun w => ?_⟩
                  rcases w with w | w | w
                  · exact n (.inl (m7 a w))
                  · exact n (.inr (.inl w))
                  · exact n (.inr (.inr (.inl w)))
              · show (wipeN s6.η vs).length = _
                rw [wipeN_len, ← sr6.lenσ, sr4.lenσ]; exact l4
            · cases e2
          | false =>
            rw [if_neg (by decide)] at e2
            have S' := st3.trans st4
            have out := S'.out hpv na nl
            have h5 := S'.frm p _ hpv na nl (fun _ => nofun)
            obtain ⟨A7, sr7, st7, m7⟩ := sr4.wipeA vs
            rw [w3] at sr7
            refine iteF ⟨A7, L4, _, cc, ccV, sr7, (st2.trans S').trans st7, fun z => out.1 (m7 p z), out.2, h5, rc.move fun a o h n pl => ?_, ?_, wipeN_idem _ _, e2⟩
            · have z := (S'.trans st7).mv (P := P) a o h (fun w => n (.inr w)) pl
              exact ⟨z.1, fun w => w.elim (fun w => n (.inl w)) z.2⟩
            · show (wipeN s4.η vs).length = _
              rw [wipeN_len]; exact l4
        · have e3 : i = ds.length := by omega
          subst e3
          rw [List.drop_length] at e2
          unfold loopC at e2
          cases e2
          have own : ∀ a, Own (.ow acc) (.ref p) a → a = p := fun a z => by have := z.2; cases this; rfl
          have srw' : SR K mg G (Wi P (.ow acc) (.ref p)) A2 L2 { sf with η := wipeN sf.η vs } (wipe σ vs) H2 := by
            rw [hw]
            exact sr2.lessP fun a z => z.imp id (own a)
          refine .inl ⟨stop, h1 A2 L2 (.ref p) H2 ⟨?_, ⟨p, ccV, rfl, hpv, rc, na, nl, np0⟩, fun a z => ?_, st1.trans st2, p0⟩⟩
          · exact SR.rest sr1 nO st2 (fun a z => z.imp id fun z => by rw [own a z]; exact hp) srw' hlen
          · have := own a z
            subst this
            cases q : H a with
            | none => exact .inr rfl
            | some o =>
              obtain ⟨o', q'⟩ := st1.there a o q
              rw [hp] at q'; cases q'
  · rw [if_neg nO] at h1; exact h1.elim
/-- as a comprehension, slot i laid aside meanwhile -/
def eCompO (i : Nat) (vs : List Nat) (g : GV) (t : TV) (fe : EV) : EV := fun s => match s.η[i]? with
  | some (.ow ds) => if noOwn (s.η.set i .no) vs = true then (noErr (loopC vs g t fe ds [] ⟨wipeN (s.η.set i .no) vs, s.W⟩)).bind fun acc s2 =>
      (match (restN (s.η.set i .no) s2.η vs)[i]? with
        | some .no => .ok (.ow acc) ⟨(restN (s.η.set i .no) s2.η vs).set i (.ow ds), s2.W⟩
        | _ => .bad) else .bad
  | _ => .bad
theorem SR.aside {q : Addr} {i : Nat} {ds : List D} (hs : SR K mg G P A L s σ H) (e : s.η[i]? = some (.ow ds)) (hq : A[i]? = some (some q)) : SR K mg G (fun a => P a ∨ a = q) (A.set i none) L ⟨s.η.set i .no, s.W⟩ σ H := by
  have iη : i < s.η.length := (List.getElem?_eq_some_iff.mp e).1
  have iA : i < A.length := by rw [hs.lenA]; exact iη
  have qA : some q ∈ A := List.mem_of_getElem? hq
  have nq : some q ∉ A.set i none := fun z => by
    obtain ⟨j, hj⟩ := List.mem_iff_getElem?.mp z
    by_cases ej : j = i
    · subst ej; rw [List.getElem?_set_self iA] at hj; cases hj
    · rw [List.getElem?_set_ne (fun h => ej h.symm)] at hj; exact ej (hs.uniq j i q hj hq)
  have mem : ∀ a, some a ∈ A.set i none → some a ∈ A := fun a z => (mem_set z).elim id nofun
  have bd1 : ∀ a, Bd (fun a => P a ∨ a = q) (A.set i none) L a → Bd P A L a := fun a z => by
    rcases z with z | z | z | z
    · exact .inl (mem a z)
    · exact .inr (.inl z)
    · exact .inr (.inr z)
    · exact .inl (by rw [z]; exact qA)
  have mv : ∀ a o, H a = some o → ¬ Bd P A L a → Plain o → H a = some o ∧ ¬ Bd (fun a => P a ∨ a = q) (A.set i none) L a := fun a o h n _ => ⟨h, fun z => n (bd1 a z)⟩
  refine { lenσ := by rw [hs.lenσ]; simp, lenA := by simp [hs.lenA], slot := fun j x ex => ?_, uniq := fun j l a h1 h2 => ?_, apart := fun a h => hs.apart a (mem a h), nd := hs.nd, lenL := hs.lenL, loc := fun n ds' hd => ?_, own := fun a h => hs.own a (mem a h), tab := hs.tab, ent := hs.ent, ownNew := fun a h => hs.ownNew a (mem a h), pOk := fun a h => ?_, exn := fun j ex => ?_ }
  · by_cases ej : j = i
    · subst ej
      rw [List.getElem?_set_self iη] at ex
      cases ex
      obtain ⟨ov, oa, e1, e2, _⟩ := hs.slot j _ e
      exact ⟨ov, none, e1, List.getElem?_set_self iA, rfl⟩
    · rw [List.getElem?_set_ne (fun h => ej h.symm)] at ex
      obtain ⟨ov, oa, e1, e2, so⟩ := hs.slot j x ex
      refine ⟨ov, oa, e1, by rw [List.getElem?_set_ne (fun h => ej h.symm)]; exact e2, so.move mv (fun a o _ _ h => h) (fun n a h => h)⟩
  · by_cases ej : j = i
    · subst ej; rw [List.getElem?_set_self iA] at h1; cases h1
    · by_cases el : l = i
      · subst el; rw [List.getElem?_set_self iA] at h2; cases h2
      · rw [List.getElem?_set_ne (fun h => ej h.symm)] at h1
        rw [List.getElem?_set_ne (fun h => el h.symm)] at h2
        exact hs.uniq j l a h1 h2
  · obtain ⟨a, vs', h1, h2, h3⟩ := hs.loc n ds' hd
    exact ⟨a, vs', h1, h2, h3.move mv⟩
  · rcases h with h | h
    · obtain ⟨h1, h2, h3⟩ := hs.pOk a h
      exact ⟨h1, fun z => h2 (mem a z), h3⟩
    · subst h
      obtain ⟨o, h1, _⟩ := hs.own a qA
      exact ⟨⟨o, h1⟩, nq, hs.apart a qA⟩
  · by_cases ej : j = i
    · subst ej; rw [List.getElem?_set_self iη] at ex; cases ex
    · rw [List.getElem?_set_ne (fun h => ej h.symm)] at ex
      exact hs.exn j ex
theorem SR.back {q : Addr} {i : Nat} {ds : List D} {ws : List V} (hs : SR K mg G (fun a => P a ∨ a = q) A L s σ H) (e : s.η[i]? = some .no) (nP : ¬ P q) (hσ : σ[i]? = some (some (.ref q))) (hq : H q = some (.lst ws)) (r : Reps K mg (Bd (fun a => P a ∨ a = q) A L) H ds ws) (h0 : G.H0 q = none) :
    SR K mg G P (A.set i (some q)) L ⟨s.η.set i (.ow ds), s.W⟩ σ H ∧ ∀ a, Bd P (A.set i (some q)) L a → Bd (fun a => P a ∨ a = q) A L a := by
  have iη : i < s.η.length := (List.getElem?_eq_some_iff.mp e).1
  have iA : i < A.length := by rw [hs.lenA]; exact iη
  have qP := hs.pOk q (.inr rfl)
  have Ai : A[i]? = some none := by
    obtain ⟨ov, oa, _, e2, so⟩ := hs.slot i _ e
    have : oa = none := so
    rw [e2, this]
  have mem : ∀ a, some a ∈ A.set i (some q) → some a ∈ A ∨ a = q := fun a z => (mem_set z).elim .inl fun z => .inr (by cases z; rfl)
  have bd1 : ∀ a, Bd P (A.set i (some q)) L a → Bd (fun a => P a ∨ a = q) A L a := fun a z => by
    rcases z with z | z | z
    · rcases mem a z with z | z
      · exact .inl z
      · exact .inr (.inr (.inr z))
    · exact .inr (.inl z)
    · exact .inr (.inr (.inl z))
  have mv : ∀ a o, H a = some o → ¬ Bd (fun a => P a ∨ a = q) A L a → Plain o → H a = some o ∧ ¬ Bd P (A.set i (some q)) L a := fun a o h n _ => ⟨h, fun z => n (bd1 a z)⟩
  refine ⟨{ lenσ := by rw [hs.lenσ]; simp, lenA := by simp [hs.lenA], slot := fun j x ex => ?_, uniq := fun j l a h1 h2 => ?_, apart := fun a h => ?_, nd := hs.nd, lenL := hs.lenL, loc := fun n ds' hd => ?_, own := fun a h => ?_, tab := hs.tab, ent := hs.ent, ownNew := fun a h => ?_, pOk := fun a h => ?_, exn := fun j ex => ?_ }, bd1⟩
  · by_cases ej : j = i
    · subst ej
      rw [List.getElem?_set_self iη] at ex
      cases ex
      exact ⟨_, some q, hσ, List.getElem?_set_self iA, q, ws, rfl, rfl, hq, r.move mv⟩
    · rw [List.getElem?_set_ne (fun h => ej h.symm)] at ex
      obtain ⟨ov, oa, e1, e2, so⟩ := hs.slot j x ex
      exact ⟨ov, oa, e1, by rw [List.getElem?_set_ne (fun h => ej h.symm)]; exact e2, so.move mv (fun a o _ _ h => h) (fun n a h => h)⟩
  · have key : ∀ j : Nat, (A.set i (some q))[j]? = some (some a) → j = i ∧ a = q ∨ j ≠ i ∧ A[j]? = some (some a) ∧ a ≠ q := fun j h => by
      by_cases ej : j = i
      · subst ej; rw [List.getElem?_set_self iA] at h; cases h; exact .inl ⟨rfl, rfl⟩
      · rw [List.getElem?_set_ne (fun h => ej h.symm)] at h
        exact .inr ⟨ej, h, fun z => by subst z; exact qP.2.1 (List.mem_of_getElem? h)⟩
    rcases key j h1 with ⟨a1, a2⟩ | ⟨a1, a2, a3⟩
    · rcases key l h2 with ⟨b1, b2⟩ | ⟨b1, b2, b3⟩
      · rw [a1, b1]
      · exact absurd a2 b3
    · rcases key l h2 with ⟨b1, b2⟩ | ⟨b1, b2, b3⟩
      · exact absurd b2 a3
      · exact hs.uniq j l a a2 b2
  · rcases mem a h with h | h
    · exact hs.apart a h
    · subst h; exact qP.2.2
  · obtain ⟨a, vs', h1, h2, h3⟩ := hs.loc n ds' hd
    exact ⟨a, vs', h1, h2, h3.move mv⟩
  · rcases mem a h with h | h
    · exact hs.own a h
    · subst h; exact ⟨_, hq, by first | trivial | exact ⟨_, rfl⟩ | exact .inl ⟨_, rfl⟩ | (unfold Mut; simp)⟩
  · rcases mem a h with h | h
    · exact hs.ownNew a h
    · subst h; exact h0
  · obtain ⟨h1, h2, h3⟩ := hs.pOk a (.inl h)
    refine ⟨h1, fun z => ?_, h3⟩
    rcases mem a z with z | z
    · exact h2 z
    · subst z; exact nP h
  · by_cases ej : j = i
    · subst ej; rw [List.getElem?_set_self iη] at ex; cases ex
    · rw [List.getElem?_set_ne (fun h => ej h.symm)] at ex
      exact hs.exn j ex
variable {elt tg : Expr} {ifs : List Expr} {scope : Scope} {g : GV} {t : TV} {tt : TT}
theorem ed_compO (i : Nat) {x : Str} {px : Pos} (own : List (Str × Nat)) (hc : X.calm = true) (hN : X.N.Nodup) (ho : PE X (.Name x px) (tVar i)) (ok : BlkOk X.N X.env.scope scope own)
    (hg : ∀ (s : Shared) (H : Hp) (C : Addr) (cl : List (Str × Addr)) (fp : List Addr), GDv (Blk X scope s H C cl fp) G (own.map (·.2)) tg g)
    (ht : ∀ (s : Shared) (H : Hp) (C : Addr) (cl : List (Str × Addr)) (fp : List Addr), CD (Blk X scope s H C cl fp) G ifs t tt)
    (he : ∀ (s : Shared) (H : Hp) (C : Addr) (cl : List (Str × Addr)) (fp : List Addr), ED (Blk X scope s H C cl fp) G W0 elt fe) (hs : ∀ y, foldedSetIterable (.Name x px) X.env y = pure y := by intro _; rfl) :
    ED X G Wx (.ListComp elt [⟨tg, .Name x px, ifs, 0⟩] scope pos) (eCompO i (own.map (·.2)) g t fe) := by
  refine ⟨⟨fun pins sh σ H Q I h => ?_⟩⟩
  refine (pe_lc (te := tE X.K X.mg G W0 fe) (g := tGv X.K X.mg G (own.map (·.2)) g) hc hN (pi_list (tg := tg) ho) ok (fun s H C cl fp => (hg s H C cl fp).pg) (fun s H C cl fp => (ht s H C cl fp).pts) (fun s H C cl fp => (he s H C cl fp).pe) hs).run pins sh σ H Q I ?_
  obtain ⟨P, A, L, s, sr, h⟩ := h
  unfold eCompO at h
  split at h
  · rename_i ds e0
    obtain ⟨ov, oa, e1, e2, so⟩ := sr.slot i _ e0
    obtain ⟨q, ws, rfl, rfl, hq, r⟩ := (show ∃ a vs, oa = some a ∧ ov = some (.ref a) ∧ H a = some (.lst vs) ∧ Reps X.K X.mg (Bd P A L) H ds vs from so)
    have iη : i < s.η.length := (List.getElem?_eq_some_iff.mp e0).1
    have iA : i < A.length := by rw [sr.lenA]; exact iη
    have qA : some q ∈ A := List.mem_of_getElem? e2
    have nPq : ¬ P q := fun z => (sr.pOk q z).2.1 qA
    have sr1 := sr.aside e0 e2
    have qP := sr1.pOk q (.inr rfl)
    have bd1 : ∀ a, Bd (fun a => P a ∨ a = q) (A.set i none) L a → Bd P A L a := fun a z => by
      rcases z with z | z | z | z
      · exact .inl ((mem_set z).elim id nofun)
      · exact .inr (.inl z)
      · exact .inr (.inr z)
      · exact .inl (by rw [z]; exact qA)
    have r1 : Reps X.K X.mg (Bd (fun a => P a ∨ a = q) (A.set i none) L) H ds ws := r.move fun a o h n _ => ⟨h, fun z => n (bd1 a z)⟩
    have okI : ItOk X.K X.mg (fun a => P a ∨ a = q) (A.set i none) L H (Itl X.K q) ds := by
      intro P' A' L' H' hP st hB
      have h' : SqL X.K H' q ws := .inl (.inl (st.frm q _ hq qP.2.1 qP.2.2 fun _ => nofun))
      have r' : Reps X.K X.mg (Bd P' A' L') H' ds ws := r1.move (st.mvP hP)
      refine ⟨fun i hi => ?_, ⟨ws, h', by rw [r'.length]; exact Nat.le_refl _⟩, fun i d x H'' e y => ?_⟩
      · obtain ⟨v, e, _⟩ := r'.get (List.getElem?_eq_getElem hi)
        exact ⟨ws, v, h', e⟩
      · obtain ⟨e1, y⟩ := y
        subst e1
        obtain ⟨v, e2, rv⟩ := r'.get e
        have := y ws h'
        rw [e2] at this
        cases this
        exact ResOk.same rv
    have p0 : ∀ a, (P a ∨ a = q) → (∃ o, H a = some o) ∧ some a ∉ A.set i none := fun a z => ⟨(sr1.pOk a z).1, (sr1.pOk a z).2.1⟩
    refine ⟨.ref q, e1, q, rfl, ⟨ws, .inl (.inl hq)⟩, ?_⟩
    refine comp_core (Wx := Wx) (P := fun a => P a ∨ a = q) (A := A.set i none) (L := L) (H := H) (Q := Q) (vs := own.map (·.2)) (ds := ds) p0 (ht sh H 0 [] []).of (fun h => h) sr1 okI (Step.refl _ _ _) ?_
    by_cases nO : noOwn (s.η.set i .no) (own.map (·.2)) = true
    · rw [if_pos nO] at h ⊢
      cases el : loopC (own.map (·.2)) g t fe ds [] ⟨wipeN (s.η.set i .no) (own.map (·.2)), s.W⟩ with
      | bad => rw [el] at h; exact h.elim
      | err _ _ => rw [el] at h; exact h.elim
      | ok acc sf =>
        rw [el] at h
        show PostE X.K X.mg G (fun a => P a ∨ a = q) (A.set i none) L H σ Q (.ow acc) { sf with η := restN (s.η.set i .no) sf.η (own.map (·.2)) }
        intro A' L' v H' at1
        have h : Run X.K X.mg G Wx P A L H σ (match (restN (s.η.set i .no) sf.η (own.map (·.2)))[i]? with
          | some .no => .ok (.ow acc) ⟨(restN (s.η.set i .no) sf.η (own.map (·.2))).set i (.ow ds), sf.W⟩
          | _ => .bad) (PostE X.K X.mg G P A L H σ Q) := h
        split at h
        · rename_i en
          have h : PostE X.K X.mg G P A L H σ Q (.ow acc) ⟨(restN (s.η.set i .no) sf.η (own.map (·.2))).set i (.ow ds), sf.W⟩ := h
          obtain ⟨b, wv, rfl, hb, rb, nb1, nb2, nb3⟩ := at1.ok
          have hqb : b ≠ q := fun z => by
            subst z
            rcases at1.new b ⟨⟨_, rfl⟩, rfl⟩ with z | z
            · exact qP.2.1 z
            · rw [hq] at z; cases z
          have hq' : H' q = some (.lst ws) := at1.st.frm q _ hq qP.2.1 qP.2.2 fun _ => nofun
          have out := at1.st.out hq qP.2.1 qP.2.2
          have srW : SR X.K X.mg G (fun a => Wi P (.ow acc) (.ref b) a ∨ a = q) A' L' { sf with η := restN (s.η.set i .no) sf.η (own.map (·.2)) } σ H' := at1.sr.lessP fun a z => by
            rcases z with (z | z) | z
            · exact .inl (.inl z)
            · exact .inr z
            · exact .inl (.inr z)
          have rq : Reps X.K X.mg (Bd (fun a => Wi P (.ow acc) (.ref b) a ∨ a = q) A' L') H' ds ws := r1.move fun a o ha n pl => by
            have z := at1.st.mv (P := fun a => P a ∨ a = q) a o ha n pl
            refine ⟨z.1, fun w => ?_⟩
            rcases w with w | w | (w | w) | w
            · exact z.2 (.inl w)
            · exact z.2 (.inr (.inl w))
            · exact z.2 (.inr (.inr (.inl w)))
            · have : b = a := by have := w.2; cases this; rfl
              subst this
              rcases at1.new b ⟨⟨_, rfl⟩, rfl⟩ with z | z
              · exact n (.inl z)
              · rw [ha] at z; cases z
            · exact z.2 (.inr (.inr (.inr w)))
          obtain ⟨srF, bdF⟩ := srW.back (P := Wi P (.ow acc) (.ref b)) en (fun z => by
            rcases z with z | z
            · exact nPq z
            · have := z.2; cases this; exact hqb rfl) e1 hq' rq (sr.ownNew q qA)
          refine h (A'.set i (some q)) L' (.ref b) H' ⟨srF, ⟨b, wv, rfl, hb, rb.move fun a o ha n _ => ⟨ha, fun z => n ?_⟩, ?_, nb2, nb3⟩, fun a z => ?_, ?_, fun a z => ?_⟩
          · rcases z with z | z | z | z
            · exact .inl z
            · rcases mem_set z with z | z
              · exact .inr (.inl z)
              · cases z; exact .inr (.inr (.inr (.inr rfl)))
            · exact .inr (.inr (.inl z))
            · exact .inr (.inr (.inr (.inl z)))
          · intro z
            rcases mem_set z with z | z
            · exact nb1 z
            · cases z; exact hqb rfl
          · rcases at1.new a z with z | z
            · exact .inl ((mem_set z).elim id nofun)
            · exact .inr z
          · refine ⟨fun a o ha n1 n2 pl => at1.st.frm a o ha (fun z => n1 ((mem_set z).elim id nofun)) n2 pl, fun a z => ?_, at1.st.pre, at1.st.there, at1.st.tab⟩
            rcases z with z | z
            · rcases mem_set z with z | z
              · rcases at1.st.new a (.inl z) with z | z
                · exact .inl ((mem_set z).elim id nofun)
                · exact .inr z
              · cases z; exact .inl qA
            · rcases at1.st.new a (.inr z) with z | z
              · exact .inl ((mem_set z).elim id nofun)
              · exact .inr z
          · obtain ⟨h1, h2, h3⟩ := sr.pOk a z
            exact ⟨h1, h2⟩
        · exact h.elim
    · rw [if_neg nO] at h; exact h.elim
  · exact h.elim
end
end DL
namespace DL
open PySem PySem.Spec PyProof.Rows L2
/-! ### sorted lists of ints -/
def leI (a b : Int) : Bool := decide (a ≤ b)
def srtI (ns : List Int) : List Int := ns.mergeSort leI
theorem srtI_perm (ns : List Int) : (srtI ns).Perm ns := List.mergeSort_perm ns leI
theorem srtI_pw (ns : List Int) : (srtI ns).Pairwise (· ≤ ·) := by
  have := List.pairwise_mergeSort (le := leI) (fun a b c h1 h2 => by unfold leI at *; simp only [decide_eq_true_eq] at *; omega) (fun a b => by unfold leI; simp only [Bool.or_eq_true, decide_eq_true_eq]; omega) ns
  exact this.imp fun h => by unfold leI at h; simpa using h
theorem pw_perm_eq : ∀ {l m : List Int}, l.Pairwise (· ≤ ·) → m.Pairwise (· ≤ ·) → l.Perm m → l = m
  | [], m, _, _, h => (List.Perm.eq_nil h.symm).symm
  | x :: l, [], _, _, h => absurd h.length_eq (by simp)
  | x :: l, y :: m, hl, hm, h => by
    have h1 : y ≤ x := by
      rcases List.mem_cons.mp (h.mem_iff.mp List.mem_cons_self) with e | e
      · omega
      · exact (List.pairwise_cons.mp hm).1 x e
    have h2 : x ≤ y := by
      rcases List.mem_cons.mp (h.mem_iff.mpr List.mem_cons_self) with e | e
      · omega
      · exact (List.pairwise_cons.mp hl).1 y e
    have e : x = y := by omega
    subst e
    rw [pw_perm_eq (List.pairwise_cons.mp hl).2 (List.pairwise_cons.mp hm).2 h.cons_inv]
theorem lt_mem_eq : ∀ {l m : List Int}, l.Pairwise (· < ·) → m.Pairwise (· < ·) → (∀ k, k ∈ l ↔ k ∈ m) → l = m := fun {l m} hl hm h => by
  have nd : ∀ {l : List Int}, l.Pairwise (· < ·) → l.Nodup := fun h => h.imp fun h => by omega
  refine pw_perm_eq (hl.imp fun h => by omega) (hm.imp fun h => by omega) ?_
  exact (List.perm_ext_iff_of_nodup (nd hl) (nd hm)).mpr h
/-- the members, each once, ascending -/
def ddI : List Int → List Int
  | [] => []
  | n :: ns => if n ∈ ns then ddI ns else n :: ddI ns
theorem ddI_mem (k : Int) : ∀ ns : List Int, k ∈ ddI ns ↔ k ∈ ns
  | [] => by simp [ddI]
  | n :: ns => by
    have ih := ddI_mem k ns
    unfold ddI
    by_cases h : n ∈ ns
    · rw [if_pos h, ih, List.mem_cons]
      exact ⟨.inr, fun z => z.elim (fun e => by rw [e]; exact h) id⟩
    · rw [if_neg h, List.mem_cons, List.mem_cons, ih]
theorem ddI_nd : ∀ ns : List Int, (ddI ns).Nodup
  | [] => by simp [ddI]
  | n :: ns => by
    unfold ddI
    by_cases h : n ∈ ns
    · rw [if_pos h]; exact ddI_nd ns
    · rw [if_neg h, List.nodup_cons]
      exact ⟨fun z => h ((ddI_mem n ns).mp z), ddI_nd ns⟩
theorem ddI_len : ∀ ns : List Int, (ddI ns).length ≤ ns.length
  | [] => by simp [ddI]
  | n :: ns => by
    have := ddI_len ns
    unfold ddI
    by_cases h : n ∈ ns
    · rw [if_pos h]; simp; omega
    · rw [if_neg h]; simp; omega
def setI (ns : List Int) : List Int := srtI (ddI ns)
theorem setI_mem (ns : List Int) (k : Int) : k ∈ setI ns ↔ k ∈ ns := by
  unfold setI
  rw [(srtI_perm _).mem_iff, ddI_mem]
theorem setI_pw (ns : List Int) : (setI ns).Pairwise (· < ·) := by
  have h1 := srtI_pw (ddI ns)
  have h2 : (srtI (ddI ns)).Nodup := (srtI_perm _).nodup_iff.mpr (ddI_nd ns)
  have := h1.and h2
  exact this.imp fun ⟨a, b⟩ => by have : _ ≠ _ := b; omega
section
variable {prog : Program} {w : World} {A : Around} {E : Value → Shared → Prop} {s : Shared}
theorem collect_tup {l : Addr} {vs : List Value} {Q : List Value → Shared → Prop} (hl : IsTup s.heap l vs.toArray)
    (h : Q vs { s with heap := (s.heap.push (seqObj "list" #[] 0)).update s.heap.objs.size (Obj.mapSeq (· ++ vs.toArray)) }) (hsz : vs.length ≤ sizeLine) :
    wpAny (model prog w) A (collect (.ref l)) Q E s := by
  obtain ⟨o, ho, hc, n, hd⟩ := id hl
  unfold collect
  refine wpAny_bind (wpAny_runValue (codeAny_builtin entry_proto_collect' ?_))
  show wpAny _ _ (do again (.builtin "list.__iadd__" ⟨[← newList [], .ref l], []⟩)) _ _ s
  refine wpAny_bind (wpAny_newList (wpAny_pure ⟨Code.quiet_builtin _ (by decide +kernel), codeAny_builtin entry_list_iadd' ?_⟩))
  show wpAny _ _ (Builtin.List.listExtendWith (.ref s.heap.objs.size) (.ref l) (.ref s.heap.objs.size)) _ _ { s with heap := s.heap.push (seqObj "list" #[] 0) }
  unfold Builtin.List.listExtendWith
  have ho' : (s.heap.push (seqObj "list" #[] 0)).get? l = some o := Heap.get?_push_of_some _ ho
  refine wpAny_bind (wpAny_typeOf (T := "tuple") ⟨o, ho', hc⟩ ?_)
  have ht : (Value.type "tuple" == Value.type "tuple") = true := by rfl
  rw [if_pos (by rw [ht]; simp)]
  refine wpAny_bind (listItems_at ho' hd ?_)
  refine wpAny_bind (listItems_at (xs := #[]) (n := 0) (Heap.get?_push_size _ rfl) rfl ?_)
  rw [if_neg (by simp)]
  refine wpAny_bind (listUpdate_at (xs := #[]) (n := 0) (Heap.get?_push_size _ rfl) rfl ?_ (Nat.zero_le _) (by show (#[] ++ vs.toArray).size ≤ sizeLine + 1; simp only [Array.size_append, List.size_toArray, List.length_nil]; omega))
  refine wpAny_pure ?_
  show wpAny (model prog w) A (do
      let o ← load s.heap.objs.size
      match o.data with
      | .seq xs _ => pure xs.toList
      | _ => unsupported "internal:collect") Q E { s with heap := (s.heap.push (seqObj "list" #[] 0)).update s.heap.objs.size (Obj.mapSeq (· ++ vs.toArray)) }
  refine wpAny_bind (wpAny_load (get?_update_seq (Heap.get?_push_size _ rfl) _) ?_)
  show wpAny _ _ (pure ((#[] : Array Value) ++ vs.toArray).toList) Q E _
  rw [show ((#[] : Array Value) ++ vs.toArray).toList = vs by simp]
  exact wpAny_pure h
theorem sorted_tup {l : Addr} {vs : List Value} {ltv : Value → Value → Bool} {Q : Value → Shared → Prop} (O : SrtO.Swo ltv) (hl : IsTup s.heap l vs.toArray) (hz : vs.length ≤ sizeLine)
    (hS : 2 ≤ vs.length → ∀ (h₁ : Heap) (a : Addr), h₁.get? a = some (seqObj "list" vs.toArray 0) → (∀ b o, s.heap.get? b = some o → b ≠ a ∧ h₁.get? b = some o) → SrtO.SortableO prog w A.in1.in1 { s with heap := h₁ } a vs ltv)
    (h : ∀ out : List Value, SrtO.Srtd ltv out → SrtO.Stb ltv out vs → Q (.ref (s.heap.objs.size + 1)) { s with heap := sortedAll s.heap vs out.toArray }) :
    wpAny (model prog w) A (call (.builtin "sorted") [.ref l]) Q E s := by
  refine Calls.call_function_entry kind_sorted plain_sorted entry_sorted (args_sorted1 _) ?_
  unfold Builtin.«sorted»
  refine wpAny_bind (m := checkCount "sorted" 1 1 _) (wpAny_pure ?_)
  refine wpAny_bind (collect_tup hl ?_ hz)
  refine wpAny_bind (wpAny_newList ?_ hz)
  have hsz : ((s.heap.push (seqObj "list" #[] 0)).update s.heap.objs.size (Obj.mapSeq (· ++ vs.toArray))).objs.size = s.heap.objs.size + 1 := by
    rw [Heap.size_update, size_push']
  have hoL : (((s.heap.push (seqObj "list" #[] 0)).update s.heap.objs.size (Obj.mapSeq (· ++ vs.toArray))).push (seqObj "list" vs.toArray 0)).get? (s.heap.objs.size + 1) = some (seqObj "list" vs.toArray 0) := by
    rw [← hsz]; exact Heap.get?_push_size _ rfl
  have keep : ∀ b o, s.heap.get? b = some o → b ≠ s.heap.objs.size + 1 ∧ (((s.heap.push (seqObj "list" #[] 0)).update s.heap.objs.size (Obj.mapSeq (· ++ vs.toArray))).push (seqObj "list" vs.toArray 0)).get? b = some o := fun b o q => by
    have hlt : b < s.heap.objs.size := Heap.lt_size q
    refine ⟨Nat.ne_of_lt (Nat.lt_succ_of_lt hlt), Heap.get?_push_of_some _ ?_⟩
    rw [Heap.get?_update_ne _ _ _ _ (Nat.ne_of_lt hlt)]
    exact Heap.get?_push_of_some _ q
  show wpAny _ _ _ _ _ { s with heap := ((s.heap.push (seqObj "list" #[] 0)).update s.heap.objs.size (Obj.mapSeq (· ++ vs.toArray))).push (seqObj "list" vs.toArray 0) }
  rw [hsz]
  refine wpAny_bind (wpAny_holding (wpAny_call_entry slot_list_sort ⟨_, hoL, rfl⟩ entry_list_sort (SrtO.list_sort_ord O hoL hz (fun h2 => hS h2 _ _ hoL keep) fun out hs hb => ⟨_, rfl, ?_⟩) (args_list_sort _)))
  exact wpAny_pure ⟨_, rfl, h out hs hb⟩
end
section
variable {K : PySem.W.Frag} {mg : Str → Option Value} {X : Cx}
def rSortA (K : PySem.W.Frag) : List V → Hp → VK → Prop := fun vs H Q => ∃ (a : Addr) (ns : List Int), vs = [V.ref a] ∧ SqA K H a (ns.map V.int) ∧
  ∀ (p : Addr), H p = none → Q (.ref p) (upd H p (.lst ((srtI ns).map V.int)))
theorem cr_sortA : CallR X (.builtin "sorted") (rSortA X.K) := by
  intro pins s σ H vs us Q I r ⟨a, ns, e, hs, q⟩
  subst e
  rcases hs with hs | hs
  · refine cr_sortedI pins s σ H _ us Q I r ⟨a, ns, rfl, hs, fun ns' p h1 h2 h3 => ?_⟩
    rw [pw_perm_eq h2 (srtI_pw ns) (h1.trans (srtI_perm ns).symm)]
    exact q p h3
  · obtain ⟨its, rv, hl, hz⟩ := I.tuple hs
    rw [Vals.ref1 r]
    have hi := rv.ints
    refine sorted_tup SrtO.swo_int hl (by rw [← rv.length]; exact hz) (fun h2 h₁ a' _ _ => SrtO.ints_sortable hi h2) fun out h1 h2 => ?_
    obtain ⟨k1, k2, k3⟩ := SrtO.ints_out hi h1 h2
    obtain ⟨ep, he'⟩ := PyProof.Rows.sortedAll_at s.heap its out.toArray
    have hlen : ((out.map SrtO.iv).map V.int).length ≤ sizeLine := by
      rw [List.length_map, k2.length_eq]
      rw [List.length_map] at hz
      exact hz
    have e2 : out.map SrtO.iv = srtI ns := pw_perm_eq k3 (srtI_pw ns) (k2.trans (srtI_perm ns).symm)
    rw [e2] at k1 hlen
    exact ⟨.ref _, upd H (s.heap.objs.size + 1) (.lst ((srtI ns).map V.int)), I.laid (t' := s.toks) (fun _ _ => PyProof.Rows.sortedAll_old) (Nat.le_succ _) ⟨hlen, out, ep, vals_of_ints k1, he'⟩, rfl, q _ (I.hok.fresh (Nat.le_succ _))⟩
def sortD : D → Option RV
  | .lst xs => (allI xs).map fun ns => .ow ((srtI ns).map D.int)
  | .tup xs => (allI xs).map fun ns => .ow ((srtI ns).map D.int)
  | _ => none
theorem opv_sortA : OpV1 K mg (fun v => rSortA K [v]) sortD := by
  intro B H x a res Q hB ha e q
  have key : ∀ xs : List D, (PRep K mg B H (.lst xs) x ∨ PRep K mg B H (.tup xs) x) → (allI xs).map (fun ns => RV.ow ((srtI ns).map D.int)) = some res → rSortA K [x] H Q := fun xs hx e => by
    obtain ⟨ns, e1, e2⟩ := Option.map_eq_some_iff.mp e
    cases e2
    obtain ⟨p, vs, rfl, t, r⟩ := Rep.sqA hx
    have := allI_some e1
    subst this
    have := r.ints
    subst this
    exact ⟨p, ns, rfl, t, fun l hl => q _ _ (.lst hl (reps_ints _))⟩
  unfold sortD at e
  split at e
  · exact key _ (.inl ha) e
  · exact key _ (.inr ha) e
  · cases e
end
end DL
namespace DL
open PySem PySem.Spec PyProof.Rows L2
section
variable {X : Cx} {G : Gm} {Wx : WX} {c : Expr} {fe : EV} {pos : Pos} {elt tg : Expr} {scope : Scope} {g : GV} {t : TV}
theorem ed_compO0 (i : Nat) {x : Str} {px : Pos} (own : List (Str × Nat)) (hc : X.calm = true) (hN : X.N.Nodup) (ho : PE X (.Name x px) (tVar i)) (ok : BlkOk X.N X.env.scope scope own)
    (hg : ∀ (s : Shared) (H : Hp) (C : Addr) (cl : List (Str × Addr)) (fp : List Addr), GDv (Blk X scope s H C cl fp) G (own.map (·.2)) tg g)
    (he : ∀ (s : Shared) (H : Hp) (C : Addr) (cl : List (Str × Addr)) (fp : List Addr), ED (Blk X scope s H C cl fp) G W0 elt fe) (hs : ∀ y, foldedSetIterable (.Name x px) X.env y = pure y := by intro _; rfl) :
    ED X G Wx (.ListComp elt [⟨tg, .Name x px, [], 0⟩] scope pos) (eCompO i (own.map (·.2)) g tTrue fe) := ed_compO (tt := tYes) i own hc hN ho ok hg (fun _ _ _ _ _ => cd_nil) he hs
theorem ed_compO1 (i : Nat) {x : Str} {px : Pos} (own : List (Str × Nat)) (hc : X.calm = true) (hN : X.N.Nodup) (ho : PE X (.Name x px) (tVar i)) (ok : BlkOk X.N X.env.scope scope own)
    (hg : ∀ (s : Shared) (H : Hp) (C : Addr) (cl : List (Str × Addr)) (fp : List Addr), GDv (Blk X scope s H C cl fp) G (own.map (·.2)) tg g)
    (ht : ∀ (s : Shared) (H : Hp) (C : Addr) (cl : List (Str × Addr)) (fp : List Addr), TD (Blk X scope s H C cl fp) G W0 c t)
    (he : ∀ (s : Shared) (H : Hp) (C : Addr) (cl : List (Str × Addr)) (fp : List Addr), ED (Blk X scope s H C cl fp) G W0 elt fe) (hs : ∀ y, foldedSetIterable (.Name x px) X.env y = pure y := by intro _; rfl) :
    ED X G Wx (.ListComp elt [⟨tg, .Name x px, [c], 0⟩] scope pos) (eCompO i (own.map (·.2)) g t fe) := ed_compO (tt := tT X.K X.mg G W0 t) i own hc hN ho ok hg (fun s H C cl fp => cd_one (ht s H C cl fp)) he hs
end
end DL
namespace DL
open PySem PySem.Spec PyProof.Rows L2
/-! ### list(range(n)) -/
section
variable {K : PySem.W.Frag} {mg : Str → Option Value} {X : Cx} {G : Gm} {Wx : WX} {e : Expr} {fe : EV}
noncomputable def lrgD : D → Option RV
  | .int j => if decide (0 ≤ j ∧ j ≤ 16777216) = true then some (.ow (rngD 0 j)) else none
  | _ => none
theorem opv_lrg : OpV1 K mg (fun v H Q => ∃ n : Int, v = .int n ∧ RgOk 0 n ∧ ∀ q, H q = none → Q (.ref q) (upd H q (.lst (rgV 0 n)))) lrgD := by
  intro B H x a res Q hB ha e q
  unfold lrgD at e
  split at e
  · rename_i j
    split at e
    · rename_i c
      have c := of_decide_eq_true c
      cases e
      have := ha.int
      subst this
      refine ⟨j, rfl, RgOk.of_le (by omega) c.2 (by omega) c.1, fun l hl => q _ _ (.lst hl ?_)⟩
      rw [rngD_eq]
      have h := reps_ints (K := K) (mg := mg) (B := B) (H := H) ((List.range (j - 0).toNat).map fun (i : Nat) => (0 : Int) + (i : Int))
      rw [List.map_map, List.map_map] at h
      exact h
    · cases e
  · cases e
theorem ed_lrg {p p2 pos2 pos : Pos} (hc : X.calm = true) (hg : Gl X "list") (hm : X.mg "list" = none) (hg2 : Gl X "range") (hm2 : X.mg "range" = none) (he : ED X G Wx e fe)
    (hs : starEach [e] X.env = (false, eval e X.env) :: starEach [] X.env := by rfl)
    (hs2 : starEach [.Call (.Name "range" p2) [e] [] pos2] X.env = (false, eval (.Call (.Name "range" p2) [e] [] pos2) X.env) :: starEach [] X.env := by rfl) :
    ED X G Wx (.Call (.Name "list" p) [.Call (.Name "range" p2) [e] [] pos2] [] pos) (eOp1 lrgD fe) :=
  ⟨PE.imp (pe_listRg hc hg hm (prg_1 hg2 hm2 he.pe hs) hs2) fun σ H Q h => (tE_op1 opv_lrg h).mono fun v H1 ⟨n, e1, e2, e3⟩ => ⟨n, e1, e2, e3⟩⟩
end
end DL
namespace DL
open PySem PySem.Spec PyProof.Rows L2
/-! ### a, b = x, y, where the pair is made (a name that a comprehension sees) -/
section
variable {K : PySem.W.Frag} {mg : Str → Option Value} {X : Cx} {G : Gm} {Wx : WX} {a b : Expr} {fa fb : EV} {pos : Pos}
theorem sd_parC {i j : Nat} {x y : Str} {px py pt : Pos} {kt k2 pt2} (hc : X.calm = true) (hij : i ≠ j)
    (hx : PG X (.Name x px) (gName i)) (hy : PG X (.Name y py) (gName j)) (ha : ED X G Wx a fa) (hb : ED X G Wx b fb)
    (hw : swappedStores [.Tuple [.Name x px, .Name y py] kt pt] (.Tuple [a, b] k2 pt2) X.env = pure none)
    (hs : swapsWithSole [.Tuple [.Name x px, .Name y py] kt pt] (.Tuple [a, b] k2 pt2) pos.line X.env = pure false := by rfl)
    (he : starEach [a, b] X.env = (false, eval a X.env) :: starEach [b] X.env := by rfl) (he2 : starEach [b] X.env = (false, eval b X.env) :: starEach [] X.env := by rfl)
    (h1 : (assignEach [.Tuple [.Name x px, .Name y py] kt pt] X.env).map (·.2) = [assign (.Tuple [.Name x px, .Name y py] kt pt) X.env] := by rfl)
    (h2 : (assignEach [.Name x px, .Name y py] X.env).map (·.2) = assign (.Name x px) X.env :: (assignEach [.Name y py] X.env).map (·.2) := by rfl)
    (h3 : (assignEach [.Name y py] X.env).map (·.2) = assign (.Name y py) X.env :: (assignEach [] X.env).map (·.2) := by rfl)
    (h4 : (assignEach [.Name x px, .Name y py] X.env).length = 2 := by rfl) (h5 : (assignEach [.Name x px, .Name y py] X.env).findIdx? (·.1) = none := by rfl) :
    SD X G Wx (.Assign [.Tuple [.Name x px, .Name y py] kt pt] (.Tuple [a, b] k2 pt2) pos) (sPar i j fa fb) := by
  refine ⟨PS.imp (ps_asg (pe_tup (pa_cons ha.pe (pa_cons hb.pe pa_nil he2) he)) (pg_tup (n := 2) hc (pgs_cons hx (pgs_cons hy pgs_nil h3) h2) h4 h5) hs hw h1) fun D σ H ⟨P, A, L, s, hs, h⟩ => (tE_oneS hs h).mono fun x H1 ⟨A1, L1, s1, ra, a1, h1⟩ => ?_⟩
  obtain ⟨A2, s2, ra, a2, na, h2⟩ := run_keepX a1 h1
  refine ⟨Wi P ra x, A2, L1, s2, a2.sr, ((RunS.bind h2).on a2.st fun _ z => .inl z).run.imp fun rb s3 _ q A3 L3 y H3 b3 => ?_⟩
  obtain ⟨A4, s4, rb, b4, nb, q⟩ := run_keepX b3 q
  obtain ⟨ob, s5, sr5, st5, ho5, q⟩ := run_putR (i := j) b4 q
  have a5 : At X.K X.mg G P A L H (σ.set j (some y)) (A4.set j ob) L3 s5 H3 ra x := ⟨sr5, (a2.ok.step st5).sig na, a2.new, a2.st.trans st5, a2.p0⟩
  obtain ⟨oa, s6, sr6, st6, ho6, q⟩ := run_putR (i := i) a5 q
  refine ⟨by rw [sizeLine_eq]; simp, fun p hp => ⟨p, [x, y], rfl, .inl (.inl upd_same), rfl, x, [y], rfl, y, [], rfl, rfl, ?_⟩⟩
  show D.nx ((σ.set i (some x)).set j (some y)) _
  rw [List.set_comm _ _ hij]
  exact q _ _ _ _ (sr6.keep (keep_upd hp) fun _ z => .inl z) (st6.trans (Step.keep (keep_upd hp)))
end
end DL
namespace DL
open PySem PySem.Spec PyProof.Rows L2
section
variable {K : PySem.W.Frag} {mg : Str → Option Value} {X : Cx} {G : Gm} {Wx : WX} {v : Expr} {pos : Pos} {B : Addr → Prop} {H : Hp}
/-! ### sorted(name) of a dict with fewer than 64 keys, all ints -/
def keysI : List (Key × D) → Option (List Int)
  | [] => some []
  | (.inl i, _) :: r => (keysI r).map fun t => i :: t
  | _ => none
theorem keysI_some : ∀ {kvs : List (Key × D)} {ks : List Int}, keysI kvs = some ks → kvs.map (·.1) = ks.map Sum.inl
  | [], ks, h => by cases h; rfl
  | (.inl i, d) :: r, ks, h => by
    obtain ⟨t, e1, e2⟩ := Option.map_eq_some_iff.mp h
    cases e2
    rw [List.map_cons, List.map_cons, keysI_some e1]
  | (.inr _, _) :: _, _, h => by cases h
theorem RepK.keys : ∀ {a : List (Key × D)} {a' : List (Key × V)}, RepK K mg B H a a' → a'.map (·.1) = a.map (·.1)
  | [], a', h => by unfold RepK at h; subst h; rfl
  | (j, d0) :: a, a', h => by
    unfold RepK at h
    obtain ⟨v0, r, rfl, h1, h2⟩ := h
    rw [List.map_cons, List.map_cons, RepK.keys h2]
def eSrtD (i : Nat) : EV := fun s => match odAt i s with
  | some kvs => match keysI kvs with
    | some ks => if ks.length < 64 then .ok (.ow ((srtI ks).map D.int)) s else .bad
    | none => .bad
  | none => .bad
theorem ed_srtD {i : Nat} {x y : Str} {p p2 : Pos} (hc : X.calm = true) (hg : Gl X y) (hm : X.mg y = none) (hb : bootBuiltins y = some (.builtin "sorted")) (ho : PE X (.Name x p2) (tVar i))
    (hn : y ≠ "__name__" := by decide) (hdb : (y == ("__debug__" : Str)) = false := by decide) (he : starEach [.Name x p2] X.env = (false, eval (.Name x p2) X.env) :: starEach [] X.env := by rfl) :
    ED X G Wx (.Call (.Name y p) [.Name x p2] [] pos) (eSrtD i) := by
  refine ⟨PE.imp (pe_callB (call_sortedDI hc) hg hm hb (pa_cons ho pa_nil he) hn hdb he rfl) fun σ H Q ⟨P, A, L, s, hs, h⟩ => ?_⟩
  unfold eSrtD at h
  split at h
  · rename_i kvs e
    split at h
    · rename_i ks ek
      split at h
      · rename_i h64
        obtain ⟨p, ws, f1, f2, f3, _⟩ := hs.odict e
        refine ⟨_, f1, p, ws, ks, rfl, .inl f2, by rw [f3.keys, keysI_some ek], h64, fun ys q hp hpw hq => ?_⟩
        rw [pw_perm_eq hpw (srtI_pw ks) (hp.trans (srtI_perm ks).symm)]
        exact h A L _ _ (At.mk' hs (Step.refl A L H) hs.p0 (ResOk.lst hq (reps_ints _)))
      · exact h.elim
    · exact h.elim
  · exact h.elim
/-! ### name = {other: a constant} -/
def constD : D → Option V
  | .int i => some (.int i)
  | .bl b => some (.bl b)
  | .non => some .non
  | _ => none
def sDisp1 (i j : Nat) (c : D) : SV := fun s => match s.η[j]? with
  | some (.pv d) => match keyD d with
    | some k => if i < s.η.length then .ok .nx { s with η := s.η.set i (.od [(k, c)]) } else .bad
    | none => .bad
  | _ => .bad
theorem sd_disp1 {i j : Nat} {x y : Str} {p p2 pos2 : Pos} {c : D} {w : V} (hcd : ∀ B H, Rep X.K X.mg B H c w) (hN : X.N.Nodup) (hi : X.N[i]? = some x) (hx : Loc X.env.scope x) (hk : PE X (.Name y p2) (tVar j)) (hv : PE X v (tC w))
    (hf : X.fn x = true ∨ X.env.scope.names.lookup x = some .local := by first | exact .inl rfl | exact .inr rfl | assumption)
    (hs : swapsWithSole [.Name x p] (.Dict [some (.Name y p2)] [v] pos2) pos.line X.env = pure false := by rfl) (hw : swappedStores [.Name x p] (.Dict [some (.Name y p2)] [v] pos2) X.env = pure none := by rfl)
    (h1 : (assignEach [.Name x p] X.env).map (·.2) = [assign (.Name x p) X.env] := by rfl) : SD X G Wx (.Assign [.Name x p] (.Dict [some (.Name y p2)] [v] pos2) pos) (sDisp1 i j c) := by
  refine ⟨PS.imp (ps_asg (pe_disp (pps_cons hk hv pps_nil) rfl rfl (by simp) (by simp)) (pg_name hN hi hx hf) hs hw h1) fun D σ H ⟨P, A, L, s, hs, h⟩ => ?_⟩
  unfold sDisp1 at h
  split at h
  · rename_i d ej
    split at h
    · rename_i k ek
      split at h
      · rename_i hil
        intro q hq
        obtain ⟨_, ov, oa, e1, e2, so⟩ := hs.slot' ej
        obtain ⟨v0, ev, rp⟩ := (show ∃ v0, ov = some v0 ∧ Rep X.K X.mg (Bd P A L) H d v0 from so.2)
        subst ev
        have ev := keyD_ok rp ek
        subst ev
        refine ⟨_, e1, upd_same, [(k, w)], rfl, by simp, ?_⟩
        have eu : upd (upd H q (.dK [])) q (.dK (mergeK [] [(k, w)])) = upd H q (.dK [(k, w)]) := by
          funext a
          by_cases h : a = q
          · subst h; rw [upd_same, upd_same]; rfl
          · rw [upd_ne h, upd_ne h, upd_ne h]
        rw [eu]
        have h : PostN X.K X.mg G P A L H D.nx { s with η := s.η.set i (.od [(k, c)]) } := h
        let P1 : Addr → Prop := fun a => P a ∨ a = q
        have sr1 : SR X.K X.mg G P1 A L s σ (upd H q (.dK [(k, w)])) := hs.keep (keep_upd hq) fun a z => z.imp id fun z => by subst z; exact ⟨⟨_, upd_same⟩, hq⟩
        have nP : ¬ P q := fun z => by obtain ⟨o, e⟩ := (hs.pOk q z).1; rw [hq] at e; cases e
        have n0 : G.H0 q = none := by
          cases e : G.H0 q with
          | none => rfl
          | some o => obtain ⟨o', e'⟩ := hs.ent.there q o e; rw [hq] at e'; cases e'
        have hiσ : i < σ.length := by rw [hs.lenσ]; exact hil
        have sr2 := sr1.set (P := P) (i := i) (σ' := σ.set i (some (.ref q))) (ov := some (.ref q)) (oa := some q) (x := .od [(k, c)]) hil (fun _ z => .inl z)
          (fun a z => by cases z; exact ⟨.inr rfl, nP, ⟨_, upd_same, .inr ⟨_, rfl⟩⟩, n0⟩) ⟨by simp, List.getElem?_set_self hiσ, fun j hj => List.getElem?_set_ne (Ne.symm hj)⟩ ⟨q, _, rfl, rfl, upd_same, by
            unfold RepK
            exact ⟨w, [], rfl, hcd _ _, by unfold RepK; rfl⟩⟩
        refine h _ _ _ _ sr2 ?_
        refine ⟨fun a o e hA hL pl => keep_upd hq a o e, fun a z => ?_, ⟨[], by simp⟩, fun a o e => ⟨o, keep_upd hq a o e⟩, fun a ⟨ps, e, t⟩ => ⟨ps, keep_upd hq a _ e, t⟩⟩
        rcases z with z | z
        · rcases mem_set z with z | z
          · exact .inl z
          · cases z; exact .inr (.inr hq)
        · exact .inr (.inl z)
      · exact h.elim
    · exact h.elim
  · exact h.elim
end
end DL
namespace DL
open PySem PySem.Spec PyProof.Rows L2
/-! ### mirrors of defs are sealed: nothing unfolds them -/
noncomputable def sld {α : Sort u} (x : α) : α := Classical.choose (⟨x, rfl⟩ : ∃ y, y = x)
theorem sld_eq {α : Sort u} (x : α) : sld x = x := Classical.choose_spec (⟨x, rfl⟩ : ∃ y, y = x)
section
variable {Pg : Program} {w : World} {K : PySem.W.Frag} {mg : Str → Option Value} {base : Heap} {tb : List Addr} {k : Nat} {x pn : Str} {ps : List Str}
theorem Has.sld {m : Fn} (h : Has Pg w K mg base tb k x ps m) : Has Pg w K mg base tb k x ps (sld m) := by rw [sld_eq]; exact h
theorem HasX.sld {m : Str → List (List D) → Rf} (h : HasX Pg w K mg base tb k x pn m) : HasX Pg w K mg base tb k x pn (sld m) := by rw [sld_eq]; exact h
theorem fn_sld (f : Fn) (args : List RV) (W : List (List D)) : sld f args W = f args W := by rw [sld_eq]
theorem fx_sld (f : Str → List (List D) → Rf) (nm : Str) (W : List (List D)) : sld f nm W = f nm W := by rw [sld_eq]
end
end DL
namespace DL
open PySem PySem.Spec PyProof.Rows L2
/-! ### a, b, c = x, y, z -/
def sPar3 (i j l : Nat) (fa fb fc : EV) : SV := fun s => (fa s).bind fun ra s1 => (keepX ra s1).bind fun ra s1 => (fb s1).bind fun rb s2 => (keepX rb s2).bind fun rb s2 => (fc s2).bind fun rc s3 => (keepX rc s3).bind fun rc s3 =>
  (putR l rc s3).bind fun _ s4 => (putR j rb s4).bind fun _ s5 => (putR i ra s5).bind fun _ s6 => .ok .nx s6
section
variable {X : Cx} {G : Gm} {Wx : WX} {a b c : Expr} {fa fb fc : EV} {pos : Pos}
/-- what both rules share -/
theorem par3_core {i j l : Nat} {Dn : Ends} {σ : L2.St} {H : Hp} (hij : i ≠ j) (hil : i ≠ l) (hjl : j ≠ l) {P : Addr → Prop} {A : List (Option Addr)} {L : List Addr} {s : S} (hs : SR X.K X.mg G P A L s σ H)
    (h : RunS X.K X.mg G Wx P A L H (sPar3 i j l fa fb fc s) (PostS X.K X.mg G P A L H Dn)) :
    tE X.K X.mg G Wx fa σ H fun x H1 => tE X.K X.mg G Wx fb σ H1 fun y H2 => tE X.K X.mg G Wx fc σ H2 fun z H3 =>
      ∃ A' L' s', SR X.K X.mg G P A' L' s' (((σ.set i (some x)).set j (some y)).set l (some z)) H3 ∧ Step A L H A' L' H3 ∧ PostS X.K X.mg G P A L H Dn .nx s' := by
  refine (tE_oneS hs h).mono fun x H1 ⟨A1, L1, s1, ra, a1, h1⟩ => ?_
  obtain ⟨A2, s2, ra, a2, na, h2⟩ := run_keepX a1 h1
  refine ⟨Wi P ra x, A2, L1, s2, a2.sr, ((RunS.bind h2).on a2.st fun _ z => .inl z).run.imp fun rb s3 _ q A3 L3 y H3 b3 => ?_⟩
  obtain ⟨A4, s4, rb, b4, nb, q⟩ := run_keepX b3 q
  refine ⟨Wi (Wi P ra x) rb y, A4, L3, s4, b4.sr, ((RunS.bind q).on (a2.st.trans b4.st) fun _ z => .inl (.inl z)).run.imp fun rc s5 _ q A5 L5 z H5 c5 => ?_⟩
  obtain ⟨A6, s6, rc, c6, nc, q⟩ := run_keepX c5 q
  obtain ⟨oc, s7, sr7, st7, ho7, q⟩ := run_putR (i := l) c6 q
  have b7 : At X.K X.mg G (Wi P ra x) A2 L1 H1 (σ.set l (some z)) (A6.set l oc) L5 s7 H5 rb y := ⟨sr7, (b4.ok.step st7).sig nb, b4.new, b4.st.trans st7, b4.p0⟩
  obtain ⟨ob, s8, sr8, st8, ho8, q⟩ := run_putR (i := j) b7 q
  have a8 : At X.K X.mg G P A L H ((σ.set l (some z)).set j (some y)) ((A6.set l oc).set j ob) L5 s8 H5 ra x := ⟨sr8, (a2.ok.step st8).sig na, a2.new, a2.st.trans st8, a2.p0⟩
  obtain ⟨oa, s9, sr9, st9, ho9, q⟩ := run_putR (i := i) a8 q
  refine ⟨_, L5, s9, ?_, st9, q⟩
  have e : ((σ.set i (some x)).set j (some y)).set l (some z) = ((σ.set l (some z)).set j (some y)).set i (some x) := by
    rw [List.set_comm _ _ hij, List.set_comm _ _ hil, List.set_comm _ _ hjl]
  rw [e]; exact sr9
theorem sd_par3 {i j l : Nat} {x y z : Str} {px py pz pt : Pos} {kt k2 pt2} (hc : X.calm = true) (hN : X.N.Nodup) (hi : X.N[i]? = some x) (hj : X.N[j]? = some y) (hl : X.N[l]? = some z) (hij : i ≠ j) (hil : i ≠ l) (hjl : j ≠ l)
    (hx : X.env.scope.names.lookup x = some .local) (hy : X.env.scope.names.lookup y = some .local) (hz : X.env.scope.names.lookup z = some .local) (ha : ED X G Wx a fa) (hb : ED X G Wx b fb) (hcc : ED X G Wx c fc)
    (hw : swappedStores [.Tuple [.Name x px, .Name y py, .Name z pz] kt pt] (.Tuple [a, b, c] k2 pt2) X.env = pure (some [x, y, z]))
    (hs : swapsWithSole [.Tuple [.Name x px, .Name y py, .Name z pz] kt pt] (.Tuple [a, b, c] k2 pt2) pos.line X.env = pure false := by rfl)
    (he : starEach [a, b, c] X.env = (false, eval a X.env) :: starEach [b, c] X.env := by rfl) (he2 : starEach [b, c] X.env = (false, eval b X.env) :: starEach [c] X.env := by rfl) (he3 : starEach [c] X.env = (false, eval c X.env) :: starEach [] X.env := by rfl) :
    SD X G Wx (.Assign [.Tuple [.Name x px, .Name y py, .Name z pz] kt pt] (.Tuple [a, b, c] k2 pt2) pos) (sPar3 i j l fa fb fc) := by
  refine ⟨PS.imp (ps_par3 hc hN hi hj hl hij hil hjl hx hy hz (pa_cons ha.pe (pa_cons hb.pe (pa_cons hcc.pe pa_nil he3) he2) he) hw hs) fun Dn σ H ⟨P, A, L, s, hs, h⟩ => (par3_core hij hil hjl hs h).mono fun x H1 h1 => h1.mono fun y H2 h2 => h2.mono fun z H3 ⟨A', L', s', sr, st, q⟩ => ?_⟩
  exact ⟨x, y, z, rfl, q _ _ _ _ sr st⟩
theorem sd_par3C {i j l : Nat} {x y z : Str} {px py pz pt : Pos} {kt k2 pt2} (hc : X.calm = true) (hij : i ≠ j) (hil : i ≠ l) (hjl : j ≠ l)
    (hx : PG X (.Name x px) (gName i)) (hy : PG X (.Name y py) (gName j)) (hz : PG X (.Name z pz) (gName l)) (ha : ED X G Wx a fa) (hb : ED X G Wx b fb) (hcc : ED X G Wx c fc)
    (hw : swappedStores [.Tuple [.Name x px, .Name y py, .Name z pz] kt pt] (.Tuple [a, b, c] k2 pt2) X.env = pure none)
    (hs : swapsWithSole [.Tuple [.Name x px, .Name y py, .Name z pz] kt pt] (.Tuple [a, b, c] k2 pt2) pos.line X.env = pure false := by rfl)
    (he : starEach [a, b, c] X.env = (false, eval a X.env) :: starEach [b, c] X.env := by rfl) (he2 : starEach [b, c] X.env = (false, eval b X.env) :: starEach [c] X.env := by rfl) (he3 : starEach [c] X.env = (false, eval c X.env) :: starEach [] X.env := by rfl)
    (h1 : (assignEach [.Tuple [.Name x px, .Name y py, .Name z pz] kt pt] X.env).map (·.2) = [assign (.Tuple [.Name x px, .Name y py, .Name z pz] kt pt) X.env] := by rfl)
    (h2 : (assignEach [.Name x px, .Name y py, .Name z pz] X.env).map (·.2) = assign (.Name x px) X.env :: (assignEach [.Name y py, .Name z pz] X.env).map (·.2) := by rfl)
    (h3 : (assignEach [.Name y py, .Name z pz] X.env).map (·.2) = assign (.Name y py) X.env :: (assignEach [.Name z pz] X.env).map (·.2) := by rfl)
    (h3' : (assignEach [.Name z pz] X.env).map (·.2) = assign (.Name z pz) X.env :: (assignEach [] X.env).map (·.2) := by rfl)
    (h4 : (assignEach [.Name x px, .Name y py, .Name z pz] X.env).length = 3 := by rfl) (h5 : (assignEach [.Name x px, .Name y py, .Name z pz] X.env).findIdx? (·.1) = none := by rfl) :
    SD X G Wx (.Assign [.Tuple [.Name x px, .Name y py, .Name z pz] kt pt] (.Tuple [a, b, c] k2 pt2) pos) (sPar3 i j l fa fb fc) := by
  refine ⟨PS.imp (ps_asg (pe_tup (pa_cons ha.pe (pa_cons hb.pe (pa_cons hcc.pe pa_nil he3) he2) he)) (pg_tup (n := 3) hc (pgs_cons hx (pgs_cons hy (pgs_cons hz pgs_nil h3') h3) h2) h4 h5) hs hw h1) fun Dn σ H ⟨P, A, L, s, hs, h⟩ => (par3_core hij hil hjl hs h).mono fun x H1 h1 => h1.mono fun y H2 h2 => h2.mono fun z H3 ⟨A', L', s', sr, st, q⟩ => ?_⟩
  refine ⟨by rw [sizeLine_eq]; simp, fun p hp => ⟨p, [x, y, z], rfl, .inl (.inl upd_same), rfl, x, [y, z], rfl, y, [z], rfl, z, [], rfl, rfl, ?_⟩⟩
  exact q _ _ _ _ (sr.keep (keep_upd hp) fun _ z => .inl z) (st.trans (Step.keep (keep_upd hp)))
end
end DL
namespace DL
open PySem PySem.Spec PyProof.Rows L2
/-! ### a call of an expression that gives one of the module's defs -/
structure HeldS (P : Program) (w : World) (K : PySem.W.Frag) (mg : Str → Option Value) (base : Heap) (CX : CXT) (k : Nat) (f : Addr) (sp : Sp) : Prop where
  ex : ∃ (fd : FuncData) (ps : List Str), FnOk P w K mg base CX k f fd ps sp ∧ PySem.W.keepIn K (.ref f) = true ∧ Binds K fd ps []
def tCallE (tf : TE) (R : Addr → Sp → Prop) (E : L2.St → XK) (t : TA) : TE := fun σ H Q => tf σ H fun y H1 => ∃ f sp, y = V.ref f ∧ R f sp ∧ t σ H1 fun vs H2 => sp vs H2 Q (E σ)
section
variable {X : Cx} {CX : CXT} {k : Nat} {R : Addr → Sp → Prop} {fe e : Expr} {es : List Expr} {tf : TE} {t : TA} {pos : Pos} {E : L2.St → XK}
theorem pe_callE (hf : PE X fe tf) (A : ∀ f sp, R f sp → HeldS X.prog X.w X.K X.mg X.base CX k f sp) (hr : Room k X.A) (hx : ∀ σ, PassesAt CX X σ (E σ)) (ha : PA X (e :: es) t)
    (ht : eval (.Call fe (e :: es) [] pos) X.env = (do callWith pos (← eval fe X.env) [] (backTo pos (starEach (e :: es) X.env)) (backToKw pos (keywordEach [] X.env))) := by rfl)
    (he : starEach (e :: es) X.env = (false, eval e X.env) :: starEach es X.env := by rfl) (hpl : (backTo pos (starEach es X.env)).any (·.1) = false := by rfl) :
    PE X (.Call fe (e :: es) [] pos) (tCallE tf R E t) := by
  refine ⟨fun pins s σ H Q I h => ?_⟩
  refine Call_ (thn (hf.run pins s σ H _ I h) fun u s1 ⟨y, H1, I1, ry, f, sp, ey, hR, q⟩ => ?_) ht
  subst ey
  obtain rfl : u = Value.ref f := ry
  obtain ⟨fd, ps, F, hk, hb⟩ := (A f sp hR).ex
  refine PySem.W.callWith_K (h₀ := X.base) I1.ok.mod.kin hk (thn (ha.run pos pins s1 σ H1 _ I1 q) fun us s2 ⟨vs, H2, I2, r, q⟩ => ⟨I2.kIn, ?_⟩) he hpl
  exact run_fnS F hr hb (hx σ) I2 r q
end
def eCallV (fe : EV) (fns : List (PySem.Str × Fn)) (fs : AV) : EV := fun s => (fe s).bind fun r s1 => match rd r s1 with
  | some (.glb x) => match fns.lookup x with
    | some F => eCall F fs s1
    | none => .bad
  | _ => .bad
section
variable {X : Cx} {G : Gm} {Wx : WX} {k : Nat} {fe e : Expr} {es : List Expr} {f : EV} {fs : AV} {pos : Pos} {tb : List Addr} {fns : List (PySem.Str × Fn)}
/-- a def of the module as a value -/
theorem ed_fn {j : Nat} {x : Str} {ps : List Str} {F : Fn} (hg : Gl X x) (h : Has X.prog X.w X.K X.mg X.base tb j x ps F) (hd : (x == ("__debug__" : Str)) = false := by decide) : ED X G Wx (.Name x pos) (eC (.glb x)) := by
  obtain ⟨f, fd, hm, _⟩ := h.ex
  exact ed_globR hg hm hd
theorem ed_callV (hfe : ED X G Wx fe f) (hF : ∀ x F, fns.lookup x = some F → ∃ j ps, j ≤ k ∧ Has X.prog X.w X.K X.mg X.base tb j x ps F) (hr : Room k X.A) (htb : G.tb = tb) (tk : L2N.Takes X Wx) (ha : AD X G Wx (e :: es) fs)
    (ht : eval (.Call fe (e :: es) [] pos) X.env = (do callWith pos (← eval fe X.env) [] (backTo pos (starEach (e :: es) X.env)) (backToKw pos (keywordEach [] X.env))) := by rfl)
    (he : starEach (e :: es) X.env = (false, eval e X.env) :: starEach es X.env := by rfl) (hpl : (backTo pos (starEach es X.env)).any (·.1) = false := by rfl) :
    ED X G Wx (.Call fe (e :: es) [] pos) (eCallV f fns fs) := by
  refine ⟨PE.imp (pe_callE (CX := L2N.CX X.prog X.w) (k := k) (R := fun a sp => ∃ x F, X.mg x = some (.ref a) ∧ fns.lookup x = some F ∧ sp = spD X.K X.mg tb F) hfe.pe (fun a sp ⟨x, F, hm, hl, e⟩ => ?_) hr (fun σ => L2N.passAt tk σ) ha.pa ht he hpl) fun σ H Q ⟨P, A, L, s, hs, h⟩ => (tE_one hs h).mono fun y H1 ⟨A1, L1, s1, r, a1, h1⟩ => ?_⟩
  · obtain ⟨j, ps, hj, hh⟩ := hF x F hl
    obtain ⟨f, fd, hm2, hk, hb, FF, _⟩ := hh.ex
    rw [hm] at hm2
    cases hm2
    subst e
    exact ⟨fd, ps, FF.mono hj, hk, hb⟩
  · cases e1 : rd r s1 with
    | none => rw [e1] at h1; exact h1.elim
    | some d =>
      rw [e1] at h1
      cases d with
      | glb x =>
        simp only at h1
        cases e2 : fns.lookup x with
        | none => rw [e2] at h1; exact h1.elim
        | some F =>
          rw [e2] at h1
          obtain ⟨a, hm, rfl⟩ := (rd_ok a1.weak a1.ok e1).glb
          exact ⟨a, _, rfl, ⟨x, F, hm, e2, rfl⟩, tE_call htb ⟨P, A1, L1, s1, a1.weak, h1.shift a1.st fun r s2 _ q => q.shift a1.st hs.p0⟩⟩
      | _ => exact h1.elim
end
end DL
namespace DL
open PySem PySem.Spec PyProof.Rows L2
section
variable {P : Program} {w : World} {K : PySem.W.Frag} {mg : Str → Option Value} {base : Heap} {tb : List Addr} {k j : Nat} {y : Str} {ps : List Str} {F0 : Fn} {fns : List (PySem.Str × Fn)}
theorem lv_nil : ∀ x F, ([] : List (PySem.Str × Fn)).lookup x = some F → ∃ j ps, j ≤ k ∧ Has P w K mg base tb j x ps F := fun _ _ h => by cases h
theorem lv_cons (h : Has P w K mg base tb j y ps F0) (hj : j ≤ k) (r : ∀ x F, fns.lookup x = some F → ∃ j ps, j ≤ k ∧ Has P w K mg base tb j x ps F) : ∀ x F, ((y, F0) :: fns).lookup x = some F → ∃ j ps, j ≤ k ∧ Has P w K mg base tb j x ps F := fun x F e => by
  rw [List.lookup_cons] at e
  split at e
  · rename_i q
    have q : x = y := by simpa using q
    cases e
    subst q
    exact ⟨j, ps, hj, h⟩
  · exact r x F e
end
end DL
namespace DL
open PySem PySem.Spec PyProof.Rows L2
/-! ### dicts as values: read, but changed no more -/
section
variable {K : PySem.W.Frag} {mg : Str → Option Value} {X : Cx} {G : Gm} {Wx : WX} {e a b : Expr} {fe fa fb : EV} {pos : Pos}
variable {P : Addr → Prop} {A : List (Option Addr)} {σ : L2.St} {L : List Addr} {H : Hp} {s : S} {B : Addr → Prop} {i : Nat}
theorem keyP_ok {d : D} {v : V} {k : Key} (h : PRep K mg B H d v) (e : keyD d = some k) : v = kV k := by
  rcases h with h | ⟨ds, _, _, z, _⟩
  · exact keyD_ok h e
  · subst z; cases e
/-- what is in a dict -/
def inY : Ob2 := fun a b => match b with
  | .dK kvs => (keyD a).map fun k => .pv (.bl (valD kvs k).isSome)
  | _ => inC a b
def niY : Ob2 := fun a b => match b with
  | .dK kvs => (keyD a).map fun k => .pv (.bl (!(valD kvs k).isSome))
  | _ => niC a b
def rInK : R2 := fun x y H Q => ∃ a o, y = .ref a ∧ DGet H a x o ∧ Q (.bl o.isSome) H
def rNiK : R2 := fun x y H Q => ∃ a o, y = .ref a ∧ DGet H a x o ∧ Q (.bl (!o.isSome)) H
theorem op_inK (hu : X.A.units + 1 < cLine) : OpR X (compareOp .In) rInK := by
  intro pins s σ H x y v u Q I rx ry h
  obtain ⟨a, o, rfl, g, q⟩ := h
  obtain rfl : u = Value.ref a := ry
  exact d_in hu I g rx fun s3 I3 => ⟨.bl o.isSome, H, I3, rfl, q⟩
theorem op_niK (hu : X.A.units + 1 < cLine) : OpR X (compareOp .NotIn) rNiK := by
  intro pins s σ H x y v u Q I rx ry h
  obtain ⟨a, o, rfl, g, q⟩ := h
  obtain rfl : u = Value.ref a := ry
  exact d_notIn hu I g rx fun s3 I3 => ⟨.bl (!o.isSome), H, I3, rfl, q⟩
theorem valD_isSome {kvs : List (Key × D)} {ws : List (Key × V)} (r : RepK K mg B H kvs ws) (k : Key) : (valV ws k).isSome = (valD kvs k).isSome := by
  have rv := r.val k
  cases q : valD kvs k with
  | none => rw [q] at rv; rw [rv]; rfl
  | some d => rw [q] at rv; obtain ⟨v, e, _⟩ := rv; rw [e]; rfl
def rInY (K : PySem.W.Frag) : R2 := fun x y H Q => rInA K x y H Q ∨ rInK x y H Q
def rNiY (K : PySem.W.Frag) : R2 := fun x y H Q => rNiA K x y H Q ∨ rNiK x y H Q
theorem op_inY (hu : X.A.units + 65 < cLine) (h1 : X.A.units + 1 < cLine) : OpR X (compareOp .In) (rInY X.K) := (op_inA hu).or (op_inK h1)
theorem op_niY (hu : X.A.units + 65 < cLine) (h1 : X.A.units + 1 < cLine) : OpR X (compareOp .NotIn) (rNiY X.K) := (op_niA hu).or (op_niK h1)
theorem opv_inY : OpV K mg (rInY K) inY := by
  intro B H x y a b res Q hB ha hb e0 q
  cases b with
  | dK kvs =>
    obtain ⟨k, e1, rfl⟩ := Option.map_eq_some_iff.mp (show (keyD a).map _ = some res from e0)
    have ex := keyP_ok ha e1
    subst ex
    obtain ⟨p, ws, rfl, f2, _, f3⟩ := hb.dK
    refine .inr ⟨p, valV ws k, rfl, DGet.k f2, ?_⟩
    rw [valD_isSome f3 k]
    exact q _ H .bl
  | _ => exact .inl (opv_in B H x y a _ res Q hB ha hb e0 q)
theorem opv_niY : OpV K mg (rNiY K) niY := by
  intro B H x y a b res Q hB ha hb e0 q
  cases b with
  | dK kvs =>
    obtain ⟨k, e1, rfl⟩ := Option.map_eq_some_iff.mp (show (keyD a).map _ = some res from e0)
    have ex := keyP_ok ha e1
    subst ex
    obtain ⟨p, ws, rfl, f2, _, f3⟩ := hb.dK
    refine .inr ⟨p, valV ws k, rfl, DGet.k f2, ?_⟩
    rw [valD_isSome f3 k]
    exact q _ H .bl
  | _ => exact .inl (opv_ni B H x y a _ res Q hB ha hb e0 q)
/-- d[k] -/
def ixY : Ob2 := fun a b => match a with
  | .dK kvs => (keyD b).bind fun k => (valD kvs k).map .pv
  | _ => ixD a b
def rIxK : R2 := fun x y H Q => ∃ a v, x = .ref a ∧ DGet H a y (some v) ∧ Q v H
theorem ix_dK (hu : X.A.units + 1 < cLine) : IxR X rIxK := by
  intro value slice pins s σ H x y v u Q I rx ry h hs
  obtain ⟨a, w, rfl, g, q⟩ := h
  obtain rfl : v = Value.ref a := rx
  exact tail_any (dict_typeIs I g) PySem.F.slot_dict_getitem.lookup (d_getItem hu I g ry fun w' s3 I3 rw' => ⟨w, H, I3, rw', q⟩) hs
def rIxY (K : PySem.W.Frag) : R2 := fun x y H Q => rIx K x y H Q ∨ rIxK x y H Q
theorem ix_Y (hu : X.A.units + 1 < cLine) : IxR X (rIxY X.K) := ix_seq.or (ix_dK hu)
theorem opv_ixY : OpV K mg (rIxY K) ixY := by
  intro B H x y a b res Q hB ha hb e0 q
  cases a with
  | dK kvs =>
    obtain ⟨k, e1, e2⟩ := Option.bind_eq_some_iff.mp (show (keyD b).bind _ = some res from e0)
    obtain ⟨d, e3, rfl⟩ := Option.map_eq_some_iff.mp e2
    have ey := keyP_ok hb e1
    subst ey
    obtain ⟨p, ws, rfl, f2, _, f3⟩ := ha.dK
    have rv := f3.val k
    rw [e3] at rv
    obtain ⟨v, ev, rp⟩ := rv
    exact .inr ⟨p, v, rfl, by rw [← ev]; exact DGet.k f2, q _ _ (.same rp)⟩
  | _ => exact .inl (opv_ix B H x y _ b res Q hB ha hb e0 q)
theorem ed_ixY (hu : X.A.units + 1 < cLine) (ha : ED X G Wx a fa) (hb : ED X G Wx b fb) (hs : PlainIx b := by exact fun _ _ => rfl) : ED X G Wx (.Subscript a b pos) (eOp2 ixY fa fb) :=
  ⟨PE.imp (pe_ix (ix_Y hu) ha.pe hb.pe hs) fun σ H Q h => tE_op2 opv_ixY h⟩
/-! an owned dict is handed on: nobody changes it any more -/
def eFzD (i : Nat) : EV := fun s => match s.η[i]? with
  | some (.od kvs) => .ok (.pv (.dK kvs)) { s with η := s.η.set i (.pv (.dK kvs)) }
  | some (.pv (.dK kvs)) => .ok (.pv (.dK kvs)) s
  | _ => .bad
theorem SR.freezeD (hs : SR K mg G P A L s σ H) {kvs : List (Key × D)} (e : s.η[i]? = some (.od kvs)) : ∃ v, σ[i]? = some (some v) ∧ SR K mg G P (A.set i none) L { s with η := s.η.set i (.pv (.dK kvs)) } σ H ∧
    Rep K mg (Bd P (A.set i none) L) H (.dK kvs) v := by
  obtain ⟨hi, ov, oa, e1, e2, a, xs, rfl, rfl, e3, r⟩ := hs.slot' e
  have na : ¬ Bd P (A.set i none) L a := fun z => by
    rcases z with z | z | z
    · obtain ⟨j, hj, ej⟩ := List.getElem_of_mem z
      have ej' : (A.set i none)[j]? = some (some a) := by rw [List.getElem?_eq_getElem hj, ej]
      by_cases h : j = i
      · subst h
        rw [List.getElem?_set_self (by rw [hs.lenA]; exact hi)] at ej'
        cases ej'
      · rw [List.getElem?_set_ne (Ne.symm h)] at ej'
        exact h (hs.uniq j i a ej' e2)
    · exact hs.apart a (List.mem_of_getElem? e2) z
    · exact (hs.pOk a z).2.1 (List.mem_of_getElem? e2)
  have rr : Rep K mg (Bd P (A.set i none) L) H (.dK kvs) (.ref a) := by
    unfold Rep
    exact ⟨a, xs, rfl, e3, na, r.move (Step.drop (A := A) (L := L) (H := H) (i := i)).mv⟩
  exact ⟨_, e1, hs.set hi (fun _ z => z) (fun _ z => nomatch z) (same_slot e1) ⟨rfl, _, rfl, rr⟩, rr⟩
theorem ed_fzD (i : Nat) {x : Str} (hN : X.N[i]? = some x := by rfl) (hv : Vis X.env.scope x := by first | exact Or.inl rfl | exact Or.inr (Or.inl rfl) | exact Or.inr (Or.inr rfl)) (hd : (x == ("__debug__" : Str)) = false := by decide)
    (hcd : (x == ("__classdict__" : Str)) = false := by decide) : ED X G Wx (.Name x pos) (eFzD i) := by
  refine ⟨PE.imp (pe_var hN hv hd hcd) fun σ H Q ⟨P, A, L, s, hs, h⟩ => ?_⟩
  unfold eFzD at h
  split at h
  · rename_i kvs q
    obtain ⟨v, e1, sr, r⟩ := hs.freezeD q
    exact ⟨v, e1, h _ L v H ⟨sr.lessP (Wi.pv nofun), r, OwNew.of nofun, Step.drop, hs.p0⟩⟩
  · rename_i kvs q
    obtain ⟨hi, ov, oa, e1, e2, so⟩ := hs.slot' q
    obtain ⟨_, v, rfl, r⟩ := so
    exact ⟨v, e1, tE_pure hs h r⟩
  · exact h.elim
/-! reading where it is owned or not -/
def odR (i : Nat) (s : S) : Option (List (Key × D)) := match s.η[i]? with
  | some (.od kvs) => some kvs
  | some (.pv (.dK kvs)) => some kvs
  | _ => none
theorem SR.odr {kvs : List (Key × D)} (hs : SR K mg G P A L s σ H) (e : odR i s = some kvs) : ∃ p ws, σ[i]? = some (some (.ref p)) ∧ H p = some (.dK ws) ∧ RepK K mg (Bd P A L) H kvs ws := by
  unfold odR at e
  split at e
  · rename_i kvs0 q
    cases e
    obtain ⟨hi, ov, oa, e1, e2, p, ws, rfl, rfl, e3, r⟩ := hs.slot' q
    exact ⟨p, ws, e1, e3, r⟩
  · rename_i kvs0 q
    cases e
    obtain ⟨hi, ov, oa, e1, e2, so⟩ := hs.slot' q
    obtain ⟨_, v, rfl, r⟩ := so
    unfold Rep at r
    obtain ⟨p, ws, rfl, f1, _, f2⟩ := r
    exact ⟨p, ws, e1, f1, f2⟩
  · cases e
def eDinR (neg : Bool) (i : Nat) (fe : EV) : EV := fun s => (fe s).bind fun r s1 => match odR i s1, (rd r s1).bind keyD with
  | some kvs, some k => .ok (.pv (.bl ((valD kvs k).isSome != neg))) s1
  | _, _ => .bad
theorem tE_dinR {neg : Bool} {Q : VK} (h : tE K mg G Wx (eDinR neg i fe) σ H Q) : tE K mg G Wx fe σ H fun y H1 => ∃ v, σ[i]? = some (some v) ∧ ∃ a o, v = .ref a ∧ DGet H1 a y o ∧ Q (.bl (o.isSome != neg)) H1 := by
  obtain ⟨P, A, L, s, hs, h⟩ := h
  refine (tE_one hs h).mono fun y H1 ⟨A1, L1, s1, r, a1, h1⟩ => ?_
  split at h1
  · rename_i kvs k e1 e2
    obtain ⟨p, ws, f1, f2, f3⟩ := a1.weak.odr e1
    obtain ⟨d, g1, g2⟩ := Option.bind_eq_some_iff.mp e2
    have ey := keyP_ok (rd_ok a1.weak a1.ok g1) g2
    subst ey
    refine ⟨_, f1, p, valV ws k, rfl, DGet.k f2, ?_⟩
    rw [valD_isSome f3 k]
    exact h1 A1 L1 _ H1 (At.mk' a1.weak a1.st hs.p0 (ResOk.same (by unfold Rep; rfl)))
  · exact h1.elim
theorem ed_dinR {x : Str} {p : Pos} (hu : X.A.units + 1 < cLine) (he : ED X G Wx e fe) (ho : PE X (.Name x p) (tVar i)) : ED X G Wx (.Compare e [.In] [.Name x p] pos) (eDinR false i fe) :=
  ⟨PE.imp (pe_cmp (pc_din hu he.pe ho) rfl) fun σ H Q h => (tE_dinR h).mono fun y H1 ⟨v, e, a, o, q1, q2, q3⟩ => ⟨v, e, a, o, q1, q2, by cases o <;> exact q3⟩⟩
theorem ed_dniR {x : Str} {p : Pos} (hu : X.A.units + 1 < cLine) (he : ED X G Wx e fe) (ho : PE X (.Name x p) (tVar i)) : ED X G Wx (.Compare e [.NotIn] [.Name x p] pos) (eDinR true i fe) :=
  ⟨PE.imp (pe_cmp (pc_dnotin hu he.pe ho) rfl) fun σ H Q h => (tE_dinR h).mono fun y H1 ⟨v, e, a, o, q1, q2, q3⟩ => ⟨v, e, a, o, q1, q2, by cases o <;> exact q3⟩⟩
theorem tT_dinR {neg : Bool} {Q : Bool → Hp → Prop} (h : tT K mg G Wx (tOfB (eDinR neg i fe)) σ H Q) : tE K mg G Wx fe σ H fun y H1 => ∃ v, σ[i]? = some (some v) ∧ ∃ a o, v = .ref a ∧ DGet H1 a y o ∧ Q (o.isSome != neg) H1 := by
  obtain ⟨P, A, L, s, hs, h⟩ := h
  refine (tE_dinR (Q := fun v H' => ∃ b, v = .bl b ∧ Q b H') ⟨P, A, L, s, hs, (Run.bind h).imp fun r s' _ p A' L' v H' at' => ?_⟩).mono fun y H1 ⟨v, e, a, o, q1, q2, b, q3, q4⟩ => ⟨v, e, a, o, q1, q2, by cases q3; exact q4⟩
  unfold toB at p
  split at p
  · rename_i b0 _
    have e : v = .bl b0 := by have := at'.ok; unfold RVOk Rep at this; exact this
    exact ⟨b0, e, p A' L' H' (at'.sr.lessP fun _ z => .inl z) at'.st⟩
  · exact p.elim
theorem td_dinR {x : Str} {p : Pos} (hu : X.A.units + 1 < cLine) (he : ED X G Wx e fe) (ho : PE X (.Name x p) (tVar i)) : TD X G Wx (.Compare e [.In] [.Name x p] pos) (tOfB (eDinR false i fe)) :=
  ⟨PT.imp (pt_cmp (pc_din hu he.pe ho) rfl) fun σ H Q h => (tT_dinR h).mono fun y H1 ⟨v, e, a, o, q1, q2, q3⟩ => ⟨v, e, a, o, q1, q2, ⟨_, rfl, by cases o <;> exact q3⟩⟩⟩
theorem td_dniR {x : Str} {p : Pos} (hu : X.A.units + 1 < cLine) (he : ED X G Wx e fe) (ho : PE X (.Name x p) (tVar i)) : TD X G Wx (.Compare e [.NotIn] [.Name x p] pos) (tOfB (eDinR true i fe)) :=
  ⟨PT.imp (pt_cmp (pc_dnotin hu he.pe ho) rfl) fun σ H Q h => (tT_dinR h).mono fun y H1 ⟨v, e, a, o, q1, q2, q3⟩ => ⟨v, e, a, o, q1, q2, ⟨_, rfl, by cases o <;> exact q3⟩⟩⟩
end
end DL
namespace DL
open PySem PySem.Spec PyProof.Rows L2
/-! ### comprehensions of dicts -/
def loopK (vs : List Nat) (g : GV) (t : TV) (fk fv : EV) : List D → List (Key × D) → S → Rs (List (Key × D))
  | [], acc, s => .ok acc s
  | d :: ds, acc, s => (g (.pv d) s).bind fun _ s1 => (t s1).bind fun b s2 => if b = true then (fk s2).bind fun rk s3 => match (rd rk s3).bind keyD with
      | some k => (fv s3).bind fun rv s4 => (fzR rv s4).bind fun y s5 => if acc.length < sizeLine then loopK vs g t fk fv ds (putD acc k y) { s5 with η := wipeN s5.η vs } else .bad
      | none => .bad
    else loopK vs g t fk fv ds acc { s2 with η := wipeN s2.η vs }
def eDC (vs : List Nat) (it : IV) (g : GV) (t : TV) (fk fv : EV) : EV := fun s => (it s).bind fun ds s1 => if noOwn s1.η vs = true then (noErr (loopK vs g t fk fv ds [] { s1 with η := wipeN s1.η vs })).bind fun acc s2 => .ok (.pv (.dK acc)) { s2 with η := restN s1.η s2.η vs } else .bad
/-- name = {..}, the name owns it -/
def sDC (i : Nat) (vs : List Nat) (it : IV) (g : GV) (t : TV) (fk fv : EV) : SV := fun s => (it s).bind fun ds s1 => if noOwn s1.η vs = true then (noErr (loopK vs g t fk fv ds [] { s1 with η := wipeN s1.η vs })).bind fun acc s2 =>
  if i < (restN s1.η s2.η vs).length then .ok .nx { s2 with η := (restN s1.η s2.η vs).set i (.od acc) } else .bad else .bad
section
variable {K : PySem.W.Frag} {mg : Str → Option Value} {G : Gm} {P : Addr → Prop} {A A' : List (Option Addr)} {L L' : List Addr} {H H' : Hp} {s : S} {σ : L2.St}
theorem SR.updPK {p : Addr} {xs ys : List (Key × V)} (hs : SR K mg G P A L s σ H) (hp : P p) (hH : H p = some (.dK xs)) (h0 : G.H0 p = none) : SR K mg G P A L s σ (upd H p (.dK ys)) := by
  have pk := hs.pOk p hp
  have mv : ∀ a o, H a = some o → ¬ Bd P A L a → Plain o → upd H p (.dK ys) a = some o ∧ ¬ Bd P A L a := fun a o h n _ => ⟨by rw [upd_ne (fun z => n (by rw [z]; exact .inr (.inr hp)))]; exact h, n⟩
  have th : ∀ a o, H a = some o → ∃ o', upd H p (.dK ys) a = some o' := fun a o h => by
    by_cases e : a = p
    · subst e; exact ⟨_, upd_same⟩
    · exact ⟨o, by rw [upd_ne e]; exact h⟩
  have neA : ∀ a, some a ∈ A → a ≠ p := fun a z e => pk.2.1 (e ▸ z)
  have tb : ∀ a, GxR.TabG H a → GxR.TabG (upd H p (.dK ys)) a := fun a ⟨ps, h, t⟩ => ⟨ps, by rw [upd_ne (fun z => by subst z; rw [hH] at h; cases h)]; exact h, t⟩
  exact { hs with
    slot := fun i x e => let ⟨ov, oa, e1, e2, q⟩ := hs.slot i x e; ⟨ov, oa, e1, e2, q.move mv (fun a vs z _ h => by rw [upd_ne (neA a (by rw [← z]; exact List.mem_of_getElem? e2))]; exact h) fun _ _ h => h⟩
    loc := fun n ds e => let ⟨a, vs, e1, e2, r⟩ := hs.loc n ds e; ⟨a, vs, e1, by rw [upd_ne (fun z => pk.2.2 (by rw [← z]; exact List.mem_of_getElem? e1))]; exact e2, r.move mv⟩
    own := fun a z => let ⟨o, e, m⟩ := hs.own a z; ⟨o, by rw [upd_ne (neA a z)]; exact e, m⟩
    tab := fun a z => tb a (hs.tab a z)
    ent := ⟨fun a o h hA hL q => by rw [upd_ne (fun z => by subst z; rw [h0] at h; cases h)]; exact hs.ent.frm a o h hA hL q, hs.ent.new, hs.ent.pre, fun a o h => let ⟨o', h'⟩ := hs.ent.there a o h; th a o' h', fun a h => tb a (hs.ent.tab a h)⟩
    pOk := fun a z => let w := hs.pOk a z; ⟨let ⟨o, e⟩ := w.1; th a o e, w.2⟩ }
theorem Step.updNewK {p : Addr} {xs ys : List (Key × V)} (st : Step A L H A' L' H') (hp : H p = none) (hp' : H' p = some (.dK xs)) : Step A L H A' L' (upd H' p (.dK ys)) := by
  refine ⟨fun a o h hA hL q => ?_, st.new, st.pre, fun a o h => ?_, fun a h => ?_⟩
  · rw [upd_ne (fun z => by subst z; rw [hp] at h; cases h)]; exact st.frm a o h hA hL q
  · obtain ⟨o', h'⟩ := st.there a o h
    exact ⟨o', by rw [upd_ne (fun z => by subst z; rw [hp] at h; cases h)]; exact h'⟩
  · obtain ⟨ps, h', t⟩ := st.tab a h
    exact ⟨ps, by rw [upd_ne (fun z => by subst z; rw [hp'] at h'; cases h')]; exact h', t⟩
end
section
variable {K : PySem.W.Frag} {mg : Str → Option Value} {X : Cx} {G : Gm} {Wx : WX} {fk fv : EV} {pos : Pos}
variable {P : Addr → Prop} {A1 : List (Option Addr)} {L1 : List Addr} {H1 : Hp}
theorem dc_turns {g : GV} {t : TV} {tt : TT} {tk tv : TE} {σ : L2.St} {vs : List Nat} {J : It} {ds : List D} {s1 sf : S} {acc : List (Key × D)} {p : Addr} {Qp : Hp → Prop}
    (ht : ∀ {σ H Q}, tT K mg G W0 t σ H Q → tt σ H Q) (htk : ∀ {σ H Q}, tE K mg G W0 fk σ H Q → tk σ H Q) (htv : ∀ {σ H Q}, tE K mg G W0 fv σ H Q → tv σ H Q)
    (sr1 : SR K mg G P A1 L1 s1 σ H1) (ok1 : ItOk K mg P A1 L1 H1 J ds) (nO : noOwn s1.η vs = true) (e : loopK vs g t fk fv ds [] { s1 with η := wipeN s1.η vs } = .ok acc sf) (hp : H1 p = none)
    (fin : ∀ (A2 : List (Option Addr)) (L2 : List Addr) (H2 : Hp) (ws : List (Key × V)), SR K mg G (fun a => P a ∨ a = p) A2 L2 { sf with η := restN s1.η sf.η vs } σ H2 → Step A1 L1 H1 A2 L2 H2 → some p ∉ A2 → p ∉ L2 → H2 p = some (.dK ws) →
      RepK K mg (fun b => b = p ∨ Bd P A2 L2 b) H2 acc ws → G.H0 p = none → Qp H2) :
    ∃ W : Nat → Nat → Hp → Prop, (∃ m, W 0 m (upd H1 p (.dK []))) ∧ ∀ i m H, W i m H →
      (J.stop i H ∧ Qp H) ∨ (J.go i H ∧ ∃ Nx : Hp → Prop, (∀ H', Nx H' → ∃ m', m' < m ∧ W (i + 1) m' H') ∧ ∀ x H', J.yld i H x H' → tGv K mg G vs g x (wipe σ vs) H' fun σ2 H2 => wipe σ2 vs = wipe σ vs ∧ tt σ2 H2 fun b H3 =>
        if b = true then tk σ2 H3 fun y H4 => tv σ2 H4 fun z H5 => ∃ kvs k, y = kV k ∧ H5 p = some (.dK kvs) ∧ kvs.length < sizeLine ∧ Nx (upd H5 p (.dK (putK kvs k z))) else Nx H3) := by
  let P1 : Addr → Prop := fun a => P a ∨ a = p
  have srw := sr1.wiped nO
  have sr0 : SR K mg G P1 A1 L1 { s1 with η := wipeN s1.η vs } (wipe σ vs) (upd H1 p (.dK [])) := srw.keep (keep_upd hp) fun a z => z.imp id fun z => by subst z; exact ⟨⟨_, upd_same⟩, hp⟩
  have stp : Step A1 L1 H1 A1 L1 (upd H1 p (.dK [])) := Step.keep (keep_upd hp)
  have np0 : G.H0 p = none := by
    cases q : G.H0 p with
    | none => rfl
    | some o =>
      obtain ⟨o', q'⟩ := sr1.ent.there p o q
      rw [hp] at q'; cases q'
  refine ⟨fun i m H' => i + m = ds.length ∧ ∃ A' L' s' cc ccV, SR K mg G P1 A' L' s' (wipe σ vs) H' ∧ Step A1 L1 H1 A' L' H' ∧ some p ∉ A' ∧ p ∉ L' ∧ H' p = some (.dK ccV) ∧ RepK K mg (fun b => b = p ∨ Bd P A' L' b) H' cc ccV ∧ s'.η.length = s1.η.length ∧ wipeN s'.η vs = s'.η ∧
      loopK vs g t fk fv (ds.drop i) cc s' = .ok acc sf,
    ⟨ds.length, by omega, A1, L1, _, [], [], sr0, stp, ?_, ?_, upd_same, by unfold RepK; rfl, by rw [wipeN_len], ?_, e⟩, ?_⟩
  · intro z; obtain ⟨o, eo⟩ := sr1.there p (.inl z); rw [hp] at eo; cases eo
  · intro z; obtain ⟨o, eo⟩ := sr1.there p (.inr (.inl z)); rw [hp] at eo; cases eo
  · exact wipeN_idem _ _
  rintro i m H2 ⟨em, A2, L2, s2, cc, ccV, sr2, st2, na, nl, hpv, rc, hlen, hw, e2⟩
  obtain ⟨go, stop, yld⟩ := ok1 P1 A2 L2 H2 (fun a z => z.imp id fun z => by rw [z]; exact hp) st2 sr2.there
  by_cases hi : i < ds.length
  · refine .inr ⟨go i hi, fun H' => ∃ A' L' s' cc ccV, SR K mg G P1 A' L' s' (wipe σ vs) H' ∧ Step A1 L1 H1 A' L' H' ∧ some p ∉ A' ∧ p ∉ L' ∧ H' p = some (.dK ccV) ∧ RepK K mg (fun b => b = p ∨ Bd P A' L' b) H' cc ccV ∧ s'.η.length = s1.η.length ∧ wipeN s'.η vs = s'.η ∧
        loopK vs g t fk fv (ds.drop (i + 1)) cc s' = .ok acc sf, fun H' n => ⟨m - 1, by omega, by omega, n⟩, fun x H3 y => ?_⟩
    have ro := yld i _ x H3 (List.getElem?_eq_getElem hi) y
    rw [Reps.nth hi] at e2
    unfold loopK at e2
    obtain ⟨_, s3, eg, e2⟩ := bind_ok e2
    obtain ⟨b, s4, et, e2⟩ := bind_ok e2
    have a2 : At K mg G P1 A2 L2 H2 (wipe σ vs) A2 L2 s2 H3 (.pv ds[i]) x := At.mk' sr2 (Step.refl _ _ _) sr2.p0 ro
    refine ⟨P1, A2, L2, H2, A2, L2, s2, _, s3, a2, eg, fun A3 L3 σ3 H4 sr3 st3 w3 => ?_⟩
    have w3 : wipe σ3 vs = wipe σ vs := w3.trans (wipe_ext (wipe_length _ _) fun j hj => wipe_out hj)
    have l3 : s3.η.length = s1.η.length := by rw [← sr3.lenσ, ← wipe_length σ3 vs, w3, sr2.lenσ]; exact hlen
    refine ⟨w3, ht ⟨P1, A3, L3, s3, sr3, Run.ok0 ⟨b, s4, et, fun A4 L4 H5 sr4 st4 => ?_⟩⟩⟩
    have l4 : s4.η.length = s1.η.length := by rw [← sr4.lenσ, sr3.lenσ]; exact l3
    cases b with
    | true =>
      rw [if_pos rfl] at e2
      obtain ⟨rk, s5, ek, e2⟩ := bind_ok e2
      refine iteT (htk ⟨P1, A4, L4, s4, sr4, Run.ok0 ⟨rk, s5, ek, fun A5 L5 yk H6 a5 => ?_⟩⟩)
      split at e2
      · rename_i k ekk
        obtain ⟨dk, g1, g2⟩ := Option.bind_eq_some_iff.mp ekk
        have ey := keyP_ok (rd_ok a5.weak a5.ok g1) g2
        subst ey
        obtain ⟨rv, s6, ev, e2⟩ := bind_ok e2
        obtain ⟨y', s7, ez, e2⟩ := bind_ok e2
        refine htv ⟨P1, A5, L5, s5, a5.weak, Run.ok0 ⟨rv, s6, ev, fun A6 L6 v H7 a6 => ?_⟩⟩
        have ez : fz rv s6 = some (y', s7) := by
          unfold fzR at ez
          split at ez
          · rename_i q; cases ez; exact q
          · cases ez
        split at e2
        · rename_i hz
          obtain ⟨A7, sr7, rp, st7⟩ := a6.frz ez
          have S' := st3.trans (st4.trans (a5.st.trans st7))
          have out := S'.out hpv na nl
          have h7 := S'.frm p _ hpv na nl (fun _ => nofun)
          obtain ⟨A8, sr8, st8, m8⟩ := sr7.wipeA vs
          rw [w3] at sr8
          have na8 : some p ∉ A8 := fun z => out.1 (m8 p z)
          refine ⟨ccV, k, rfl, h7, by rw [← rc.length]; exact hz, A8, L6, _, putD cc k y', putK ccV k v, sr8.updPK (.inr rfl) h7 np0, ((st2.trans S').trans st8).updNewK hp h7, na8, out.2, upd_same, ?_, ?_, wipeN_idem _ _, e2⟩
          · refine RepK.put k (rp.move fun a o h n pl => ?_) (rc.move fun a o h n pl => ?_)
            · have ne : a ≠ p := fun w => n (.inr (.inr (.inr w)))
              refine ⟨by rw [upd_ne ne]; exact h, fun w => w.elim ne fun w => ?_⟩
              rcases w with w | w | w
              · exact n (.inl (m8 a w))
              · exact n (.inr (.inl w))
              · exact n (.inr (.inr (.inl w)))
            · have z := (S'.trans st8).mv (P := P) a o h (fun w => n (.inr w)) pl
              have ne : a ≠ p := fun w => n (.inl w)
              exact ⟨by rw [upd_ne ne]; exact z.1, fun w => w.elim ne z.2⟩
          · show (wipeN s7.η vs).length = _
            rw [wipeN_len, ← sr7.lenσ, sr4.lenσ]; exact l4
        · cases e2
      · cases e2
    | false =>
      rw [if_neg (by decide)] at e2
      have S' := st3.trans st4
      have out := S'.out hpv na nl
      have h5 := S'.frm p _ hpv na nl (fun _ => nofun)
      obtain ⟨A7, sr7, st7, m7⟩ := sr4.wipeA vs
      rw [w3] at sr7
      refine iteF ⟨A7, L4, _, cc, ccV, sr7, (st2.trans S').trans st7, fun z => out.1 (m7 p z), out.2, h5, rc.move fun a o h n pl => ?_, ?_, wipeN_idem _ _, e2⟩
      · have z := (S'.trans st7).mv (P := P) a o h (fun w => n (.inr w)) pl
        exact ⟨z.1, fun w => w.elim (fun w => n (.inl w)) z.2⟩
      · show (wipeN s4.η vs).length = _
        rw [wipeN_len]; exact l4
  · have e3 : i = ds.length := by omega
    subst e3
    rw [List.drop_length] at e2
    unfold loopK at e2
    cases e2
    have srw' : SR K mg G P1 A2 L2 { sf with η := wipeN sf.η vs } (wipe σ vs) H2 := by
      rw [hw]; exact sr2
    exact .inl ⟨stop, fin A2 L2 H2 ccV (SR.rest sr1 nO st2 (fun a z => z.imp id fun z => by rw [z]; exact hp) srw' hlen) st2 na nl hpv rc np0⟩
theorem ed_dcQ {it : IV} {g : GV} {t : TV} {tt : TT} {tk tv : TE} {σ : L2.St} {Q : VK} {vs : List Nat} {H : Hp}
    (ht : ∀ {σ H Q}, tT K mg G W0 t σ H Q → tt σ H Q) (htk : ∀ {σ H Q}, tE K mg G W0 fk σ H Q → tk σ H Q) (htv : ∀ {σ H Q}, tE K mg G W0 fv σ H Q → tv σ H Q)
    (h : tE K mg G Wx (eDC vs it g t fk fv) σ H Q) : tDc (tI K mg G Wx it) (tGv K mg G vs g) tt tk tv vs σ H Q := by
  obtain ⟨P, A, L, s, hs, h⟩ := h
  refine ⟨P, A, L, s, hs, (Run.bind h).imp fun ds s1 _ h1 A1 L1 H1 J sr1 ok1 st1 => ?_⟩
  by_cases nO : noOwn s1.η vs = true
  · rw [if_pos nO] at h1
    cases e : loopK vs g t fk fv ds [] { s1 with η := wipeN s1.η vs } with
    | bad => rw [e] at h1; exact h1.elim
    | err _ _ => rw [e] at h1; exact h1.elim
    | ok acc sf =>
      rw [e] at h1
      have h1 : PostE K mg G P A L H σ Q (.pv (.dK acc)) { sf with η := restN s1.η sf.η vs } := h1
      intro p hp
      refine dc_turns ht htk htv sr1 ok1 nO e hp fun A2 L2 H2 ws sr2 st2 na nl hpv rc np0 => ?_
      refine h1 A2 L2 (.ref p) H2 ⟨(sr2.lessP fun a z => .inl z).lessP (Wi.pv nofun), ?_, OwNew.of nofun, st1.trans st2, hs.p0⟩
      show Rep K mg (Bd P A2 L2) H2 (.dK acc) (.ref p)
      have nB : ¬ Bd P A2 L2 p := fun z => by
        rcases z with z | z | z
        · exact na z
        · exact nl z
        · obtain ⟨o, eo⟩ := (sr1.pOk p z).1; rw [hp] at eo; cases eo
      unfold Rep
      exact ⟨p, ws, rfl, hpv, nB, rc.move fun a o h n _ => ⟨h, fun w => n (.inr w)⟩⟩
  · rw [if_neg nO] at h1; exact h1.elim
variable {kx vx tg iter : Expr} {ifs : List Expr} {scope : Scope} {it : IV} {g : GV} {t : TV} {tt : TT}
theorem ed_dc (own : List (Str × Nat)) (hc : X.calm = true) (hN : X.N.Nodup) (hi : ID X G Wx tg iter it) (ok : BlkOk X.N X.env.scope scope own)
    (hg : ∀ (s : Shared) (H : Hp) (C : Addr) (cl : List (Str × Addr)) (fp : List Addr), GDv (Blk X scope s H C cl fp) G (own.map (·.2)) tg g)
    (ht : ∀ (s : Shared) (H : Hp) (C : Addr) (cl : List (Str × Addr)) (fp : List Addr), CD (Blk X scope s H C cl fp) G ifs t tt)
    (hk : ∀ (s : Shared) (H : Hp) (C : Addr) (cl : List (Str × Addr)) (fp : List Addr), ED (Blk X scope s H C cl fp) G W0 kx fk)
    (he : ∀ (s : Shared) (H : Hp) (C : Addr) (cl : List (Str × Addr)) (fp : List Addr), ED (Blk X scope s H C cl fp) G W0 vx fv) (hs : ∀ x, foldedSetIterable iter X.env x = pure x := by intro _; rfl) :
    ED X G Wx (.DictComp kx vx [⟨tg, iter, ifs, 0⟩] scope pos) (eDC (own.map (·.2)) it g t fk fv) := by
  refine ⟨⟨fun pins sh σ H Q I h => ?_⟩⟩
  exact (pe_dc (tk := tE X.K X.mg G W0 fk) (tv := tE X.K X.mg G W0 fv) (g := tGv X.K X.mg G (own.map (·.2)) g) hc hN hi.pi ok (fun s H C cl fp => (hg s H C cl fp).pg) (fun s H C cl fp => (ht s H C cl fp).pts) (fun s H C cl fp => (hk s H C cl fp).pe) (fun s H C cl fp => (he s H C cl fp).pe) hs).run pins sh σ H Q I
    (ed_dcQ (ht sh H 0 [] []).of (fun h => h) (fun h => h) h)
theorem ed_dc0 (own : List (Str × Nat)) (hc : X.calm = true) (hN : X.N.Nodup) (hi : ID X G Wx tg iter it) (ok : BlkOk X.N X.env.scope scope own)
    (hg : ∀ (s : Shared) (H : Hp) (C : Addr) (cl : List (Str × Addr)) (fp : List Addr), GDv (Blk X scope s H C cl fp) G (own.map (·.2)) tg g)
    (hk : ∀ (s : Shared) (H : Hp) (C : Addr) (cl : List (Str × Addr)) (fp : List Addr), ED (Blk X scope s H C cl fp) G W0 kx fk)
    (he : ∀ (s : Shared) (H : Hp) (C : Addr) (cl : List (Str × Addr)) (fp : List Addr), ED (Blk X scope s H C cl fp) G W0 vx fv) (hs : ∀ x, foldedSetIterable iter X.env x = pure x := by intro _; rfl) :
    ED X G Wx (.DictComp kx vx [⟨tg, iter, [], 0⟩] scope pos) (eDC (own.map (·.2)) it g tTrue fk fv) := ed_dc own hc hN hi ok hg (fun _ _ _ _ _ => cd_nil) hk he hs
theorem ed_dc1 {q : Expr} (own : List (Str × Nat)) (hc : X.calm = true) (hN : X.N.Nodup) (hi : ID X G Wx tg iter it) (ok : BlkOk X.N X.env.scope scope own)
    (hg : ∀ (s : Shared) (H : Hp) (C : Addr) (cl : List (Str × Addr)) (fp : List Addr), GDv (Blk X scope s H C cl fp) G (own.map (·.2)) tg g)
    (ht : ∀ (s : Shared) (H : Hp) (C : Addr) (cl : List (Str × Addr)) (fp : List Addr), TD (Blk X scope s H C cl fp) G W0 q t)
    (hk : ∀ (s : Shared) (H : Hp) (C : Addr) (cl : List (Str × Addr)) (fp : List Addr), ED (Blk X scope s H C cl fp) G W0 kx fk)
    (he : ∀ (s : Shared) (H : Hp) (C : Addr) (cl : List (Str × Addr)) (fp : List Addr), ED (Blk X scope s H C cl fp) G W0 vx fv) (hs : ∀ x, foldedSetIterable iter X.env x = pure x := by intro _; rfl) :
    ED X G Wx (.DictComp kx vx [⟨tg, iter, [q], 0⟩] scope pos) (eDC (own.map (·.2)) it g t fk fv) := ed_dc (tt := tT X.K X.mg G W0 t) own hc hN hi ok hg (fun s H C cl fp => cd_one (ht s H C cl fp)) hk he hs
/-! the name that owns it -/
theorem sd_dc {i : Nat} {y : Str} {py spos : Pos} (own : List (Str × Nat)) (hc : X.calm = true) (hN : X.N.Nodup) (hiy : X.N[i]? = some y) (hy : Loc X.env.scope y) (hi : ID X G Wx tg iter it) (ok : BlkOk X.N X.env.scope scope own)
    (hg : ∀ (s : Shared) (H : Hp) (C : Addr) (cl : List (Str × Addr)) (fp : List Addr), GDv (Blk X scope s H C cl fp) G (own.map (·.2)) tg g)
    (ht : ∀ (s : Shared) (H : Hp) (C : Addr) (cl : List (Str × Addr)) (fp : List Addr), CD (Blk X scope s H C cl fp) G ifs t tt)
    (hk : ∀ (s : Shared) (H : Hp) (C : Addr) (cl : List (Str × Addr)) (fp : List Addr), ED (Blk X scope s H C cl fp) G W0 kx fk)
    (he : ∀ (s : Shared) (H : Hp) (C : Addr) (cl : List (Str × Addr)) (fp : List Addr), ED (Blk X scope s H C cl fp) G W0 vx fv)
    (hf : X.fn y = true ∨ X.env.scope.names.lookup y = some .local := by first | exact .inl rfl | exact .inr rfl | assumption)
    (hs : ∀ x, foldedSetIterable iter X.env x = pure x := by intro _; rfl)
    (hsw : swapsWithSole [.Name y py] (.DictComp kx vx [⟨tg, iter, ifs, 0⟩] scope pos) spos.line X.env = pure false := by rfl) (hw : swappedStores [.Name y py] (.DictComp kx vx [⟨tg, iter, ifs, 0⟩] scope pos) X.env = pure none := by rfl)
    (h1 : (assignEach [.Name y py] X.env).map (·.2) = [assign (.Name y py) X.env] := by rfl) :
    SD X G Wx (.Assign [.Name y py] (.DictComp kx vx [⟨tg, iter, ifs, 0⟩] scope pos) spos) (sDC i (own.map (·.2)) it g t fk fv) := by
  refine ⟨⟨fun pins sh σ H Dn I h => ?_⟩⟩
  refine (ps_asg (pe_dc (tk := tE X.K X.mg G W0 fk) (tv := tE X.K X.mg G W0 fv) (g := tGv X.K X.mg G (own.map (·.2)) g) hc hN hi.pi ok (fun s H C cl fp => (hg s H C cl fp).pg) (fun s H C cl fp => (ht s H C cl fp).pts) (fun s H C cl fp => (hk s H C cl fp).pe) (fun s H C cl fp => (he s H C cl fp).pe) hs) (pg_name hN hiy hy hf) hsw hw h1).run pins sh σ H Dn I ?_
  obtain ⟨P, A, L, s, hs, h⟩ := h
  refine ⟨P, A, L, s, hs, (RunS.bind h).run.imp fun ds s1 _ h1 A1 L1 H1 J sr1 ok1 st1 => ?_⟩
  by_cases nO : noOwn s1.η (own.map (·.2)) = true
  · rw [if_pos nO] at h1
    cases e : loopK (own.map (·.2)) g t fk fv ds [] { s1 with η := wipeN s1.η (own.map (·.2)) } with
    | bad => rw [e] at h1; exact h1.elim
    | err _ _ => rw [e] at h1; exact h1.elim
    | ok acc sf =>
      rw [e] at h1
      have h1 := RunS.bind h1
      by_cases hil : i < (restN s1.η sf.η (own.map (·.2))).length
      · have h1 : PostS X.K X.mg G P A L H Dn .nx { sf with η := (restN s1.η sf.η (own.map (·.2))).set i (.od acc) } := by
          have q : RunS X.K X.mg G Wx P A L H (if i < (restN s1.η sf.η (own.map (·.2))).length then Rs.ok Fl.nx { sf with η := (restN s1.η sf.η (own.map (·.2))).set i (.od acc) } else .bad) (PostS X.K X.mg G P A L H Dn) := h1
          rw [if_pos hil] at q; exact q
        intro p hp
        refine dc_turns (ht sh H 0 [] []).of (fun h => h) (fun h => h) sr1 ok1 nO e hp fun A2 L2 H2 ws sr2 st2 na nl hpv rc np0 => ?_
        have nP : ¬ P p := fun z => by obtain ⟨o, eo⟩ := (sr1.pOk p z).1; rw [hp] at eo; cases eo
        have hiσ : i < σ.length := by rw [sr2.lenσ]; exact hil
        have srf := sr2.set (P := P) (i := i) (σ' := σ.set i (some (.ref p))) (ov := some (.ref p)) (oa := some p) (x := .od acc) hil (fun _ z => .inl z)
          (fun a z => by cases z; exact ⟨.inr rfl, nP, ⟨_, hpv, .inr ⟨_, rfl⟩⟩, np0⟩) ⟨by simp, List.getElem?_set_self hiσ, fun j hj => List.getElem?_set_ne (Ne.symm hj)⟩ ⟨p, ws, rfl, rfl, hpv, rc.move fun a o h n _ => ⟨h, fun w => by
            rcases w with w | w | w
            · rcases mem_set w with w | w
              · exact n (.inr (.inl w))
              · cases w; exact n (.inl rfl)
            · exact n (.inr (.inr (.inl w)))
            · exact n (.inr (.inr (.inr w)))⟩⟩
        refine h1 _ _ _ _ srf ?_
        have S0 := st1.trans st2
        refine ⟨S0.frm, fun a z => ?_, S0.pre, S0.there, S0.tab⟩
        rcases z with z | z
        · rcases mem_set z with z | z
          · exact S0.new a (.inl z)
          · cases z
            refine .inr (.inr ?_)
            cases q : H p with
            | none => rfl
            | some o => obtain ⟨o', q'⟩ := st1.there p o q; rw [hp] at q'; cases q'
        · exact S0.new a (.inr z)
      · have q : RunS X.K X.mg G Wx P A L H (if i < (restN s1.η sf.η (own.map (·.2))).length then Rs.ok Fl.nx { sf with η := (restN s1.η sf.η (own.map (·.2))).set i (.od acc) } else .bad) (PostS X.K X.mg G P A L H Dn) := h1
        rw [if_neg hil] at q; exact q.elim
  · rw [if_neg nO] at h1; exact h1.elim
end
end DL
namespace DL
open PySem PySem.Spec PyProof.Rows L2
/-! ### sorted of a dict that is a value, keys ints, fewer than 64 -/
def rSortK (vs : List V) (H : Hp) (Q : VK) : Prop := ∃ (a : Addr) (kvs : List (Key × V)) (ks : List Int), vs = [.ref a] ∧ Rd H a (.dK kvs) ∧ kvs.map (·.1) = ks.map Sum.inl ∧ ks.length < 64 ∧
    ∀ (ys : List Int) (p : Addr), ys.Perm ks → ys.Pairwise (· ≤ ·) → H p = none → Q (.ref p) (upd H p (.lst (ys.map V.int)))
def rSortY (K : PySem.W.Frag) : List V → Hp → VK → Prop := fun vs H Q => rSortA K vs H Q ∨ rSortK vs H Q
def sortY (d : D) : Option RV := match d with
  | .dK kvs => (keysI kvs).bind fun ks => if ks.length < 64 then some (.ow ((srtI ks).map D.int)) else none
  | d => sortD d
section
variable {K : PySem.W.Frag} {mg : Str → Option Value} {X : Cx}
theorem cr_sortY (hc : X.calm = true) : CallR X (.builtin "sorted") (rSortY X.K) := by
  intro pins s σ H vs us Q I r h
  rcases h with h | h
  · exact cr_sortA pins s σ H vs us Q I r h
  · exact call_sortedDI hc pins s σ H vs us Q I r h
theorem opv_sortY : OpV1 K mg (fun v => rSortY K [v]) sortY := by
  intro B H x a res Q hB ha e q
  cases a with
  | dK kvs =>
    obtain ⟨ks, e1, e2⟩ := Option.bind_eq_some_iff.mp (show (keysI kvs).bind _ = some res from e)
    split at e2
    · rename_i h64
      cases e2
      obtain ⟨p, ws, rfl, f2, _, f3⟩ := ha.dK
      refine .inr ⟨p, ws, ks, rfl, .inl f2, by rw [f3.keys, keysI_some e1], h64, fun ys l hp hpw hl => ?_⟩
      rw [pw_perm_eq hpw (srtI_pw ks) (hp.trans (srtI_perm ks).symm)]
      exact q _ _ (.lst hl (reps_ints _))
    · cases e2
  | _ => exact .inl (opv_sortA B H x _ res Q hB ha e q)
end
end DL
namespace DL
open PySem PySem.Spec PyProof.Rows L2
/-! ### name = {k: v for ..}, where the name is no cell: the store is a part of the comprehension -/
section
variable {X : Cx} {i : Nat} {y : Str} {py : Pos} {kx vx tg iter : Expr} {ifs : List Expr} {scope : Scope} {own : List (Str × Nat)} {pos spos : Pos} {wi : TI} {g : TG} {tt : TT} {tk tv : TE}
theorem swd_true {kx vx : Expr} {gs : List Comprehension} {scope : Scope} {pos py : Pos} {y : Str} {l : Nat} {env : Env} (e1 : env.scope.kind = .function) (e2 : env.scope.names.lookup y = some .local)
    (e3 : (py.line == pos.line) = true) (e4 : (scope.names.any fun (n, k) => n == y && (k == .local || k == .cell)) = false) : swapsWith (.DictComp kx vx gs scope pos) (some (.Name y py)) l env = pure true := by
  have q1 : env.kindOf y = some .local := e2
  have q2 : env.blockKind = .function := by unfold Env.blockKind; rw [e1]; rfl
  unfold swapsWith; simp only [q2, q1, e4, Expr.pos, e3]; rfl
theorem ps_setDc (q1 : X.calm = true) (q2 : X.N.Nodup) (q3 : X.N[i]? = some y) (q4 : X.env.scope.names.lookup y = some .local) (sw : swapsWith (.DictComp kx vx [⟨tg, iter, ifs, 0⟩] scope pos) (some (.Name y py)) spos.line X.env = pure true)
    (pi : PI X tg iter wi) (bo : BlkOk X.N X.env.scope scope own) (pg : ∀ (s : Shared) (H : Hp) (C : Addr) (cl : List (Str × Addr)) (fp : List Addr), PG (X.blk s H scope (compEnvC scope cl C X.env) fp) tg g)
    (pt : ∀ (s : Shared) (H : Hp) (C : Addr) (cl : List (Str × Addr)) (fp : List Addr), PTs (X.blk s H scope (compEnvC scope cl C X.env) fp) ifs tt)
    (pk : ∀ (s : Shared) (H : Hp) (C : Addr) (cl : List (Str × Addr)) (fp : List Addr), PE (X.blk s H scope (compEnvC scope cl C X.env) fp) kx tk)
    (pv : ∀ (s : Shared) (H : Hp) (C : Addr) (cl : List (Str × Addr)) (fp : List Addr), PE (X.blk s H scope (compEnvC scope cl C X.env) fp) vx tv) (fo : ∀ x, foldedSetIterable iter X.env x = pure x := by intro _; rfl) :
    PS X (.Assign [.Name y py] (.DictComp kx vx [⟨tg, iter, ifs, 0⟩] scope pos) spos) (tAsg (tDc wi g tt tk tv (own.map (·.2))) (gName i)) := by
  refine ⟨fun pins sh σ H Dn I hw => ?_⟩
  rw [exec_Assign_Name_used _ _ _ _ sw]; refine wpAny_bind (wpAny_standAt (wpAny_bind ?_))
  show wpAny _ X.A (do let _ ← comprehension (.DictComp kx vx [⟨tg, iter, ifs, 0⟩] scope pos) scope X.env (firstIterPos [⟨tg, iter, ifs, 0⟩] pos) newDict false (eval iter X.env) (some (assign (.Name y py) X.env))) _ _ sh
  have hw : tDc wi g tt tk tv (own.map (·.2)) σ H (fun x H1 => gName i x σ H1 Dn.nx) := hw
  refine wpAny_bind (thn (dc_core (Qf := fun _ s' => SP X pins Dn .next s') q1 q2 I pi bo pg pt pk pv fo hw fun M C s' mm H' J q nn ff => ?_) fun _ s' hq => wpAny_pure (wpAny_pure hq))
  show wpAny _ _ (assign (.Name y py) X.env (.ref M)) _ _ _
  refine wpAny_assign_Name (store_ok2 (v := V.ref M) J q2 q3 (.inl q4) rfl (fun s2 I2 ⟨a, sb, ha⟩ => ?_) (.inr q4))
  obtain ⟨f0, f1, f2, f3, f4, f5⟩ := ff
  have ne : C ≠ a := by rcases ha with z | z; (· rw [z]; exact f1); (· exact fun e => f4 y a z e.symm)
  exact ⟨mm, nn.sameBut sb ne, fun h3 sb3 => ⟨_, H', I2.turned (t' := s2.toks) (fun b o hb e => (sb3.2 b hb).trans e) f0 f1 f3 f4 f5, q⟩⟩
end
section
variable {X : Cx} {G : Gm} {Wx : WX} {fk fv : EV} {i : Nat} {y : Str} {py : Pos} {kx vx tg iter : Expr} {ifs : List Expr} {scope : Scope} {pos spos : Pos} {it : IV} {g : GV} {t : TV} {tt : TT}
/-- the value alone -/
theorem sd_setDC (own : List (Str × Nat)) (hc : X.calm = true) (hN : X.N.Nodup) (hy : X.N[i]? = some y) (hyl : X.env.scope.names.lookup y = some .local)
    (hsw : swapsWith (.DictComp kx vx [⟨tg, iter, ifs, 0⟩] scope pos) (some (.Name y py)) spos.line X.env = pure true) (hi : ID X G Wx tg iter it) (ok : BlkOk X.N X.env.scope scope own)
    (hg : ∀ (s : Shared) (H : Hp) (C : Addr) (cl : List (Str × Addr)) (fp : List Addr), GDv (Blk X scope s H C cl fp) G (own.map (·.2)) tg g)
    (ht : ∀ (s : Shared) (H : Hp) (C : Addr) (cl : List (Str × Addr)) (fp : List Addr), CD (Blk X scope s H C cl fp) G ifs t tt)
    (hk : ∀ (s : Shared) (H : Hp) (C : Addr) (cl : List (Str × Addr)) (fp : List Addr), ED (Blk X scope s H C cl fp) G W0 kx fk)
    (he : ∀ (s : Shared) (H : Hp) (C : Addr) (cl : List (Str × Addr)) (fp : List Addr), ED (Blk X scope s H C cl fp) G W0 vx fv) (hs : ∀ x, foldedSetIterable iter X.env x = pure x := by intro _; rfl) :
    SD X G Wx (.Assign [.Name y py] (.DictComp kx vx [⟨tg, iter, ifs, 0⟩] scope pos) spos) (sAsg (eDC (own.map (·.2)) it g t fk fv) (gSet i)) := by
  refine ⟨⟨fun pins sh σ H Dn I h => ?_⟩⟩
  refine (ps_setDc (tk := tE X.K X.mg G W0 fk) (tv := tE X.K X.mg G W0 fv) (g := tGv X.K X.mg G (own.map (·.2)) g) hc hN hy hyl hsw hi.pi ok (fun s H C cl fp => (hg s H C cl fp).pg) (fun s H C cl fp => (ht s H C cl fp).pts) (fun s H C cl fp => (hk s H C cl fp).pe) (fun s H C cl fp => (he s H C cl fp).pe) hs).run pins sh σ H Dn I ?_
  refine ed_dcQ (Wx := Wx) (ht sh H 0 [] []).of (fun h => h) (fun h => h) ?_
  exact tE.mono (tS_asg h) fun v H1 ⟨P, A0, L0, H0, A, L, s, r, a, h⟩ => run_gSet a h
/-- what the owner's statement asks -/
theorem dc_own {σ : L2.St} {H : Hp} {Dn : Ends} {tk tv : TE} {vs : List Nat} {K : PySem.W.Frag} {mg : Str → Option Value}
    (ht : ∀ {σ H Q}, tT K mg G W0 t σ H Q → tt σ H Q) (htk : ∀ {σ H Q}, tE K mg G W0 fk σ H Q → tk σ H Q) (htv : ∀ {σ H Q}, tE K mg G W0 fv σ H Q → tv σ H Q)
    (h : tS K mg G Wx (sDC i vs it g t fk fv) Dn σ H) : tDc (tI K mg G Wx it) (tGv K mg G vs g) tt tk tv vs σ H fun x H1 => gName i x σ H1 Dn.nx := by
  obtain ⟨P, A, L, s, hs, h⟩ := h
  refine ⟨P, A, L, s, hs, (RunS.bind h).run.imp fun ds s1 _ h1 A1 L1 H1 J sr1 ok1 st1 => ?_⟩
  by_cases nO : noOwn s1.η vs = true
  · rw [if_pos nO] at h1
    cases e : loopK vs g t fk fv ds [] { s1 with η := wipeN s1.η vs } with
    | bad => rw [e] at h1; exact h1.elim
    | err _ _ => rw [e] at h1; exact h1.elim
    | ok acc sf =>
      rw [e] at h1
      have h1 := RunS.bind h1
      have q : RunS K mg G Wx P A L H (if i < (restN s1.η sf.η vs).length then Rs.ok Fl.nx { sf with η := (restN s1.η sf.η vs).set i (.od acc) } else .bad) (PostS K mg G P A L H Dn) := h1
      by_cases hil : i < (restN s1.η sf.η vs).length
      · have h1 : PostS K mg G P A L H Dn .nx { sf with η := (restN s1.η sf.η vs).set i (.od acc) } := by rw [if_pos hil] at q; exact q
        intro p hp
        refine dc_turns ht htk htv sr1 ok1 nO e hp fun A2 L2 H2 ws sr2 st2 na nl hpv rc np0 => ?_
        have nP : ¬ P p := fun z => by obtain ⟨o, eo⟩ := (sr1.pOk p z).1; rw [hp] at eo; cases eo
        have hiσ : i < σ.length := by rw [sr2.lenσ]; exact hil
        have srf := sr2.set (P := P) (i := i) (σ' := σ.set i (some (.ref p))) (ov := some (.ref p)) (oa := some p) (x := .od acc) hil (fun _ z => .inl z)
          (fun a z => by cases z; exact ⟨.inr rfl, nP, ⟨_, hpv, .inr ⟨_, rfl⟩⟩, np0⟩) ⟨by simp, List.getElem?_set_self hiσ, fun j hj => List.getElem?_set_ne (Ne.symm hj)⟩ ⟨p, ws, rfl, rfl, hpv, rc.move fun a o h n _ => ⟨h, fun w => by
            rcases w with w | w | w
            · rcases mem_set w with w | w
              · exact n (.inr (.inl w))
              · cases w; exact n (.inl rfl)
            · exact n (.inr (.inr (.inl w)))
            · exact n (.inr (.inr (.inr w)))⟩⟩
        refine h1 _ _ _ _ srf ?_
        have S0 := st1.trans st2
        refine ⟨S0.frm, fun a z => ?_, S0.pre, S0.there, S0.tab⟩
        rcases z with z | z
        · rcases mem_set z with z | z
          · exact S0.new a (.inl z)
          · cases z
            refine .inr (.inr ?_)
            cases q : H p with
            | none => rfl
            | some o => obtain ⟨o', q'⟩ := st1.there p o q; rw [hp] at q'; cases q'
        · exact S0.new a (.inr z)
      · rw [if_neg hil] at q; exact q.elim
  · rw [if_neg nO] at h1; exact h1.elim
theorem sd_dcS (own : List (Str × Nat)) (hc : X.calm = true) (hN : X.N.Nodup) (hy : X.N[i]? = some y) (hyl : X.env.scope.names.lookup y = some .local)
    (hsw : swapsWith (.DictComp kx vx [⟨tg, iter, ifs, 0⟩] scope pos) (some (.Name y py)) spos.line X.env = pure true) (hi : ID X G Wx tg iter it) (ok : BlkOk X.N X.env.scope scope own)
    (hg : ∀ (s : Shared) (H : Hp) (C : Addr) (cl : List (Str × Addr)) (fp : List Addr), GDv (Blk X scope s H C cl fp) G (own.map (·.2)) tg g)
    (ht : ∀ (s : Shared) (H : Hp) (C : Addr) (cl : List (Str × Addr)) (fp : List Addr), CD (Blk X scope s H C cl fp) G ifs t tt)
    (hk : ∀ (s : Shared) (H : Hp) (C : Addr) (cl : List (Str × Addr)) (fp : List Addr), ED (Blk X scope s H C cl fp) G W0 kx fk)
    (he : ∀ (s : Shared) (H : Hp) (C : Addr) (cl : List (Str × Addr)) (fp : List Addr), ED (Blk X scope s H C cl fp) G W0 vx fv) (hs : ∀ x, foldedSetIterable iter X.env x = pure x := by intro _; rfl) :
    SD X G Wx (.Assign [.Name y py] (.DictComp kx vx [⟨tg, iter, ifs, 0⟩] scope pos) spos) (sDC i (own.map (·.2)) it g t fk fv) := by
  refine ⟨⟨fun pins sh σ H Dn I h => ?_⟩⟩
  refine (ps_setDc (tk := tE X.K X.mg G W0 fk) (tv := tE X.K X.mg G W0 fv) (g := tGv X.K X.mg G (own.map (·.2)) g) hc hN hy hyl hsw hi.pi ok (fun s H C cl fp => (hg s H C cl fp).pg) (fun s H C cl fp => (ht s H C cl fp).pts) (fun s H C cl fp => (hk s H C cl fp).pe) (fun s H C cl fp => (he s H C cl fp).pe) hs).run pins sh σ H Dn I ?_
  exact dc_own (ht sh H 0 [] []).of (fun h => h) (fun h => h) h
end
end DL
namespace DL
open PySem PySem.Spec PyProof.Rows L2 GenW
/-! ### all(..), any(..) over a list that a variable owns: the list stays its own -/
section
variable {K : PySem.W.Frag} {mg : Str → Option Value} {G : Gm} {Wx : WX} {P P' : Addr → Prop} {A A' A1 : List (Option Addr)} {L L' L1 : List Addr} {H H' H1 : Hp} {σ : L2.St} {s s' : S} {T : Addr}
theorem agg_core {st : Bool} {ds : List D} {g : GV} {t : TV} {fe : EV} {tt : TT} {te : TE} {Q : VK} {vs : List Nat} {J : It} {s1 : S} (hT : T ∈ G.tb) (p0 : ∀ a, P a → (∃ o, H a = some o) ∧ some a ∉ A)
    (ht : ∀ {σ H Q}, tT K mg G W0 t σ H Q → tt σ H Q) (hte : ∀ {σ H Q}, tE K mg G W0 fe σ H Q → te σ H Q)
    (sr1 : SR K mg G P A1 L1 s1 σ H1) (ok1 : ItOk K mg P A1 L1 H1 J ds) (st1 : Step A L H A1 L1 H1)
    (h1 : Run K mg G Wx P A L H σ (if noOwn s1.η vs = true then (noErr (loopA st vs g t fe ds { s1 with η := wipeN s1.η vs })).bind fun b s2 => .ok (.pv (.bl b)) { s2 with η := restN s1.η s2.η vs } else .bad) (PostE K mg G P A L H σ Q)) :
    tAg st T (fun _ H R => R J H) (tGv K mg G vs g) tt te vs σ H1 Q := by
  refine ⟨sr1.tab T hT, fun H2 tb => ?_⟩
  obtain ⟨sr2, stT⟩ := sr1.tabbed tb (sr1.tab T hT)
  by_cases nO : noOwn s1.η vs = true
  · rw [if_pos nO] at h1
    cases e : loopA st vs g t fe ds { s1 with η := wipeN s1.η vs } with
    | bad => rw [e] at h1; exact h1.elim
    | err _ _ => rw [e] at h1; exact h1.elim
    | ok acc sf =>
      rw [e] at h1
      have h1 : PostE K mg G P A L H σ Q (.pv (.bl acc)) { sf with η := restN s1.η sf.η vs } := h1
      have srw := sr2.wiped nO
      refine ⟨fun i m H' => i + m = ds.length ∧ ∃ A' L' s', SR K mg G P A' L' s' (wipe σ vs) H' ∧ Step A1 L1 H1 A' L' H' ∧ s'.η.length = s1.η.length ∧ wipeN s'.η vs = s'.η ∧ loopA st vs g t fe (ds.drop i) s' = .ok acc sf,
        ⟨ds.length, by omega, A1, L1, _, srw, stT, by rw [wipeN_len], wipeN_idem _ _, e⟩, ?_⟩
      -- the answer
      have fin : ∀ {A' : List (Option Addr)} {L' : List Addr} {H' : Hp}, SR K mg G P A' L' { sf with η := wipeN sf.η vs } (wipe σ vs) H' → Step A1 L1 H1 A' L' H' → sf.η.length = s1.η.length → Q (.bl acc) H' := fun {A' L' H'} sr' st' hl => by
        have sr9 := SR.rest sr1 nO st' (fun a z => .inl z) sr' hl
        exact h1 A' L' (.bl acc) H' ⟨sr9.lessP (Wi.pv nofun), by show Rep _ _ _ _ _ _; unfold Rep; rfl, OwNew.of nofun, st1.trans st', p0⟩
      rintro i m H2 ⟨em, A2, L2, s2, sr2, st2, hlen, hw, e2⟩
      obtain ⟨go, stop, yld⟩ := ok1 P A2 L2 H2 (fun a z => .inl z) st2 sr2.there
      by_cases hi : i < ds.length
      · refine .inr ⟨go i hi, fun H' => ∃ A' L' s', SR K mg G P A' L' s' (wipe σ vs) H' ∧ Step A1 L1 H1 A' L' H' ∧ s'.η.length = s1.η.length ∧ wipeN s'.η vs = s'.η ∧
          loopA st vs g t fe (ds.drop (i + 1)) s' = .ok acc sf, fun H' n => ⟨m - 1, by omega, by omega, n⟩, fun x H3 y => ?_⟩
        have ro := yld i _ x H3 (List.getElem?_eq_getElem hi) y
        rw [Reps.nth hi] at e2
        unfold loopA at e2
        obtain ⟨_, s3, eg, e2⟩ := bind_ok e2
        obtain ⟨b, s4, et, e2⟩ := bind_ok e2
        have a2 : At K mg G P A2 L2 H2 (wipe σ vs) A2 L2 s2 H3 (.pv ds[i]) x := At.mk' sr2 (Step.refl _ _ _) sr2.p0 ro
        refine ⟨P, A2, L2, H2, A2, L2, s2, _, s3, a2, eg, fun A3 L3 σ3 H4 sr3 st3 w3 => ?_⟩
        have w3 : wipe σ3 vs = wipe σ vs := w3.trans (wipe_ext (wipe_length _ _) fun j hj => wipe_out hj)
        have l3 : s3.η.length = s1.η.length := by rw [← sr3.lenσ, ← wipe_length σ3 vs, w3, sr2.lenσ]; exact hlen
        refine ⟨w3, ht ⟨P, A3, L3, s3, sr3, Run.ok0 ⟨b, s4, et, fun A4 L4 H5 sr4 st4 => ?_⟩⟩⟩
        have l4 : s4.η.length = s1.η.length := by rw [← sr4.lenσ, sr3.lenσ]; exact l3
        cases b with
        | true =>
          rw [if_pos rfl] at e2
          obtain ⟨r, s5, ef, e5⟩ := bind_ok e2
          obtain ⟨c, s6, ez, e6⟩ := bind_ok e5
          refine iteT (hte ⟨P, A4, L4, s4, sr4, Run.ok0 ⟨r, s5, ef, fun A5 L5 v H6 a5 => ?_⟩⟩)
          have ez : r = .pv (.bl c) ∧ s6 = s5 := by
            unfold toB at ez
            split at ez
            · cases ez; exact ⟨rfl, rfl⟩
            · cases ez
          obtain ⟨rfl, rfl⟩ := ez
          have ev : v = .bl c := by have := a5.ok; unfold RVOk Rep at this; exact this
          refine ⟨c, ev, ?_⟩
          have sr5 := a5.sr.lessP (P := P) fun _ z => .inl z
          obtain ⟨A7, sr7, st7, m7⟩ := sr5.wipeA vs
          rw [w3] at sr7
          have S' := st2.trans (st3.trans (st4.trans (a5.st.trans st7)))
          have l6 : s6.η.length = s1.η.length := by rw [← sr5.lenσ, sr4.lenσ]; exact l4
          by_cases hc : c = st
          · rw [if_pos hc] at e6
            refine iteYes hc ?_
            cases e6
            have hR : SR K mg G P A7 L5 { s6 with η := wipeN (wipeN s6.η vs) vs } (wipe σ vs) H6 := by rw [wipeN_idem]; exact sr7
            exact fin hR (S') (by show (wipeN s6.η vs).length = _; rw [wipeN_len]; exact l6)
          · rw [if_neg hc] at e6
            refine iteNo hc ?_
            exact ⟨A7, L5, _, sr7, S', by show (wipeN s6.η vs).length = _; rw [wipeN_len]; exact l6, wipeN_idem _ _, e6⟩
        | false =>
          rw [if_neg (by decide)] at e2
          refine iteF ?_
          obtain ⟨A7, sr7, st7, m7⟩ := sr4.wipeA vs
          rw [w3] at sr7
          exact ⟨A7, L4, _, sr7, st2.trans (st3.trans (st4.trans st7)), by show (wipeN s4.η vs).length = _; rw [wipeN_len]; exact l4, wipeN_idem _ _, e2⟩
      · have e3 : i = ds.length := by omega
        subst e3
        rw [List.drop_length] at e2
        unfold loopA at e2
        cases e2
        exact .inl ⟨stop, fin (by rw [hw]; exact sr2) st2 hlen⟩
  · rw [if_neg nO] at h1; exact h1.elim
end
/-- as all(..), any(..), slot i laid aside meanwhile -/
def eAggO (st : Bool) (i : Nat) (vs : List Nat) (g : GV) (t : TV) (fe : EV) : EV := fun s => match s.η[i]? with
  | some (.ow ds) => if noOwn (s.η.set i .no) vs = true then (noErr (loopA st vs g t fe ds ⟨wipeN (s.η.set i .no) vs, s.W⟩)).bind fun b s2 =>
      (match (restN (s.η.set i .no) s2.η vs)[i]? with
        | some .no => .ok (.pv (.bl b)) ⟨(restN (s.η.set i .no) s2.η vs).set i (.ow ds), s2.W⟩
        | _ => .bad) else .bad
  | _ => .bad
section
variable {K : PySem.W.Frag} {mg : Str → Option Value} {G : Gm} {Wx : WX} {σ : L2.St} {H : Hp} {T : Addr}
theorem ed_aggOQ (i : Nat) {st : Bool} {g : GV} {t : TV} {fe : EV} {tt : TT} {te : TE} {Q : VK} {vs : List Nat} (hT : T ∈ G.tb)
    (ht : ∀ {σ H Q}, tT K mg G W0 t σ H Q → tt σ H Q) (hte : ∀ {σ H Q}, tE K mg G W0 fe σ H Q → te σ H Q)
    (h : tE K mg G Wx (eAggO st i vs g t fe) σ H Q) : tAg st T (iList K (tVar i)) (tGv K mg G vs g) tt te vs σ H Q := by
  obtain ⟨P, A, L, s, sr, h⟩ := h
  unfold eAggO at h
  split at h
  · rename_i ds e0
    obtain ⟨ov, oa, e1, e2, so⟩ := sr.slot i _ e0
    obtain ⟨q, ws, rfl, rfl, hq, r⟩ := (show ∃ a vs, oa = some a ∧ ov = some (.ref a) ∧ H a = some (.lst vs) ∧ Reps K mg (Bd P A L) H ds vs from so)
    have iη : i < s.η.length := (List.getElem?_eq_some_iff.mp e0).1
    have iA : i < A.length := by rw [sr.lenA]; exact iη
    have qA : some q ∈ A := List.mem_of_getElem? e2
    have nPq : ¬ P q := fun z => (sr.pOk q z).2.1 qA
    have sr1 := sr.aside e0 e2
    have qP := sr1.pOk q (.inr rfl)
    have bd1 : ∀ a, Bd (fun a => P a ∨ a = q) (A.set i none) L a → Bd P A L a := fun a z => by
      rcases z with z | z | z | z
      · exact .inl ((mem_set z).elim id nofun)
      · exact .inr (.inl z)
      · exact .inr (.inr z)
      · exact .inl (by rw [z]; exact qA)
    have r1 : Reps K mg (Bd (fun a => P a ∨ a = q) (A.set i none) L) H ds ws := r.move fun a o h n _ => ⟨h, fun z => n (bd1 a z)⟩
    have okI : ItOk K mg (fun a => P a ∨ a = q) (A.set i none) L H (Itl K q) ds := by
      intro P' A' L' H' hP st hB
      have h' : SqL K H' q ws := .inl (.inl (st.frm q _ hq qP.2.1 qP.2.2 fun _ => nofun))
      have r' : Reps K mg (Bd P' A' L') H' ds ws := r1.move (st.mvP hP)
      refine ⟨fun i hi => ?_, ⟨ws, h', by rw [r'.length]; exact Nat.le_refl _⟩, fun i d x H'' e y => ?_⟩
      · obtain ⟨v, e, _⟩ := r'.get (List.getElem?_eq_getElem hi)
        exact ⟨ws, v, h', e⟩
      · obtain ⟨e1, y⟩ := y
        subst e1
        obtain ⟨v, e2, rv⟩ := r'.get e
        have := y ws h'
        rw [e2] at this
        cases this
        exact ResOk.same rv
    have p0 : ∀ a, (P a ∨ a = q) → (∃ o, H a = some o) ∧ some a ∉ A.set i none := fun a z => ⟨(sr1.pOk a z).1, (sr1.pOk a z).2.1⟩
    refine ⟨.ref q, e1, q, rfl, ⟨ws, .inl (.inl hq)⟩, ?_⟩
    refine agg_core (Wx := Wx) (P := fun a => P a ∨ a = q) (A := A.set i none) (L := L) (H := H) (Q := Q) (vs := vs) (ds := ds) hT p0 ht hte sr1 okI (Step.refl _ _ _) ?_
    by_cases nO : noOwn (s.η.set i .no) vs = true
    · rw [if_pos nO] at h ⊢
      cases el : loopA st vs g t fe ds ⟨wipeN (s.η.set i .no) vs, s.W⟩ with
      | bad => rw [el] at h; exact h.elim
      | err _ _ => rw [el] at h; exact h.elim
      | ok acc sf =>
        rw [el] at h
        show PostE K mg G (fun a => P a ∨ a = q) (A.set i none) L H σ Q (.pv (.bl acc)) { sf with η := restN (s.η.set i .no) sf.η vs }
        intro A' L' v H' at1
        have h : Run K mg G Wx P A L H σ (match (restN (s.η.set i .no) sf.η vs)[i]? with
          | some .no => .ok (.pv (.bl acc)) ⟨(restN (s.η.set i .no) sf.η vs).set i (.ow ds), sf.W⟩
          | _ => .bad) (PostE K mg G P A L H σ Q) := h
        split at h
        · rename_i en
          have h : PostE K mg G P A L H σ Q (.pv (.bl acc)) ⟨(restN (s.η.set i .no) sf.η vs).set i (.ow ds), sf.W⟩ := h
          have ev : v = .bl acc := by have := at1.ok; unfold RVOk Rep at this; exact this
          subst ev
          have hq' : H' q = some (.lst ws) := at1.st.frm q _ hq qP.2.1 qP.2.2 fun _ => nofun
          have srW : SR K mg G (fun a => P a ∨ a = q) A' L' { sf with η := restN (s.η.set i .no) sf.η vs } σ H' := at1.sr.lessP fun a z => .inl z
          have rq : Reps K mg (Bd (fun a => P a ∨ a = q) A' L') H' ds ws := r1.move (at1.st.mv (P := fun a => P a ∨ a = q))
          obtain ⟨srF, bdF⟩ := srW.back (P := P) en nPq e1 hq' rq (sr.ownNew q qA)
          refine h (A'.set i (some q)) L' (.bl acc) H' ⟨srF.lessP (Wi.pv nofun), by show Rep _ _ _ _ _ _; unfold Rep; rfl, OwNew.of nofun, ?_, sr.p0⟩
          refine ⟨fun a o ha n1 n2 pl => at1.st.frm a o ha (fun z => n1 ((mem_set z).elim id nofun)) n2 pl, fun a z => ?_, at1.st.pre, at1.st.there, at1.st.tab⟩
          rcases z with z | z
          · rcases mem_set z with z | z
            · rcases at1.st.new a (.inl z) with z | z
              · exact .inl ((mem_set z).elim id nofun)
              · exact .inr z
            · cases z; exact .inl qA
          · rcases at1.st.new a (.inr z) with z | z
            · exact .inl ((mem_set z).elim id nofun)
            · exact .inr z
        · exact h.elim
    · rw [if_neg nO] at h; exact h.elim
  · exact h.elim
end
section
variable {X : Cx} {G : Gm} {Wx : WX} {k : Nat} {c T : Addr} {elt tg cnd : Expr} {ifs : List Expr} {scope : Scope} {gpos pos p : Pos} {it : IV} {g : GV} {t : TV} {fe : EV} {tt : TT}
theorem ed_aggO (st : Bool) (i : Nat) {y : Str} {py : Pos} (nm : String) (own : List (Str × Nat)) (hc : X.calm = true) (hN : X.N.Nodup) (hr : Room (k + 1) X.A) (TB : GxR.TabB X.base X.mg c T) (hT : T ∈ G.tb) (hcode : X.env.code = .ref c) (sc : GxSc scope)
    (ho : PE X (.Name y py) (tVar i)) (ok : BlkOk X.N X.env.scope scope own)
    (hg : ∀ (A' : Around) (s : Shared) (H : Hp) (C : Addr) (cl : List (Str × Addr)) (cd : Value) (fp : List Addr) (pn : List (Addr × Obj)), Room k A' → GDv (GB X scope A' s H C cl cd fp pn) G (own.map (·.2)) tg g)
    (ht : ∀ (A' : Around) (s : Shared) (H : Hp) (C : Addr) (cl : List (Str × Addr)) (cd : Value) (fp : List Addr) (pn : List (Addr × Obj)), Room k A' → CD (GB X scope A' s H C cl cd fp pn) G ifs t tt)
    (he : ∀ (A' : Around) (s : Shared) (H : Hp) (C : Addr) (cl : List (Str × Addr)) (cd : Value) (fp : List Addr) (pn : List (Addr × Obj)), Room k A' → ED (GB X scope A' s H C cl cd fp pn) G W0 elt fe)
    (hs : ∀ x, genFold (.Name y py) X.env x = pure x) (hgl : Gl X (Str.ofString nm)) (hm : X.mg (Str.ofString nm) = none)
    (hb : (st = false ∧ nm = "all") ∨ (st = true ∧ nm = "any"))
    (hsp : starEach [.GeneratorExp elt [⟨tg, (.Name y py), ifs, 0⟩] scope gpos] X.env = (false, eval (.GeneratorExp elt [⟨tg, (.Name y py), ifs, 0⟩] scope gpos) X.env) :: starEach [] X.env) :
    ED X G Wx (.Call (.Name (Str.ofString nm) p) [.GeneratorExp elt [⟨tg, (.Name y py), ifs, 0⟩] scope gpos] [] pos) (eAggO st i (own.map (·.2)) g t fe) := by
  refine ⟨⟨fun pins s σ H Q I h => ?_⟩⟩
  have hA0 : X.A.handled = none := hr.hd
  have A' : Around := X.A
  have tag : tAg st T (iList X.K (tVar i)) (tGv X.K X.mg G (own.map (·.2)) g) tt (tE X.K X.mg G W0 fe) (own.map (·.2)) σ H Q :=
    ed_aggOQ (tt := tt) i hT (fun {σ H Q} z => ((ht ⟨X.A.handled, X.A.depth, X.A.frames, X.A.guards, X.A.units⟩ s H 0 [] .none [] [] ⟨hr.hd, by have := hr.dp; show X.A.depth + 3 * k + 5 < _; omega, by have := hr.un; show X.A.units + 16 * k + 200 < _; omega⟩).of z)) (fun z => z) h
  have key := fun (Q' : Value → Shared → Prop) hQ => gx_make (Q' := Q') (gpos := gpos) hr hc hN TB hcode sc.co sc.z sc.nc (pi_list (tg := tg) ho) ok (fun A' s H C cl cd fp pn r => (hg A' s H C cl cd fp pn r).pg) (fun A' s H C cl cd fp pn r => (ht A' s H C cl cd fp pn r).pts) (fun A' s H C cl cd fp pn r => (he A' s H C cl cd fp pn r).pe) hs I tag hQ
  rcases hb with ⟨rfl, rfl⟩ | ⟨rfl, rfl⟩
  · refine wpAny_Call_Name_kw (ld_blt I hgl hm bt_all ?_)
    refine PyProof.Rows.callWith_builtin1 ?_ hsp (by rfl)
    rw [hsp]
    show wpAny _ _ (spliced ((false, eval (.GeneratorExp elt [⟨tg, (.Name y py), ifs, 0⟩] scope gpos) X.env) :: backTo pos (starEach [] X.env))) _ _ s
    refine Calls.spliced_cons (key _ fun s3 H3 fp a gg N s5 back rdy => ?_)
    refine Calls.spliced_nil ?_
    exact call_all_gx rdy.1 fun R hR => gx_all rfl hr.hd hr.depth (fun s' b H' gi q => hR b s' ⟨.bl b, H', back s' H' gi, rfl, q⟩) N s5 rdy
  · refine wpAny_Call_Name_kw (ld_blt I hgl hm bt_any ?_)
    refine PyProof.Rows.callWith_builtin1 ?_ hsp (by rfl)
    rw [hsp]
    show wpAny _ _ (spliced ((false, eval (.GeneratorExp elt [⟨tg, (.Name y py), ifs, 0⟩] scope gpos) X.env) :: backTo pos (starEach [] X.env))) _ _ s
    refine Calls.spliced_cons (key _ fun s3 H3 fp a gg N s5 back rdy => ?_)
    refine Calls.spliced_nil ?_
    exact call_any_gx rdy.1 fun R hR => gx_any rfl hr.hd hr.depth (fun s' b H' gi q => hR b s' ⟨.bl b, H', back s' H' gi, rfl, q⟩) N s5 rdy
theorem ed_aggO0 (st : Bool) (i : Nat) {y : Str} {py : Pos} (nm : String) (own : List (Str × Nat)) (hc : X.calm = true) (hN : X.N.Nodup) (hr : Room (k + 1) X.A) (TB : GxR.TabB X.base X.mg c T) (hT : T ∈ G.tb) (hcode : X.env.code = .ref c) (sc : GxSc scope)
    (ho : PE X (.Name y py) (tVar i)) (ok : BlkOk X.N X.env.scope scope own)
    (hg : ∀ (A' : Around) (s : Shared) (H : Hp) (C : Addr) (cl : List (Str × Addr)) (cd : Value) (fp : List Addr) (pn : List (Addr × Obj)), Room k A' → GDv (GB X scope A' s H C cl cd fp pn) G (own.map (·.2)) tg g)
    (he : ∀ (A' : Around) (s : Shared) (H : Hp) (C : Addr) (cl : List (Str × Addr)) (cd : Value) (fp : List Addr) (pn : List (Addr × Obj)), Room k A' → ED (GB X scope A' s H C cl cd fp pn) G W0 elt fe)
    (hs : ∀ x, genFold (.Name y py) X.env x = pure x) (hgl : Gl X (Str.ofString nm)) (hm : X.mg (Str.ofString nm) = none)
    (hb : (st = false ∧ nm = "all") ∨ (st = true ∧ nm = "any"))
    (hsp : starEach [.GeneratorExp elt [⟨tg, (.Name y py), [], 0⟩] scope gpos] X.env = (false, eval (.GeneratorExp elt [⟨tg, (.Name y py), [], 0⟩] scope gpos) X.env) :: starEach [] X.env) :
    ED X G Wx (.Call (.Name (Str.ofString nm) p) [.GeneratorExp elt [⟨tg, (.Name y py), [], 0⟩] scope gpos] [] pos) (eAggO st i (own.map (·.2)) g tTrue fe) :=
  ed_aggO (tt := tYes) st i nm own hc hN hr TB hT hcode sc ho ok hg (fun _ _ _ _ _ _ _ _ _ => cd_nil) he hs hgl hm hb hsp
theorem ed_aggO1 (st : Bool) (i : Nat) {y : Str} {py : Pos} (nm : String) (own : List (Str × Nat)) (hc : X.calm = true) (hN : X.N.Nodup) (hr : Room (k + 1) X.A) (TB : GxR.TabB X.base X.mg c T) (hT : T ∈ G.tb) (hcode : X.env.code = .ref c) (sc : GxSc scope)
    (ho : PE X (.Name y py) (tVar i)) (ok : BlkOk X.N X.env.scope scope own)
    (hg : ∀ (A' : Around) (s : Shared) (H : Hp) (C : Addr) (cl : List (Str × Addr)) (cd : Value) (fp : List Addr) (pn : List (Addr × Obj)), Room k A' → GDv (GB X scope A' s H C cl cd fp pn) G (own.map (·.2)) tg g)
    (ht : ∀ (A' : Around) (s : Shared) (H : Hp) (C : Addr) (cl : List (Str × Addr)) (cd : Value) (fp : List Addr) (pn : List (Addr × Obj)), Room k A' → TD (GB X scope A' s H C cl cd fp pn) G W0 cnd t)
    (he : ∀ (A' : Around) (s : Shared) (H : Hp) (C : Addr) (cl : List (Str × Addr)) (cd : Value) (fp : List Addr) (pn : List (Addr × Obj)), Room k A' → ED (GB X scope A' s H C cl cd fp pn) G W0 elt fe)
    (hs : ∀ x, genFold (.Name y py) X.env x = pure x) (hgl : Gl X (Str.ofString nm)) (hm : X.mg (Str.ofString nm) = none)
    (hb : (st = false ∧ nm = "all") ∨ (st = true ∧ nm = "any"))
    (hsp : starEach [.GeneratorExp elt [⟨tg, (.Name y py), [cnd], 0⟩] scope gpos] X.env = (false, eval (.GeneratorExp elt [⟨tg, (.Name y py), [cnd], 0⟩] scope gpos) X.env) :: starEach [] X.env) :
    ED X G Wx (.Call (.Name (Str.ofString nm) p) [.GeneratorExp elt [⟨tg, (.Name y py), [cnd], 0⟩] scope gpos] [] pos) (eAggO st i (own.map (·.2)) g t fe) :=
  ed_aggO (tt := tT X.K X.mg G W0 t) st i nm own hc hN hr TB hT hcode sc ho ok hg (fun A' s H C cl cd fp pn r => cd_one (ht A' s H C cl cd fp pn r)) he hs hgl hm hb hsp
end
end DL
namespace DL
open PySem PySem.Spec PyProof.Rows L2
/-- a proof that is no step of the eye -/
theorem nr {α : Sort u} {a b : α} (h : a = b) : a = b := h
/-! ### the mirrors, evaluated -/
section
variable {α β : Type} {s : S} {η : List Slot} {W : List (List D)} {f g : SV} {fa fb fc fe : EV} {t u : TV} {i j : Nat} {d : D} {ds : List D}
@[simp] theorem bind_okR (a : α) (k : α → S → Rs β) : (Rs.ok a s).bind k = k a s := nr rfl
@[simp] theorem bind_errR (c : Str) (k : α → S → Rs β) : (Rs.err c s).bind k = .err c s := nr rfl
@[simp] theorem bind_badR (k : α → S → Rs β) : (Rs.bad).bind k = .bad := nr rfl
theorem bind_bind {γ : Type} (x : Rs α) (k : α → S → Rs β) (l : β → S → Rs γ) : (x.bind k).bind l = x.bind fun a s => (k a s).bind l := by cases x <;> rfl
@[simp] theorem eC_ap : eC d s = .ok (.pv d) s := nr rfl
@[simp] theorem eV_ap : eV i ⟨η, W⟩ = match η[i]? with
  | some (.pv d) => .ok (.pv d) ⟨η, W⟩
  | some (.ow _) => .ok (.vr i) ⟨η, W⟩
  | some (.lc n) => .ok (.lc n) ⟨η, W⟩
  | _ => .bad := nr rfl
@[simp] theorem rd_pv : rd (.pv d) s = some d := nr rfl
@[simp] theorem rd_ow : rd (.ow ds) s = some (.lst ds) := nr rfl
@[simp] theorem rd_lc : rd (.lc i) ⟨η, W⟩ = (W[i]?).map .lst := nr rfl
@[simp] theorem rd_vr : rd (.vr i) ⟨η, W⟩ = match η[i]? with
    | some (.pv d) => some d
    | some (.ow ds) => some (.lst ds)
    | some (.lc n) => (W[n]?).map .lst
    | _ => none := nr rfl
@[simp] theorem keepR_pv : keepR (.pv d) s = some (.pv d, s) := nr rfl
@[simp] theorem keepR_ow : keepR (.ow ds) s = some (.ow ds, s) := nr rfl
@[simp] theorem keepR_lc : keepR (.lc i) s = some (.lc i, s) := nr rfl
@[simp] theorem keepR_vr : keepR (.vr i) ⟨η, W⟩ = match η[i]? with
  | some (.pv d) => some (.pv d, ⟨η, W⟩)
  | some (.ow ds) => some (.pv (.lst ds), ⟨η.set i (.pv (.lst ds)), W⟩)
  | some (.lc n) => some (.lc n, ⟨η, W⟩)
  | _ => none := nr rfl
@[simp] theorem fz_ap (r : RV) : fz r s = match keepR r s with
  | some (.pv d, s') => some (d, s')
  | some (.ow ds, s') => some (.lst ds, s')
  | _ => none := nr rfl
@[simp] theorem fzR_ap (r : RV) : fzR r s = match fz r s with
  | some (d, s') => .ok d s'
  | none => .bad := nr rfl
@[simp] theorem fin1_ap (f : D → Option RV) (r : RV) : fin1 f r s = match rd r s with
  | some a => match f a with
    | some r => .ok r s
    | none => .bad
  | none => .bad := nr rfl
@[simp] theorem fin2_ap (f : Ob2) (ra rb : RV) : fin2 f ra rb s = match rd ra s, rd rb s with
  | some a, some b => match f a b with
    | some r => .ok r s
    | none => .bad
  | _, _ => .bad := nr rfl
@[simp] theorem eOp1_ap (f : D → Option RV) : eOp1 f fa s = (fa s).bind fun ra s1 => fin1 f ra s1 := nr rfl
@[simp] theorem eOp2_ap (f : Ob2) : eOp2 f fa fb s = (fa s).bind fun ra s1 => (fb s1).bind fun rb s2 => fin2 f ra rb s2 := nr rfl
@[simp] theorem eChain_ap (f f' : Ob2) : eChain f f' fa fb fc s = (fa s).bind fun ra s1 => (fb s1).bind fun rb s2 => match rb with
  | .pv b => (fin2 f ra (.pv b) s2).bind fun r s3 => match r with
    | .pv (.bl true) => (fc s3).bind fun rc s4 => fin2 f' (.pv b) rc s4
    | .pv (.bl false) => .ok (.pv (.bl false)) s3
    | _ => .bad
  | _ => .bad := nr rfl
@[simp] theorem toB_ap (b : Bool) : toB (.pv (.bl b)) s = .ok b s := nr rfl
@[simp] theorem finT_ap (r : RV) : finT r s = match rd r s with
  | some d => match truD d with
    | some b => .ok b s
    | none => .bad
  | none => .bad := nr rfl
@[simp] theorem tOfB_ap : tOfB fe s = (fe s).bind toB := nr rfl
@[simp] theorem tOf_ap : tOf fe s = (fe s).bind finT := nr rfl
@[simp] theorem tAndD_ap : tAndD t u s = (t s).bind fun b s1 => if b = true then u s1 else .ok false s1 := nr rfl
@[simp] theorem tOrD_ap : tOrD t u s = (t s).bind fun b s1 => if b = true then .ok true s1 else u s1 := nr rfl
@[simp] theorem tNotD_ap : tNotD t s = (t s).bind fun b s1 => .ok (!b) s1 := nr rfl
@[simp] theorem tTrue_ap : tTrue s = .ok true s := nr rfl
@[simp] theorem eAndD_ap : eAndD fa fb s = (fa s).bind fun r s1 => (finT r s1).bind fun b s2 => if b = true then fb s2 else .ok r s2 := nr rfl
@[simp] theorem eOrD_ap : eOrD fa fb s = (fa s).bind fun r s1 => (finT r s1).bind fun b s2 => if b = true then .ok r s2 else fb s2 := nr rfl
@[simp] theorem eIfD_ap : eIfD t fa fb s = (t s).bind fun b s1 => if b = true then fa s1 else fb s1 := nr rfl
@[simp] theorem argR_ap (r : RV) : argR r s = match keepR r s with
  | some (.pv d, s') => .ok (.pv d) s'
  | some (.ow ds, s') => .ok (.pv (.lst ds)) s'
  | some (.lc n, s') => .ok (.lc n) s'
  | _ => .bad := nr rfl
@[simp] theorem aNil_ap : aNil s = .ok [] s := nr rfl
@[simp] theorem aCons_ap (h : AV) : aCons fe h s = (fe s).bind fun r s1 => (argR r s1).bind fun r' s2 => (h s2).bind fun rs s3 => .ok (r' :: rs) s3 := nr rfl
@[simp] theorem aStar_ap (h : AV) : aStar fe h s = (fe s).bind fun r s1 => match (rd r s1).bind seqD with
  | some ds => (h s1).bind fun rs s2 => .ok (ds.map .pv ++ rs) s2
  | none => .bad := nr rfl
@[simp] theorem seqD_tup : seqD (.tup ds) = some ds := nr rfl
@[simp] theorem seqD_lst : seqD (.lst ds) = some ds := nr rfl
@[simp] theorem seqD_scr : seqD (.scr ds) = some ds := nr rfl
@[simp] theorem itD_tup : itD (.tup ds) = some ds := nr rfl
@[simp] theorem itD_lst : itD (.lst ds) = some ds := nr rfl
@[simp] theorem itX_tup : itX (.tup ds) = some ds := nr rfl
@[simp] theorem itX_lst : itX (.lst ds) = some ds := nr rfl
@[simp] theorem itX_scr : itX (.scr ds) = some ds := nr rfl
@[simp] theorem itX_str (z : Str) : itX (.str z) = some (chD z) := nr rfl
@[simp] theorem itD_scr : itD (.scr ds) = some ds := nr rfl
@[simp] theorem rvDs_nil : rvDs [] = some [] := nr rfl
@[simp] theorem rvDs_cons (d : D) (rs : List RV) : rvDs (.pv d :: rs) = (rvDs rs).map fun ds => d :: ds := nr rfl
@[simp] theorem rvDs_map (ds : List D) (rs : List RV) : rvDs (ds.map .pv ++ rs) = (rvDs rs).map fun es => ds ++ es := by
  induction ds with
  | nil => simp
  | cons d ds ih => simp only [List.map_cons, List.cons_append, rvDs_cons, ih]; cases rvDs rs <;> rfl
@[simp] theorem rvDs_map0 (ds : List D) : rvDs (ds.map .pv) = some ds := by have := rvDs_map ds []; simpa using this
@[simp] theorem rvDs_comp {γ : Type} (f : γ → D) (xs : List γ) (rs : List RV) : rvDs (List.map (RV.pv ∘ f) xs ++ rs) = (rvDs rs).map fun es => xs.map f ++ es := by
  have := rvDs_map (xs.map f) rs
  rwa [List.map_map] at this
@[simp] theorem rvDs_comp0 {γ : Type} (f : γ → D) (xs : List γ) : rvDs (List.map (RV.pv ∘ f) xs) = some (xs.map f) := by
  have := rvDs_map0 (xs.map f)
  rwa [List.map_map] at this
@[simp] theorem dspR_ap (k : List D → RV) (rs : List RV) : dspR k rs s = match rvDs rs with
  | some ds => if ds.length ≤ sizeLine then .ok (k ds) s else .bad
  | none => .bad := nr rfl
@[simp] theorem eTup_ap (h : AV) : eTup h s = (h s).bind (dspR fun ds => .pv (.tup ds)) := nr rfl
@[simp] theorem eLst_ap (h : AV) : eLst h s = (h s).bind (dspR .ow) := nr rfl
@[simp] theorem oNo_ap : oNo s = .ok none s := nr rfl
@[simp] theorem oSo_ap : oSo fe s = (fe s).bind fun r s1 => match rd r s1 with
  | some (.int i) => .ok (some i) s1
  | _ => .bad := nr rfl
@[simp] theorem eSl_ap (lo hi : OV) : eSl fa lo hi s = (fa s).bind fun r s1 => (lo s1).bind fun l s2 => (hi s2).bind fun u s3 => fin1 (fun d => slD d l u) r s3 := nr rfl
@[simp] theorem eSt_ap (lo hi st : OV) : eSt fa lo hi st s = (fa s).bind fun r s1 => (lo s1).bind fun l s2 => (hi s2).bind fun u s3 => (st s3).bind fun c s4 => match c with
  | some c => fin1 (fun d => stD d l u c) r s4
  | none => .bad := nr rfl
@[simp] theorem eCall_ap (F : Fn) (h : AV) : eCall F h s = (h s).bind fun args s1 => match F args s1.W with
  | .ok r W' => .ok r { s1 with W := W' }
  | .err c W' => .err c { s1 with W := W' }
  | .bad => .bad := nr rfl
/-! statements -/
@[simp] theorem sNil_ap : sNil s = .ok .nx s := nr rfl
@[simp] theorem sPass_ap : sPass s = .ok .nx s := nr rfl
@[simp] theorem sBk_ap : sBk s = .ok .bk s := nr rfl
@[simp] theorem sCt_ap : sCt s = .ok .ct s := nr rfl
@[simp] theorem sRetN_ap : sRetN s = .ok (.rt (.pv .non)) s := nr rfl
@[simp] theorem sSeq_ap : sSeq f g s = (f s).bind fun fl s1 => match fl with
  | .nx => g s1
  | fl => .ok fl s1 := nr rfl
@[simp] theorem sIf_ap : sIf t f g s = (t s).bind fun b s1 => if b = true then f s1 else g s1 := nr rfl
@[simp] theorem sEx_ap : sEx fe s = (fe s).bind fun _ s1 => .ok .nx s1 := nr rfl
@[simp] theorem sRet_ap : sRet fe s = (fe s).bind retR := nr rfl
@[simp] theorem retR_pv : retR (.pv d) s = .ok (.rt (.pv d)) s := nr rfl
@[simp] theorem retR_ow : retR (.ow ds) s = .ok (.rt (.ow ds)) s := nr rfl
@[simp] theorem retR_lc : retR (.lc i) s = .ok (.rt (.lc i)) s := nr rfl
@[simp] theorem retR_vr : retR (.vr i) ⟨η, W⟩ = match η[i]? with
    | some (.pv d) => .ok (.rt (.pv d)) ⟨η, W⟩
    | some (.ow ds) => .ok (.rt (.ow ds)) ⟨η.set i .no, W⟩
    | some (.lc n) => .ok (.rt (.lc n)) ⟨η, W⟩
    | _ => .bad := nr rfl
@[simp] theorem slotOf_pv : slotOf (.pv d) = some (.pv d) := nr rfl
@[simp] theorem slotOf_ow : slotOf (.ow ds) = some (.ow ds) := nr rfl
@[simp] theorem slotOf_lc : slotOf (.lc i) = some (.lc i) := nr rfl
@[simp] theorem gSet_ap (r : RV) : gSet i r s = match keepR r s with
  | some (r', s') => if i < s'.η.length then match slotOf r' with
    | some x => .ok () { s' with η := s'.η.set i x }
    | none => .bad
    else .bad
  | none => .bad := nr rfl
@[simp] theorem sAsg_ap (h : GV) : sAsg fe h s = (fe s).bind fun r s1 => (h r s1).bind fun _ s2 => .ok .nx s2 := nr rfl
@[simp] theorem gNilD_nil : gNilD [] s = .ok () s := nr rfl
@[simp] theorem gConsD_cons (h : GV) (gs : GVs) : gConsD h gs (d :: ds) s = (h (.pv d) s).bind fun _ s1 => gs ds s1 := nr rfl
@[simp] theorem lenIs_ap (n : Nat) (gs : GVs) : lenIs n gs ds s = if ds.length = n then gs ds s else .bad := nr rfl
@[simp] theorem gTupD_ap (gs : GVs) (r : RV) : gTupD gs r s = match rd r s with
  | some d => match seqD d with
    | some ds => gs ds s
    | none => .bad
  | none => .bad := nr rfl
@[simp] theorem putR_ap (r : RV) : putR i r s = match slotOf r with
  | some x => if i < s.η.length then .ok () { s with η := s.η.set i x } else .bad
  | none => .bad := nr rfl
@[simp] theorem keepX_ap (r : RV) : keepX r s = match keepR r s with
  | some (r', s') => .ok r' s'
  | none => .bad := nr rfl
@[simp] theorem sPar_ap : sPar i j fa fb s = (fa s).bind fun ra s1 => (keepX ra s1).bind fun ra s1 => (fb s1).bind fun rb s2 => (keepX rb s2).bind fun rb s2 => (putR j rb s2).bind fun _ s3 => (putR i ra s3).bind fun _ s4 => .ok .nx s4 := nr rfl
@[simp] theorem gShare_ap : gShare i (.ow ds) s = if i < s.η.length then .ok () { η := s.η.set i (.lc s.W.length), W := s.W ++ [ds] } else .bad := nr rfl
@[simp] theorem sFor_ap (it : IV) (h : GV) (body : SV) : sFor it h body s = (it s).bind fun ds s1 => loopD h body ds s1 := nr rfl
@[simp] theorem sWhile_ap (n : Nat) (body : SV) : sWhile n t body s = loopW t body n s := nr rfl
@[simp] theorem iOf_ap : iOf fe s = (fe s).bind fun r s1 => match fz r s1 with
  | some (d, s2) => match itX d with
    | some ds => .ok ds s2
    | none => .bad
  | none => .bad := nr rfl
@[simp] theorem iR1_ap : iR1 fa s = (fa s).bind fun r s1 => match rd r s1 with
  | some (.int j) => if rOk j = true then .ok (rngD 0 j) s1 else .bad
  | _ => .bad := nr rfl
@[simp] theorem iR2_ap : iR2 fa fb s = (fa s).bind fun ra s1 => (fb s1).bind fun rb s2 => match rd ra s2, rd rb s2 with
  | some (.int i), some (.int j) => if (rOk i && rOk j) = true then .ok (rngD i j) s2 else .bad
  | _, _ => .bad := nr rfl
@[simp] theorem iR3_ap (h : AV) : iR3 h s = (h s).bind fun rs s1 => match rs with
  | [.pv (.int i), .pv (.int j), .pv (.int c)] => if r3Ok i j c = true then .ok (rng3D i c (Builtin.Range.rangeSize i j c).toNat) s1 else .bad
  | _ => .bad := nr rfl
@[simp] theorem iEnumD_ap : iEnumD fe s = (fe s).bind fun r s1 => match fz r s1 with
  | some (d, s2) => match itD d with
    | some ds => .ok (enumD ds) s2
    | none => .bad
  | none => .bad := nr rfl
@[simp] theorem iRevD_ap : iRevD fe s = (fe s).bind fun r s1 => match fz r s1 with
  | some (d, s2) => match itD d with
    | some ds => .ok ds.reverse s2
    | none => .bad
  | none => .bad := nr rfl
@[simp] theorem iZipD_ap (h : AV) : iZipD h s = (h s).bind fun rs s1 => match rs with
  | [.pv (.tup xs), .pv (.tup ys)] => .ok (zipD xs ys) s1
  | [.pv (.lst xs), .pv (.lst ys)] => .ok (zipD xs ys) s1
  | _ => .bad := nr rfl
@[simp] theorem sAug_ap (f : Ob2) : sAug i f fe s = match s.η[i]? with
  | some (.pv a) => (fe s).bind fun rb s1 => match rd rb s1 with
    | some b => match f a b with
      | some r => (gSet i r s1).bind fun _ s2 => .ok .nx s2
      | none => .bad
    | none => .bad
  | _ => .bad := nr rfl
@[simp] theorem eComp_ap (vs : List Nat) (it : IV) (h : GV) : eComp vs it h t fe s = (it s).bind fun ds s1 => if noOwn s1.η vs = true then (noErr (loopC vs h t fe ds [] { s1 with η := wipeN s1.η vs })).bind fun acc s2 => .ok (.ow acc) { s2 with η := restN s1.η s2.η vs } else .bad := nr rfl
@[simp] theorem noErr_ok (a : α) : noErr (Rs.ok a s) = .ok a s := nr rfl
@[simp] theorem wipeN_nil : wipeN η [] = η := nr rfl
@[simp] theorem wipeN_cons (v : Nat) (vs : List Nat) : wipeN η (v :: vs) = (wipeN η vs).set v .no := nr rfl
@[simp] theorem restN_nil (η0 : List Slot) : restN η0 η [] = η := nr rfl
@[simp] theorem restN_cons (η0 : List Slot) (v : Nat) (vs : List Nat) : restN η0 η (v :: vs) = (restN η0 η vs).set v (η0.getD v .no) := nr rfl
@[simp] theorem noOwn_nil : noOwn η [] = true := nr rfl
@[simp] theorem noOwn_cons (v : Nat) (vs : List Nat) : noOwn η (v :: vs) = ((match η[v]? with
  | some (.ow _) => false
  | some (.od _) => false
  | some _ => true
  | none => false) && noOwn η vs) := nr rfl
@[simp] theorem lstAt_ap : lstAt i ⟨η, W⟩ = match η[i]? with
  | some (.ow ds) => some ds
  | some (.lc n) => W[n]?
  | _ => none := nr rfl
@[simp] theorem lstPut_ap : lstPut i ds ⟨η, W⟩ = match η[i]? with
  | some (.ow _) => ⟨η.set i (.ow ds), W⟩
  | some (.lc n) => ⟨η, W.set n ds⟩
  | _ => ⟨η, W⟩ := nr rfl
@[simp] theorem eApp_ap : eApp i fe s = match lstAt i s with
  | some _ => (fe s).bind fun r s1 => (fzR r s1).bind fun y s2 => match lstAt i s2 with
    | some ds => if ds.length < sizeLine then .ok (.pv .non) (lstPut i (ds ++ [y]) s2) else .bad
    | none => .bad
  | none => .bad := nr rfl
@[simp] theorem ePop_ap : ePop i s = match lstAt i s with
  | some ds => match ds[ds.length - 1]? with
    | some d => .ok (.pv d) (lstPut i ds.dropLast s)
    | none => .bad
  | none => .bad := nr rfl
@[simp] theorem eExt_ap : eExt i fe s = match lstAt i s with
  | some _ => (fe s).bind fun r s1 => match rd r s1, lstAt i s1 with
    | some (.lst zs), some ds => if ds.length + zs.length ≤ sizeLine then .ok (.pv .non) (lstPut i (ds ++ zs) s1) else .bad
    | some (.tup zs), some ds => if ds.length + zs.length ≤ sizeLine then .ok (.pv .non) (lstPut i (ds ++ zs) s1) else .bad
    | _, _ => .bad
  | none => .bad := nr rfl
@[simp] theorem gSubD_ap (fi : EV) (r : RV) : gSubD i fi r s = (fzR r s).bind fun d s1 => match lstAt i s1 with
  | some _ => (fi s1).bind fun ri s2 => match rd ri s2, lstAt i s2 with
    | some (.int k), some ds => match ixN ds.length k with
      | some j => .ok () (lstPut i (ds.set j d) s2)
      | none => .bad
    | _, _ => .bad
  | none => .bad := nr rfl
@[simp] theorem loopD_nil (h : GV) (body : SV) : loopD h body [] s = .ok .nx s := nr rfl
theorem loopD_cons (h : GV) (body : SV) : loopD h body (d :: ds) s = (h (.pv d) s).bind fun _ s1 => (body s1).bind fun fl s2 => match fl with
    | .nx => loopD h body ds s2
    | .ct => loopD h body ds s2
    | .bk => .ok .nx s2
    | .rt r => .ok (.rt r) s2 := nr rfl
/-! defs -/
@[simp] theorem defF_ap (m n : Nat) (body : SV) (args : List RV) : defF m n body args W = if args.length = m then bodyF n body args W else .bad := nr rfl
@[simp] theorem bodyF_ap (n : Nat) (body : SV) (args : List RV) : bodyF n body args W = outF (body ⟨args.map toSlot ++ List.replicate (n - args.length) .no, W⟩) := nr rfl
@[simp] theorem toSlot_pv : toSlot (.pv d) = .pv d := nr rfl
@[simp] theorem toSlot_lc : toSlot (.lc i) = .lc i := nr rfl
@[simp] theorem outF_pv : outF (.ok (.rt (.pv d)) s) = .ok (.pv d) s.W := nr rfl
@[simp] theorem outF_ow : outF (.ok (.rt (.ow ds)) s) = .ok (.ow ds) s.W := nr rfl
@[simp] theorem outF_lc : outF (.ok (.rt (.lc i)) s) = .ok (.lc i) s.W := nr rfl
@[simp] theorem outF_nx : outF (.ok .nx s) = .ok (.pv .non) s.W := nr rfl
@[simp] theorem outF_err (c : Str) : outF (.err c s) = .err c s.W := nr rfl
/-! operators -/
variable {x y : Int} {p q : Bool} {z v : Str} {es : List D}
@[simp] theorem gd_ap (c : Bool) (r : Option RV) : gd c r = if c = true then r else none := nr rfl
@[simp] theorem pI_ap : pI x = some (.pv (.int x)) := nr rfl
@[simp] theorem pB_ap : pB p = some (.pv (.bl p)) := nr rfl
@[simp] theorem oB_some' : oB (some p) = some (.pv (.bl p)) := nr rfl
@[simp] theorem oB_none : oB none = none := nr rfl
@[simp] theorem add_ii : addD (.int x) (.int y) = pI (x + y) := nr rfl
@[simp] theorem add_tt : addD (.tup ds) (.tup es) = gd (decide (ds.length + es.length ≤ sizeLine)) (some (.pv (.tup (ds ++ es)))) := nr rfl
@[simp] theorem add_ll : addD (.lst ds) (.lst es) = gd (decide (ds.length + es.length ≤ sizeLine)) (some (.ow (ds ++ es))) := nr rfl
@[simp] theorem add_ss : addD (.str z) (.str v) = gd (decide (z.length + v.length ≤ sizeLine)) (some (.pv (.str (z ++ v)))) := nr rfl
@[simp] theorem add_ib : addD (.int x) (.bl p) = pI (x + b2i p) := nr rfl
@[simp] theorem sub_ii : subD (.int x) (.int y) = pI (x - y) := nr rfl
@[simp] theorem mul_ii : mulD (.int x) (.int y) = gd (mulOk x y) (pI (x * y)) := nr rfl
@[simp] theorem mul_li : mulD (.lst ds) (.int y) = gd (decide (-(2 ^ 63) ≤ y ∧ y < 2 ^ 63 ∧ ds.length * y.toNat ≤ sizeLine)) (some (.ow (List.replicate y.toNat ds).flatten)) := nr rfl
@[simp] theorem mul_ti : mulD (.tup ds) (.int y) = if y = 1 then some (.pv (.tup ds)) else gd (decide (ds ≠ [] ∧ 2 ≤ y ∧ y ≤ 1000 ∧ ds.length ≤ 1000)) (some (.pv (.tup (List.replicate y.toNat ds).flatten))) := nr rfl
@[simp] theorem fdiv_ii : fdivD (.int x) (.int y) = gd (decide (0 < y ∧ y.natAbs.log2 < 9000)) (pI (x / y)) := nr rfl
@[simp] theorem mod_ii : modD (.int x) (.int y) = gd (decide (0 < y)) (pI (x % y)) := nr rfl
@[simp] theorem pow_ii : powD (.int x) (.int y) = gd (decide (0 ≤ y ∧ y ≤ 1000000 ∧ x.natAbs < 2 ^ 64)) (pI (x ^ y.toNat)) := nr rfl
@[simp] theorem shl_ii : shlD (.int x) (.int y) = gd (decide (0 ≤ y ∧ y ≤ 1000000 ∧ x.natAbs < 2 ^ 64)) (pI (x * 2 ^ y.toNat)) := nr rfl
@[simp] theorem shr_ii : shrD (.int x) (.int y) = gd (decide (0 ≤ y)) (pI (x / 2 ^ y.toNat)) := nr rfl
@[simp] theorem and_ii : andD (.int x) (.int y) = pI (Builtin.bitAnd x y) := nr rfl
@[simp] theorem or_ii : orD (.int x) (.int y) = pI (Builtin.bitOr x y) := nr rfl
@[simp] theorem xor_ii : xorD (.int x) (.int y) = pI (Builtin.bitXor x y) := nr rfl
@[simp] theorem neg_i : negD (.int x) = pI (-x) := nr rfl
@[simp] theorem lt_ii : ltC (.int x) (.int y) = pB (decide (x < y)) := nr rfl
@[simp] theorem le_ss (u z : Str) : leC (.str u) (.str z) = pB (!decide (z.cps.toList < u.cps.toList)) := nr rfl
@[simp] theorem gt_ss (u z : Str) : gtC (.str u) (.str z) = pB (decide (z.cps.toList < u.cps.toList)) := nr rfl
@[simp] theorem ge_ss (u z : Str) : geC (.str u) (.str z) = pB (!decide (u.cps.toList < z.cps.toList)) := nr rfl
@[simp] theorem le_ii : leC (.int x) (.int y) = pB (decide (x ≤ y)) := nr rfl
@[simp] theorem gt_ii : gtC (.int x) (.int y) = pB (decide (y < x)) := nr rfl
@[simp] theorem ge_ii : geC (.int x) (.int y) = pB (decide (y ≤ x)) := nr rfl
@[simp] theorem eqC_ap (a b : D) : eqC a b = oB (eqO a b) := nr rfl
@[simp] theorem neC_ap (a b : D) : neC a b = oB ((eqO a b).map not) := nr rfl
@[simp] theorem eqO_ii : eqO (.int x) (.int y) = some (x == y) := nr rfl
@[simp] theorem eqO_ss : eqO (.str z) (.str v) = some (z == v) := nr rfl
@[simp] theorem inC_ap (a b : D) : inC a b = oB (inO a b) := nr rfl
@[simp] theorem niC_ap (a b : D) : niC a b = oB ((inO a b).map not) := nr rfl
@[simp] theorem isC_ap (a b : D) : isC a b = oB (isO a b) := nr rfl
@[simp] theorem isnC_ap (a b : D) : isnC a b = oB ((isO a b).map not) := nr rfl
@[simp] theorem isO_non (a : D) : isO a .non = some (match a with | .non => true | _ => false) := nr rfl
@[simp] theorem isO_bl (a : D) : isO a (.bl p) = some (match a with | .bl d => d == p | _ => false) := nr rfl
@[simp] theorem tru_non : truD .non = some false := nr rfl
@[simp] theorem tru_bl : truD (.bl p) = some p := nr rfl
@[simp] theorem tru_int : truD (.int x) = some (x != 0) := nr rfl
@[simp] theorem tru_tup : truD (.tup ds) = some (!ds.isEmpty) := nr rfl
@[simp] theorem tru_lst : truD (.lst ds) = some (!ds.isEmpty) := nr rfl
@[simp] theorem notD_ap (a : D) : notD a = (truD a).map fun b => .pv (.bl (!b)) := nr rfl
@[simp] theorem len_tup : lenD (.tup ds) = pI ds.length := nr rfl
@[simp] theorem len_lst : lenD (.lst ds) = pI ds.length := nr rfl
@[simp] theorem len_scr : lenD (.scr ds) = pI ds.length := nr rfl
@[simp] theorem len_str : lenD (.str z) = gd (decide (z.length ≤ sizeLine)) (pI z.length) := nr rfl
@[simp] theorem abs_int : absD (.int x) = pI (if x < 0 then -x else x) := nr rfl
@[simp] theorem int_int : intD (.int x) = pI x := nr rfl
@[simp] theorem int_bl : intD (.bl p) = pI (if p then 1 else 0) := nr rfl
@[simp] theorem bool_int : boolD (.int x) = pB (x != 0) := nr rfl
@[simp] theorem bool_bl : boolD (.bl p) = pB p := nr rfl
@[simp] theorem list_ap (a : D) : listD a = (seqD a).map .ow := nr rfl
@[simp] theorem tuple_tup : tupleD (.tup ds) = some (.pv (.tup ds)) := nr rfl
@[simp] theorem tuple_lst : tupleD (.lst ds) = some (.pv (.tup ds)) := nr rfl
@[simp] theorem tuple_scr : tupleD (.scr ds) = some (.pv (.tup ds)) := nr rfl
@[simp] theorem rev_lst : revD (.lst ds) = some (.ow ds.reverse) := nr rfl
@[simp] theorem tupRev_lst : tupRevD (.lst ds) = some (.pv (.tup ds.reverse)) := nr rfl
@[simp] theorem augAdd_ii : augAdd (.int x) (.int y) = pI (x + y) := nr rfl
@[simp] theorem augSub_ii : augSub (.int x) (.int y) = pI (x - y) := nr rfl
@[simp] theorem max2_ii : max2D (.int x) (.int y) = pI (if y > x then y else x) := nr rfl
@[simp] theorem min2_ii : min2D (.int x) (.int y) = pI (if y < x then y else x) := nr rfl
@[simp] theorem ix_tup : ixD (.tup ds) (.int x) = (atI ds x).map .pv := nr rfl
@[simp] theorem ix_lst : ixD (.lst ds) (.int x) = (atI ds x).map .pv := nr rfl
@[simp] theorem ix_scr : ixD (.scr ds) (.int x) = (atI ds x).map .pv := nr rfl
variable {lo hi : Option Int}
@[simp] theorem sl_tup : slD (.tup ds) lo hi = some (.pv (.tup (cutL ds lo hi))) := nr rfl
@[simp] theorem sl_lst : slD (.lst ds) lo hi = some (.ow (cutL ds lo hi)) := nr rfl
@[simp] theorem sl_scr : slD (.scr ds) lo hi = some (.ow (cutL ds lo hi)) := nr rfl
def tyIs (T : String) (d : D) : Bool := match tyN d with | some n => isB n T | none => false
theorem isiD_pl {T n : String} (h : tyN d = some n) : isiD T d = some (.pv (.bl (isB n T))) := by unfold isiD; rw [h]; rfl
end
end DL
namespace DL
open PySem PySem.Spec PyProof.Rows L2
/-! ### what a run ends in -/
def Tri {α : Type} (x : Rs α) (Q : α → S → Prop) : Prop := match x with
  | .ok a s => Q a s
  | _ => False
section
variable {α β : Type} {s : S} {Q Q' : α → S → Prop}
@[simp] theorem tri_ok (a : α) : Tri (.ok a s) Q ↔ Q a s := Iff.rfl
@[simp] theorem tri_err (c : Str) : Tri (.err c s) Q ↔ False := Iff.rfl
@[simp] theorem tri_bad : Tri .bad Q ↔ False := Iff.rfl
theorem tri_bind {x : Rs α} {k : α → S → Rs β} {Q : β → S → Prop} : Tri (x.bind k) Q ↔ Tri x fun a s => Tri (k a s) Q := by cases x <;> exact Iff.rfl
theorem Tri.mono {x : Rs α} (h : Tri x Q) (q : ∀ a s, Q a s → Q' a s) : Tri x Q' := by
  cases x with
  | ok a s => exact q a s h
  | err _ _ => exact h
  | bad => exact h
theorem Tri.ex {x : Rs α} (h : Tri x Q) : ∃ a s, x = .ok a s ∧ Q a s := by
  cases x with
  | ok a s => exact ⟨a, s, rfl, h⟩
  | err _ _ => exact h.elim
  | bad => exact h.elim
/-- the same of a def -/
def TriF (x : Rf) (Q : RV → List (List D) → Prop) : Prop := match x with
  | .ok r W => Q r W
  | _ => False
@[simp] theorem triF_ok (r : RV) (W : List (List D)) (Q : RV → List (List D) → Prop) : TriF (.ok r W) Q ↔ Q r W := Iff.rfl
theorem TriF.ex {x : Rf} {Q : RV → List (List D) → Prop} (h : TriF x Q) : ∃ r W, x = .ok r W ∧ Q r W := by
  cases x with
  | ok r W => exact ⟨r, W, rfl, h⟩
  | err _ _ => exact h.elim
  | bad => exact h.elim
theorem TriF.mono {x : Rf} {Q Q' : RV → List (List D) → Prop} (h : TriF x Q) (q : ∀ r W, Q r W → Q' r W) : TriF x Q' := by
  cases x with
  | ok r W => exact q r W h
  | err _ _ => exact h.elim
  | bad => exact h.elim
theorem triF_out {x : Rs Fl} {Q : RV → List (List D) → Prop} (h : Tri x fun fl s => match fl with
    | .rt (.pv d) => Q (.pv d) s.W
    | .rt (.ow d) => Q (.ow d) s.W
    | .rt (.lc d) => Q (.lc d) s.W
    | .nx => Q (.pv .non) s.W
    | _ => False) : TriF (outF x) Q := by
  cases x with
  | err _ _ => exact h.elim
  | bad => exact h.elim
  | ok fl s =>
    cases fl with
    | nx => exact h
    | bk => exact h.elim
    | ct => exact h.elim
    | rt r =>
      cases r with
      | pv _ => exact h
      | ow _ => exact h
      | lc _ => exact h
      | vr _ => exact h.elim
theorem tri_call {F : Fn} {args : List RV} {Q : RV → S → Prop} (h : TriF (F args s.W) fun r W' => Q r { s with W := W' }) : Tri (match F args s.W with
  | .ok r W' => Rs.ok r { s with W := W' }
  | .err c W' => .err c { s with W := W' }
  | .bad => .bad) Q := by
  obtain ⟨r, W', e, q⟩ := h.ex
  rw [e]; exact q
/-! loops -/
/-- a loop by an invariant over what is left of its items -/
theorem loopD_inv {g : GV} {body : SV} (I : List D → S → Prop) {Q : Fl → S → Prop} (hs : ∀ d ds s, I (d :: ds) s → Tri (g (.pv d) s) fun _ s1 => Tri (body s1) fun fl s2 => match fl with
    | .nx => I ds s2
    | .ct => I ds s2
    | .bk => Q .nx s2
    | .rt r => Q (.rt r) s2) (hn : ∀ s, I [] s → Q .nx s) : ∀ ds s, I ds s → Tri (loopD g body ds s) Q
  | [], s, h => hn s h
  | d :: ds, s, h => by
    rw [loopD_cons, tri_bind]
    refine (hs d ds s h).mono fun _ s1 h1 => ?_
    rw [tri_bind]
    refine Tri.mono h1 fun fl s2 h2 => ?_
    cases fl with
    | nx => exact loopD_inv I hs hn ds s2 h2
    | ct => exact loopD_inv I hs hn ds s2 h2
    | bk => exact h2
    | rt r => exact h2
/-- a comprehension by an invariant over what is left and what is gathered -/
theorem loopC_inv {vs : List Nat} {g : GV} {t : TV} {fe : EV} (I : List D → List D → S → Prop) {Q : List D → S → Prop}
    (hs : ∀ d ds acc s, I (d :: ds) acc s → Tri (g (.pv d) s) fun _ s1 => Tri (t s1) fun b s2 => if b = true then Tri (fe s2) fun r s3 => Tri (fzR r s3) fun y s4 => acc.length < sizeLine ∧ I ds (acc ++ [y]) { s4 with η := wipeN s4.η vs } else I ds acc { s2 with η := wipeN s2.η vs })
    (hn : ∀ acc s, I [] acc s → Q acc s) : ∀ ds acc s, I ds acc s → Tri (loopC vs g t fe ds acc s) Q
  | [], acc, s, h => hn acc s h
  | d :: ds, acc, s, h => by
    unfold loopC
    rw [tri_bind]
    refine (hs d ds acc s h).mono fun _ s1 h1 => ?_
    rw [tri_bind]
    refine Tri.mono h1 fun b s2 h2 => ?_
    cases b with
    | true =>
      rw [if_pos rfl] at h2 ⊢
      rw [tri_bind]
      refine Tri.mono h2 fun r s3 h3 => ?_
      rw [tri_bind]
      refine Tri.mono h3 fun y s4 h4 => ?_
      rw [if_pos h4.1]
      exact loopC_inv I hs hn ds _ _ h4.2
    | false =>
      rw [if_neg (by decide)] at h2 ⊢
      exact loopC_inv I hs hn ds acc _ h2
theorem tri_noErr {x : Rs α} (h : Tri x Q) : Tri (noErr x) Q := by
  cases x <;> exact h
/-- a while by an invariant and a measure -/
theorem loopW_inv {t : TV} {body : SV} (I : Nat → S → Prop) {Q : Fl → S → Prop} (hs : ∀ m s, I m s → Tri (t s) fun b s1 => if b = true then Tri (body s1) fun fl s2 => match fl with
    | .nx => ∃ m', m' < m ∧ I m' s2
    | .ct => ∃ m', m' < m ∧ I m' s2
    | .bk => Q .nx s2
    | .rt r => Q (.rt r) s2 else Q .nx s1) : ∀ n m s, m < n → I m s → Tri (loopW t body n s) Q
  | 0, m, s, hm, _ => by omega
  | n + 1, m, s, hm, h => by
    unfold loopW
    rw [tri_bind]
    refine (hs m s h).mono fun b s1 h1 => ?_
    cases b with
    | true =>
      rw [if_pos rfl] at h1 ⊢
      rw [tri_bind]
      refine Tri.mono h1 fun fl s2 h2 => ?_
      cases fl with
      | nx => obtain ⟨m', h3, h4⟩ := h2; exact loopW_inv I hs n m' s2 (by omega) h4
      | ct => obtain ⟨m', h3, h4⟩ := h2; exact loopW_inv I hs n m' s2 (by omega) h4
      | bk => exact h2
      | rt r => exact h2
    | false => rw [if_neg (by decide)] at h1 ⊢; exact h1
end
theorem rng_len (lo hi : Int) : (rngD lo hi).length = (hi - lo).toNat := by rw [rngD_eq]; simp
/-! ### data -/
section
/-- rows of ints -/
abbrev dI (ns : List Int) : List D := ns.map .int
abbrev tI_ (ns : List Int) : D := .tup (ns.map .int)
theorem atI_get {α : Type} {xs : List α} {i : Int} {v : α} (h0 : 0 ≤ i) (h : xs[i.toNat]? = some v) : atI xs i = some v := by
  have := atI_nat h
  rwa [Int.toNat_of_nonneg h0] at this
theorem atI_map {α β : Type} (f : α → β) (xs : List α) (i : Int) : atI (xs.map f) i = (atI xs i).map f := by
  unfold atI
  rw [List.length_map]
  cases ixN xs.length i with
  | none => rfl
  | some j => simp
theorem sIx_of {n d : Nat} {v : Int} (h : 0 ≤ v) : HT.sIx n d (some v) = min v.toNat n := by
  show (if v < 0 then (v + (n : Int)).toNat else min v.toNat n) = _
  rw [if_neg (by omega)]
theorem cutL_nn {α : Type} {xs : List α} {a b : Int} (ha : 0 ≤ a) (hb : 0 ≤ b) : cutL xs (some a) (some b) = (xs.drop a.toNat).take (b.toNat - a.toNat) := by
  unfold cutL
  rw [sIx_of ha, sIx_of hb]
  by_cases h : a.toNat ≤ xs.length
  · rw [Nat.min_eq_left h]
    by_cases h2 : b.toNat ≤ xs.length
    · rw [Nat.min_eq_left h2]
    · rw [show min b.toNat xs.length = xs.length by omega, List.take_of_length_le (by simp), List.take_of_length_le (by simp; omega)]
  · rw [show min a.toNat xs.length = xs.length by omega, List.drop_length, List.drop_eq_nil_of_le (by omega)]; simp
theorem cutL_lo {α : Type} {xs : List α} {a : Int} (ha : 0 ≤ a) : cutL xs (some a) none = xs.drop a.toNat := by
  unfold cutL
  rw [sIx_of ha]
  show ((xs.drop _).take (xs.length - _)) = _
  by_cases h : a.toNat ≤ xs.length
  · rw [Nat.min_eq_left h, List.take_of_length_le (by simp)]
  · rw [show min a.toNat xs.length = xs.length by omega, List.drop_length, List.drop_eq_nil_of_le (by omega)]; simp
theorem cutL_hi {α : Type} {xs : List α} {b : Int} (hb : 0 ≤ b) : cutL xs none (some b) = xs.take b.toNat := by
  unfold cutL
  rw [sIx_of hb]
  show ((xs.drop 0).take (_ - 0)) = _
  simp only [List.drop_zero, Nat.sub_zero]
  by_cases h : b.toNat ≤ xs.length
  · rw [Nat.min_eq_left h]
  · rw [show min b.toNat xs.length = xs.length by omega, List.take_of_length_le (by omega), List.take_of_length_le (by omega)]
theorem cutL_map {α β : Type} (f : α → β) (xs : List α) (lo hi : Option Int) : cutL (xs.map f) lo hi = (cutL xs lo hi).map f := by
  unfold cutL; simp [List.map_take, List.map_drop]
theorem cutL_len {α : Type} (xs : List α) (lo hi : Option Int) : (cutL xs lo hi).length ≤ xs.length := by
  unfold cutL; simp; omega
@[simp] theorem lg_small {n : Nat} (h : n < 18446744073709551616) : (n.log2 < 9000) = True := by
  have : n.log2 < 64 := by
    by_cases e : n = 0
    · subst e; decide
    · exact (Nat.log2_lt e).mpr h
  exact eq_true (by omega)
section
variable {α : Type} {a b c d e : α} {xs : List α}
@[simp] theorem atI_0 : atI (a :: xs) 0 = some a := atI_get (by decide) rfl
@[simp] theorem atI_1 : atI (a :: b :: xs) 1 = some b := atI_get (by decide) rfl
@[simp] theorem atI_2 : atI (a :: b :: c :: xs) 2 = some c := atI_get (by decide) rfl
@[simp] theorem atI_3 : atI (a :: b :: c :: d :: xs) 3 = some d := atI_get (by decide) rfl
@[simp] theorem atI_4 : atI (a :: b :: c :: d :: e :: xs) 4 = some e := atI_get (by decide) rfl
end
/-! equality -/
theorem canAll_ints (ns : List Int) : PyData.canLayAll0 (pyDs (ns.map .int)) = true := by
  induction ns with
  | nil => simp [pyDs, PyData.canLayAll0]
  | cons n ns ih => simp [pyDs, pyD, PyData.canLayAll0, PyData.canLay0, ih]
theorem depth_ints (ns : List Int) : PyData.depthAll (pyDs (ns.map .int)) ≤ 1 := by
  induction ns with
  | nil => simp [pyDs, PyData.depthAll]
  | cons n ns ih => simp only [List.map_cons, pyDs, pyD, PyData.depthAll, PyData.depth]; omega
theorem eqv_ints (ns ms : List Int) : PyData.eqvAll (pyDs (ns.map .int)) (pyDs (ms.map .int)) = decide (ns = ms) := by
  induction ns generalizing ms with
  | nil => cases ms <;> simp [pyDs, PyData.eqvAll]
  | cons n ns ih => cases ms with
    | nil => simp [pyDs, PyData.eqvAll]
    | cons m ms => simp [pyDs, pyD, PyData.eqvAll, PyData.eqv, ih]; by_cases h : n = m <;> simp [h]
theorem okE_ints (ns : List Int) : okE (.tup (ns.map .int)) = true := by
  have := depth_ints ns
  unfold okE SeqAt.shaped
  simp [pyD, PyData.canLay0, canAll_ints, PyData.depth]; omega
theorem okE_lints (ns : List Int) : okE (.lst (ns.map .int)) = true := by
  have := depth_ints ns
  unfold okE SeqAt.shaped
  simp [pyD, PyData.canLay0, canAll_ints, PyData.depth]; omega
theorem eqO_tt (ns ms : List Int) : eqO (.tup (ns.map .int)) (.tup (ms.map .int)) = some (decide (ns = ms)) := by
  unfold eqO
  simp only [okE_ints, Bool.and_self, if_true]
  unfold eqD
  simp [pyD, PyData.eqv, eqv_ints]
theorem bO_tf (a b : Bool) : eqO (.bl a) (.bl b) = some (a == b) := by cases a <;> cases b <;> decide
@[simp] theorem isi_non_int : isi2 .non (.ty "int") = some (.pv (.bl false)) := nr rfl
@[simp] theorem isi_non_bool : isi2 .non (.ty "bool") = some (.pv (.bl false)) := nr rfl
@[simp] theorem isi_non_str : isi2 .non (.ty "str") = some (.pv (.bl false)) := nr rfl
@[simp] theorem isi_non_tuple : isi2 .non (.ty "tuple") = some (.pv (.bl false)) := nr rfl
@[simp] theorem isi_non_list : isi2 .non (.ty "list") = some (.pv (.bl false)) := nr rfl
@[simp] theorem isi_non_dict : isi2 .non (.ty "dict") = some (.pv (.bl false)) := nr rfl
@[simp] theorem isi_bool_int {b : Bool} : isi2 (.bl b) (.ty "int") = some (.pv (.bl true)) := nr rfl
@[simp] theorem isi_bool_bool {b : Bool} : isi2 (.bl b) (.ty "bool") = some (.pv (.bl true)) := nr rfl
@[simp] theorem isi_bool_str {b : Bool} : isi2 (.bl b) (.ty "str") = some (.pv (.bl false)) := nr rfl
@[simp] theorem isi_bool_tuple {b : Bool} : isi2 (.bl b) (.ty "tuple") = some (.pv (.bl false)) := nr rfl
@[simp] theorem isi_bool_list {b : Bool} : isi2 (.bl b) (.ty "list") = some (.pv (.bl false)) := nr rfl
@[simp] theorem isi_bool_dict {b : Bool} : isi2 (.bl b) (.ty "dict") = some (.pv (.bl false)) := nr rfl
@[simp] theorem isi_int_int {i : Int} : isi2 (.int i) (.ty "int") = some (.pv (.bl true)) := nr rfl
@[simp] theorem isi_int_bool {i : Int} : isi2 (.int i) (.ty "bool") = some (.pv (.bl false)) := nr rfl
@[simp] theorem isi_int_str {i : Int} : isi2 (.int i) (.ty "str") = some (.pv (.bl false)) := nr rfl
@[simp] theorem isi_int_tuple {i : Int} : isi2 (.int i) (.ty "tuple") = some (.pv (.bl false)) := nr rfl
@[simp] theorem isi_int_list {i : Int} : isi2 (.int i) (.ty "list") = some (.pv (.bl false)) := nr rfl
@[simp] theorem isi_int_dict {i : Int} : isi2 (.int i) (.ty "dict") = some (.pv (.bl false)) := nr rfl
@[simp] theorem isi_str_int {z : Str} : isi2 (.str z) (.ty "int") = some (.pv (.bl false)) := nr rfl
@[simp] theorem isi_str_bool {z : Str} : isi2 (.str z) (.ty "bool") = some (.pv (.bl false)) := nr rfl
@[simp] theorem isi_str_str {z : Str} : isi2 (.str z) (.ty "str") = some (.pv (.bl true)) := nr rfl
@[simp] theorem isi_str_tuple {z : Str} : isi2 (.str z) (.ty "tuple") = some (.pv (.bl false)) := nr rfl
@[simp] theorem isi_str_list {z : Str} : isi2 (.str z) (.ty "list") = some (.pv (.bl false)) := nr rfl
@[simp] theorem isi_str_dict {z : Str} : isi2 (.str z) (.ty "dict") = some (.pv (.bl false)) := nr rfl
@[simp] theorem isi_tuple_int {xs : List D} : isi2 (.tup xs) (.ty "int") = some (.pv (.bl false)) := nr rfl
@[simp] theorem isi_tuple_bool {xs : List D} : isi2 (.tup xs) (.ty "bool") = some (.pv (.bl false)) := nr rfl
@[simp] theorem isi_tuple_str {xs : List D} : isi2 (.tup xs) (.ty "str") = some (.pv (.bl false)) := nr rfl
@[simp] theorem isi_tuple_tuple {xs : List D} : isi2 (.tup xs) (.ty "tuple") = some (.pv (.bl true)) := nr rfl
@[simp] theorem isi_tuple_list {xs : List D} : isi2 (.tup xs) (.ty "list") = some (.pv (.bl false)) := nr rfl
@[simp] theorem isi_tuple_dict {xs : List D} : isi2 (.tup xs) (.ty "dict") = some (.pv (.bl false)) := nr rfl
@[simp] theorem isi_list_int {xs : List D} : isi2 (.lst xs) (.ty "int") = some (.pv (.bl false)) := nr rfl
@[simp] theorem isi_list_bool {xs : List D} : isi2 (.lst xs) (.ty "bool") = some (.pv (.bl false)) := nr rfl
@[simp] theorem isi_list_str {xs : List D} : isi2 (.lst xs) (.ty "str") = some (.pv (.bl false)) := nr rfl
@[simp] theorem isi_list_tuple {xs : List D} : isi2 (.lst xs) (.ty "tuple") = some (.pv (.bl false)) := nr rfl
@[simp] theorem isi_list_list {xs : List D} : isi2 (.lst xs) (.ty "list") = some (.pv (.bl true)) := nr rfl
@[simp] theorem isi_list_dict {xs : List D} : isi2 (.lst xs) (.ty "dict") = some (.pv (.bl false)) := nr rfl
@[simp] theorem isi_scr_int {xs : List D} : isi2 (.scr xs) (.ty "int") = some (.pv (.bl false)) := nr rfl
@[simp] theorem isi_scr_bool {xs : List D} : isi2 (.scr xs) (.ty "bool") = some (.pv (.bl false)) := nr rfl
@[simp] theorem isi_scr_str {xs : List D} : isi2 (.scr xs) (.ty "str") = some (.pv (.bl false)) := nr rfl
@[simp] theorem isi_scr_tuple {xs : List D} : isi2 (.scr xs) (.ty "tuple") = some (.pv (.bl false)) := nr rfl
@[simp] theorem isi_scr_list {xs : List D} : isi2 (.scr xs) (.ty "list") = some (.pv (.bl true)) := nr rfl
@[simp] theorem isi_scr_dict {xs : List D} : isi2 (.scr xs) (.ty "dict") = some (.pv (.bl false)) := nr rfl
@[simp] theorem isi_dict_int {xs : List (Key × D)} : isi2 (.dK xs) (.ty "int") = some (.pv (.bl false)) := nr rfl
@[simp] theorem isi_dict_bool {xs : List (Key × D)} : isi2 (.dK xs) (.ty "bool") = some (.pv (.bl false)) := nr rfl
@[simp] theorem isi_dict_str {xs : List (Key × D)} : isi2 (.dK xs) (.ty "str") = some (.pv (.bl false)) := nr rfl
@[simp] theorem isi_dict_tuple {xs : List (Key × D)} : isi2 (.dK xs) (.ty "tuple") = some (.pv (.bl false)) := nr rfl
@[simp] theorem isi_dict_list {xs : List (Key × D)} : isi2 (.dK xs) (.ty "list") = some (.pv (.bl false)) := nr rfl
@[simp] theorem isi_dict_dict {xs : List (Key × D)} : isi2 (.dK xs) (.ty "dict") = some (.pv (.bl true)) := nr rfl
/-- a def is run -/
theorem run_def {m n : Nat} {body : SV} {args : List RV} {W : List (List D)} {x r : Rf} (hf : x = defF m n body args W) (h : args.length = m) (e : outF (body ⟨args.map toSlot ++ List.replicate (n - args.length) .no, W⟩) = r) : x = r := by
  rw [hf, defF_ap, if_pos h]; exact e
end
end DL
namespace DL
open PySem PySem.Spec PyProof.Rows L2
section
variable {st : Bool} {vs : List Nat} {g : GV} {t : TV} {fe : EV} {s : S} {d : D} {ds : List D} {it : IV}
@[simp] theorem eAgg_ap : eAgg st vs it g t fe s = (it s).bind fun ds s1 => if noOwn s1.η vs = true then (noErr (loopA st vs g t fe ds { s1 with η := wipeN s1.η vs })).bind fun b s2 => .ok (.pv (.bl b)) { s2 with η := restN s1.η s2.η vs } else .bad := nr rfl
@[simp] theorem loopA_nil : loopA st vs g t fe [] s = .ok (!st) s := nr rfl
theorem loopA_cons : loopA st vs g t fe (d :: ds) s = (g (.pv d) s).bind fun _ s1 => (t s1).bind fun b s2 => if b = true then (fe s2).bind fun r s3 => (toB r s3).bind fun c s4 => if c = st then .ok st { s4 with η := wipeN s4.η vs } else loopA st vs g t fe ds { s4 with η := wipeN s4.η vs }
    else loopA st vs g t fe ds { s2 with η := wipeN s2.η vs } := nr rfl
end
/-- kinds of data that the type questions answer -/
def Nice : D → Prop
  | .int _ | .bl _ | .non | .str _ | .tup _ | .lst _ | .scr _ => True
  | _ => False
/-- an int from a to b -/
def inB (a b : Int) : D → Bool
  | .int i => decide (a ≤ i ∧ i ≤ b)
  | _ => false
end DL
namespace DL
open PySem PySem.Spec PyProof.Rows L2
section
variable {s : S} {i : Nat} {f : SV} {g : Str → SV} {kt : Str → Option Bool} {nm y : Str} {T : Str → Str → Option Bool} {F : Str → List (List D) → Rf} {η : List Slot} {W : List (List D)} {fa fb fe : EV} {f2 : Ob2} {n : Nat} {gs : GVs}
@[simp] theorem sRaise_ap : sRaise nm s = .err nm s := nr rfl
theorem sTry_ap : sTry kt i f g s = match f s with
  | .ok fl s' => .ok fl s'
  | .err nm s' => match kt nm with
    | some true => if i < s'.η.length then match g nm { s' with η := (s'.η.map clr).set i .ex } with
      | .ok fl s2 => .ok fl { s2 with η := (s2.η.map clr).set i .no }
      | _ => .bad else .bad
    | some false => .err nm s'
    | none => .bad
  | .bad => .bad := nr rfl
theorem sTry_ok {fl : Fl} {s' : S} (h : f s = .ok fl s') : sTry kt i f g s = .ok fl s' := by rw [sTry_ap, h]
theorem sTry_err {s' : S} (h : f s = .err nm s') (hk : kt nm = some true) (hi : i < s'.η.length) {fl : Fl} {s2 : S} (hg : g nm { s' with η := (s'.η.map clr).set i .ex } = .ok fl s2) : sTry kt i f g s = .ok fl { s2 with η := (s2.η.map clr).set i .no } := by
  rw [sTry_ap, h]
  simp only [hk, hi, if_true, hg]
@[simp] theorem eIsX_ap : eIsX T i nm y ⟨η, W⟩ = match η[i]? with
  | some .ex => match T nm y with
    | some b => .ok (.pv (.bl b)) ⟨η, W⟩
    | none => .bad
  | _ => .bad := nr rfl
@[simp] theorem eCallX_ap : eCallX i F nm ⟨η, W⟩ = match η[i]? with
  | some .ex => eCall (fun _ W => F nm W) aNil ⟨η, W⟩
  | _ => .bad := nr rfl
@[simp] theorem iOfL_ap : iOfL fe s = (fe s).bind fun r s1 => match fz r s1 with
  | some (.lst xs, s2) => .ok xs s2
  | some (.scr xs, s2) => .ok xs s2
  | _ => .bad := nr rfl
@[simp] theorem gTupH_ap (r : RV) : gTupH n gs r s = match rd r s with
  | some (.tup ds) => if ds.length = n then gs ds s else .bad
  | _ => .bad := nr rfl
@[simp] theorem eM1_ap : eM1 f2 fa fb s = (fa s).bind fun ra s1 => match (rd ra s1).bind lsD with
  | some _ => (fb s1).bind fun rb s2 => fin2 f2 ra rb s2
  | none => .bad := nr rfl
@[simp] theorem lsD_lst (xs : List D) : lsD (.lst xs) = some xs := nr rfl
@[simp] theorem lsD_scr (xs : List D) : lsD (.scr xs) = some xs := nr rfl
@[simp] theorem iZipE_ap (f : AV) : iZipE f s = (f s).bind fun rs s1 => match rs with
  | [.pv (.tup xs), .pv (.tup ys)] => .ok (zipD xs ys) s1
  | [.pv (.lst xs), .pv (.lst ys)] => .ok (zipD xs ys) s1
  | [.pv (.lst xs), .pv (.tup ys)] => .ok (zipD xs ys) s1
  | _ => .bad := nr rfl
@[simp] theorem sBad_ap : sBad s = .bad := nr rfl
end
end DL
namespace DL
open PySem PySem.Spec PyProof.Rows L2
section
variable {f f1 f2 f3 : Ob2} {fa fb fc fd : EV} {s : S} {i j : Int} {next : Int → S → Rs RV}
@[simp] theorem eChain3_ap : eChain3 f1 f2 f3 fa fb fc fd s = (fa s).bind fun ra s1 => (fb s1).bind fun rb s2 => lk f1 ra rb s2 fun y s3 => (fc s3).bind fun rc s4 => lk f2 (.pv (.int y)) rc s4 fun w s5 => (fd s5).bind fun rd s6 => fin2 f3 (.pv (.int w)) rd s6 := nr rfl
@[simp] theorem lk_ap : lk f (.pv (.int i)) (.pv (.int j)) s next = match f (.int i) (.int j) with
  | some (.pv (.bl true)) => next j s
  | some (.pv (.bl false)) => .ok (.pv (.bl false)) s
  | _ => .bad := nr rfl
end
/-! ### a dict of one's own -/
section
variable {s : S} {fe fk fv : EV} {i : Nat} {η : List Slot} {W : List (List D)}
@[simp] theorem sNewD_ap : sNewD i ⟨η, W⟩ = if i < η.length then .ok .nx ⟨η.set i (.od []), W⟩ else .bad := nr rfl
@[simp] theorem odAt_ap : odAt i ⟨η, W⟩ = match η[i]? with
  | some (.od kvs) => some kvs
  | _ => none := nr rfl
@[simp] theorem eDin_ap (neg : Bool) : eDin neg i fe s = (fe s).bind fun r s1 => match odAt i s1, (rd r s1).bind keyD with
  | some kvs, some k => .ok (.pv (.bl ((valD kvs k).isSome != neg))) s1
  | _, _ => .bad := nr rfl
@[simp] theorem eDget_ap : eDget i fe s = match odAt i s with
  | some _ => (fe s).bind fun r s1 => match odAt i s1, (rd r s1).bind keyD with
    | some kvs, some k => match valD kvs k with
      | some d => .ok (.pv d) s1
      | none => .bad
    | _, _ => .bad
  | none => .bad := nr rfl
@[simp] theorem sDput_ap : sDput i fk fv s = (fv s).bind fun rv s1 => (fzR rv s1).bind fun y s2 => match odAt i s2 with
  | some _ => (fk s2).bind fun rk s3 => match odAt i s3, (rd rk s3).bind keyD with
    | some kvs, some k => if kvs.length < sizeLine then .ok .nx { s3 with η := s3.η.set i (.od (putD kvs k y)) } else .bad
    | _, _ => .bad
  | none => .bad := nr rfl
@[simp] theorem keyD_int (i : Int) : keyD (.int i) = some (.inl i) := nr rfl
@[simp] theorem keyD_str (x : Str) : keyD (.str x) = some (.inr x) := nr rfl
end
/-! ### rows turned round -/
theorem fm_congr {α β : Type} {f g : α → Option β} : ∀ {l : List α}, (∀ x ∈ l, f x = g x) → l.filterMap f = l.filterMap g
  | [], _ => rfl
  | x :: l, h => by
    rw [List.filterMap_cons, List.filterMap_cons, h x List.mem_cons_self, fm_congr fun y hy => h y (List.mem_cons_of_mem _ hy)]
theorem fm_range {α : Type} (ys : List α) : ∀ n : Nat, (List.range n).filterMap (fun m => ys[m]?) = ys.take n
  | 0 => by simp
  | n + 1 => by
    rw [List.range_succ, List.filterMap_append, fm_range ys n, List.take_add_one]
    cases h : ys[n]? <;> simp [h]
theorem rev_range {α : Type} (xs : List α) : (List.range xs.length).filterMap (fun m => xs[xs.length - 1 - m]?) = xs.reverse := by
  have e : ∀ m ∈ List.range xs.length, xs[xs.length - 1 - m]? = xs.reverse[m]? := fun m hm => by
    rw [List.getElem?_reverse (List.mem_range.mp hm)]
  rw [fm_congr e, fm_range]
  exact List.take_of_length_le (by simp)
theorem adjR {n : Nat} : Builtin.Slice.sliceAdjust none none (-1) n = ((n : Int) - 1, -1) := by
  unfold Builtin.Slice.sliceAdjust
  simp
@[simp] theorem pickR {α : Type} (xs : List α) : pickS xs none none (-1) = xs.reverse := by
  unfold pickS
  rw [adjR]
  have hp : Builtin.Slice.slicePlaces ((xs.length : Int) - 1) (-1) (-1) = xs.length := by
    unfold Builtin.Slice.slicePlaces
    simp
    omega
  simp only
  rw [hp, ← rev_range]
  exact fm_congr fun m hm => by
    have hm := List.mem_range.mp hm
    rw [show ((xs.length : Int) - 1 + (m : Int) * -1).toNat = xs.length - 1 - m by omega]
@[simp] theorem pickBR {α : Type} (xs : List α) : pickB xs none none (-1) = xs.reverse := by
  have hb : sliceBounds none none (some (-1)) xs.length = ((xs.length : Int) - 1, -1, -1) := by unfold sliceBounds; simp
  have hr : sliceRange ((xs.length : Int) - 1) (-1) (-1) = (List.range xs.length).map fun m => xs.length - 1 - m := by
    unfold sliceRange
    have hc : (if (-1 : Int) > 0 then (if (xs.length : Int) - 1 < -1 then (-1 - ((xs.length : Int) - 1) + -1 - 1) / -1 else 0) else (if (xs.length : Int) - 1 > -1 then ((xs.length : Int) - 1 - -1 - -1 - 1) / (- -1) else 0)).toNat = xs.length := by
      rw [if_neg (by decide)]
      split
      · rw [show (- -1 : Int) = 1 by decide, Int.ediv_one]; omega
      · simp; omega
    simp only [hc]
    exact List.map_congr_left fun m hm => by
      have hm := List.mem_range.mp hm
      omega
  unfold pickB
  rw [hb]
  simp only
  rw [hr, List.filterMap_map, ← rev_range]
  rfl
/-- the last of a row, the row without it -/
@[simp] theorem atI_neg1 {α : Type} (xs : List α) (v : α) : atI (xs ++ [v]) (-1) = some v := atI_last _ _
theorem cutL_neg1 {α : Type} (xs : List α) : cutL xs none (some (-1)) = xs.dropLast := by
  have e : HT.sIx xs.length xs.length (some (-1)) = xs.length - 1 := by
    show (if (-1 : Int) < 0 then ((-1 : Int) + (xs.length : Int)).toNat else min ((-1 : Int)).toNat xs.length) = _
    rw [if_pos (by decide)]; omega
  have e0 : HT.sIx xs.length 0 none = 0 := rfl
  unfold cutL
  rw [e, e0, List.drop_zero, Nat.sub_zero, List.dropLast_eq_take]
/-! rows of flat values -/
def fl : D → Bool
  | .non | .bl _ | .int _ => true
  | _ => false
theorem canAll_fl : ∀ ds : List D, ds.all fl = true → PyData.canLayAll0 (pyDs ds) = true
  | [], _ => by simp [pyDs, PyData.canLayAll0]
  | d :: ds, h => by
    simp only [List.all_cons, Bool.and_eq_true] at h
    have ih := canAll_fl ds h.2
    have h1 := h.1
    cases d <;> first | (simp [pyDs, pyD, PyData.canLayAll0, PyData.canLay0, ih]; done) | (simp [fl] at h1)
theorem depth_fl : ∀ ds : List D, ds.all fl = true → PyData.depthAll (pyDs ds) ≤ 1
  | [], _ => by simp [pyDs, PyData.depthAll]
  | d :: ds, h => by
    simp only [List.all_cons, Bool.and_eq_true] at h
    have ih := depth_fl ds h.2
    have h1 := h.1
    cases d <;> first | (simp only [pyDs, pyD, PyData.depthAll, PyData.depth]; omega) | (simp [fl] at h1)
theorem okE_lst_fl {ds : List D} (h : ds.all fl = true) : okE (.lst ds) = true := by
  have := depth_fl ds h
  unfold okE SeqAt.shaped
  simp [pyD, PyData.canLay0, canAll_fl ds h, PyData.depth]; omega
theorem okE_tup_fl {ds : List D} (h : ds.all fl = true) : okE (.tup ds) = true := by
  have := depth_fl ds h
  unfold okE SeqAt.shaped
  simp [pyD, PyData.canLay0, canAll_fl ds h, PyData.depth]; omega
@[simp] theorem okE_int (i : Int) : okE (.int i) = true := by
  unfold okE SeqAt.shaped
  simp [pyD, PyData.canLay0, PyData.depth]
@[simp] theorem okE_bl (b : Bool) : okE (.bl b) = true := by cases b <;> decide
@[simp] theorem okE_non : okE .non = true := by decide
@[simp] theorem eqO_ni (i : Int) : eqO .non (.int i) = some false := by
  unfold eqO
  simp [eqD, pyD, PyData.eqv]
theorem bls_fl (bs : List Bool) : (bs.map D.bl).all fl = true := by simp [fl]
theorem any_bl (b : Bool) : ∀ bs : List Bool, ((bs.map D.bl).any fun z => eqD z (.bl b)) = bs.contains b
  | [] => rfl
  | c :: bs => by
    rw [List.map_cons, List.any_cons, any_bl b bs, List.contains_cons]
    have : eqD (.bl c) (.bl b) = (b == c) := by cases b <;> cases c <;> decide
    rw [this]
theorem inO_bls (b : Bool) (bs : List Bool) : inO (.bl b) (.lst (bs.map D.bl)) = some (bs.contains b) := by
  show (if (okE (.bl b) && okE (.lst (bs.map D.bl))) = true then some ((bs.map D.bl).any fun z => eqD z (.bl b)) else none) = _
  rw [okE_bl, okE_lst_fl (bls_fl bs), Bool.and_self, if_pos rfl, any_bl]
theorem contains_false (bs : List Bool) : bs.contains false = !(bs.all id) := by
  induction bs with
  | nil => rfl
  | cons b bs ih => rw [List.contains_cons, ih, List.all_cons]; cases b <;> rfl
end DL
namespace DL
open PySem PySem.Spec PyProof.Rows L2
theorem allI_ints (ns : List Int) : allI (ns.map D.int) = some ns := by
  induction ns with
  | nil => rfl
  | cons n ns ih => simp [allI, ih]
@[simp] theorem sumA_lst (ns : List Int) : sumA (.lst (ns.map D.int)) = some (.pv (.int ns.sum)) := by
  show (allI (ns.map D.int)).bind (fun ns => pI ns.sum) = _
  rw [allI_ints]; rfl
@[simp] theorem sumA_tup (ns : List Int) : sumA (.tup (ns.map D.int)) = some (.pv (.int ns.sum)) := by
  show (allI (ns.map D.int)).bind (fun ns => pI ns.sum) = _
  rw [allI_ints]; rfl
theorem bestA_lst (f : Int → Int → Int) (n : Int) (ns : List Int) : bestA f (.lst (D.int n :: ns.map D.int)) = some (.pv (.int (ns.foldl f n))) := by
  show (match allI (((n :: ns)).map D.int) with | some (n :: r) => pI (r.foldl f n) | _ => none) = _
  rw [allI_ints]; rfl
theorem bestA_tup (f : Int → Int → Int) (n : Int) (ns : List Int) : bestA f (.tup (D.int n :: ns.map D.int)) = some (.pv (.int (ns.foldl f n))) := by
  show (match allI (((n :: ns)).map D.int) with | some (n :: r) => pI (r.foldl f n) | _ => none) = _
  rw [allI_ints]; rfl
/-- the greatest, the least of a list that is not empty -/
def topI : List Int → Int
  | [] => 0
  | n :: ns => ns.foldl max n
def lowI : List Int → Int
  | [] => 0
  | n :: ns => ns.foldl min n
theorem topI_spec {ns : List Int} (h : ns ≠ []) : topI ns ∈ ns ∧ ∀ y ∈ ns, y ≤ topI ns := by
  cases ns with
  | nil => exact absurd rfl h
  | cons n ns => exact foldl_max ns n
theorem lowI_spec {ns : List Int} (h : ns ≠ []) : lowI ns ∈ ns ∧ ∀ y ∈ ns, lowI ns ≤ y := by
  cases ns with
  | nil => exact absurd rfl h
  | cons n ns => exact foldl_min ns n
theorem maxA_lst {ns : List Int} (h : ns ≠ []) : bestA max (.lst (ns.map D.int)) = some (.pv (.int (topI ns))) := by
  cases ns with
  | nil => exact absurd rfl h
  | cons n ns => exact bestA_lst max n ns
theorem maxA_tup {ns : List Int} (h : ns ≠ []) : bestA max (.tup (ns.map D.int)) = some (.pv (.int (topI ns))) := by
  cases ns with
  | nil => exact absurd rfl h
  | cons n ns => exact bestA_tup max n ns
theorem minA_lst {ns : List Int} (h : ns ≠ []) : bestA min (.lst (ns.map D.int)) = some (.pv (.int (lowI ns))) := by
  cases ns with
  | nil => exact absurd rfl h
  | cons n ns => exact bestA_lst min n ns
theorem minA_tup {ns : List Int} (h : ns ≠ []) : bestA min (.tup (ns.map D.int)) = some (.pv (.int (lowI ns))) := by
  cases ns with
  | nil => exact absurd rfl h
  | cons n ns => exact bestA_tup min n ns
@[simp] theorem tupRevA_lst (ds : List D) : tupRevA (.lst ds) = some (.pv (.tup ds.reverse)) := nr rfl
@[simp] theorem tupRevA_tup (ds : List D) : tupRevA (.tup ds) = some (.pv (.tup ds.reverse)) := nr rfl
@[simp] theorem tupRevA_scr (ds : List D) : tupRevA (.scr ds) = some (.pv (.tup ds.reverse)) := nr rfl
end DL
namespace DL
open PySem PySem.Spec PyProof.Rows L2
section
variable {s : S} {i : Nat} {fe : EV}
@[simp] theorem eRem_ap : eRem i fe s = match lstAt i s with
  | some _ => (fe s).bind fun r s1 => match rd r s1, lstAt i s1 with
    | some (.int k), some ds => match allI ds with
      | some ns => if k ∈ ns then .ok (.pv .non) (lstPut i ((ns.erase k).map D.int) s1) else .bad
      | none => .bad
    | _, _ => .bad
  | none => .bad := nr rfl
end
theorem maxX_lst {ns : List Int} (h : ns ≠ []) : maxX (.lst (ns.map D.int)) = some (.pv (.int (topI ns))) := by
  show (match maxA (.lst (ns.map D.int)) with | some r => some r | none => _) = _
  rw [show maxA (.lst (ns.map D.int)) = _ from maxA_lst h]
theorem maxX_tup {ns : List Int} (h : ns ≠ []) : maxX (.tup (ns.map D.int)) = some (.pv (.int (topI ns))) := by
  show (match maxA (.tup (ns.map D.int)) with | some r => some r | none => _) = _
  rw [show maxA (.tup (ns.map D.int)) = _ from maxA_tup h]
theorem allP_map (ps : List (Int × Int)) : allP (ps.map pD) = some ps := by
  induction ps with
  | nil => rfl
  | cons p ps ih =>
    obtain ⟨a, b⟩ := p
    show (allP (ps.map pD)).map (fun t => (a, b) :: t) = _
    rw [ih]; rfl
theorem maxX_pairs (p : Int × Int) (ps : List (Int × Int)) : maxX (.lst (pD p :: ps.map pD)) = some (.pv (pD (bestP p ps))) := by
  have e : maxA (.lst (pD p :: ps.map pD)) = none := nr rfl
  unfold maxX
  rw [e]
  have e2 := allP_map (p :: ps)
  rw [List.map_cons] at e2
  simp only [e2]
end DL
namespace DL
open PySem PySem.Spec PyProof.Rows L2
theorem eCompO_ap (i : Nat) (vs : List Nat) (g : GV) (t : TV) (fe : EV) (s : S) : eCompO i vs g t fe s = match s.η[i]? with
  | some (.ow ds) => if noOwn (s.η.set i .no) vs = true then (noErr (loopC vs g t fe ds [] ⟨wipeN (s.η.set i .no) vs, s.W⟩)).bind fun acc s2 =>
      (match (restN (s.η.set i .no) s2.η vs)[i]? with
        | some .no => .ok (.ow acc) ⟨(restN (s.η.set i .no) s2.η vs).set i (.ow ds), s2.W⟩
        | _ => .bad) else .bad
  | _ => .bad := nr rfl
end DL
namespace DL
open PySem PySem.Spec PyProof.Rows L2
@[simp] theorem lrgD_ap (j : Int) : lrgD (.int j) = if decide (0 ≤ j ∧ j ≤ 16777216) = true then some (.ow (rngD 0 j)) else none := nr rfl
theorem sortD_tup (ns : List Int) : sortD (.tup (ns.map D.int)) = some (.ow ((srtI ns).map D.int)) := by
  show (allI (ns.map D.int)).map _ = _
  rw [allI_ints]; rfl
theorem sortD_lst (ns : List Int) : sortD (.lst (ns.map D.int)) = some (.ow ((srtI ns).map D.int)) := by
  show (allI (ns.map D.int)).map _ = _
  rw [allI_ints]; rfl
end DL
namespace DL
open PySem PySem.Spec PyProof.Rows L2
@[simp] theorem sDisp1_ap (i j : Nat) (c : D) (s : S) : sDisp1 i j c s = match s.η[j]? with
  | some (.pv d) => match keyD d with
    | some k => if i < s.η.length then .ok .nx { s with η := s.η.set i (.od [(k, c)]) } else .bad
    | none => .bad
  | _ => .bad := nr rfl
@[simp] theorem eSrtD_ap (i : Nat) (s : S) : eSrtD i s = match odAt i s with
  | some kvs => match keysI kvs with
    | some ks => if ks.length < 64 then .ok (.ow ((srtI ks).map D.int)) s else .bad
    | none => .bad
  | none => .bad := nr rfl
end DL
namespace DL
open PySem PySem.Spec PyProof.Rows L2
/-! ### comprehensions and loops over encoded items, once for all -/
section
variable {α β γ : Type} {vs : List Nat} {g : GV} {t : TV} {fe : EV} {body : SV}
/-- one turn of a comprehension -/
def turnC (vs : List Nat) (g : GV) (t : TV) (fe : EV) (d : D) (s : S) : Rs (Option D) := (g (.pv d) s).bind fun _ s1 => (t s1).bind fun b s2 => if b = true then (fe s2).bind fun r s3 => (fzR r s3).bind fun y s4 => .ok (some y) { s4 with η := wipeN s4.η vs }
    else .ok none { s2 with η := wipeN s2.η vs }
@[simp] theorem turnC_ap (d : D) (s : S) : turnC vs g t fe d s = (g (.pv d) s).bind fun _ s1 => (t s1).bind fun b s2 => if b = true then (fe s2).bind fun r s3 => (fzR r s3).bind fun y s4 => .ok (some y) { s4 with η := wipeN s4.η vs }
    else .ok none { s2 with η := wipeN s2.η vs } := nr rfl
theorem loopC_cons' (d : D) (ds acc : List D) (s : S) : loopC vs g t fe (d :: ds) acc s = (turnC vs g t fe d s).bind fun o s1 => match o with
    | some y => if acc.length < sizeLine then loopC vs g t fe ds (acc ++ [y]) s1 else .bad
    | none => loopC vs g t fe ds acc s1 := by
  rw [turnC_ap]
  show (g (.pv d) s).bind _ = _
  cases g (.pv d) s with
  | bad => rfl
  | err c s1 => rfl
  | ok a s1 =>
    show (t s1).bind _ = ((t s1).bind _).bind _
    cases t s1 with
    | bad => rfl
    | err c s1 => rfl
    | ok b s2 =>
      cases b with
      | false => rfl
      | true =>
        show (fe s2).bind _ = ((fe s2).bind _).bind _
        cases fe s2 with
        | bad => rfl
        | err c s1 => rfl
        | ok r s3 =>
          show (fzR r s3).bind _ = ((fzR r s3).bind _).bind _
          cases fzR r s3 <;> rfl
theorem loopC_gen (enc : α → D) (φ : α → Option D) (s0 : S) : ∀ (L : List α) (acc : List D), (∀ x ∈ L, turnC vs g t fe (enc x) s0 = .ok (φ x) s0) → acc.length + L.length ≤ sizeLine →
    loopC vs g t fe (L.map enc) acc s0 = .ok (acc ++ L.filterMap φ) s0
  | [], acc, _, _ => by rw [List.filterMap_nil, List.append_nil]; exact nr rfl
  | x :: L, acc, h, hl => by
    simp only [List.length_cons] at hl
    rw [List.map_cons, loopC_cons', h x List.mem_cons_self, bind_okR, List.filterMap_cons]
    cases φ x with
    | none => exact loopC_gen enc φ s0 L acc (fun y hy => h y (List.mem_cons_of_mem _ hy)) (by omega)
    | some y =>
      show (if acc.length < sizeLine then _ else _) = _
      rw [if_pos (by omega), loopC_gen enc φ s0 L (acc ++ [y]) (fun y hy => h y (List.mem_cons_of_mem _ hy)) (by rw [List.length_append, List.length_singleton]; omega), List.append_assoc]
      rfl
theorem fm_some (f : α → β) : ∀ L : List α, L.filterMap (fun x => some (f x)) = L.map f
  | [] => rfl
  | x :: L => by rw [List.filterMap_cons, fm_some f L]; rfl
theorem fm_if (p : α → Bool) (f : α → β) : ∀ L : List α, L.filterMap (fun x => if p x = true then some (f x) else none) = (L.filter p).map f
  | [] => rfl
  | x :: L => by
    rw [List.filterMap_cons, fm_if p f L, List.filter_cons]
    cases p x <;> rfl
theorem rest_wipe (η : List Slot) : ∀ vs : List Nat, noOwn η vs = true → restN η (wipeN η vs) vs = η := by
  have aux : ∀ (vs ws : List Nat), noOwn η vs = true → (∀ v ∈ vs, v ∈ ws) → ∀ j, (restN η (wipeN η ws) vs)[j]? = if j ∈ vs then η[j]? else (wipeN η ws)[j]? := by
    intro vs
    induction vs with
    | nil => intro ws _ _ j; simp [restN]
    | cons v vs ih =>
      intro ws h hs j
      unfold noOwn at h
      rw [List.all_cons, Bool.and_eq_true] at h
      have hv : v < η.length := by
        cases e : η[v]? with
        | none => rw [e] at h; simp at h
        | some y => exact (List.getElem?_eq_some_iff.mp e).1
      have hl : (restN η (wipeN η ws) vs).length = η.length := by rw [restN_len, wipeN_len]
      show ((restN η (wipeN η ws) vs).set v _)[j]? = _
      by_cases e : j = v
      · subst e
        rw [List.getElem?_set_self (by rw [hl]; exact hv), if_pos List.mem_cons_self, List.getD_eq_getElem?_getD, List.getElem?_eq_getElem hv]; rfl
      · rw [List.getElem?_set_ne (Ne.symm e), ih ws h.2 (fun w hw => hs w (List.mem_cons_of_mem _ hw)) j]
        by_cases hj : j ∈ vs
        · rw [if_pos hj, if_pos (List.mem_cons_of_mem _ hj)]
        · rw [if_neg hj, if_neg (fun z => (List.mem_cons.mp z).elim e hj)]
  intro vs h
  apply List.ext_getElem?
  intro j
  rw [aux vs vs h (fun _ z => z) j]
  by_cases hj : j ∈ vs
  · rw [if_pos hj]
  · rw [if_neg hj, wipeN_out hj]
/-- a comprehension that leaves the state as it was -/
theorem eComp_gen {it : IV} {s s1 : S} {ds R : List D} (enc : α → D) (φ : α → Option D) (L : List α) (hi : it s = .ok ds s1) (hd : ds = L.map enc) (hn : noOwn s1.η vs = true)
    (h : ∀ x ∈ L, turnC vs g t fe (enc x) ⟨wipeN s1.η vs, s1.W⟩ = .ok (φ x) ⟨wipeN s1.η vs, s1.W⟩) (hl : L.length ≤ sizeLine) (hR : L.filterMap φ = R) :
    eComp vs it g t fe s = .ok (.ow R) s1 := by
  subst hd
  rw [eComp_ap, hi, bind_okR, if_pos hn, loopC_gen enc φ _ L [] h (by simpa using hl), noErr_ok, bind_okR, List.nil_append, hR]
  show Rs.ok _ ⟨restN s1.η (wipeN s1.η vs) vs, s1.W⟩ = _
  rw [rest_wipe _ _ hn]
theorem eComp_map {it : IV} {s s1 : S} {ds R : List D} (enc : α → D) (f : α → D) (L : List α) (hi : it s = .ok ds s1) (hd : ds = L.map enc) (hn : noOwn s1.η vs = true)
    (h : ∀ x ∈ L, turnC vs g t fe (enc x) ⟨wipeN s1.η vs, s1.W⟩ = .ok (some (f x)) ⟨wipeN s1.η vs, s1.W⟩) (hl : L.length ≤ sizeLine) (hR : L.map f = R) :
    eComp vs it g t fe s = .ok (.ow R) s1 :=
  eComp_gen enc (fun x => some (f x)) L hi hd hn h hl (by rw [fm_some, hR])
theorem eComp_fil {it : IV} {s s1 : S} {ds R : List D} (enc : α → D) (p : α → Bool) (f : α → D) (L : List α) (hi : it s = .ok ds s1) (hd : ds = L.map enc) (hn : noOwn s1.η vs = true)
    (h : ∀ x ∈ L, turnC vs g t fe (enc x) ⟨wipeN s1.η vs, s1.W⟩ = .ok (if p x = true then some (f x) else none) ⟨wipeN s1.η vs, s1.W⟩) (hl : L.length ≤ sizeLine) (hR : (L.filter p).map f = R) :
    eComp vs it g t fe s = .ok (.ow R) s1 :=
  eComp_gen enc (fun x => if p x = true then some (f x) else none) L hi hd hn h hl (by rw [fm_if, hR])
/-- a comprehension whose turns change the state -/
theorem loopC_rel (enc : α → D) (I : List α → List D → S → Prop) (L : List α) (h : ∀ l x r acc s, L = l ++ x :: r → I l acc s → ∃ o s', turnC vs g t fe (enc x) s = .ok o s' ∧ acc.length < sizeLine ∧ I (l ++ [x]) (acc ++ o.toList) s') {s : S} (h0 : I [] [] s) :
    ∃ acc s', loopC vs g t fe (L.map enc) [] s = .ok acc s' ∧ I L acc s' := by
  have aux : ∀ (r l : List α) (acc : List D) (s : S), L = l ++ r → I l acc s → ∃ acc' s', loopC vs g t fe (r.map enc) acc s = .ok acc' s' ∧ I L acc' s' := by
    intro r
    induction r with
    | nil => intro l acc s e hI; rw [List.append_nil] at e; subst e; exact ⟨acc, s, rfl, hI⟩
    | cons x r ih =>
      intro l acc s e hI
      obtain ⟨o, s', e1, hz, hI'⟩ := h l x r acc s e hI
      obtain ⟨acc', s2, e2, hI2⟩ := ih (l ++ [x]) (acc ++ o.toList) s' (by rw [e]; simp) hI'
      refine ⟨acc', s2, ?_, hI2⟩
      rw [List.map_cons, loopC_cons', e1, bind_okR]
      cases o with
      | none => simpa using e2
      | some y => show (if acc.length < sizeLine then _ else _) = _; rw [if_pos hz]; exact e2
  exact aux L [] [] s rfl h0
/-- one turn of all(..), any(..) -/
def turnA (vs : List Nat) (g : GV) (t : TV) (fe : EV) (d : D) (s : S) : Rs (Option Bool) := (g (.pv d) s).bind fun _ s1 => (t s1).bind fun b s2 => if b = true then (fe s2).bind fun r s3 => (toB r s3).bind fun c s4 => .ok (some c) { s4 with η := wipeN s4.η vs }
    else .ok none { s2 with η := wipeN s2.η vs }
@[simp] theorem turnA_ap (d : D) (s : S) : turnA vs g t fe d s = (g (.pv d) s).bind fun _ s1 => (t s1).bind fun b s2 => if b = true then (fe s2).bind fun r s3 => (toB r s3).bind fun c s4 => .ok (some c) { s4 with η := wipeN s4.η vs }
    else .ok none { s2 with η := wipeN s2.η vs } := nr rfl
theorem loopA_cons' (st : Bool) (d : D) (ds : List D) (s : S) : loopA st vs g t fe (d :: ds) s = (turnA vs g t fe d s).bind fun o s1 => if o = some st then .ok st s1 else loopA st vs g t fe ds s1 := by
  rw [loopA_cons, turnA_ap]
  cases g (.pv d) s with
  | bad => simp only [bind_badR]
  | err c s1 => simp only [bind_errR]
  | ok a s1 =>
    simp only [bind_okR]
    cases t s1 with
    | bad => simp only [bind_badR]
    | err c s1 => simp only [bind_errR]
    | ok b s2 =>
      simp only [bind_okR]
      cases b with
      | false => simp
      | true =>
        simp only [if_true]
        cases fe s2 with
        | bad => simp only [bind_badR]
        | err c s1 => simp only [bind_errR]
        | ok r s3 =>
          simp only [bind_okR]
          cases toB r s3 with
          | bad => simp only [bind_badR]
          | err c s1 => simp only [bind_errR]
          | ok c s4 =>
            simp only [bind_okR]
            by_cases h : c = st
            · rw [if_pos h, if_pos (by rw [h])]
            · rw [if_neg h, if_neg (fun e => h (Option.some.inj e))]
/-- a turn that is left out counts for nothing -/
theorem loopA_gen (st : Bool) (enc : α → D) (φ : α → Option Bool) (s0 : S) : ∀ (L : List α), (∀ l x r, L = l ++ x :: r → (∀ y ∈ l, φ y ≠ some st) → turnA vs g t fe (enc x) s0 = .ok (φ x) s0) →
    loopA st vs g t fe (L.map enc) s0 = .ok (if L.any (fun x => φ x == some st) = true then st else !st) s0
  | [], _ => by simp
  | x :: L, h => by
    rw [List.map_cons, loopA_cons', h [] x L rfl (by simp), bind_okR, List.any_cons]
    by_cases e : φ x = some st
    · rw [if_pos e, e]; simp
    · rw [if_neg e, loopA_gen st enc φ s0 L fun l y r el hl => h (x :: l) y r (by rw [el]; rfl) fun z hz => (List.mem_cons.mp hz).elim (fun q => q ▸ e) (hl z)]
      have : (φ x == some st) = false := by simpa using e
      rw [this, Bool.false_or]
theorem eAgg_gen {it : IV} {s s1 : S} {ds : List D} {R : Bool} (st : Bool) (enc : α → D) (φ : α → Option Bool) (L : List α) (hi : it s = .ok ds s1) (hd : ds = L.map enc) (hn : noOwn s1.η vs = true)
    (h : ∀ l x r, L = l ++ x :: r → (∀ y ∈ l, φ y ≠ some st) → turnA vs g t fe (enc x) ⟨wipeN s1.η vs, s1.W⟩ = .ok (φ x) ⟨wipeN s1.η vs, s1.W⟩) (hR : (if L.any (fun x => φ x == some st) = true then st else !st) = R) :
    eAgg st vs it g t fe s = .ok (.pv (.bl R)) s1 := by
  subst hd
  rw [eAgg_ap, hi, bind_okR, if_pos hn, loopA_gen st enc φ _ L h, noErr_ok, bind_okR, hR]
  show Rs.ok _ ⟨restN s1.η (wipeN s1.η vs) vs, s1.W⟩ = _
  rw [rest_wipe _ _ hn]
/-- any(..) without a test: each turn may be run -/
theorem eAgg_any {it : IV} {s s1 : S} {ds : List D} {R : Bool} (enc : α → D) (φ : α → Bool) (L : List α) (hi : it s = .ok ds s1) (hd : ds = L.map enc) (hn : noOwn s1.η vs = true)
    (h : ∀ x ∈ L, turnA vs g t fe (enc x) ⟨wipeN s1.η vs, s1.W⟩ = .ok (some (φ x)) ⟨wipeN s1.η vs, s1.W⟩) (hR : L.any φ = R) :
    eAgg true vs it g t fe s = .ok (.pv (.bl R)) s1 :=
  eAgg_gen true enc (fun x => some (φ x)) L hi hd hn (fun l x r e _ => h x (by rw [e]; simp)) (by
    rw [← hR]
    have : (fun x => (some (φ x) == some true)) = φ := by funext x; cases φ x <;> rfl
    rw [this]; cases L.any φ <;> rfl)
theorem all_any (φ : α → Bool) : ∀ L : List α, (L.any fun x => (some (φ x) == some false)) = !(L.all φ)
  | [] => rfl
  | x :: L => by rw [List.any_cons, List.all_cons, all_any φ L]; cases φ x <;> rfl
theorem eAgg_all {it : IV} {s s1 : S} {ds : List D} {R : Bool} (enc : α → D) (φ : α → Bool) (L : List α) (hi : it s = .ok ds s1) (hd : ds = L.map enc) (hn : noOwn s1.η vs = true)
    (h : ∀ x ∈ L, turnA vs g t fe (enc x) ⟨wipeN s1.η vs, s1.W⟩ = .ok (some (φ x)) ⟨wipeN s1.η vs, s1.W⟩) (hR : L.all φ = R) :
    eAgg false vs it g t fe s = .ok (.pv (.bl R)) s1 :=
  eAgg_gen false enc (fun x => some (φ x)) L hi hd hn (fun l x r e _ => h x (by rw [e]; simp)) (by
    rw [← hR, all_any]; cases L.all φ <;> rfl)
/-- all(..) that may stop early: a turn is run only behind true ones -/
theorem eAgg_allS {it : IV} {s s1 : S} {ds : List D} {R : Bool} (enc : α → D) (φ : α → Bool) (L : List α) (hi : it s = .ok ds s1) (hd : ds = L.map enc) (hn : noOwn s1.η vs = true)
    (h : ∀ l x r, L = l ++ x :: r → (∀ y ∈ l, φ y = true) → turnA vs g t fe (enc x) ⟨wipeN s1.η vs, s1.W⟩ = .ok (some (φ x)) ⟨wipeN s1.η vs, s1.W⟩) (hR : L.all φ = R) :
    eAgg false vs it g t fe s = .ok (.pv (.bl R)) s1 :=
  eAgg_gen false enc (fun x => some (φ x)) L hi hd hn (fun l x r e hl => h l x r e fun y hy => by have := hl y hy; cases e : φ y <;> simp_all) (by
    rw [← hR, all_any]; cases L.all φ <;> rfl)
/-- one turn of a loop -/
def turnD (g : GV) (body : SV) (d : D) (s : S) : Rs Fl := (g (.pv d) s).bind fun _ s1 => body s1
@[simp] theorem turnD_ap (d : D) (s : S) : turnD g body d s = (g (.pv d) s).bind fun _ s1 => body s1 := nr rfl
theorem loopD_cons' (d : D) (ds : List D) (s : S) : loopD g body (d :: ds) s = (turnD g body d s).bind fun fl s2 => match fl with
    | .nx => loopD g body ds s2
    | .ct => loopD g body ds s2
    | .bk => .ok .nx s2
    | .rt r => .ok (.rt r) s2 := by
  rw [loopD_cons, turnD_ap, bind_bind] <;> rfl
/-- a loop by a relation to the items that were taken -/
theorem loopD_rel (enc : α → D) (I : List α → S → Prop) (L : List α) (h : ∀ l x r s, L = l ++ x :: r → I l s → ∃ fl s', turnD g body (enc x) s = .ok fl s' ∧ (fl = .nx ∨ fl = .ct) ∧ I (l ++ [x]) s') {s : S} (h0 : I [] s) :
    ∃ s', loopD g body (L.map enc) s = .ok .nx s' ∧ I L s' := by
  have aux : ∀ (r l : List α) (s : S), L = l ++ r → I l s → ∃ s', loopD g body (r.map enc) s = .ok .nx s' ∧ I L s' := by
    intro r
    induction r with
    | nil => intro l s e hI; rw [List.append_nil] at e; subst e; exact ⟨s, rfl, hI⟩
    | cons x r ih =>
      intro l s e hI
      obtain ⟨fl, s', e1, hf, hI'⟩ := h l x r s e hI
      obtain ⟨s2, e2, hI2⟩ := ih (l ++ [x]) s' (by rw [e]; simp) hI'
      refine ⟨s2, ?_, hI2⟩
      rw [List.map_cons, loopD_cons', e1, bind_okR]
      rcases hf with rfl | rfl <;> exact e2
  exact aux L [] s rfl h0
/-- a loop that folds: st tells the state, with what is left over in its slots -/
theorem loopD_fold (enc : α → D) (st : β → γ → S) (φ : β → α → β) (P : List α → β → Prop) (L : List α) (b : β) (j : γ) (h0 : P [] b)
    (h : ∀ l x r b j, L = l ++ x :: r → P l b → P (l ++ [x]) (φ b x) ∧ ∃ j', turnD g body (enc x) (st b j) = .ok .nx (st (φ b x) j')) :
    P L (L.foldl φ b) ∧ ∃ j', loopD g body (L.map enc) (st b j) = .ok .nx (st (L.foldl φ b) j') := by
  obtain ⟨s', e, h1, j', h2⟩ := loopD_rel (g := g) (body := body) enc (fun l s => P l (l.foldl φ b) ∧ ∃ j, s = st (l.foldl φ b) j) L (fun l x r s e hI => by
    obtain ⟨hP, j, rfl⟩ := hI
    obtain ⟨hP', j', e'⟩ := h l x r _ j e hP
    refine ⟨.nx, _, e', .inl rfl, ?_⟩
    rw [List.foldl_append]
    exact ⟨hP', j', rfl⟩) (s := st b j) ⟨h0, j, rfl⟩
  exact ⟨h1, j', by rw [e, h2]⟩
/-- a loop that judges: it goes on or returns False -/
theorem loopD_all (enc : α → D) (st : γ → S) (φ : α → Bool) (W : List (List D)) : ∀ (L : List α) (j : γ), (∀ l x r j, L = l ++ x :: r → (∀ y ∈ l, φ y = true) → (φ x = true ∧ ∃ j', turnD g body (enc x) (st j) = .ok .nx (st j')) ∨ (φ x = false ∧ ∃ s', turnD g body (enc x) (st j) = .ok (.rt (.pv (.bl false))) s' ∧ s'.W = W)) →
    (L.all φ = true ∧ ∃ j', loopD g body (L.map enc) (st j) = .ok .nx (st j')) ∨ (L.all φ = false ∧ ∃ s', loopD g body (L.map enc) (st j) = .ok (.rt (.pv (.bl false))) s' ∧ s'.W = W)
  | [], j, _ => .inl ⟨rfl, j, rfl⟩
  | x :: L, j, h => by
    rcases h [] x L j rfl (by simp) with ⟨h1, j', e⟩ | ⟨h1, s', e, hW⟩
    · rcases loopD_all enc st φ W L j' (fun l y r k el hl => h (x :: l) y r k (by rw [el]; rfl) fun z hz => (List.mem_cons.mp hz).elim (fun q => q ▸ h1) (hl z)) with ⟨h2, j2, e2⟩ | ⟨h2, s2, e2, hW⟩
      · exact .inl ⟨by rw [List.all_cons, h1, h2]; rfl, j2, by rw [List.map_cons, loopD_cons', e, bind_okR]; exact e2⟩
      · exact .inr ⟨by rw [List.all_cons, h1, h2]; rfl, s2, by rw [List.map_cons, loopD_cons', e, bind_okR]; exact e2, hW⟩
    · exact .inr ⟨by rw [List.all_cons, h1]; rfl, s', by rw [List.map_cons, loopD_cons', e, bind_okR], hW⟩
/-- a loop over numbers, by a relation to how many were taken -/
theorem loopD_nat (I : Nat → S → Prop) (a n : Nat) (h : ∀ k s, a ≤ k → k < a + n → I k s → ∃ fl s', turnD g body (.int (k : Int)) s = .ok fl s' ∧ (fl = .nx ∨ fl = .ct) ∧ I (k + 1) s') {s : S} (h0 : I a s) :
    ∃ s', loopD g body ((List.range' a n).map fun (k : Nat) => D.int (k : Int)) s = .ok .nx s' ∧ I (a + n) s' := by
  induction n generalizing a s with
  | zero => exact ⟨s, rfl, h0⟩
  | succ n ih =>
    obtain ⟨fl, s', e1, hf, hI⟩ := h a s (Nat.le_refl _) (by omega) h0
    obtain ⟨s2, e2, hI2⟩ := ih (a + 1) (fun k s hk hk2 hI => h k s (by omega) (by omega) hI) hI
    refine ⟨s2, ?_, by rw [show a + (n + 1) = a + 1 + n by omega]; exact hI2⟩
    rw [List.range'_succ, List.map_cons, loopD_cons', e1, bind_okR]
    rcases hf with rfl | rfl <;> exact e2
theorem rngD_nat (a b : Nat) : rngD (a : Int) (b : Int) = (List.range' a (b - a)).map fun (k : Nat) => D.int (k : Int) := by
  rw [rngD_eq]
  have : ((b : Int) - (a : Int)).toNat = b - a := by omega
  rw [this, List.range'_eq_map_range, List.map_map]
  refine List.map_congr_left fun i _ => ?_
  show D.int ((a : Int) + (i : Int)) = D.int ((a + i : Nat) : Int)
  rw [Int.natCast_add]
theorem rngD_0 (b : Nat) : rngD 0 (b : Int) = (List.range b).map fun (k : Nat) => D.int (k : Int) := by
  have := rngD_nat 0 b
  rw [Nat.sub_zero, ← List.range_eq_range'] at this
  exact this
@[simp] theorem sz_le {n : Nat} (h : n ≤ 65536) : (n ≤ sizeLine) = True := by
  have : n ≤ sizeLine := by unfold sizeLine; omega
  simp [this]
@[simp] theorem sz_lt {n : Nat} (h : n < 65536) : (n < sizeLine) = True := by
  have : n < sizeLine := by unfold sizeLine; omega
  simp [this]
@[simp] theorem rOk_s {i : Int} (h : -4611686018427387904 ≤ i) (h2 : i < 4611686018427387904) : rOk i = true := by
  unfold rOk; rw [decide_eq_true_iff]; omega
theorem szOk {n : Nat} (h : n ≤ 65536) : n ≤ sizeLine := by unfold sizeLine; omega
theorem rOkN {n : Nat} (h : n < 2 ^ 61) : rOk (n : Int) = true := by
  unfold rOk; rw [decide_eq_true_iff]; omega
end
end DL
namespace DL
open PySem PySem.Spec PyProof.Rows L2
@[simp] theorem sPar3_ap (i j l : Nat) (fa fb fc : EV) (s : S) : sPar3 i j l fa fb fc s = (fa s).bind fun ra s1 => (keepX ra s1).bind fun ra s1 => (fb s1).bind fun rb s2 => (keepX rb s2).bind fun rb s2 => (fc s2).bind fun rc s3 => (keepX rc s3).bind fun rc s3 =>
  (putR l rc s3).bind fun _ s4 => (putR j rb s4).bind fun _ s5 => (putR i ra s5).bind fun _ s6 => .ok .nx s6 := nr rfl
theorem eCallV_ap (fe : EV) (fns : List (PySem.Str × Fn)) (fs : AV) (s : S) : eCallV fe fns fs s = (fe s).bind fun r s1 => match rd r s1 with
  | some (.glb x) => match fns.lookup x with
    | some F => eCall F fs s1
    | none => .bad
  | _ => .bad := nr rfl
/-- the def that is called is known -/
theorem eCallV_run {fe : EV} {fns : List (PySem.Str × Fn)} {fs : AV} {s s1 : S} {x : PySem.Str} {F : Fn} (h : fe s = .ok (.pv (.glb x)) s1) (hl : fns.lookup x = some F) : eCallV fe fns fs s = eCall F fs s1 := by
  rw [eCallV_ap, h, bind_okR]
  simp [hl]
end DL
namespace DL
open PySem PySem.Spec PyProof.Rows L2
/-! ### equality of encoded values -/
structure Eq2 {α : Type} [DecidableEq α] (n : Nat) (enc : α → D) : Prop where
  can : ∀ x, (pyD (enc x)).canLay0 = true
  dep : ∀ x, (pyD (enc x)).depth ≤ n
  eqv : ∀ x y, PyData.eqv (pyD (enc x)) (pyD (enc y)) = decide (x = y)
section
variable {α β γ : Type} [DecidableEq α] [DecidableEq β] [DecidableEq γ] {n m k : Nat} {enc : α → D} {e1 : α → D} {e2 : β → D} {e3 : γ → D}
theorem okE_of {d : D} (h1 : (pyD d).canLay0 = true) (h2 : (pyD d).depth ≤ 64) : okE d = true := by
  unfold okE SeqAt.shaped
  rw [h1, decide_eq_true h2]; rfl
theorem Eq2.okE (h : Eq2 n enc) (hn : n ≤ 64) (x : α) : okE (enc x) = true := okE_of (h.can x) (Nat.le_trans (h.dep x) hn)
theorem eqO_of {a b : D} (ha : DL.okE a = true) (hb : DL.okE b = true) : eqO a b = some (eqD a b) := by
  unfold eqO
  split
  · simp [eqD, pyD, PyData.eqv]
  · simp [eqD, pyD, PyData.eqv]
  · rw [ha, hb]; rfl
theorem Eq2.eqO (h : Eq2 n enc) (x y : α) (hn : n ≤ 64 := by decide) : eqO (enc x) (enc y) = some (decide (x = y)) := by
  rw [eqO_of (h.okE hn x) (h.okE hn y)]
  exact congrArg some (h.eqv x y)
theorem Eq2.eqD (h : Eq2 n enc) (x y : α) : eqD (enc x) (enc y) = decide (x = y) := h.eqv x y
theorem Eq2.int : Eq2 0 D.int := ⟨fun x => by simp [pyD, PyData.canLay0], fun x => by simp [pyD, PyData.depth], fun x y => by simp [pyD, PyData.eqv]; rfl⟩
theorem Eq2.nat : Eq2 0 (fun (i : Nat) => D.int (i : Int)) := ⟨fun x => by simp [pyD, PyData.canLay0], fun x => by simp [pyD, PyData.depth], fun x y => by
  simp only [pyD, PyData.eqv]
  rw [Bool.eq_iff_iff, beq_iff_eq, decide_eq_true_iff]; omega⟩
theorem Eq2.bl : Eq2 0 D.bl := ⟨fun x => by simp [pyD, PyData.canLay0], fun x => by simp [pyD, PyData.depth], fun x y => by
  simp only [pyD, PyData.eqv]
  cases x <;> cases y <;> rfl⟩
theorem Eq2.canAll (h : Eq2 n enc) : ∀ xs : List α, PyData.canLayAll0 (pyDs (xs.map enc)) = true
  | [] => by simp [pyDs, PyData.canLayAll0]
  | x :: xs => by simp only [List.map_cons, pyDs, PyData.canLayAll0]; rw [h.can x, h.canAll xs]; rfl
theorem Eq2.depAll (h : Eq2 n enc) : ∀ xs : List α, PyData.depthAll (pyDs (xs.map enc)) ≤ n
  | [] => by simp [pyDs, PyData.depthAll]
  | x :: xs => by
    have h1 := h.dep x
    have h2 := h.depAll xs
    simp only [List.map_cons, pyDs, PyData.depthAll]; omega
theorem Eq2.eqvAll (h : Eq2 n enc) : ∀ xs ys : List α, PyData.eqvAll (pyDs (xs.map enc)) (pyDs (ys.map enc)) = decide (xs = ys)
  | [], [] => by simp [pyDs, PyData.eqvAll]
  | x :: xs, [] => by simp [pyDs, PyData.eqvAll]
  | [], y :: ys => by simp [pyDs, PyData.eqvAll]
  | x :: xs, y :: ys => by
    simp only [List.map_cons, pyDs, PyData.eqvAll]
    rw [h.eqv x y, h.eqvAll xs ys, Bool.eq_iff_iff, Bool.and_eq_true, decide_eq_true_iff, decide_eq_true_iff, decide_eq_true_iff, List.cons.injEq]
theorem Eq2.tup (h : Eq2 n enc) : Eq2 (n + 1) (fun xs : List α => D.tup (xs.map enc)) := ⟨fun x => by simp only [pyD, PyData.canLay0]; exact h.canAll x, fun x => by simp only [pyD, PyData.depth]; exact Nat.succ_le_succ (h.depAll x), fun x y => by simp only [pyD, PyData.eqv]; exact h.eqvAll x y⟩
theorem Eq2.lst (h : Eq2 n enc) : Eq2 (n + 1) (fun xs : List α => D.lst (xs.map enc)) := ⟨fun x => by simp only [pyD, PyData.canLay0]; exact h.canAll x, fun x => by simp only [pyD, PyData.depth]; exact Nat.succ_le_succ (h.depAll x), fun x y => by simp only [pyD, PyData.eqv]; exact h.eqvAll x y⟩
theorem Eq2.pair (h1 : Eq2 n e1) (h2 : Eq2 m e2) : Eq2 (max n m + 1) (fun p : α × β => D.tup [e1 p.1, e2 p.2]) := ⟨fun x => by
    simp only [pyD, pyDs, PyData.canLay0, PyData.canLayAll0]; rw [h1.can, h2.can]; rfl, fun x => by
    have a := h1.dep x.1
    have b := h2.dep x.2
    simp only [pyD, pyDs, PyData.depth, PyData.depthAll]; omega, fun x y => by
    simp only [pyD, pyDs, PyData.eqv, PyData.eqvAll]
    rw [h1.eqv, h2.eqv, Bool.and_true, Bool.eq_iff_iff, Bool.and_eq_true, decide_eq_true_iff, decide_eq_true_iff, decide_eq_true_iff, Prod.ext_iff]⟩
theorem Eq2.tri (h1 : Eq2 n e1) (h2 : Eq2 m e2) (h3 : Eq2 k e3) : Eq2 (max n (max m k) + 1) (fun p : α × β × γ => D.tup [e1 p.1, e2 p.2.1, e3 p.2.2]) := ⟨fun x => by
    simp only [pyD, pyDs, PyData.canLay0, PyData.canLayAll0]; rw [h1.can, h2.can, h3.can]; rfl, fun x => by
    have a := h1.dep x.1
    have b := h2.dep x.2.1
    have c := h3.dep x.2.2
    simp only [pyD, pyDs, PyData.depth, PyData.depthAll]; omega, fun x y => by
    simp only [pyD, pyDs, PyData.eqv, PyData.eqvAll]
    rw [h1.eqv, h2.eqv, h3.eqv, Bool.and_true, Bool.eq_iff_iff, Bool.and_eq_true, Bool.and_eq_true, decide_eq_true_iff, decide_eq_true_iff, decide_eq_true_iff, decide_eq_true_iff, Prod.ext_iff, Prod.ext_iff]⟩
theorem Eq2.comp (h : Eq2 n enc) (g : β → α) (hg : ∀ a b, g a = g b → a = b) : Eq2 n (fun x => enc (g x)) := ⟨fun x => h.can _, fun x => h.dep _, fun x y => by
  rw [h.eqv]
  exact decide_eq_decide.mpr ⟨hg x y, fun e => by rw [e]⟩⟩
theorem Eq2.any (h : Eq2 n enc) (x : α) : ∀ xs : List α, ((xs.map enc).any fun z => DL.eqD z (enc x)) = decide (x ∈ xs)
  | [] => by simp
  | y :: ys => by
    rw [List.map_cons, List.any_cons, h.any x ys, h.eqD, Bool.eq_iff_iff, Bool.or_eq_true, decide_eq_true_iff, decide_eq_true_iff, decide_eq_true_iff, List.mem_cons]
    exact ⟨fun q => q.imp Eq.symm id, fun q => q.imp Eq.symm id⟩
theorem Eq2.inO (h : Eq2 n enc) (x : α) (xs : List α) (hn : n < 64 := by decide) : inO (enc x) (.lst (xs.map enc)) = some (decide (x ∈ xs)) := by
  show (if (DL.okE (enc x) && DL.okE (.lst (xs.map enc))) = true then some ((xs.map enc).any fun z => DL.eqD z (enc x)) else none) = _
  rw [h.okE (by omega) x, h.lst.okE (by omega) xs, Bool.and_self, if_pos rfl, h.any]
theorem Eq2.inT (h : Eq2 n enc) (hf : ∀ x, fl (enc x) = true) (x : α) (xs : List α) : DL.inO (enc x) (.tup (xs.map enc)) = some (decide (x ∈ xs)) := by
  unfold DL.inO
  simp only
  rw [if_pos, h.any]
  rw [List.all_eq_true]
  intro d hd
  have : ∃ y, d = enc y := by
    rcases List.mem_cons.mp hd with rfl | hd
    · exact ⟨x, rfl⟩
    · obtain ⟨y, _, rfl⟩ := List.mem_map.mp hd; exact ⟨y, rfl⟩
  obtain ⟨y, rfl⟩ := this
  have := hf y
  cases e : enc y <;> rw [e] at this <;> first | rfl | (simp [fl] at this)
end
/-! ### what nearly every law needs -/
abbrev nI (js : List Nat) : List D := js.map fun (j : Nat) => D.int (j : Int)
theorem eqO_nil : eqO (.lst []) (.lst []) = some true := by decide
@[simp] theorem eqO_bb (b c : Bool) : eqO (.bl b) (.bl c) = some (b == c) := by cases b <;> cases c <;> decide
theorem seq_go {f g : SV} {s s1 : S} {r : Rs Fl} (h : f s = .ok .nx s1) (h2 : g s1 = r) : sSeq f g s = r := by
  rw [sSeq_ap, h]; exact h2
theorem seq_gx {f g : SV} {s s1 : S} (h : f s = .ok .nx s1) (h2 : ∃ η' W', g s1 = .ok (.rt (.pv (.bl true))) ⟨η', W'⟩) : ∃ η' W', sSeq f g s = .ok (.rt (.pv (.bl true))) ⟨η', W'⟩ := by
  obtain ⟨η', W', e⟩ := h2
  exact ⟨η', W', seq_go h e⟩
theorem run_gx {m n : Nat} {body : SV} {args : List RV} {W : List (List D)} {x : Rf} (hf : x = defF m n body args W) (h : args.length = m)
    (e : ∃ η' W', body ⟨args.map toSlot ++ List.replicate (n - args.length) .no, W⟩ = .ok (.rt (.pv (.bl true))) ⟨η', W'⟩) : ∃ W', x = .ok (.pv (.bl true)) W' := by
  obtain ⟨η', W', e⟩ := e
  exact ⟨W', run_def hf h (by rw [e]; simp)⟩
/-- a def that returns a value -/
theorem run_rt {m n : Nat} {body : SV} {args : List RV} {W : List (List D)} {x : Rf} {d : D} {s' : S} (hf : x = defF m n body args W) (h : args.length = m)
    (e : body ⟨args.map toSlot ++ List.replicate (n - args.length) .no, W⟩ = .ok (.rt (.pv d)) s') : x = .ok (.pv d) s'.W := run_def hf h (by rw [e]; simp)
theorem at_get {ds : List D} {j : Nat} {d : D} (h : ds[j]? = some d) : ixD (.tup ds) (.int (j : Int)) = some (.pv d) := by
  show Option.map RV.pv (atI ds (j : Int)) = _
  rw [atI_get (by omega) (by simpa using h)]; rfl
theorem atI_nt {α : Type} {xs : List α} {j : Nat} {v : α} (h : xs[j]? = some v) : atI xs (j : Int) = some v := atI_get (by omega) (by simpa using h)
theorem all_false {α : Type} (p : α → Bool) (L : List α) (h : ∀ x ∈ L, p x = false) : L.filter p = [] := by
  rw [List.filter_eq_nil_iff]
  intro x hx e
  rw [h x hx] at e; cases e
def kids : D → List D
  | .tup xs => xs
  | _ => []
def valI : D → Int
  | .int i => i
  | _ => 0
theorem rngD_sub1 (n : Nat) : rngD 0 ((n : Int) - 1) = (List.range (n - 1)).map fun (k : Nat) => D.int (k : Int) := by
  cases n with
  | zero => rw [rngD_eq]; rfl
  | succ n => rw [show ((n + 1 : Nat) : Int) - 1 = (n : Int) by omega, rngD_0]; rfl
theorem ints_of {a b : Int} : ∀ {xs : List D}, xs.all (inB a b) = true → ∃ ns : List Int, xs = dI ns ∧ ∀ n ∈ ns, a ≤ n ∧ n ≤ b
  | [], _ => ⟨[], rfl, by simp⟩
  | x :: xs, h => by
    rw [List.all_cons, Bool.and_eq_true] at h
    obtain ⟨ns, rfl, hn⟩ := ints_of h.2
    cases x with
    | int i => exact ⟨i :: ns, rfl, fun n hn' => (List.mem_cons.mp hn').elim (fun e => e ▸ of_decide_eq_true h.1) (hn n)⟩
    | _ => exact absurd h.1 (by simp [inB])
theorem atI_gd {ns : List Int} {k : Nat} (h : k < ns.length) : atI (dI ns) (k : Int) = some (.int (ns.getD k 0)) := by
  refine atI_nt ?_
  rw [List.getElem?_map, List.getD_eq_getElem?_getD, List.getElem?_eq_getElem h]; rfl
/-- a while by a relation and a measure -/
theorem loopW_rel {t : TV} {body : SV} (I : Nat → S → Prop) (Q : S → Prop) (h : ∀ m s, I m s → (∃ s1, t s = .ok false s1 ∧ Q s1) ∨ (∃ s1 fl s2 m', t s = .ok true s1 ∧ body s1 = .ok fl s2 ∧ (fl = .nx ∨ fl = .ct) ∧ m' < m ∧ I m' s2)) :
    ∀ n m s, m < n → I m s → ∃ s', loopW t body n s = .ok .nx s' ∧ Q s'
  | 0, m, s, hm, _ => by omega
  | n + 1, m, s, hm, hI => by
    rcases h m s hI with ⟨s1, e, q⟩ | ⟨s1, fl, s2, m', e1, e2, hf, hlt, hI'⟩
    · refine ⟨s1, ?_, q⟩
      unfold loopW; rw [e, bind_okR]; rfl
    · obtain ⟨s', e3, q⟩ := loopW_rel I Q h n m' s2 (by omega) hI'
      refine ⟨s', ?_, q⟩
      unfold loopW; rw [e1, bind_okR, if_pos rfl, e2, bind_okR]
      rcases hf with rfl | rfl <;> exact e3
theorem while_rel {t : TV} {body : SV} (I : Nat → S → Prop) (Q : S → Prop) (h : ∀ m s, I m s → (∃ s1, t s = .ok false s1 ∧ Q s1) ∨ (∃ s1 fl s2 m', t s = .ok true s1 ∧ body s1 = .ok fl s2 ∧ (fl = .nx ∨ fl = .ct) ∧ m' < m ∧ I m' s2))
    {m : Nat} {s : S} (hm : m < 2 ^ 63) (hI : I m s) : ∃ s', sWhile fuel t body s = .ok .nx s' ∧ Q s' := by
  rw [sWhile_ap]
  exact loopW_rel I Q h fuel m s (by rw [fuel_eq]; omega) hI
theorem mul_lstN (ds : List D) {n : Nat} (h : n ≤ 65536) (h2 : ds.length * n ≤ 65536) : mulD (.lst ds) (.int (n : Int)) = some (.ow (List.replicate n ds).flatten) := by
  rw [mul_li, gd_ap, if_pos, Int.toNat_natCast]
  rw [decide_eq_true_iff, Int.toNat_natCast]
  refine ⟨by omega, by omega, szOk h2⟩
theorem mul_lst1 (d : D) {n : Nat} (h : n ≤ 65536) : mulD (.lst [d]) (.int (n : Int)) = some (.ow (List.replicate n d)) := by
  rw [mul_lstN [d] h (by simpa using h), List.flatten_replicate_singleton]
theorem foldl_snoc {α β : Type} (f : β → α → β) (b : β) (l : List α) (x : α) : (l ++ [x]).foldl f b = f (l.foldl f b) x := by rw [List.foldl_append]; rfl
end DL
namespace DL
open PySem PySem.Spec PyProof.Rows L2
section
variable {a : D} {ds : List D} {z : Str} {kvs : List (Key × D)}
@[simp] theorem inY_lst : inY a (.lst ds) = inC a (.lst ds) := nr rfl
@[simp] theorem inY_tup : inY a (.tup ds) = inC a (.tup ds) := nr rfl
@[simp] theorem inY_str : inY a (.str z) = inC a (.str z) := nr rfl
@[simp] theorem inY_scr : inY a (.scr ds) = inC a (.scr ds) := nr rfl
@[simp] theorem inY_dK : inY a (.dK kvs) = (keyD a).map fun k => .pv (.bl (valD kvs k).isSome) := nr rfl
@[simp] theorem niY_lst : niY a (.lst ds) = niC a (.lst ds) := nr rfl
@[simp] theorem niY_tup : niY a (.tup ds) = niC a (.tup ds) := nr rfl
@[simp] theorem niY_str : niY a (.str z) = niC a (.str z) := nr rfl
@[simp] theorem niY_scr : niY a (.scr ds) = niC a (.scr ds) := nr rfl
@[simp] theorem niY_dK : niY a (.dK kvs) = (keyD a).map fun k => .pv (.bl (!(valD kvs k).isSome)) := nr rfl
@[simp] theorem ixY_lst : ixY (.lst ds) a = ixD (.lst ds) a := nr rfl
@[simp] theorem ixY_tup : ixY (.tup ds) a = ixD (.tup ds) a := nr rfl
@[simp] theorem ixY_scr : ixY (.scr ds) a = ixD (.scr ds) a := nr rfl
@[simp] theorem ixY_str : ixY (.str z) a = ixD (.str z) a := nr rfl
@[simp] theorem ixY_dK : ixY (.dK kvs) a = (keyD a).bind fun k => (valD kvs k).map .pv := nr rfl
@[simp] theorem sortY_lst : sortY (.lst ds) = sortD (.lst ds) := nr rfl
@[simp] theorem sortY_tup : sortY (.tup ds) = sortD (.tup ds) := nr rfl
theorem sortY_dK : sortY (.dK kvs) = (keysI kvs).bind fun ks => if ks.length < 64 then some (.ow ((srtI ks).map D.int)) else none := nr rfl
end
section
variable {vs : List Nat} {it : IV} {g : GV} {t : TV} {fk fv fe : EV} {s : S} {i : Nat}
theorem eDC_ap : eDC vs it g t fk fv s = (it s).bind fun ds s1 => if noOwn s1.η vs = true then (noErr (loopK vs g t fk fv ds [] { s1 with η := wipeN s1.η vs })).bind fun acc s2 => .ok (.pv (.dK acc)) { s2 with η := restN s1.η s2.η vs } else .bad := nr rfl
theorem sDC_ap : sDC i vs it g t fk fv s = (it s).bind fun ds s1 => if noOwn s1.η vs = true then (noErr (loopK vs g t fk fv ds [] { s1 with η := wipeN s1.η vs })).bind fun acc s2 =>
  if i < (restN s1.η s2.η vs).length then .ok .nx { s2 with η := (restN s1.η s2.η vs).set i (.od acc) } else .bad else .bad := nr rfl
@[simp] theorem eFzD_ap (η : List Slot) (W : List (List D)) : eFzD i ⟨η, W⟩ = match η[i]? with
  | some (.od kvs) => .ok (.pv (.dK kvs)) ⟨η.set i (.pv (.dK kvs)), W⟩
  | some (.pv (.dK kvs)) => .ok (.pv (.dK kvs)) ⟨η, W⟩
  | _ => .bad := nr rfl
@[simp] theorem odR_ap (η : List Slot) (W : List (List D)) : odR i ⟨η, W⟩ = match η[i]? with
  | some (.od kvs) => some kvs
  | some (.pv (.dK kvs)) => some kvs
  | _ => none := nr rfl
@[simp] theorem eDinR_ap (neg : Bool) : eDinR neg i fe s = (fe s).bind fun r s1 => match odR i s1, (rd r s1).bind keyD with
  | some kvs, some k => .ok (.pv (.bl ((valD kvs k).isSome != neg))) s1
  | _, _ => .bad := nr rfl
/-- one turn of a dict's comprehension -/
def turnK (vs : List Nat) (g : GV) (t : TV) (fk fv : EV) (d : D) (s : S) : Rs (Option (Key × D)) := (g (.pv d) s).bind fun _ s1 => (t s1).bind fun b s2 => if b = true then (fk s2).bind fun rk s3 => match (rd rk s3).bind keyD with
      | some k => (fv s3).bind fun rv s4 => (fzR rv s4).bind fun y s5 => .ok (some (k, y)) { s5 with η := wipeN s5.η vs }
      | none => .bad
    else .ok none { s2 with η := wipeN s2.η vs }
@[simp] theorem turnK_ap (d : D) : turnK vs g t fk fv d s = (g (.pv d) s).bind fun _ s1 => (t s1).bind fun b s2 => if b = true then (fk s2).bind fun rk s3 => match (rd rk s3).bind keyD with
      | some k => (fv s3).bind fun rv s4 => (fzR rv s4).bind fun y s5 => .ok (some (k, y)) { s5 with η := wipeN s5.η vs }
      | none => .bad
    else .ok none { s2 with η := wipeN s2.η vs } := nr rfl
theorem loopK_cons (d : D) (ds : List D) (acc : List (Key × D)) (s : S) : loopK vs g t fk fv (d :: ds) acc s = (turnK vs g t fk fv d s).bind fun o s1 => match o with
    | some kv => if acc.length < sizeLine then loopK vs g t fk fv ds (putD acc kv.1 kv.2) s1 else .bad
    | none => loopK vs g t fk fv ds acc s1 := by
  have h : loopK vs g t fk fv (d :: ds) acc s = (g (.pv d) s).bind fun _ s1 => (t s1).bind fun b s2 => if b = true then (fk s2).bind fun rk s3 => match (rd rk s3).bind keyD with
      | some k => (fv s3).bind fun rv s4 => (fzR rv s4).bind fun y s5 => if acc.length < sizeLine then loopK vs g t fk fv ds (putD acc k y) { s5 with η := wipeN s5.η vs } else .bad
      | none => .bad
    else loopK vs g t fk fv ds acc { s2 with η := wipeN s2.η vs } := nr rfl
  rw [h, turnK_ap]
  cases g (.pv d) s with
  | bad => simp only [bind_badR]
  | err c s1 => simp only [bind_errR]
  | ok a s1 =>
    simp only [bind_okR]
    cases t s1 with
    | bad => simp only [bind_badR]
    | err c s1 => simp only [bind_errR]
    | ok b s2 =>
      simp only [bind_okR]
      cases b with
      | false => simp
      | true =>
        simp only [if_true]
        cases fk s2 with
        | bad => simp only [bind_badR]
        | err c s1 => simp only [bind_errR]
        | ok rk s3 =>
          simp only [bind_okR]
          cases (rd rk s3).bind keyD with
          | none => simp only [bind_badR]
          | some k =>
            simp only
            cases fv s3 with
            | bad => simp only [bind_badR]
            | err c s1 => simp only [bind_errR]
            | ok rv s4 =>
              simp only [bind_okR]
              cases fzR rv s4 with
              | bad => simp only [bind_badR]
              | err c s1 => simp only [bind_errR]
              | ok y s5 => simp only [bind_okR]
theorem putD_len (kvs : List (Key × D)) (k : Key) (d : D) : (putD kvs k d).length ≤ kvs.length + 1 := by
  unfold putD; split <;> simp
theorem loopK_gen {α : Type} (enc : α → D) (φ : α → Option (Key × D)) (s0 : S) : ∀ (L : List α) (acc : List (Key × D)), (∀ x ∈ L, turnK vs g t fk fv (enc x) s0 = .ok (φ x) s0) → acc.length + L.length ≤ sizeLine →
    loopK vs g t fk fv (L.map enc) acc s0 = .ok ((L.filterMap φ).foldl (fun a kv => putD a kv.1 kv.2) acc) s0
  | [], acc, _, _ => rfl
  | x :: L, acc, h, hl => by
    simp only [List.length_cons] at hl
    rw [List.map_cons, loopK_cons, h x List.mem_cons_self, bind_okR, List.filterMap_cons]
    cases φ x with
    | none => exact loopK_gen enc φ s0 L acc (fun y hy => h y (List.mem_cons_of_mem _ hy)) (by omega)
    | some kv =>
      show (if acc.length < sizeLine then _ else _) = _
      have := putD_len acc kv.1 kv.2
      rw [if_pos (by omega), loopK_gen enc φ s0 L (putD acc kv.1 kv.2) (fun y hy => h y (List.mem_cons_of_mem _ hy)) (by omega)]
      rfl
theorem eDC_gen {α : Type} {s1 : S} {ds : List D} {R : List (Key × D)} (enc : α → D) (φ : α → Option (Key × D)) (L : List α) (hi : it s = .ok ds s1) (hd : ds = L.map enc) (hn : noOwn s1.η vs = true)
    (h : ∀ x ∈ L, turnK vs g t fk fv (enc x) ⟨wipeN s1.η vs, s1.W⟩ = .ok (φ x) ⟨wipeN s1.η vs, s1.W⟩) (hl : L.length ≤ sizeLine) (hR : (L.filterMap φ).foldl (fun a kv => putD a kv.1 kv.2) [] = R) :
    eDC vs it g t fk fv s = .ok (.pv (.dK R)) s1 := by
  subst hd
  rw [eDC_ap, hi, bind_okR, if_pos hn, loopK_gen enc φ _ L [] h (by simpa using hl), noErr_ok, bind_okR, hR]
  show Rs.ok _ ⟨restN s1.η (wipeN s1.η vs) vs, s1.W⟩ = _
  rw [rest_wipe _ _ hn]
theorem sDC_gen {α : Type} {s1 : S} {ds : List D} {R : List (Key × D)} (enc : α → D) (φ : α → Option (Key × D)) (L : List α) (hi : it s = .ok ds s1) (hd : ds = L.map enc) (hn : noOwn s1.η vs = true)
    (h : ∀ x ∈ L, turnK vs g t fk fv (enc x) ⟨wipeN s1.η vs, s1.W⟩ = .ok (φ x) ⟨wipeN s1.η vs, s1.W⟩) (hl : L.length ≤ sizeLine) (hR : (L.filterMap φ).foldl (fun a kv => putD a kv.1 kv.2) [] = R) (hil : i < s1.η.length) :
    sDC i vs it g t fk fv s = .ok .nx ⟨s1.η.set i (.od R), s1.W⟩ := by
  subst hd
  rw [sDC_ap, hi, bind_okR, if_pos hn, loopK_gen enc φ _ L [] h (by simpa using hl), noErr_ok, bind_okR, hR]
  show (if i < (restN s1.η (wipeN s1.η vs) vs).length then Rs.ok Fl.nx ⟨(restN s1.η (wipeN s1.η vs) vs).set i (.od R), s1.W⟩ else .bad) = _
  rw [rest_wipe _ _ hn, if_pos hil]
end
/-! ### dicts of numbers: the keys in their order, and what they lead to -/
def kvN (l : List Nat) (f : Nat → D) : List (Key × D) := l.map fun (x : Nat) => ((Sum.inl (x : Int) : Key), f x)
theorem kvN_len (l : List Nat) (f : Nat → D) : (kvN l f).length = l.length := by unfold kvN; rw [List.length_map]
theorem kvN_val (l : List Nat) (f : Nat → D) (x : Nat) : valD (kvN l f) (.inl (x : Int)) = if x ∈ l then some (f x) else none := by
  induction l with
  | nil => rfl
  | cons y l ih =>
    unfold kvN valD at ih ⊢
    rw [List.map_cons, List.find?_cons]
    by_cases h : y = x
    · subst h; simp
    · have : decide ((Sum.inl (y : Int) : Key) = Sum.inl (x : Int)) = false := by
        rw [decide_eq_false_iff_not]
        intro e
        simp only [Sum.inl.injEq] at e
        omega
      rw [this]
      rw [ih]
      have h2 : (x ∈ y :: l) ↔ x ∈ l := by rw [List.mem_cons]; exact ⟨fun q => q.resolve_left fun z => h z.symm, .inr⟩
      by_cases h3 : x ∈ l
      · rw [if_pos h3, if_pos (h2.mpr h3)]
      · rw [if_neg h3, if_neg (fun q => h3 (h2.mp q))]
theorem kvN_some (l : List Nat) (f : Nat → D) (x : Nat) : (valD (kvN l f) (.inl (x : Int))).isSome = decide (x ∈ l) := by
  rw [kvN_val]
  by_cases h : x ∈ l
  · rw [if_pos h, decide_eq_true h]; rfl
  · rw [if_neg h, decide_eq_false h]; rfl
theorem kvN_congr {l : List Nat} {f f' : Nat → D} (h : ∀ x ∈ l, f x = f' x) : kvN l f = kvN l f' := by
  unfold kvN
  exact List.map_congr_left fun x hx => by rw [h x hx]
def upF (f : Nat → D) (x : Nat) (d : D) : Nat → D := fun y => if y = x then d else f y
theorem kvN_put (l : List Nat) (f : Nat → D) (x : Nat) (d : D) : putD (kvN l f) (.inl (x : Int)) d = kvN (if x ∈ l then l else l ++ [x]) (upF f x d) := by
  unfold putD
  have ha : ((kvN l f).any fun kv => decide (kv.1 = (Sum.inl (x : Int) : Key))) = decide (x ∈ l) := by
    rw [← kvN_some l f x]
    unfold valD
    rw [Option.isSome_map]
    refine Bool.eq_iff_iff.mpr ?_
    rw [List.find?_isSome, List.any_eq_true]
  rw [ha]
  by_cases h : x ∈ l
  · rw [decide_eq_true h, if_pos rfl, if_pos h]
    unfold kvN
    rw [List.map_map]
    refine List.map_congr_left fun y hy => ?_
    show (if (Sum.inl (y : Int) : Key) = Sum.inl (x : Int) then _ else _) = _
    by_cases e : y = x
    · subst e; simp [upF]
    · rw [if_neg (fun q => e (by simp only [Sum.inl.injEq] at q; omega))]
      simp [upF, e]
  · rw [decide_eq_false h, if_neg (by simp), if_neg h]
    unfold kvN
    rw [List.map_append]
    have e1 : l.map (fun (y : Nat) => ((Sum.inl (y : Int) : Key), f y)) = l.map fun (y : Nat) => ((Sum.inl (y : Int) : Key), upF f x d y) := List.map_congr_left fun y hy => by
      have : y ≠ x := fun e => h (e ▸ hy)
      simp [upF, this]
    rw [e1]
    simp [upF]
theorem kvN_new {l : List Nat} (f : Nat → D) {x : Nat} (d : D) (h : x ∉ l) : putD (kvN l f) (.inl (x : Int)) d = kvN (l ++ [x]) (upF f x d) := by rw [kvN_put, if_neg h]
theorem kvN_keys : ∀ (l : List Nat) (f : Nat → D), keysI (kvN l f) = some (l.map fun (x : Nat) => (x : Int))
  | [], _ => rfl
  | x :: l, f => by
    show (keysI (kvN l f)).map _ = _
    rw [kvN_keys l f]; rfl
/-- of a row of different numbers -/
theorem kvN_fold (f : Nat → D) : ∀ (r l : List Nat) (f0 : Nat → D), (l ++ r).Nodup → (∀ x ∈ l, f0 x = f x) → (r.map fun (x : Nat) => ((Sum.inl (x : Int) : Key), f x)).foldl (fun a kv => putD a kv.1 kv.2) (kvN l f0) = kvN (l ++ r) f
  | [], l, f0, _, h => by rw [List.append_nil]; exact kvN_congr h
  | x :: r, l, f0, hn, h => by
    have hx : x ∉ l := fun z => by
      rw [List.nodup_append] at hn
      exact hn.2.2 x z x (by simp) rfl
    have e : l ++ x :: r = (l ++ [x]) ++ r := by simp
    rw [List.map_cons, List.foldl_cons, kvN_new f0 (f x) hx, e]
    exact kvN_fold f r (l ++ [x]) _ (by rw [← e]; exact hn) fun y hy => by
      unfold upF
      by_cases q : y = x
      · rw [if_pos q, q]
      · rw [if_neg q]
        rcases List.mem_append.mp hy with hy | hy
        · exact h y hy
        · exact absurd (List.mem_singleton.mp hy) q
end DL
namespace DL
open PySem PySem.Spec PyProof.Rows L2
theorem eAggO_ap (st : Bool) (i : Nat) (vs : List Nat) (g : GV) (t : TV) (fe : EV) (s : S) : eAggO st i vs g t fe s = match s.η[i]? with
  | some (.ow ds) => if noOwn (s.η.set i .no) vs = true then (noErr (loopA st vs g t fe ds ⟨wipeN (s.η.set i .no) vs, s.W⟩)).bind fun b s2 =>
      (match (restN (s.η.set i .no) s2.η vs)[i]? with
        | some .no => .ok (.pv (.bl b)) ⟨(restN (s.η.set i .no) s2.η vs).set i (.ow ds), s2.W⟩
        | _ => .bad) else .bad
  | _ => .bad := nr rfl
section
variable {α : Type} {vs : List Nat} {g : GV} {t : TV} {fe : EV}
theorem eAggO_gen {s : S} {ds : List D} {R : Bool} (st : Bool) (i : Nat) (enc : α → D) (φ : α → Option Bool) (L : List α) (hi : s.η[i]? = some (.ow ds)) (hd : ds = L.map enc) (hn : noOwn (s.η.set i .no) vs = true)
    (h : ∀ l x r, L = l ++ x :: r → (∀ y ∈ l, φ y ≠ some st) → turnA vs g t fe (enc x) ⟨wipeN (s.η.set i .no) vs, s.W⟩ = .ok (φ x) ⟨wipeN (s.η.set i .no) vs, s.W⟩) (hR : (if L.any (fun x => φ x == some st) = true then st else !st) = R) :
    eAggO st i vs g t fe s = .ok (.pv (.bl R)) s := by
  subst hd
  rw [eAggO_ap, hi]
  dsimp only
  rw [if_pos hn, loopA_gen st enc φ _ L h, noErr_ok, bind_okR, hR]
  dsimp only
  rw [rest_wipe _ _ hn]
  have iη : i < s.η.length := (List.getElem?_eq_some_iff.mp hi).1
  rw [List.getElem?_set_self iη]
  dsimp only
  rw [List.set_set]
  have : s.η.set i (.ow (L.map enc)) = s.η := by
    apply List.ext_getElem?
    intro j
    by_cases e : i = j
    · subst e; rw [List.getElem?_set_self iη, hi]
    · rw [List.getElem?_set_ne e]
  rw [this]
theorem eAggO_any {s : S} {ds : List D} {R : Bool} (i : Nat) (enc : α → D) (φ : α → Bool) (L : List α) (hi : s.η[i]? = some (.ow ds)) (hd : ds = L.map enc) (hn : noOwn (s.η.set i .no) vs = true)
    (h : ∀ x ∈ L, turnA vs g t fe (enc x) ⟨wipeN (s.η.set i .no) vs, s.W⟩ = .ok (some (φ x)) ⟨wipeN (s.η.set i .no) vs, s.W⟩) (hR : L.any φ = R) :
    eAggO true i vs g t fe s = .ok (.pv (.bl R)) s :=
  eAggO_gen true i enc (fun x => some (φ x)) L hi hd hn (fun l x r e _ => h x (by rw [e]; simp)) (by
    rw [← hR]
    have : (fun x => (some (φ x) == some true)) = φ := by funext x; cases φ x <;> rfl
    rw [this]; cases L.any φ <;> rfl)
theorem eAggO_all {s : S} {ds : List D} {R : Bool} (i : Nat) (enc : α → D) (φ : α → Bool) (L : List α) (hi : s.η[i]? = some (.ow ds)) (hd : ds = L.map enc) (hn : noOwn (s.η.set i .no) vs = true)
    (h : ∀ x ∈ L, turnA vs g t fe (enc x) ⟨wipeN (s.η.set i .no) vs, s.W⟩ = .ok (some (φ x)) ⟨wipeN (s.η.set i .no) vs, s.W⟩) (hR : L.all φ = R) :
    eAggO false i vs g t fe s = .ok (.pv (.bl R)) s :=
  eAggO_gen false i enc (fun x => some (φ x)) L hi hd hn (fun l x r e _ => h x (by rw [e]; simp)) (by
    rw [← hR, all_any]; cases L.all φ <;> rfl)
end
end DL
namespace k58
open PySem PySem.Spec PyProof.Rows L2 DL
def topS (i : Nat) : Stmt := PySem.Challenge.pw_pageskept_k58_whole_keepers.main.body.getD i (.Pass ⟨0, 0, 0, 0⟩)
abbrev prog : Program := PySem.Challenge.pw_pageskept_k58_whole_keepers
structure Bl (mg : Str → Option Value) : Prop where
  n_abs : mg "abs" = none
  n_all : mg "all" = none
  n_any : mg "any" = none
  n_bool : mg "bool" = none
  n_int : mg "int" = none
  n_isinstance : mg "isinstance" = none
  n_len : mg "len" = none
  n_list : mg "list" = none
  n_range : mg "range" = none
  n_sorted : mg "sorted" = none
  n_tuple : mg "tuple" = none
structure Rw (K : PySem.W.Frag) (mg : Str → Option Value) (base : Heap) (tb : List Addr) : Prop where
  r__law_open : Row K mg (topS 4) "_law_open" ["script"]
  r_reached_from : Row K mg (topS 1) "reached_from" ["things", "roots"]
  r_keepers : RowG K mg base tb (topS 2) "keepers" ["things", "told"]
  r__law_far : Row K mg (topS 9) "_law_far" ["things", "roots"]
  r__law_sets : Row K mg (topS 10) "_law_sets" ["some"]
  r__law_mixed : Row K mg (topS 5) "_law_mixed" ["cell", "turn"]
  r__law_draw : Row K mg (topS 6) "_law_draw" ["draws", "size"]
  r__law_heap : Row K mg (topS 8) "_law_heap" ["draws", "most"]
  r__law_int : Row K mg (topS 7) "_law_int" ["value"]
  r_law : Row K mg (topS 11) "law" ["script"]
/-! _law_open -/
abbrev s__law_open : Stmt := topS 4
theorem sc__law_open : FnScope ["script", "cells", "cell"] ["script"] (defScope s__law_open) := ⟨rfl, rfl, rfl, by decide +kernel, rfl, by decide +kernel, by decide +kernel⟩
noncomputable def x__law_open_1 : EV := (eOp1 absD (eOp1 intD (eV 2)))
theorem x__law_open_1_ap (s : S) : x__law_open_1 s = (eOp1 absD (eOp1 intD (eV 2))) s := nr rfl
noncomputable def c__law_open_1 : EV := eComp [2] (iOf (eSl (eV 0) oNo (oSo (eC (.int 63))))) (gSet 2) tTrue x__law_open_1
theorem c__law_open_1_ap (s : S) : c__law_open_1 s = (eComp [2] (iOf (eSl (eV 0) oNo (oSo (eC (.int 63))))) (gSet 2) tTrue x__law_open_1) s := nr rfl
noncomputable def b__law_open : SV :=
    (sSeq (sAsg c__law_open_1 (gSet 1))
    (sRet (eLst (aCons (eC (.int 0)) (aCons (eC (.int 0)) (aCons (eOp2 addD (eV 1) (eLst (aCons (eC (.int 0)) aNil))) aNil))))))
theorem b__law_open_ap (s : S) : b__law_open s = (sSeq (sAsg c__law_open_1 (gSet 1))
    (sRet (eLst (aCons (eC (.int 0)) (aCons (eC (.int 0)) (aCons (eOp2 addD (eV 1) (eLst (aCons (eC (.int 0)) aNil))) aNil)))))) s := nr rfl
noncomputable def m__law_open : Fn := sld (defF 1 3 b__law_open)
theorem m__law_open_ap (args : List RV) (W : List (List D)) : m__law_open args W = defF 1 3 b__law_open args W := fn_sld _ _ _
theorem ok__law_open {w : World} {K : PySem.W.Frag} {mg : Str → Option Value} {base : Heap} {tb : List Addr} (B : Bl mg) (R : Rw K mg base tb) : Has prog w K mg base tb 1 "_law_open" ["script"] m__law_open :=
  Has.sld <| Has.of R.r__law_open sc__law_open fun f cdv A outer s H E G ht hr =>
    (ss_cons (sd_setComp0 (i := 1) [("cell", 2)] rfl sc__law_open.nd rfl rfl (sw_true rfl rfl rfl rfl) (id_val (ed_sl (ed_v 0) od_no (od_so ed_int))) (blk_ok (by kernel_rfl)) (fun _ _ _ _ _ => (gv_name (i := 2) (by decide) sc__law_open.nd rfl (.inl rfl))) (fun _ _ _ _ _ => (ed_b1 call_abs opv_abs (by rfl) B.n_abs bt_abs (ed_t1 call_int1 opv_int1 (by rfl) B.n_int bt_int (ed_v 2)))))
    (ss_one (sd_ret (ed_lst (ad_cons ed_int (ad_cons ed_int (ad_cons (ed_add (ed_v 1) (ed_lst (ad_cons ed_int ad_nil))) ad_nil)))))))
/-! reached_from -/
abbrev s_reached_from : Stmt := topS 1
theorem sc_reached_from : FnScope ["things", "roots", "came", "root", "waiting", "later", "one", "other"] ["things", "roots"] (defScope s_reached_from) := ⟨rfl, rfl, rfl, by decide +kernel, rfl, by decide +kernel, by decide +kernel⟩
noncomputable def x_reached_from_1 : EV := (eC .non)
theorem x_reached_from_1_ap (s : S) : x_reached_from_1 s = (eC .non) s := nr rfl
noncomputable def k_reached_from_1 : EV := (eV 3)
theorem k_reached_from_1_ap (s : S) : k_reached_from_1 s = (eV 3) s := nr rfl
noncomputable def l_reached_from_1 : SV := (sIf (tOfB (eDinR true 2 (eV 7))) (sSeq (sDput 2 (eV 7) (eV 6))
    (sEx (eApp 5 (eV 7)))) sNil)
theorem l_reached_from_1_ap (s : S) : l_reached_from_1 s = (sIf (tOfB (eDinR true 2 (eV 7))) (sSeq (sDput 2 (eV 7) (eV 6))
    (sEx (eApp 5 (eV 7)))) sNil) s := nr rfl
noncomputable def l_reached_from_2 : SV := (sFor (iOf (eOp2 ixY (eV 0) (eV 6))) (gSet 7) l_reached_from_1)
theorem l_reached_from_2_ap (s : S) : l_reached_from_2 s = (sFor (iOf (eOp2 ixY (eV 0) (eV 6))) (gSet 7) l_reached_from_1) s := nr rfl
noncomputable def l_reached_from_3 : SV := (sSeq (sAsg (eLst aNil) (gSet 5))
    (sSeq (sFor (iOf (eV 4)) (gSet 6) l_reached_from_2)
    (sAsg (eV 5) (gSet 4))))
theorem l_reached_from_3_ap (s : S) : l_reached_from_3 s = (sSeq (sAsg (eLst aNil) (gSet 5))
    (sSeq (sFor (iOf (eV 4)) (gSet 6) l_reached_from_2)
    (sAsg (eV 5) (gSet 4)))) s := nr rfl
noncomputable def b_reached_from : SV :=
    (sSeq (sDC 2 [3] (iOf (eV 1)) (gSet 3) tTrue k_reached_from_1 x_reached_from_1)
    (sSeq (sAsg (eOp1 listD (eV 1)) (gSet 4))
    (sSeq (sWhile fuel (tOfB (eOp2 neC (eV 4) (eLst aNil))) l_reached_from_3)
    (sRet (eFzD 2)))))
theorem b_reached_from_ap (s : S) : b_reached_from s = (sSeq (sDC 2 [3] (iOf (eV 1)) (gSet 3) tTrue k_reached_from_1 x_reached_from_1)
    (sSeq (sAsg (eOp1 listD (eV 1)) (gSet 4))
    (sSeq (sWhile fuel (tOfB (eOp2 neC (eV 4) (eLst aNil))) l_reached_from_3)
    (sRet (eFzD 2))))) s := nr rfl
noncomputable def m_reached_from : Fn := sld (defF 2 8 b_reached_from)
theorem m_reached_from_ap (args : List RV) (W : List (List D)) : m_reached_from args W = defF 2 8 b_reached_from args W := fn_sld _ _ _
theorem ok_reached_from {w : World} {K : PySem.W.Frag} {mg : Str → Option Value} {base : Heap} {tb : List Addr} (B : Bl mg) (R : Rw K mg base tb) : Has prog w K mg base tb 1 "reached_from" ["things", "roots"] m_reached_from :=
  Has.sld <| Has.of R.r_reached_from sc_reached_from fun f cdv A outer s H E G ht hr =>
    (ss_cons (sd_dcS (i := 2) [("root", 3)] rfl sc_reached_from.nd rfl rfl (swd_true rfl rfl rfl rfl) (id_val (ed_v 1)) (blk_ok (by kernel_rfl)) (fun _ _ _ _ _ => (gv_name (i := 3) (by decide) sc_reached_from.nd rfl (.inl rfl))) (fun _ _ _ _ _ => cd_nil) (fun _ _ _ _ _ => (ed_v 3)) (fun _ _ _ _ _ => ed_non))
    (ss_cons (sd_set (i := 4) sc_reached_from.nd rfl (.inl rfl) (ed_t1 call_list_of opv_list (by rfl) B.n_list bt_list (ed_v 1)))
    (ss_cons (sd_while fuel owns_cx (td_cmp (op_neA (u64 hr)) opv_ne (ed_v 4) (ed_lst ad_nil) (by rfl)) (ss_cons (sd_set (i := 5) sc_reached_from.nd rfl (.inl rfl) (ed_lst ad_nil))
    (ss_cons (sd_for owns_cx rfl (id_val (ed_v 4)) (gd_name (i := 6) sc_reached_from.nd rfl (.inl rfl)) (ss_one (sd_for owns_cx rfl (id_val (ed_ixY (u1 hr) (ed_v 0) (ed_v 6))) (gd_name (i := 7) sc_reached_from.nd rfl (.inl rfl)) (ss_one (sd_if (td_dniR (u1 hr) (ed_v 7) (pv 2)) (ss_cons (sd_dput (u1 hr) (pv 2) (ed_v 7) (ed_v 6))
    (ss_one (sd_expr (ed_append 5 (pv 5) (ed_v 7))))) ss_nil)))))
    (ss_one (sd_set (i := 4) sc_reached_from.nd rfl (.inl rfl) (ed_v 5))))))
    (ss_one (sd_ret (ed_fzD 2))))))
/-! keepers -/
abbrev s_keepers : Stmt := topS 2
theorem sc_keepers : FnScope ["things", "told", "far", "one", "found", "first", "other"] ["things", "told"] (defScope s_keepers) := ⟨rfl, rfl, rfl, by decide +kernel, rfl, by decide +kernel, by decide +kernel⟩
noncomputable def x_keepers_1 : EV := (eCall m_reached_from (aCons (eV 0) (aCons (eTup (aCons (eV 3) aNil)) aNil)))
theorem x_keepers_1_ap (s : S) : x_keepers_1 s = (eCall m_reached_from (aCons (eV 0) (aCons (eTup (aCons (eV 3) aNil)) aNil))) s := nr rfl
noncomputable def k_keepers_1 : EV := (eV 3)
theorem k_keepers_1_ap (s : S) : k_keepers_1 s = (eV 3) s := nr rfl
noncomputable def c_keepers_1 : EV := eDC [3] (iOf (eV 1)) (gSet 3) tTrue k_keepers_1 x_keepers_1
theorem c_keepers_1_ap (s : S) : c_keepers_1 s = (eDC [3] (iOf (eV 1)) (gSet 3) tTrue k_keepers_1 x_keepers_1) s := nr rfl
noncomputable def x_keepers_2 : EV := (eOp2 inY (eV 6) (eOp2 ixY (eV 2) (eV 3)))
theorem x_keepers_2_ap (s : S) : x_keepers_2 s = (eOp2 inY (eV 6) (eOp2 ixY (eV 2) (eV 3))) s := nr rfl
noncomputable def t_keepers_2 : TV := (tOfB (eOp2 inY (eV 3) (eOp2 ixY (eV 2) (eV 6))))
theorem t_keepers_2_ap (s : S) : t_keepers_2 s = (tOfB (eOp2 inY (eV 3) (eOp2 ixY (eV 2) (eV 6)))) s := nr rfl
noncomputable def c_keepers_2 : EV := eAgg false [6] (iOf (eV 1)) (gSet 6) t_keepers_2 x_keepers_2
theorem c_keepers_2_ap (s : S) : c_keepers_2 s = (eAgg false [6] (iOf (eV 1)) (gSet 6) t_keepers_2 x_keepers_2) s := nr rfl
noncomputable def x_keepers_3 : EV := (eOp2 inY (eV 3) (eOp2 ixY (eV 2) (eV 6)))
theorem x_keepers_3_ap (s : S) : x_keepers_3 s = (eOp2 inY (eV 3) (eOp2 ixY (eV 2) (eV 6))) s := nr rfl
noncomputable def c_keepers_3 : EV := eAggO true 4 [6] (gSet 6) tTrue x_keepers_3
theorem c_keepers_3_ap (s : S) : c_keepers_3 s = (eAggO true 4 [6] (gSet 6) tTrue x_keepers_3) s := nr rfl
noncomputable def l_keepers_1 : SV := (sSeq (sAsg c_keepers_2 (gSet 5))
    (sIf (tAndD (tOf (eV 5)) (tNotD (tOf c_keepers_3))) (sEx (eApp 4 (eV 3))) sNil))
theorem l_keepers_1_ap (s : S) : l_keepers_1 s = (sSeq (sAsg c_keepers_2 (gSet 5))
    (sIf (tAndD (tOf (eV 5)) (tNotD (tOf c_keepers_3))) (sEx (eApp 4 (eV 3))) sNil)) s := nr rfl
noncomputable def b_keepers : SV :=
    (sSeq (sAsg c_keepers_1 (gSet 2))
    (sSeq (sAsg (eLst aNil) (gSet 4))
    (sSeq (sFor (iOf (eV 1)) (gSet 3) l_keepers_1)
    (sRet (eOp1 tupleD (eV 4))))))
theorem b_keepers_ap (s : S) : b_keepers s = (sSeq (sAsg c_keepers_1 (gSet 2))
    (sSeq (sAsg (eLst aNil) (gSet 4))
    (sSeq (sFor (iOf (eV 1)) (gSet 3) l_keepers_1)
    (sRet (eOp1 tupleD (eV 4)))))) s := nr rfl
noncomputable def m_keepers : Fn := sld (defF 2 7 b_keepers)
theorem m_keepers_ap (args : List RV) (W : List (List D)) : m_keepers args W = defF 2 7 b_keepers args W := fn_sld _ _ _
theorem ok_keepers {w : World} {K : PySem.W.Frag} {mg : Str → Option Value} {base : Heap} {tb : List Addr} (B : Bl mg) (R : Rw K mg base tb) (h_reached_from : Has prog w K mg base tb 1 "reached_from" ["things", "roots"] m_reached_from) : Has prog w K mg base tb 2 "keepers" ["things", "told"] m_keepers :=
  Has.sld <| Has.ofG R.r_keepers sc_keepers fun f c T A outer s H E G TB hT ht hr =>
    (ss_cons (sd_set (i := 2) sc_keepers.nd rfl (.inr rfl) (ed_dc0 [("one", 3)] rfl sc_keepers.nd (id_val (ed_v 1)) (blk_ok (by kernel_rfl)) (fun _ _ _ _ _ => (gv_name (i := 3) (by decide) sc_keepers.nd rfl (.inl rfl))) (fun _ _ _ _ _ => (ed_v 3)) (fun _ _ _ _ _ => (ed_callH h_reached_from hr ht takesX (ad_cons (ed_v 0) (ad_cons (ed_tup (ad_cons (ed_v 3) ad_nil)) ad_nil)) (by decide)))))
    (ss_cons (sd_set (i := 4) sc_keepers.nd rfl (.inl rfl) (ed_lst ad_nil))
    (ss_cons (sd_for owns_cx rfl (id_val (ed_v 1)) (gd_name (i := 3) sc_keepers.nd rfl (.inr rfl)) (ss_cons (sd_set (i := 5) sc_keepers.nd rfl (.inl rfl) (ed_agg1 false "all" [("other", 6)] rfl sc_keepers.nd (hr.mono (j := 1) (by decide)) TB (by rw [ht]; exact hT) rfl (gx_ok (by kernel_rfl)) (id_val (ed_v 1)) (blk_ok (by kernel_rfl)) (fun _ _ _ _ _ _ _ _ hr => (gv_name (i := 6) (by decide) sc_keepers.nd rfl (.inl rfl))) (fun _ _ _ _ _ _ _ _ hr => (td_cmp (op_inY (u65 hr) (u1 hr)) opv_inY (ed_v 3) (ed_ixY (u1 hr) (ed_v 2) (ed_v 6)) (by rfl))) (fun _ _ _ _ _ _ _ _ hr => (ed_cmp (op_inY (u65 hr) (u1 hr)) opv_inY (ed_v 6) (ed_ixY (u1 hr) (ed_v 2) (ed_v 3)) (by rfl))) (fun _ => rfl) (by rfl) B.n_all (.inl ⟨rfl, rfl⟩) (by rfl)))
    (ss_one (sd_if (WD.td (wd_and (td_val (ed_v 5)) (wd_and1 (td_not (td_val (ed_aggO0 true 4 "any" [("other", 6)] rfl sc_keepers.nd (hr.mono (j := 1) (by decide)) TB (by rw [ht]; exact hT) rfl (gx_ok (by kernel_rfl)) (pv 4) (blk_ok (by kernel_rfl)) (fun _ _ _ _ _ _ _ _ hr => (gv_name (i := 6) (by decide) sc_keepers.nd rfl (.inl rfl))) (fun _ _ _ _ _ _ _ _ hr => (ed_cmp (op_inY (u65 hr) (u1 hr)) opv_inY (ed_v 3) (ed_ixY (u1 hr) (ed_v 2) (ed_v 6)) (by rfl))) (fun _ => rfl) (by rfl) B.n_any (.inr ⟨rfl, rfl⟩) (by rfl))))))) (ss_one (sd_expr (ed_append 4 (pv 4) (ed_v 3)))) ss_nil))))
    (ss_one (sd_ret (ed_t1 call_tuple_of opv_tuple (by rfl) B.n_tuple bt_tuple (ed_v 4)))))))
/-! _law_far -/
abbrev s__law_far : Stmt := topS 9
theorem sc__law_far : FnScope ["things", "roots", "far", "root", "level", "turn", "later", "one", "other"] ["things", "roots"] (defScope s__law_far) := ⟨rfl, rfl, rfl, by decide +kernel, rfl, by decide +kernel, by decide +kernel⟩
noncomputable def l__law_far_1 : SV := (sDput 2 (eV 3) (eC (.int 0)))
theorem l__law_far_1_ap (s : S) : l__law_far_1 s = (sDput 2 (eV 3) (eC (.int 0))) s := nr rfl
noncomputable def l__law_far_2 : SV := (sIf (tOfB (eDinR true 2 (eV 8))) (sSeq (sDput 2 (eV 8) (eOp2 addD (eDget 2 (eV 7)) (eC (.int 1))))
    (sEx (eApp 6 (eV 8)))) sNil)
theorem l__law_far_2_ap (s : S) : l__law_far_2 s = (sIf (tOfB (eDinR true 2 (eV 8))) (sSeq (sDput 2 (eV 8) (eOp2 addD (eDget 2 (eV 7)) (eC (.int 1))))
    (sEx (eApp 6 (eV 8)))) sNil) s := nr rfl
noncomputable def l__law_far_3 : SV := (sFor (iOf (eOp2 ixY (eV 0) (eV 7))) (gSet 8) l__law_far_2)
theorem l__law_far_3_ap (s : S) : l__law_far_3 s = (sFor (iOf (eOp2 ixY (eV 0) (eV 7))) (gSet 8) l__law_far_2) s := nr rfl
noncomputable def l__law_far_4 : SV := (sSeq (sAsg (eLst aNil) (gSet 6))
    (sSeq (sFor (iOf (eV 4)) (gSet 7) l__law_far_3)
    (sAsg (eV 6) (gSet 4))))
theorem l__law_far_4_ap (s : S) : l__law_far_4 s = (sSeq (sAsg (eLst aNil) (gSet 6))
    (sSeq (sFor (iOf (eV 4)) (gSet 7) l__law_far_3)
    (sAsg (eV 6) (gSet 4)))) s := nr rfl
noncomputable def b__law_far : SV :=
    (sSeq (sNewD 2)
    (sSeq (sFor (iOf (eV 1)) (gSet 3) l__law_far_1)
    (sSeq (sAsg (eOp1 listD (eV 1)) (gSet 4))
    (sSeq (sFor (iR1 (eOp1 lenD (eV 0))) (gSet 5) l__law_far_4)
    (sRet (eFzD 2))))))
theorem b__law_far_ap (s : S) : b__law_far s = (sSeq (sNewD 2)
    (sSeq (sFor (iOf (eV 1)) (gSet 3) l__law_far_1)
    (sSeq (sAsg (eOp1 listD (eV 1)) (gSet 4))
    (sSeq (sFor (iR1 (eOp1 lenD (eV 0))) (gSet 5) l__law_far_4)
    (sRet (eFzD 2)))))) s := nr rfl
noncomputable def m__law_far : Fn := sld (defF 2 9 b__law_far)
theorem m__law_far_ap (args : List RV) (W : List (List D)) : m__law_far args W = defF 2 9 b__law_far args W := fn_sld _ _ _
theorem ok__law_far {w : World} {K : PySem.W.Frag} {mg : Str → Option Value} {base : Heap} {tb : List Addr} (B : Bl mg) (R : Rw K mg base tb) : Has prog w K mg base tb 1 "_law_far" ["things", "roots"] m__law_far :=
  Has.sld <| Has.of R.r__law_far sc__law_far fun f cdv A outer s H E G ht hr =>
    (ss_cons (sd_newD (i := 2) sc__law_far.nd rfl (.inl rfl))
    (ss_cons (sd_for owns_cx rfl (id_val (ed_v 1)) (gd_name (i := 3) sc__law_far.nd rfl (.inl rfl)) (ss_one (sd_dput (u1 hr) (pv 2) (ed_v 3) ed_int)))
    (ss_cons (sd_set (i := 4) sc__law_far.nd rfl (.inl rfl) (ed_t1 call_list_of opv_list (by rfl) B.n_list bt_list (ed_v 1)))
    (ss_cons (sd_for owns_cx rfl (id_range1 (by rfl) B.n_range (ed_b1 call_lenA opv_len (by rfl) B.n_len bt_len (ed_v 0))) (gd_name (i := 5) sc__law_far.nd rfl (.inl rfl)) (ss_cons (sd_set (i := 6) sc__law_far.nd rfl (.inl rfl) (ed_lst ad_nil))
    (ss_cons (sd_for owns_cx rfl (id_val (ed_v 4)) (gd_name (i := 7) sc__law_far.nd rfl (.inl rfl)) (ss_one (sd_for owns_cx rfl (id_val (ed_ixY (u1 hr) (ed_v 0) (ed_v 7))) (gd_name (i := 8) sc__law_far.nd rfl (.inl rfl)) (ss_one (sd_if (td_dniR (u1 hr) (ed_v 8) (pv 2)) (ss_cons (sd_dput (u1 hr) (pv 2) (ed_v 8) (ed_add (ed_dget (u1 hr) (pv 2) (ed_v 7) (by exact fun _ _ => rfl)) ed_int))
    (ss_one (sd_expr (ed_append 6 (pv 6) (ed_v 8))))) ss_nil)))))
    (ss_one (sd_set (i := 4) sc__law_far.nd rfl (.inl rfl) (ed_v 6))))))
    (ss_one (sd_ret (ed_fzD 2)))))))
/-! _law_sets -/
abbrev s__law_sets : Stmt := topS 10
theorem sc__law_sets : FnScope ["some", "told", "one", "row"] ["some"] (defScope s__law_sets) := ⟨rfl, rfl, rfl, by decide +kernel, rfl, by decide +kernel, by decide +kernel⟩
noncomputable def x__law_sets_1 : EV := (eOp2 addD (eV 3) (eTup (aCons (eV 2) aNil)))
theorem x__law_sets_1_ap (s : S) : x__law_sets_1 s = (eOp2 addD (eV 3) (eTup (aCons (eV 2) aNil))) s := nr rfl
noncomputable def c__law_sets_1 : EV := eComp [3] (iOf (eV 1)) (gSet 3) tTrue x__law_sets_1
theorem c__law_sets_1_ap (s : S) : c__law_sets_1 s = (eComp [3] (iOf (eV 1)) (gSet 3) tTrue x__law_sets_1) s := nr rfl
noncomputable def l__law_sets_1 : SV := (sAsg (eOp2 addD (eV 1) c__law_sets_1) (gSet 1))
theorem l__law_sets_1_ap (s : S) : l__law_sets_1 s = (sAsg (eOp2 addD (eV 1) c__law_sets_1) (gSet 1)) s := nr rfl
noncomputable def b__law_sets : SV :=
    (sSeq (sAsg (eLst (aCons (eTup aNil) aNil)) (gSet 1))
    (sSeq (sFor (iOf (eV 0)) (gSet 2) l__law_sets_1)
    (sRet (eV 1))))
theorem b__law_sets_ap (s : S) : b__law_sets s = (sSeq (sAsg (eLst (aCons (eTup aNil) aNil)) (gSet 1))
    (sSeq (sFor (iOf (eV 0)) (gSet 2) l__law_sets_1)
    (sRet (eV 1)))) s := nr rfl
noncomputable def m__law_sets : Fn := sld (defF 1 4 b__law_sets)
theorem m__law_sets_ap (args : List RV) (W : List (List D)) : m__law_sets args W = defF 1 4 b__law_sets args W := fn_sld _ _ _
theorem ok__law_sets {w : World} {K : PySem.W.Frag} {mg : Str → Option Value} {base : Heap} {tb : List Addr} (B : Bl mg) (R : Rw K mg base tb) : Has prog w K mg base tb 1 "_law_sets" ["some"] m__law_sets :=
  Has.sld <| Has.of R.r__law_sets sc__law_sets fun f cdv A outer s H E G ht hr =>
    (ss_cons (sd_set (i := 1) sc__law_sets.nd rfl (.inl rfl) (ed_lst (ad_cons (ed_tup ad_nil) ad_nil)))
    (ss_cons (sd_for owns_cx rfl (id_val (ed_v 0)) (gd_name (i := 2) sc__law_sets.nd rfl (.inr rfl)) (ss_one (sd_set (i := 1) sc__law_sets.nd rfl (.inl rfl) (ed_add (ed_v 1) (ed_comp0 [("row", 3)] rfl sc__law_sets.nd (id_val (ed_v 1)) (blk_ok (by kernel_rfl)) (fun _ _ _ _ _ => (gv_name (i := 3) (by decide) sc__law_sets.nd rfl (.inl rfl))) (fun _ _ _ _ _ => (ed_add (ed_v 3) (ed_tup (ad_cons (ed_v 2) ad_nil)))))))))
    (ss_one (sd_ret (ed_v 1)))))
/-! _law_mixed -/
abbrev s__law_mixed : Stmt := topS 5
theorem sc__law_mixed : FnScope ["cell", "turn", "number"] ["cell", "turn"] (defScope s__law_mixed) := ⟨rfl, rfl, rfl, by decide +kernel, rfl, by decide +kernel, by decide +kernel⟩
noncomputable def b__law_mixed : SV :=
    (sSeq (sAsg (eOp2 modD (eOp2 addD (eOp2 addD (eOp2 mulD (eOp2 modD (eV 0) (eOp2 subD (eOp2 powD (eC (.int 2)) (eC (.int 61))) (eC (.int 1)))) (eC (.int 6364136223846793005))) (eOp2 mulD (eV 1) (eC (.int 1442695040888963407)))) (eC (.int 97))) (eOp2 powD (eC (.int 2)) (eC (.int 61)))) (gSet 2))
    (sSeq (sAsg (eOp2 modD (eOp2 mulD (eOp2 xorD (eV 2) (eOp2 shrD (eV 2) (eC (.int 29)))) (eC (.int 3935559000370003845))) (eOp2 powD (eC (.int 2)) (eC (.int 61)))) (gSet 2))
    (sRet (eOp2 modD (eOp2 mulD (eOp2 xorD (eV 2) (eOp2 shrD (eV 2) (eC (.int 31)))) (eC (.int 2862933555777941757))) (eOp2 powD (eC (.int 2)) (eC (.int 61)))))))
theorem b__law_mixed_ap (s : S) : b__law_mixed s = (sSeq (sAsg (eOp2 modD (eOp2 addD (eOp2 addD (eOp2 mulD (eOp2 modD (eV 0) (eOp2 subD (eOp2 powD (eC (.int 2)) (eC (.int 61))) (eC (.int 1)))) (eC (.int 6364136223846793005))) (eOp2 mulD (eV 1) (eC (.int 1442695040888963407)))) (eC (.int 97))) (eOp2 powD (eC (.int 2)) (eC (.int 61)))) (gSet 2))
    (sSeq (sAsg (eOp2 modD (eOp2 mulD (eOp2 xorD (eV 2) (eOp2 shrD (eV 2) (eC (.int 29)))) (eC (.int 3935559000370003845))) (eOp2 powD (eC (.int 2)) (eC (.int 61)))) (gSet 2))
    (sRet (eOp2 modD (eOp2 mulD (eOp2 xorD (eV 2) (eOp2 shrD (eV 2) (eC (.int 31)))) (eC (.int 2862933555777941757))) (eOp2 powD (eC (.int 2)) (eC (.int 61))))))) s := nr rfl
noncomputable def m__law_mixed : Fn := sld (defF 2 3 b__law_mixed)
theorem m__law_mixed_ap (args : List RV) (W : List (List D)) : m__law_mixed args W = defF 2 3 b__law_mixed args W := fn_sld _ _ _
theorem ok__law_mixed {w : World} {K : PySem.W.Frag} {mg : Str → Option Value} {base : Heap} {tb : List Addr} (B : Bl mg) (R : Rw K mg base tb) : Has prog w K mg base tb 1 "_law_mixed" ["cell", "turn"] m__law_mixed :=
  Has.sld <| Has.of R.r__law_mixed sc__law_mixed fun f cdv A outer s H E G ht hr =>
    (ss_cons (sd_set (i := 2) sc__law_mixed.nd rfl (.inl rfl) (ed_mod (ed_add (ed_add (ed_mul (ed_mod (ed_v 0) (ed_sub (ed_pow ed_int ed_int) ed_int)) ed_int) (ed_mul (ed_v 1) ed_int)) ed_int) (ed_pow ed_int ed_int)))
    (ss_cons (sd_set (i := 2) sc__law_mixed.nd rfl (.inl rfl) (ed_mod (ed_mul (ed_xor (ed_v 2) (ed_shr (ed_v 2) ed_int)) ed_int) (ed_pow ed_int ed_int)))
    (ss_one (sd_ret (ed_mod (ed_mul (ed_xor (ed_v 2) (ed_shr (ed_v 2) ed_int)) ed_int) (ed_pow ed_int ed_int))))))
/-! _law_draw -/
abbrev s__law_draw : Stmt := topS 6
theorem sc__law_draw : FnScope ["draws", "size", "turn", "left", "cells", "cell"] ["draws", "size"] (defScope s__law_draw) := ⟨rfl, rfl, rfl, by decide +kernel, rfl, by decide +kernel, by decide +kernel⟩
noncomputable def b__law_draw : SV :=
    (sSeq (sAsg (eV 0) (gTupD (lenIs 3 (gConsD (gSet 2) (gConsD (gSet 3) (gConsD (gSet 4) gNilD))))))
    (sSeq (sIf (tOfB (eOp2 ltC (eV 3) (eV 1))) (sSeq (sAsg (eOp2 ixY (eV 4) (eOp2 modD (eV 2) (eOp1 lenD (eV 4)))) (gSet 5))
    (sSeq (sAsg (eIfD (tAndD (tOfB (eOp2 ltC (eV 2) (eOp1 lenD (eV 4)))) (tOfB (eOp2 geC (eV 5) (eOp2 powD (eC (.int 10)) (eC (.int 18)))))) (eV 5) (eCall m__law_mixed (aCons (eV 5) (aCons (eV 2) aNil)))) (gSet 3))
    (sAsg (eOp2 addD (eV 2) (eC (.int 1))) (gSet 2)))) sNil)
    (sSeq (sAsg (eV 2) (gSubD 0 (eC (.int 0))))
    (sSeq (sAsg (eOp2 fdivD (eV 3) (eV 1)) (gSubD 0 (eC (.int 1))))
    (sRet (eOp2 modD (eV 3) (eV 1)))))))
theorem b__law_draw_ap (s : S) : b__law_draw s = (sSeq (sAsg (eV 0) (gTupD (lenIs 3 (gConsD (gSet 2) (gConsD (gSet 3) (gConsD (gSet 4) gNilD))))))
    (sSeq (sIf (tOfB (eOp2 ltC (eV 3) (eV 1))) (sSeq (sAsg (eOp2 ixY (eV 4) (eOp2 modD (eV 2) (eOp1 lenD (eV 4)))) (gSet 5))
    (sSeq (sAsg (eIfD (tAndD (tOfB (eOp2 ltC (eV 2) (eOp1 lenD (eV 4)))) (tOfB (eOp2 geC (eV 5) (eOp2 powD (eC (.int 10)) (eC (.int 18)))))) (eV 5) (eCall m__law_mixed (aCons (eV 5) (aCons (eV 2) aNil)))) (gSet 3))
    (sAsg (eOp2 addD (eV 2) (eC (.int 1))) (gSet 2)))) sNil)
    (sSeq (sAsg (eV 2) (gSubD 0 (eC (.int 0))))
    (sSeq (sAsg (eOp2 fdivD (eV 3) (eV 1)) (gSubD 0 (eC (.int 1))))
    (sRet (eOp2 modD (eV 3) (eV 1))))))) s := nr rfl
noncomputable def m__law_draw : Fn := sld (defF 2 6 b__law_draw)
theorem m__law_draw_ap (args : List RV) (W : List (List D)) : m__law_draw args W = defF 2 6 b__law_draw args W := fn_sld _ _ _
theorem ok__law_draw {w : World} {K : PySem.W.Frag} {mg : Str → Option Value} {base : Heap} {tb : List Addr} (B : Bl mg) (R : Rw K mg base tb) (h__law_mixed : Has prog w K mg base tb 1 "_law_mixed" ["cell", "turn"] m__law_mixed) : Has prog w K mg base tb 2 "_law_draw" ["draws", "size"] m__law_draw :=
  Has.sld <| Has.of R.r__law_draw sc__law_draw fun f cdv A outer s H E G ht hr =>
    (ss_cons (sd_asg (ed_v 0) (gd_tup rfl (gs_cons (gd_name (i := 2) sc__law_draw.nd rfl (.inl rfl)) (gs_cons (gd_name (i := 3) sc__law_draw.nd rfl (.inl rfl)) (gs_cons (gd_name (i := 4) sc__law_draw.nd rfl (.inl rfl)) gs_nil)))))
    (ss_cons (sd_if (td_cmp (op_ltA (u64 hr)) opv_lt (ed_v 3) (ed_v 1) (by rfl)) (ss_cons (sd_set (i := 5) sc__law_draw.nd rfl (.inl rfl) (ed_ixY (u1 hr) (ed_v 4) (ed_mod (ed_v 2) (ed_b1 call_lenA opv_len (by rfl) B.n_len bt_len (ed_v 4)))))
    (ss_cons (sd_set (i := 3) sc__law_draw.nd rfl (.inl rfl) (ed_ifE (WD.td (wd_and (td_cmp (op_ltA (u64 hr)) opv_lt (ed_v 2) (ed_b1 call_lenA opv_len (by rfl) B.n_len bt_len (ed_v 4)) (by rfl)) (wd_and1 (td_cmp op_geA opv_ge (ed_v 5) (ed_pow ed_int ed_int) (by rfl))))) (ed_v 5) (ed_callH h__law_mixed hr ht takes_cx (ad_cons (ed_v 5) (ad_cons (ed_v 2) ad_nil)) (by decide))))
    (ss_one (sd_set (i := 2) sc__law_draw.nd rfl (.inl rfl) (ed_add (ed_v 2) ed_int))))) ss_nil)
    (ss_cons (sd_asg (ed_v 2) (gd_sub 0 (pv 0) ed_int))
    (ss_cons (sd_asg (ed_fdiv (ed_v 3) (ed_v 1)) (gd_sub 0 (pv 0) ed_int))
    (ss_one (sd_ret (ed_mod (ed_v 3) (ed_v 1))))))))
/-! _law_heap -/
abbrev s__law_heap : Stmt := topS 8
theorem sc__law_heap : FnScope ["draws", "most", "many", "thin", "things", "one", "k", "few"] ["draws", "most"] (defScope s__law_heap) := ⟨rfl, rfl, rfl, by decide +kernel, rfl, by decide +kernel, by decide +kernel⟩
noncomputable def x__law_heap_1 : EV := (eV 5)
theorem x__law_heap_1_ap (s : S) : x__law_heap_1 s = (eV 5) s := nr rfl
noncomputable def t__law_heap_1 : TV := (tOfB (eOp2 eqC (eCall m__law_draw (aCons (eV 0) (aCons (eV 3) aNil))) (eC (.int 0))))
theorem t__law_heap_1_ap (s : S) : t__law_heap_1 s = (tOfB (eOp2 eqC (eCall m__law_draw (aCons (eV 0) (aCons (eV 3) aNil))) (eC (.int 0)))) s := nr rfl
noncomputable def c__law_heap_1 : EV := eComp [5] (iR1 (eV 2)) (gSet 5) t__law_heap_1 x__law_heap_1
theorem c__law_heap_1_ap (s : S) : c__law_heap_1 s = (eComp [5] (iR1 (eV 2)) (gSet 5) t__law_heap_1 x__law_heap_1) s := nr rfl
noncomputable def x__law_heap_2 : EV := (eOp1 tupleD c__law_heap_1)
theorem x__law_heap_2_ap (s : S) : x__law_heap_2 s = (eOp1 tupleD c__law_heap_1) s := nr rfl
noncomputable def c__law_heap_2 : EV := eComp [6] (iR1 (eV 2)) (gSet 6) tTrue x__law_heap_2
theorem c__law_heap_2_ap (s : S) : c__law_heap_2 s = (eComp [6] (iR1 (eV 2)) (gSet 6) tTrue x__law_heap_2) s := nr rfl
noncomputable def x__law_heap_3 : EV := (eV 5)
theorem x__law_heap_3_ap (s : S) : x__law_heap_3 s = (eV 5) s := nr rfl
noncomputable def t__law_heap_3 : TV := (tOfB (eOp2 eqC (eCall m__law_draw (aCons (eV 0) (aCons (eV 7) aNil))) (eC (.int 0))))
theorem t__law_heap_3_ap (s : S) : t__law_heap_3 s = (tOfB (eOp2 eqC (eCall m__law_draw (aCons (eV 0) (aCons (eV 7) aNil))) (eC (.int 0)))) s := nr rfl
noncomputable def c__law_heap_3 : EV := eComp [5] (iR1 (eV 2)) (gSet 5) t__law_heap_3 x__law_heap_3
theorem c__law_heap_3_ap (s : S) : c__law_heap_3 s = (eComp [5] (iR1 (eV 2)) (gSet 5) t__law_heap_3 x__law_heap_3) s := nr rfl
noncomputable def b__law_heap : SV :=
    (sSeq (sAsg (eOp2 addD (eC (.int 1)) (eCall m__law_draw (aCons (eV 0) (aCons (eV 1) aNil)))) (gSet 2))
    (sSeq (sAsg (eOp2 addD (eC (.int 2)) (eCall m__law_draw (aCons (eV 0) (aCons (eC (.int 8)) aNil)))) (gSet 3))
    (sSeq (sAsg (eOp1 tupleD c__law_heap_2) (gSet 4))
    (sSeq (sAsg (eOp2 addD (eC (.int 1)) (eCall m__law_draw (aCons (eV 0) (aCons (eC (.int 6)) aNil)))) (gSet 7))
    (sRet (eTup (aCons (eV 4) (aCons (eOp1 tupleD c__law_heap_3) aNil))))))))
theorem b__law_heap_ap (s : S) : b__law_heap s = (sSeq (sAsg (eOp2 addD (eC (.int 1)) (eCall m__law_draw (aCons (eV 0) (aCons (eV 1) aNil)))) (gSet 2))
    (sSeq (sAsg (eOp2 addD (eC (.int 2)) (eCall m__law_draw (aCons (eV 0) (aCons (eC (.int 8)) aNil)))) (gSet 3))
    (sSeq (sAsg (eOp1 tupleD c__law_heap_2) (gSet 4))
    (sSeq (sAsg (eOp2 addD (eC (.int 1)) (eCall m__law_draw (aCons (eV 0) (aCons (eC (.int 6)) aNil)))) (gSet 7))
    (sRet (eTup (aCons (eV 4) (aCons (eOp1 tupleD c__law_heap_3) aNil)))))))) s := nr rfl
noncomputable def m__law_heap : Fn := sld (defF 2 8 b__law_heap)
theorem m__law_heap_ap (args : List RV) (W : List (List D)) : m__law_heap args W = defF 2 8 b__law_heap args W := fn_sld _ _ _
theorem ok__law_heap {w : World} {K : PySem.W.Frag} {mg : Str → Option Value} {base : Heap} {tb : List Addr} (B : Bl mg) (R : Rw K mg base tb) (h__law_draw : Has prog w K mg base tb 2 "_law_draw" ["draws", "size"] m__law_draw) : Has prog w K mg base tb 3 "_law_heap" ["draws", "most"] m__law_heap :=
  Has.sld <| Has.of R.r__law_heap sc__law_heap fun f cdv A outer s H E G ht hr =>
    (ss_cons (sd_set (i := 2) sc__law_heap.nd rfl (.inr rfl) (ed_add ed_int (ed_callH h__law_draw hr ht takes_cx (ad_cons (ed_v 0) (ad_cons (ed_v 1) ad_nil)) (by decide))))
    (ss_cons (sd_set (i := 3) sc__law_heap.nd rfl (.inr rfl) (ed_add ed_int (ed_callH h__law_draw hr ht takes_cx (ad_cons (ed_v 0) (ad_cons ed_int ad_nil)) (by decide))))
    (ss_cons (sd_set (i := 4) sc__law_heap.nd rfl (.inl rfl) (ed_t1 call_tuple_of opv_tuple (by rfl) B.n_tuple bt_tuple (ed_comp0 [("k", 6)] rfl sc__law_heap.nd (id_range1 (by rfl) B.n_range (ed_v 2)) (blk_ok (by kernel_rfl)) (fun _ _ _ _ _ => (gv_name (i := 6) (by decide) sc__law_heap.nd rfl (.inl rfl))) (fun _ _ _ _ _ => (ed_t1 call_tuple_of opv_tuple (by rfl) B.n_tuple bt_tuple (ed_comp1 [("one", 5)] rfl sc__law_heap.nd (id_range1 (by rfl) B.n_range (ed_v 2)) (blk_ok (by kernel_rfl)) (fun _ _ _ _ _ => (gv_name (i := 5) (by decide) sc__law_heap.nd rfl (.inl rfl))) (fun _ _ _ _ _ => (td_cmp (op_eqA (u64 hr)) opv_eq (ed_callH h__law_draw hr ht takesX (ad_cons (ed_v 0) (ad_cons (ed_v 3) ad_nil)) (by decide)) ed_int (by rfl))) (fun _ _ _ _ _ => (ed_v 5))))))))
    (ss_cons (sd_set (i := 7) sc__law_heap.nd rfl (.inr rfl) (ed_add ed_int (ed_callH h__law_draw hr ht takes_cx (ad_cons (ed_v 0) (ad_cons ed_int ad_nil)) (by decide))))
    (ss_one (sd_ret (ed_tup (ad_cons (ed_v 4) (ad_cons (ed_t1 call_tuple_of opv_tuple (by rfl) B.n_tuple bt_tuple (ed_comp1 [("one", 5)] rfl sc__law_heap.nd (id_range1 (by rfl) B.n_range (ed_v 2)) (blk_ok (by kernel_rfl)) (fun _ _ _ _ _ => (gv_name (i := 5) (by decide) sc__law_heap.nd rfl (.inl rfl))) (fun _ _ _ _ _ => (td_cmp (op_eqA (u64 hr)) opv_eq (ed_callH h__law_draw hr ht takesX (ad_cons (ed_v 0) (ad_cons (ed_v 7) ad_nil)) (by decide)) ed_int (by rfl))) (fun _ _ _ _ _ => (ed_v 5)))) ad_nil)))))))))
/-! _law_int -/
abbrev s__law_int : Stmt := topS 7
theorem sc__law_int : FnScope ["value"] ["value"] (defScope s__law_int) := ⟨rfl, rfl, rfl, by decide +kernel, rfl, by decide +kernel, by decide +kernel⟩
noncomputable def b__law_int : SV :=
    (sRet (eAndD (eOp2 isi2 (eV 0) (eC (.ty "int"))) (eOp1 notD (eOp2 isi2 (eV 0) (eC (.ty "bool"))))))
theorem b__law_int_ap (s : S) : b__law_int s = (sRet (eAndD (eOp2 isi2 (eV 0) (eC (.ty "int"))) (eOp1 notD (eOp2 isi2 (eV 0) (eC (.ty "bool")))))) s := nr rfl
noncomputable def m__law_int : Fn := sld (defF 1 1 b__law_int)
theorem m__law_int_ap (args : List RV) (W : List (List D)) : m__law_int args W = defF 1 1 b__law_int args W := fn_sld _ _ _
theorem ok__law_int {w : World} {K : PySem.W.Frag} {mg : Str → Option Value} {base : Heap} {tb : List Addr} (B : Bl mg) (R : Rw K mg base tb) : Has prog w K mg base tb 1 "_law_int" ["value"] m__law_int :=
  Has.sld <| Has.of R.r__law_int sc__law_int fun f cdv A outer s H E G ht hr =>
    (ss_one (sd_ret (ed_andV (ed_b2 call_isi opv_isi (by rfl) B.n_isinstance bt_isinstance (ed_v 0) (ed_ty (by rfl) B.n_int bt_int)) (ed_oneV (ed_notV (ed_b2 call_isi opv_isi (by rfl) B.n_isinstance bt_isinstance (ed_v 0) (ed_ty (by rfl) B.n_bool bt_bool)))))))
/-! law -/
abbrev s_law : Stmt := topS 11
theorem sc_law : FnScope ["script", "draws", "turn", "things", "told", "one", "found", "far", "other", "kept", "some", "reach", "ring", "k"] ["script"] (defScope s_law) := ⟨rfl, rfl, rfl, by decide +kernel, rfl, by decide +kernel, by decide +kernel⟩
noncomputable def x_law_1 : EV := (eV 5)
theorem x_law_1_ap (s : S) : x_law_1 s = (eV 5) s := nr rfl
noncomputable def t_law_1 : TV := (tOfB (eOp2 gtC (eCall m__law_draw (aCons (eV 1) (aCons (eC (.int 3)) aNil))) (eC (.int 0))))
theorem t_law_1_ap (s : S) : t_law_1 s = (tOfB (eOp2 gtC (eCall m__law_draw (aCons (eV 1) (aCons (eC (.int 3)) aNil))) (eC (.int 0)))) s := nr rfl
noncomputable def c_law_1 : EV := eComp [5] (iR1 (eOp1 lenD (eV 3))) (gSet 5) t_law_1 x_law_1
theorem c_law_1_ap (s : S) : c_law_1 s = (eComp [5] (iR1 (eOp1 lenD (eV 3))) (gSet 5) t_law_1 x_law_1) s := nr rfl
noncomputable def x_law_2 : EV := (eV 5)
theorem x_law_2_ap (s : S) : x_law_2 s = (eV 5) s := nr rfl
noncomputable def t_law_2 : TV := (tOrD (tNotD (tOf (eCall m__law_int (aCons (eV 5) aNil)))) (tOfB (eOp2 niY (eV 5) (eV 4))))
theorem t_law_2_ap (s : S) : t_law_2 s = (tOrD (tNotD (tOf (eCall m__law_int (aCons (eV 5) aNil)))) (tOfB (eOp2 niY (eV 5) (eV 4)))) s := nr rfl
noncomputable def c_law_2 : EV := eComp [5] (iOf (eV 6)) (gSet 5) t_law_2 x_law_2
theorem c_law_2_ap (s : S) : c_law_2 s = (eComp [5] (iOf (eV 6)) (gSet 5) t_law_2 x_law_2) s := nr rfl
noncomputable def l_law_1 : SV := (sDput 7 (eV 5) (eCall m__law_far (aCons (eV 3) (aCons (eTup (aCons (eV 5) aNil)) aNil))))
theorem l_law_1_ap (s : S) : l_law_1 s = (sDput 7 (eV 5) (eCall m__law_far (aCons (eV 3) (aCons (eTup (aCons (eV 5) aNil)) aNil)))) s := nr rfl
noncomputable def x_law_3 : EV := (eV 8)
theorem x_law_3_ap (s : S) : x_law_3 s = (eV 8) s := nr rfl
noncomputable def t_law_3 : TV := (tAndD (tOfB (eOp2 neC (eV 8) (eV 5))) (tOfB (eOp2 inY (eV 8) (eDget 7 (eV 5)))))
theorem t_law_3_ap (s : S) : t_law_3 s = (tAndD (tOfB (eOp2 neC (eV 8) (eV 5))) (tOfB (eOp2 inY (eV 8) (eDget 7 (eV 5))))) s := nr rfl
noncomputable def c_law_3 : EV := eComp [8] (iOf (eV 6)) (gSet 8) t_law_3 x_law_3
theorem c_law_3_ap (s : S) : c_law_3 s = (eComp [8] (iOf (eV 6)) (gSet 8) t_law_3 x_law_3) s := nr rfl
noncomputable def x_law_4 : EV := (eV 5)
theorem x_law_4_ap (s : S) : x_law_4 s = (eV 5) s := nr rfl
noncomputable def t_law_4 : TV := (tOfB (eOp2 neC c_law_3 (eLst aNil)))
theorem t_law_4_ap (s : S) : t_law_4 s = (tOfB (eOp2 neC c_law_3 (eLst aNil))) s := nr rfl
noncomputable def c_law_4 : EV := eComp [5] (iOf (eV 6)) (gSet 5) t_law_4 x_law_4
theorem c_law_4_ap (s : S) : c_law_4 s = (eComp [5] (iOf (eV 6)) (gSet 5) t_law_4 x_law_4) s := nr rfl
noncomputable def x_law_5 : EV := (eV 8)
theorem x_law_5_ap (s : S) : x_law_5 s = (eV 8) s := nr rfl
noncomputable def t_law_5 : TV := (tAndD (tOfB (eOp2 ltC (eV 8) (eV 5))) (tAndD (tOfB (eOp2 inY (eV 8) (eDget 7 (eV 5)))) (tOfB (eOp2 inY (eV 5) (eDget 7 (eV 8))))))
theorem t_law_5_ap (s : S) : t_law_5 s = (tAndD (tOfB (eOp2 ltC (eV 8) (eV 5))) (tAndD (tOfB (eOp2 inY (eV 8) (eDget 7 (eV 5)))) (tOfB (eOp2 inY (eV 5) (eDget 7 (eV 8)))))) s := nr rfl
noncomputable def c_law_5 : EV := eComp [8] (iOf (eV 4)) (gSet 8) t_law_5 x_law_5
theorem c_law_5_ap (s : S) : c_law_5 s = (eComp [8] (iOf (eV 4)) (gSet 8) t_law_5 x_law_5) s := nr rfl
noncomputable def x_law_6 : EV := (eV 5)
theorem x_law_6_ap (s : S) : x_law_6 s = (eV 5) s := nr rfl
noncomputable def t_law_6 : TV := (tOfB (eOp2 neC c_law_5 (eLst aNil)))
theorem t_law_6_ap (s : S) : t_law_6 s = (tOfB (eOp2 neC c_law_5 (eLst aNil))) s := nr rfl
noncomputable def c_law_6 : EV := eComp [5] (iOf (eV 6)) (gSet 5) t_law_6 x_law_6
theorem c_law_6_ap (s : S) : c_law_6 s = (eComp [5] (iOf (eV 6)) (gSet 5) t_law_6 x_law_6) s := nr rfl
noncomputable def x_law_7 : EV := (eV 5)
theorem x_law_7_ap (s : S) : x_law_7 s = (eV 5) s := nr rfl
noncomputable def t_law_7 : TV := (tOfB (eOp2 niY (eV 5) (eV 9)))
theorem t_law_7_ap (s : S) : t_law_7 s = (tOfB (eOp2 niY (eV 5) (eV 9))) s := nr rfl
noncomputable def c_law_7 : EV := eComp [5] (iOf (eV 4)) (gSet 5) t_law_7 x_law_7
theorem c_law_7_ap (s : S) : c_law_7 s = (eComp [5] (iOf (eV 4)) (gSet 5) t_law_7 x_law_7) s := nr rfl
noncomputable def x_law_8 : EV := (eV 5)
theorem x_law_8_ap (s : S) : x_law_8 s = (eV 5) s := nr rfl
noncomputable def t_law_8 : TV := (tOfB (eOp2 niY (eV 5) (eV 11)))
theorem t_law_8_ap (s : S) : t_law_8 s = (tOfB (eOp2 niY (eV 5) (eV 11))) s := nr rfl
noncomputable def c_law_8 : EV := eComp [5] (iOf (eV 4)) (gSet 5) t_law_8 x_law_8
theorem c_law_8_ap (s : S) : c_law_8 s = (eComp [5] (iOf (eV 4)) (gSet 5) t_law_8 x_law_8) s := nr rfl
noncomputable def l_law_2 : SV := (sIf (tOfB (eOp2 ltC (eOp1 lenD (eV 10)) (eOp1 lenD (eV 6)))) (sSeq (sAsg (eCall m__law_far (aCons (eV 3) (aCons (eV 10) aNil))) (gSet 11))
    (sIf (tOfB (eOp2 eqC c_law_8 (eLst aNil))) (sRet (eC (.bl false))) sNil)) sNil)
theorem l_law_2_ap (s : S) : l_law_2 s = (sIf (tOfB (eOp2 ltC (eOp1 lenD (eV 10)) (eOp1 lenD (eV 6)))) (sSeq (sAsg (eCall m__law_far (aCons (eV 3) (aCons (eV 10) aNil))) (gSet 11))
    (sIf (tOfB (eOp2 eqC c_law_8 (eLst aNil))) (sRet (eC (.bl false))) sNil)) sNil) s := nr rfl
noncomputable def e_law_1 : SV := (sAsg (eOp2 ixY (eCall m__law_heap (aCons (eV 1) (aCons (eC (.int 9)) aNil))) (eC (.int 0))) (gSet 3))
theorem e_law_1_ap (s : S) : e_law_1 s = (sAsg (eOp2 ixY (eCall m__law_heap (aCons (eV 1) (aCons (eC (.int 9)) aNil))) (eC (.int 0))) (gSet 3)) s := nr rfl
noncomputable def e_law_2 : SV := (sAsg (eOp1 tupleD c_law_1) (gSet 4))
theorem e_law_2_ap (s : S) : e_law_2 s = (sAsg (eOp1 tupleD c_law_1) (gSet 4)) s := nr rfl
noncomputable def e_law_3 : SV := (sAsg (eCall m_keepers (aCons (eV 3) (aCons (eV 4) aNil))) (gSet 6))
theorem e_law_3_ap (s : S) : e_law_3 s = (sAsg (eCall m_keepers (aCons (eV 3) (aCons (eV 4) aNil))) (gSet 6)) s := nr rfl
noncomputable def e_law_4 : SV := (sIf (tOrD (tNotD (tOf (eOp2 isi2 (eV 6) (eC (.ty "tuple"))))) (tOrD (tOfB (eOp2 neC c_law_2 (eLst aNil))) (tOfB (eOp2 neC (eOp1 listD (eV 6)) (eOp1 sortY (eV 6)))))) (sRet (eC (.bl false))) sNil)
theorem e_law_4_ap (s : S) : e_law_4 s = (sIf (tOrD (tNotD (tOf (eOp2 isi2 (eV 6) (eC (.ty "tuple"))))) (tOrD (tOfB (eOp2 neC c_law_2 (eLst aNil))) (tOfB (eOp2 neC (eOp1 listD (eV 6)) (eOp1 sortY (eV 6)))))) (sRet (eC (.bl false))) sNil) s := nr rfl
noncomputable def e_law_5 : SV := (sNewD 7)
theorem e_law_5_ap (s : S) : e_law_5 s = (sNewD 7) s := nr rfl
noncomputable def e_law_6 : SV := (sFor (iR1 (eOp1 lenD (eV 3))) (gSet 5) l_law_1)
theorem e_law_6_ap (s : S) : e_law_6 s = (sFor (iR1 (eOp1 lenD (eV 3))) (gSet 5) l_law_1) s := nr rfl
noncomputable def e_law_7 : SV := (sIf (tOfB (eOp2 neC c_law_4 (eLst aNil))) (sRet (eC (.bl false))) sNil)
theorem e_law_7_ap (s : S) : e_law_7 s = (sIf (tOfB (eOp2 neC c_law_4 (eLst aNil))) (sRet (eC (.bl false))) sNil) s := nr rfl
noncomputable def e_law_8 : SV := (sIf (tOfB (eOp2 neC c_law_6 (eLst aNil))) (sRet (eC (.bl false))) sNil)
theorem e_law_8_ap (s : S) : e_law_8 s = (sIf (tOfB (eOp2 neC c_law_6 (eLst aNil))) (sRet (eC (.bl false))) sNil) s := nr rfl
noncomputable def e_law_9 : SV := (sAsg (eCall m__law_far (aCons (eV 3) (aCons (eV 6) aNil))) (gSet 9))
theorem e_law_9_ap (s : S) : e_law_9 s = (sAsg (eCall m__law_far (aCons (eV 3) (aCons (eV 6) aNil))) (gSet 9)) s := nr rfl
noncomputable def e_law_10 : SV := (sIf (tOfB (eOp2 neC c_law_7 (eLst aNil))) (sRet (eC (.bl false))) sNil)
theorem e_law_10_ap (s : S) : e_law_10 s = (sIf (tOfB (eOp2 neC c_law_7 (eLst aNil))) (sRet (eC (.bl false))) sNil) s := nr rfl
noncomputable def e_law_11 : SV := (sFor (iOf (eCall m__law_sets (aCons (eV 4) aNil))) (gSet 10) l_law_2)
theorem e_law_11_ap (s : S) : e_law_11 s = (sFor (iOf (eCall m__law_sets (aCons (eV 4) aNil))) (gSet 10) l_law_2) s := nr rfl
noncomputable def l_law_3 : SV := (sSeq e_law_1
    (sSeq e_law_2
    (sSeq e_law_3
    (sSeq e_law_4
    (sSeq e_law_5
    (sSeq e_law_6
    (sSeq e_law_7
    (sSeq e_law_8
    (sSeq e_law_9
    (sSeq e_law_10
    e_law_11))))))))))
theorem l_law_3_ap (s : S) : l_law_3 s = (sSeq e_law_1
    (sSeq e_law_2
    (sSeq e_law_3
    (sSeq e_law_4
    (sSeq e_law_5
    (sSeq e_law_6
    (sSeq e_law_7
    (sSeq e_law_8
    (sSeq e_law_9
    (sSeq e_law_10
    e_law_11)))))))))) s := nr rfl
noncomputable def x_law_9 : EV := (eTup (aCons (eOp2 modD (eOp1 intD (eOp2 addD (eV 13) (eC (.int 1)))) (eC (.int 9))) aNil))
theorem x_law_9_ap (s : S) : x_law_9 s = (eTup (aCons (eOp2 modD (eOp1 intD (eOp2 addD (eV 13) (eC (.int 1)))) (eC (.int 9))) aNil)) s := nr rfl
noncomputable def c_law_9 : EV := eComp [13] (iR1 (eC (.int 9))) (gSet 13) tTrue x_law_9
theorem c_law_9_ap (s : S) : c_law_9 s = (eComp [13] (iR1 (eC (.int 9))) (gSet 13) tTrue x_law_9) s := nr rfl
noncomputable def a_law_1 : SV := (sAsg (eCall m__law_open (aCons (eV 0) aNil)) (gShare 1))
theorem a_law_1_ap (s : S) : a_law_1 s = (sAsg (eCall m__law_open (aCons (eV 0) aNil)) (gShare 1)) s := nr rfl
noncomputable def a_law_2 : SV := (sFor (iR1 (eC (.int 3))) (gSet 2) l_law_3)
theorem a_law_2_ap (s : S) : a_law_2 s = (sFor (iR1 (eC (.int 3))) (gSet 2) l_law_3) s := nr rfl
noncomputable def a_law_3 : SV := (sAsg (eOp1 tupleD c_law_9) (gSet 12))
theorem a_law_3_ap (s : S) : a_law_3 s = (sAsg (eOp1 tupleD c_law_9) (gSet 12)) s := nr rfl
noncomputable def a_law_4 : SV := (sRet (eAndD (eOp2 eqC (eCall m_keepers (aCons (eV 12) (aCons (eTup (aCons (eC (.int 3)) (aCons (eC (.int 5)) (aCons (eC (.int 8)) aNil)))) aNil))) (eTup (aCons (eC (.int 3)) aNil))) (eAndD (eOp2 eqC (eCall m_keepers (aCons (eOp2 mulD (eTup (aCons (eTup aNil) aNil)) (eC (.int 5))) (aCons (eTup (aCons (eC (.int 0)) (aCons (eC (.int 2)) (aCons (eC (.int 4)) aNil)))) aNil))) (eTup (aCons (eC (.int 0)) (aCons (eC (.int 2)) (aCons (eC (.int 4)) aNil))))) (eOp2 eqC (eCall m_keepers (aCons (eV 12) (aCons (eTup aNil) aNil))) (eTup aNil)))))
theorem a_law_4_ap (s : S) : a_law_4 s = (sRet (eAndD (eOp2 eqC (eCall m_keepers (aCons (eV 12) (aCons (eTup (aCons (eC (.int 3)) (aCons (eC (.int 5)) (aCons (eC (.int 8)) aNil)))) aNil))) (eTup (aCons (eC (.int 3)) aNil))) (eAndD (eOp2 eqC (eCall m_keepers (aCons (eOp2 mulD (eTup (aCons (eTup aNil) aNil)) (eC (.int 5))) (aCons (eTup (aCons (eC (.int 0)) (aCons (eC (.int 2)) (aCons (eC (.int 4)) aNil)))) aNil))) (eTup (aCons (eC (.int 0)) (aCons (eC (.int 2)) (aCons (eC (.int 4)) aNil))))) (eOp2 eqC (eCall m_keepers (aCons (eV 12) (aCons (eTup aNil) aNil))) (eTup aNil))))) s := nr rfl
noncomputable def b_law : SV :=
    (sSeq a_law_1
    (sSeq a_law_2
    (sSeq a_law_3
    a_law_4)))
theorem b_law_ap (s : S) : b_law s = (sSeq a_law_1
    (sSeq a_law_2
    (sSeq a_law_3
    a_law_4))) s := nr rfl
noncomputable def m_law : Fn := sld (defF 1 14 b_law)
theorem m_law_ap (args : List RV) (W : List (List D)) : m_law args W = defF 1 14 b_law args W := fn_sld _ _ _
theorem ok_law {w : World} {K : PySem.W.Frag} {mg : Str → Option Value} {base : Heap} {tb : List Addr} (B : Bl mg) (R : Rw K mg base tb) (h__law_open : Has prog w K mg base tb 1 "_law_open" ["script"] m__law_open) (h_keepers : Has prog w K mg base tb 2 "keepers" ["things", "told"] m_keepers) (h__law_far : Has prog w K mg base tb 1 "_law_far" ["things", "roots"] m__law_far) (h__law_sets : Has prog w K mg base tb 1 "_law_sets" ["some"] m__law_sets) (h__law_draw : Has prog w K mg base tb 2 "_law_draw" ["draws", "size"] m__law_draw) (h__law_heap : Has prog w K mg base tb 3 "_law_heap" ["draws", "most"] m__law_heap) (h__law_int : Has prog w K mg base tb 1 "_law_int" ["value"] m__law_int) : Has prog w K mg base tb 4 "law" ["script"] m_law :=
  Has.sld <| Has.of R.r_law sc_law fun f cdv A outer s H E G ht hr =>
    (ss_cons (sd_share (i := 1) sc_law.nd rfl (.inr rfl) (ed_callH h__law_open hr ht takes_cx (ad_cons (ed_v 0) ad_nil) (by decide)))
    (ss_cons (sd_for owns_cx rfl (id_range1 (by rfl) B.n_range ed_int) (gd_name (i := 2) sc_law.nd rfl (.inl rfl)) (ss_cons (sd_set (i := 3) sc_law.nd rfl (.inl rfl) (ed_ixY (u1 hr) (ed_callH h__law_heap hr ht takes_cx (ad_cons (ed_v 1) (ad_cons ed_int ad_nil)) (by decide)) ed_int))
    (ss_cons (sd_set (i := 4) sc_law.nd rfl (.inr rfl) (ed_t1 call_tuple_of opv_tuple (by rfl) B.n_tuple bt_tuple (ed_comp1 [("one", 5)] rfl sc_law.nd (id_range1 (by rfl) B.n_range (ed_b1 call_lenA opv_len (by rfl) B.n_len bt_len (ed_v 3))) (blk_ok (by kernel_rfl)) (fun _ _ _ _ _ => (gv_name (i := 5) (by decide) sc_law.nd rfl (.inl rfl))) (fun _ _ _ _ _ => (td_cmp op_gtA opv_gt (ed_callH h__law_draw hr ht takesX (ad_cons (ed_v 1) (ad_cons ed_int ad_nil)) (by decide)) ed_int (by rfl))) (fun _ _ _ _ _ => (ed_v 5)))))
    (ss_cons (sd_set (i := 6) sc_law.nd rfl (.inr rfl) (ed_callH h_keepers hr ht takes_cx (ad_cons (ed_v 3) (ad_cons (ed_v 4) ad_nil)) (by decide)))
    (ss_cons (sd_if (WD.td (wd_or (td_not (td_val (ed_b2 call_isi opv_isi (by rfl) B.n_isinstance bt_isinstance (ed_v 6) (ed_ty (by rfl) B.n_tuple bt_tuple)))) (wd_or (td_cmp (op_neA (u64 hr)) opv_ne (ed_comp1 [("one", 5)] rfl sc_law.nd (id_val (ed_v 6)) (blk_ok (by kernel_rfl)) (fun _ _ _ _ _ => (gv_name (i := 5) (by decide) sc_law.nd rfl (.inl rfl))) (fun _ _ _ _ _ => (WD.td (wd_or (td_not (td_val (ed_callH h__law_int hr ht takesX (ad_cons (ed_v 5) ad_nil) (by decide)))) (wd_or1 (td_cmp (op_niY (u65 hr) (u1 hr)) opv_niY (ed_v 5) (ed_v 4) (by rfl)))))) (fun _ _ _ _ _ => (ed_v 5))) (ed_lst ad_nil) (by rfl)) (wd_or1 (td_cmp (op_neA (u64 hr)) opv_ne (ed_t1 call_list_of opv_list (by rfl) B.n_list bt_list (ed_v 6)) (ed_b1 (cr_sortY rfl) opv_sortY (by rfl) B.n_sorted bt_sorted (ed_v 6)) (by rfl)))))) (ss_one (sd_ret ed_bl)) ss_nil)
    (ss_cons (sd_newD (i := 7) sc_law.nd rfl (.inr rfl))
    (ss_cons (sd_for owns_cx rfl (id_range1 (by rfl) B.n_range (ed_b1 call_lenA opv_len (by rfl) B.n_len bt_len (ed_v 3))) (gd_name (i := 5) sc_law.nd rfl (.inl rfl)) (ss_one (sd_dput (u1 hr) (pv 7) (ed_v 5) (ed_callH h__law_far hr ht takes_cx (ad_cons (ed_v 3) (ad_cons (ed_tup (ad_cons (ed_v 5) ad_nil)) ad_nil)) (by decide)))))
    (ss_cons (sd_if (td_cmp (op_neA (u64 hr)) opv_ne (ed_comp1 [("one", 5)] rfl sc_law.nd (id_val (ed_v 6)) (blk_ok (by kernel_rfl)) (fun _ _ _ _ _ => (gv_name (i := 5) (by decide) sc_law.nd rfl (.inr rfl))) (fun _ _ _ _ _ => (td_cmp (op_neA (u64 hr)) opv_ne (ed_comp1 [("other", 8)] rfl sc_law.nd (id_val (ed_v 6)) (blk_ok (by kernel_rfl)) (fun _ _ _ _ _ => (gv_name (i := 8) (by decide) sc_law.nd rfl (.inl rfl))) (fun _ _ _ _ _ => (WD.td (wd_and (td_cmp (op_neA (u64 hr)) opv_ne (ed_v 8) (ed_v 5) (by rfl)) (wd_and1 (td_cmp (op_inY (u65 hr) (u1 hr)) opv_inY (ed_v 8) (ed_dget (u1 hr) (pv 7) (ed_v 5) (by exact fun _ _ => rfl)) (by rfl)))))) (fun _ _ _ _ _ => (ed_v 8))) (ed_lst ad_nil) (by rfl))) (fun _ _ _ _ _ => (ed_v 5))) (ed_lst ad_nil) (by rfl)) (ss_one (sd_ret ed_bl)) ss_nil)
    (ss_cons (sd_if (td_cmp (op_neA (u64 hr)) opv_ne (ed_comp1 [("one", 5)] rfl sc_law.nd (id_val (ed_v 6)) (blk_ok (by kernel_rfl)) (fun _ _ _ _ _ => (gv_name (i := 5) (by decide) sc_law.nd rfl (.inr rfl))) (fun _ _ _ _ _ => (td_cmp (op_neA (u64 hr)) opv_ne (ed_comp1 [("other", 8)] rfl sc_law.nd (id_val (ed_v 4)) (blk_ok (by kernel_rfl)) (fun _ _ _ _ _ => (gv_name (i := 8) (by decide) sc_law.nd rfl (.inl rfl))) (fun _ _ _ _ _ => (WD.td (wd_and (td_cmp (op_ltA (u64 hr)) opv_lt (ed_v 8) (ed_v 5) (by rfl)) (wd_and (td_cmp (op_inY (u65 hr) (u1 hr)) opv_inY (ed_v 8) (ed_dget (u1 hr) (pv 7) (ed_v 5) (by exact fun _ _ => rfl)) (by rfl)) (wd_and1 (td_cmp (op_inY (u65 hr) (u1 hr)) opv_inY (ed_v 5) (ed_dget (u1 hr) (pv 7) (ed_v 8) (by exact fun _ _ => rfl)) (by rfl))))))) (fun _ _ _ _ _ => (ed_v 8))) (ed_lst ad_nil) (by rfl))) (fun _ _ _ _ _ => (ed_v 5))) (ed_lst ad_nil) (by rfl)) (ss_one (sd_ret ed_bl)) ss_nil)
    (ss_cons (sd_set (i := 9) sc_law.nd rfl (.inr rfl) (ed_callH h__law_far hr ht takes_cx (ad_cons (ed_v 3) (ad_cons (ed_v 6) ad_nil)) (by decide)))
    (ss_cons (sd_if (td_cmp (op_neA (u64 hr)) opv_ne (ed_comp1 [("one", 5)] rfl sc_law.nd (id_val (ed_v 4)) (blk_ok (by kernel_rfl)) (fun _ _ _ _ _ => (gv_name (i := 5) (by decide) sc_law.nd rfl (.inl rfl))) (fun _ _ _ _ _ => (td_cmp (op_niY (u65 hr) (u1 hr)) opv_niY (ed_v 5) (ed_v 9) (by rfl))) (fun _ _ _ _ _ => (ed_v 5))) (ed_lst ad_nil) (by rfl)) (ss_one (sd_ret ed_bl)) ss_nil)
    (ss_one (sd_for owns_cx rfl (id_val (ed_callH h__law_sets hr ht takes_cx (ad_cons (ed_v 4) ad_nil) (by decide))) (gd_name (i := 10) sc_law.nd rfl (.inl rfl)) (ss_one (sd_if (td_cmp (op_ltA (u64 hr)) opv_lt (ed_b1 call_lenA opv_len (by rfl) B.n_len bt_len (ed_v 10)) (ed_b1 call_lenA opv_len (by rfl) B.n_len bt_len (ed_v 6)) (by rfl)) (ss_cons (sd_set (i := 11) sc_law.nd rfl (.inr rfl) (ed_callH h__law_far hr ht takes_cx (ad_cons (ed_v 3) (ad_cons (ed_v 10) ad_nil)) (by decide)))
    (ss_one (sd_if (td_cmp (op_eqA (u64 hr)) opv_eq (ed_comp1 [("one", 5)] rfl sc_law.nd (id_val (ed_v 4)) (blk_ok (by kernel_rfl)) (fun _ _ _ _ _ => (gv_name (i := 5) (by decide) sc_law.nd rfl (.inl rfl))) (fun _ _ _ _ _ => (td_cmp (op_niY (u65 hr) (u1 hr)) opv_niY (ed_v 5) (ed_v 11) (by rfl))) (fun _ _ _ _ _ => (ed_v 5))) (ed_lst ad_nil) (by rfl)) (ss_one (sd_ret ed_bl)) ss_nil))) ss_nil)))))))))))))))
    (ss_cons (sd_set (i := 12) sc_law.nd rfl (.inl rfl) (ed_t1 call_tuple_of opv_tuple (by rfl) B.n_tuple bt_tuple (ed_comp0 [("k", 13)] rfl sc_law.nd (id_range1 (by rfl) B.n_range ed_int) (blk_ok (by kernel_rfl)) (fun _ _ _ _ _ => (gv_name (i := 13) (by decide) sc_law.nd rfl (.inl rfl))) (fun _ _ _ _ _ => (ed_tup (ad_cons (ed_mod (ed_t1 call_int1 opv_int1 (by rfl) B.n_int bt_int (ed_add (ed_v 13) ed_int)) ed_int) ad_nil))))))
    (ss_one (sd_ret (ed_andV (ed_cmp (op_eqA (u64 hr)) opv_eq (ed_callH h_keepers hr ht takes_cx (ad_cons (ed_v 12) (ad_cons (ed_tup (ad_cons ed_int (ad_cons ed_int (ad_cons ed_int ad_nil)))) ad_nil)) (by decide)) (ed_tup (ad_cons ed_int ad_nil)) (by rfl)) (ed_andV (ed_cmp (op_eqA (u64 hr)) opv_eq (ed_callH h_keepers hr ht takes_cx (ad_cons (ed_mul (ed_tup (ad_cons (ed_tup ad_nil) ad_nil)) ed_int) (ad_cons (ed_tup (ad_cons ed_int (ad_cons ed_int (ad_cons ed_int ad_nil)))) ad_nil)) (by decide)) (ed_tup (ad_cons ed_int (ad_cons ed_int (ad_cons ed_int ad_nil)))) (by rfl)) (ed_oneV (ed_cmp (op_eqA (u64 hr)) opv_eq (ed_callH h_keepers hr ht takes_cx (ad_cons (ed_v 12) (ad_cons (ed_tup ad_nil) ad_nil)) (by decide)) (ed_tup ad_nil) (by rfl))))))))))
end k58
namespace k58
open PySem PySem.Spec PyProof.Rows L2 DL
/-! ### what is reached, plainly -/
def succ (T : List (List Nat)) (x : Nat) : List Nat := T.getD x []
def addN (C later : List Nat) (o : Nat) : List Nat := if o ∈ C ∨ o ∈ later then later else later ++ [o]
def nbr (T : List (List Nat)) (C w : List Nat) : List Nat := (w.flatMap (succ T)).foldl (addN C) []
def rnd (T : List (List Nat)) : Nat → List Nat × List Nat → List Nat × List Nat
  | 0, p => p
  | k + 1, p => let q := rnd T k p; (q.1 ++ nbr T q.1 q.2, nbr T q.1 q.2)
def reachL (T : List (List Nat)) (R : List Nat) : List Nat := (rnd T T.length (R, R)).1
structure HeapOk (T : List (List Nat)) : Prop where
  lt : ∀ x, ∀ y ∈ succ T x, y < T.length
theorem addN_sub {C later : List Nat} {o x : Nat} (h : x ∈ later) : x ∈ addN C later o := by
  unfold addN; split
  · exact h
  · exact List.mem_append_left _ h
theorem addN_new {C later : List Nat} {o : Nat} : o ∈ C ∨ o ∈ addN C later o := by
  unfold addN
  by_cases h : o ∈ C ∨ o ∈ later
  · rw [if_pos h]; exact h
  · rw [if_neg h]; exact .inr (by simp)
theorem addN_in {C later : List Nat} {o x : Nat} (h : x ∈ addN C later o) : x ∈ later ∨ (x = o ∧ x ∉ C) := by
  unfold addN at h
  split at h
  · exact .inl h
  · rename_i q
    rcases List.mem_append.mp h with h | h
    · exact .inl h
    · have := List.mem_singleton.mp h
      exact .inr ⟨this, fun z => q (.inl (this ▸ z))⟩
theorem addN_nd {C later : List Nat} {o : Nat} (h : later.Nodup) : (addN C later o).Nodup := by
  unfold addN; split
  · exact h
  · rename_i q
    rw [List.nodup_append]
    refine ⟨h, by simp, fun a ha b hb => ?_⟩
    rw [List.mem_singleton] at hb
    rintro rfl; exact q (.inr (hb ▸ ha))
theorem foldN_sub (C : List Nat) : ∀ (l later : List Nat) {x : Nat}, x ∈ later → x ∈ l.foldl (addN C) later
  | [], _, _, h => h
  | o :: l, later, _, h => foldN_sub C l _ (addN_sub h)
theorem foldN_new (C : List Nat) : ∀ (l later : List Nat) {x : Nat}, x ∈ l → x ∈ C ∨ x ∈ l.foldl (addN C) later
  | o :: l, later, x, h => by
    rcases List.mem_cons.mp h with rfl | h
    · exact (addN_new (C := C) (later := later)).imp id fun z => foldN_sub C l _ z
    · exact foldN_new C l _ h
theorem foldN_in (C : List Nat) : ∀ (l later : List Nat) {x : Nat}, x ∈ l.foldl (addN C) later → x ∈ later ∨ (x ∈ l ∧ x ∉ C)
  | [], _, _, h => .inl h
  | o :: l, later, x, h => by
    rcases foldN_in C l _ h with h | h
    · rcases addN_in h with h1 | ⟨h1, h2⟩
      · exact .inl h1
      · exact .inr ⟨by rw [h1]; exact List.mem_cons_self, by rw [h1] at h2 ⊢; exact h2⟩
    · exact .inr ⟨List.mem_cons_of_mem _ h.1, h.2⟩
theorem foldN_nd (C : List Nat) : ∀ (l later : List Nat), later.Nodup → (l.foldl (addN C) later).Nodup
  | [], _, h => h
  | o :: l, later, h => foldN_nd C l _ (addN_nd h)
theorem nbr_in {T : List (List Nat)} {C w : List Nat} {x : Nat} (h : x ∈ nbr T C w) : (∃ a ∈ w, x ∈ succ T a) ∧ x ∉ C := by
  rcases foldN_in C _ _ h with h | h
  · cases h
  · exact ⟨List.mem_flatMap.mp h.1, h.2⟩
theorem nbr_new {T : List (List Nat)} {C w : List Nat} {a x : Nat} (ha : a ∈ w) (hx : x ∈ succ T a) : x ∈ C ∨ x ∈ nbr T C w := foldN_new C _ _ (List.mem_flatMap.mpr ⟨a, ha, hx⟩)
structure RI (T : List (List Nat)) (R : List Nat) (k : Nat) (q : List Nat × List Nat) : Prop where
  nd : q.1.Nodup
  lt : ∀ x ∈ q.1, x < T.length
  wc : ∀ x ∈ q.2, x ∈ q.1
  cl : ∀ x ∈ q.1, x ∉ q.2 → ∀ y ∈ succ T x, y ∈ q.1
  big : q.2 = [] ∨ k + 1 ≤ q.1.length
  rt : ∀ x ∈ R, x ∈ q.1
theorem rnd_ok {T : List (List Nat)} (hT : HeapOk T) {R : List Nat} (hR : R.Nodup) (hl : ∀ x ∈ R, x < T.length) : ∀ k, RI T R k (rnd T k (R, R))
  | 0 => ⟨hR, hl, fun _ h => h, fun x hx hn => absurd hx hn, by
      cases R with
      | nil => exact .inl rfl
      | cons a R => exact .inr (by simp [rnd]), fun _ h => h⟩
  | k + 1 => by
    have h := rnd_ok hT hR hl k
    show RI T R (k + 1) ((rnd T k (R, R)).1 ++ nbr T (rnd T k (R, R)).1 (rnd T k (R, R)).2, nbr T (rnd T k (R, R)).1 (rnd T k (R, R)).2)
    generalize rnd T k (R, R) = q at h
    obtain ⟨C, w⟩ := q
    obtain ⟨h1, h2, h3, h4, h5, h6⟩ := h
    simp only at h1 h2 h3 h4 h5 h6 ⊢
    refine ⟨?_, fun x hx => ?_, fun x hx => List.mem_append_right _ hx, fun x hx hn y hy => ?_, ?_, fun x hx => List.mem_append_left _ (h6 x hx)⟩
    · show (C ++ nbr T C w).Nodup
      rw [List.nodup_append]
      refine ⟨h1, foldN_nd C _ _ List.nodup_nil, fun a ha b hb => ?_⟩
      rintro rfl
      exact (nbr_in hb).2 ha
    · rcases List.mem_append.mp hx with hx | hx
      · exact h2 x hx
      · obtain ⟨⟨a, _, hxa⟩, _⟩ := nbr_in hx
        exact hT.lt a x hxa
    · show y ∈ C ++ nbr T C w
      rcases List.mem_append.mp hx with hx | hx
      · by_cases hw : x ∈ w
        · exact List.mem_append.mpr (nbr_new hw hy)
        · exact List.mem_append_left _ (h4 x hx hw y hy)
      · exact absurd hx hn
    · show nbr T C w = [] ∨ k + 1 + 1 ≤ (C ++ nbr T C w).length
      by_cases hn : nbr T C w = []
      · exact .inl hn
      · refine .inr ?_
        have hp := List.length_pos_iff.mpr hn
        have hw : w ≠ [] := fun e => hn (by rw [e]; rfl)
        have := h5.resolve_left hw
        rw [List.length_append]; omega
theorem nd_le {l : List Nat} {n : Nat} (h : l.Nodup) (hl : ∀ x ∈ l, x < n) : l.length ≤ n := by
  have := List.Nodup.length_le_of_subset h (l₂ := List.range n) (fun x hx => List.mem_range.mpr (hl x hx))
  rwa [List.length_range] at this
theorem rnd_end {T : List (List Nat)} (hT : HeapOk T) {R : List Nat} (hR : R.Nodup) (hl : ∀ x ∈ R, x < T.length) {k : Nat} (hk : T.length ≤ k) : (rnd T k (R, R)).2 = [] := by
  have h := rnd_ok hT hR hl k
  rcases h.big with h1 | h1
  · exact h1
  · have := nd_le h.nd h.lt
    omega
theorem rnd_stay {T : List (List Nat)} {R : List Nat} {k : Nat} (h : (rnd T k (R, R)).2 = []) : ∀ j, (rnd T (k + j) (R, R)).2 = [] ∧ (rnd T (k + j) (R, R)).1 = (rnd T k (R, R)).1
  | 0 => ⟨h, rfl⟩
  | j + 1 => by
    obtain ⟨h1, h2⟩ := rnd_stay h j
    have e : nbr T (rnd T (k + j) (R, R)).1 (rnd T (k + j) (R, R)).2 = [] := by rw [h1]; rfl
    refine ⟨e, ?_⟩
    show (rnd T (k + j) (R, R)).1 ++ nbr T (rnd T (k + j) (R, R)).1 (rnd T (k + j) (R, R)).2 = _
    rw [e, List.append_nil, h2]
/-- whenever nothing waits, what came is what is reached -/
theorem rnd_done {T : List (List Nat)} (hT : HeapOk T) {R : List Nat} (hR : R.Nodup) (hl : ∀ x ∈ R, x < T.length) {k : Nat} (h : (rnd T k (R, R)).2 = []) : (rnd T k (R, R)).1 = reachL T R := by
  unfold reachL
  rcases Nat.le_total k T.length with hk | hk
  · have := (rnd_stay h (T.length - k)).2
    rw [Nat.add_sub_cancel' hk] at this
    exact this.symm
  · have h2 := rnd_end hT hR hl (Nat.le_refl T.length)
    have := (rnd_stay h2 (k - T.length)).2
    rw [Nat.add_sub_cancel' hk] at this
    exact this
section
variable {T : List (List Nat)} (hT : HeapOk T)
include hT
theorem reach_cl {R : List Nat} (hR : R.Nodup) (hl : ∀ x ∈ R, x < T.length) : ∀ x ∈ reachL T R, ∀ y ∈ succ T x, y ∈ reachL T R := by
  have h := rnd_ok hT hR hl T.length
  have he := rnd_end hT hR hl (Nat.le_refl T.length)
  exact fun x hx => h.cl x hx (by rw [he]; simp)
theorem reach_rt {R : List Nat} (hR : R.Nodup) (hl : ∀ x ∈ R, x < T.length) : ∀ x ∈ R, x ∈ reachL T R := (rnd_ok hT hR hl T.length).rt
theorem reach_nd {R : List Nat} (hR : R.Nodup) (hl : ∀ x ∈ R, x < T.length) : (reachL T R).Nodup := (rnd_ok hT hR hl T.length).nd
theorem reach_lt {R : List Nat} (hR : R.Nodup) (hl : ∀ x ∈ R, x < T.length) : ∀ x ∈ reachL T R, x < T.length := (rnd_ok hT hR hl T.length).lt
end
theorem rnd_in {T : List (List Nat)} {R : List Nat} (P : Nat → Prop) (hr : ∀ x ∈ R, P x) (hs : ∀ x, P x → ∀ y ∈ succ T x, P y) : ∀ k, (∀ x ∈ (rnd T k (R, R)).1, P x) ∧ ∀ x ∈ (rnd T k (R, R)).2, P x
  | 0 => ⟨hr, hr⟩
  | k + 1 => by
    obtain ⟨h1, h2⟩ := rnd_in P hr hs k
    have h3 : ∀ x ∈ nbr T (rnd T k (R, R)).1 (rnd T k (R, R)).2, P x := fun x hx => by
      obtain ⟨⟨a, ha, hxa⟩, _⟩ := nbr_in hx
      exact hs a (h2 a ha) x hxa
    exact ⟨fun x hx => (List.mem_append.mp hx).elim (h1 x) (h3 x), h3⟩
theorem reach_in {T : List (List Nat)} {R : List Nat} (P : Nat → Prop) (hr : ∀ x ∈ R, P x) (hs : ∀ x, P x → ∀ y ∈ succ T x, P y) : ∀ x ∈ reachL T R, P x := (rnd_in P hr hs _).1
/-- a leads to b -/
def Rr (T : List (List Nat)) (a b : Nat) : Prop := b ∈ reachL T [a]
instance (T : List (List Nat)) (a b : Nat) : Decidable (Rr T a b) := inferInstanceAs (Decidable (b ∈ reachL T [a]))
section
variable {T : List (List Nat)} (hT : HeapOk T)
include hT
theorem Rr.refl {a : Nat} (ha : a < T.length) : Rr T a a := reach_rt hT (by simp) (by simpa using ha) a (by simp)
theorem Rr.trans {a b c : Nat} (ha : a < T.length) (h1 : Rr T a b) (h2 : Rr T b c) : Rr T a c :=
  reach_in (fun x => Rr T a x) (by simpa using h1) (fun x hx y hy => reach_cl hT (by simp) (by simpa using ha) x hx y hy) c h2
theorem Rr.lt {a b : Nat} (ha : a < T.length) (h : Rr T a b) : b < T.length := reach_lt hT (by simp) (by simpa using ha) b h
/-- reached from some is reached from one of them -/
theorem reach_one {R : List Nat} (hR : R.Nodup) (hl : ∀ x ∈ R, x < T.length) {b : Nat} : b ∈ reachL T R ↔ ∃ a ∈ R, Rr T a b := by
  constructor
  · exact reach_in (fun x => ∃ a ∈ R, Rr T a x) (fun x hx => ⟨x, hx, Rr.refl hT (hl x hx)⟩) (fun x ⟨a, ha, hx⟩ y hy => ⟨a, ha, reach_cl hT (by simp) (by simpa using hl a ha) x hx y hy⟩) b
  · rintro ⟨a, ha, hb⟩
    exact reach_in (fun x => x ∈ reachL T R) (by simpa using reach_rt hT hR hl a ha) (fun x hx y hy => reach_cl hT hR hl x hx y hy) b hb
end
/-! ### keepers, plainly -/
def firstB (T : List (List Nat)) (told : List Nat) (one : Nat) : Bool := told.all fun o => !decide (Rr T o one) || decide (Rr T one o)
def kstep (T : List (List Nat)) (told F : List Nat) (one : Nat) : List Nat := if (firstB T told one && !F.any fun o => decide (Rr T o one)) = true then F ++ [one] else F
def kp (T : List (List Nat)) (told : List Nat) : List Nat := told.foldl (kstep T told) []
section
variable {T : List (List Nat)} (hT : HeapOk T) {told : List Nat} (hl : ∀ x ∈ told, x < T.length)
theorem firstB_iff {one : Nat} : firstB T told one = true ↔ ∀ o ∈ told, Rr T o one → Rr T one o := by
  unfold firstB
  rw [List.all_eq_true]
  refine forall_congr' fun o => imp_congr_right fun _ => ?_
  rw [Bool.or_eq_true, Bool.not_eq_true', decide_eq_false_iff_not, decide_eq_true_iff]
  exact ⟨fun h q => h.resolve_left fun z => z q, fun h => (Classical.em (Rr T o one)).elim (fun q => .inr (h q)) .inl⟩
/-- what has been gone through, and what was found of it -/
structure KI (T : List (List Nat)) (told l F : List Nat) : Prop where
  sub : F.Sublist l
  fst : ∀ x ∈ F, firstB T told x = true
  apart : F.Pairwise fun a b => ¬ Rr T a b
  cov : ∀ x ∈ l, firstB T told x = true → ∃ f ∈ F, Rr T f x
  least : ∀ x ∈ F, ∀ p s, l = p ++ x :: s → ∀ o ∈ p, firstB T told o = true → ¬ Rr T o x
include hT hl
theorem ki_step {l F : List Nat} {one : Nat} (hs : ∀ x ∈ l, x ∈ told) (ho : one ∈ told) (hnd : (l ++ [one]).Nodup) (h : KI T told l F) : KI T told (l ++ [one]) (kstep T told F one) := by
  have hone : one ∉ l := fun z => by
    rw [List.nodup_append] at hnd
    exact hnd.2.2 one z one (by simp) rfl
  unfold kstep
  by_cases hc : (firstB T told one && !F.any fun o => decide (Rr T o one)) = true
  · rw [if_pos hc]
    rw [Bool.and_eq_true, Bool.not_eq_true', List.any_eq_false] at hc
    have hno : ∀ f ∈ F, ¬ Rr T f one := fun f hf => by simpa using hc.2 f hf
    refine ⟨h.sub.append (List.Sublist.refl _), fun x hx => ?_, ?_, fun x hx hxf => ?_, fun x hx p s e o hop hof hox => ?_⟩
    · rcases List.mem_append.mp hx with hx | hx
      · exact h.fst x hx
      · rw [List.mem_singleton.mp hx]; exact hc.1
    · rw [List.pairwise_append]
      exact ⟨h.apart, by simp, fun a ha b hb => by rw [List.mem_singleton.mp hb]; exact hno a ha⟩
    · rcases List.mem_append.mp hx with hx | hx
      · obtain ⟨f, hf, hr⟩ := h.cov x hx hxf
        exact ⟨f, List.mem_append_left _ hf, hr⟩
      · rw [List.mem_singleton.mp hx]
        exact ⟨one, by simp, Rr.refl hT (hl one ho)⟩
    · by_cases hxo : x = one
      · subst hxo
        have hol : o ∈ l := by
          have hm : o ∈ l ++ [x] := by rw [e]; exact List.mem_append_left _ hop
          rcases List.mem_append.mp hm with hm | hm
          · exact hm
          · have : o = x := List.mem_singleton.mp hm
            subst this
            exfalso
            rw [e] at hnd
            rw [List.nodup_append] at hnd
            exact hnd.2.2 o hop o (by simp) rfl
        obtain ⟨f, hf, hr⟩ := h.cov o hol hof
        have hfl : f < T.length := hl f (hs f (h.sub.subset hf))
        exact hno f hf (Rr.trans hT hfl hr hox)
      · have hxF : x ∈ F := by
          rcases List.mem_append.mp hx with hx | hx
          · exact hx
          · exact absurd (List.mem_singleton.mp hx) hxo
        rcases List.eq_nil_or_concat s with rfl | ⟨s', z, rfl⟩
        · have e2 : l ++ [one] = p ++ [x] := e
          have := List.append_inj_right' e2 rfl
          exact hxo (by simpa using this.symm)
        · have e2 : l ++ [one] = (p ++ x :: s') ++ [z] := by rw [e]; simp
          have := List.append_inj_left' e2 rfl
          exact h.least x hxF p s' this o hop hof hox
  · rw [if_neg hc]
    refine ⟨h.sub.trans (List.sublist_append_left _ _), h.fst, h.apart, fun x hx hxf => ?_, fun x hx p s e o hop hof hox => ?_⟩
    · rcases List.mem_append.mp hx with hx | hx
      · exact h.cov x hx hxf
      · have hx := List.mem_singleton.mp hx
        subst hx
        rw [hxf, Bool.true_and] at hc
        have hc : (F.any fun o => decide (Rr T o x)) = true := by simpa using hc
        obtain ⟨f, hf, hr⟩ := List.any_eq_true.mp hc
        exact ⟨f, hf, of_decide_eq_true hr⟩
    · have hxo : x ≠ one := fun z => hone (z ▸ h.sub.subset hx)
      rcases List.eq_nil_or_concat s with rfl | ⟨s', z, rfl⟩
      · have e2 : l ++ [one] = p ++ [x] := e
        have := List.append_inj_right' e2 rfl
        exact hxo (by simpa using this.symm)
      · have e2 : l ++ [one] = (p ++ x :: s') ++ [z] := by rw [e]; simp
        have := List.append_inj_left' e2 rfl
        exact h.least x hx p s' this o hop hof hox
theorem kp_ki (hnd : told.Nodup) : KI T told told (kp T told) := by
  have aux : ∀ (r l F : List Nat), told = l ++ r → KI T told l F → KI T told told (r.foldl (kstep T told) F) := by
    intro r
    induction r with
    | nil => intro l F e h; rw [List.append_nil] at e; rw [e] at h ⊢; exact h
    | cons x r ih =>
      intro l F e h
      refine ih (l ++ [x]) _ (by rw [e]; simp) (ki_step hT hl (fun y hy => by rw [e]; exact List.mem_append_left _ hy) (by rw [e]; simp) ?_ h)
      rw [e] at hnd
      have : l ++ x :: r = (l ++ [x]) ++ r := by simp
      rw [this] at hnd
      exact (List.nodup_append.mp hnd).1
  exact aux told [] [] rfl ⟨List.Sublist.refl _, by simp, List.Pairwise.nil, by simp, by simp⟩
/-- each told thing is reached from a told thing that all that reach it are reached from -/
theorem src_ex : ∀ (m : Nat) (t : Nat), t ∈ told → (told.filter fun x => decide (Rr T x t)).length ≤ m → ∃ s ∈ told, Rr T s t ∧ firstB T told s = true := by
  intro m
  induction m with
  | zero =>
    intro t ht h
    have : t ∈ told.filter fun x => decide (Rr T x t) := List.mem_filter.mpr ⟨ht, decide_eq_true (Rr.refl hT (hl t ht))⟩
    have := List.length_pos_of_mem this
    omega
  | succ m ih =>
    intro t ht h
    by_cases hf : firstB T told t = true
    · exact ⟨t, ht, Rr.refl hT (hl t ht), hf⟩
    · have : ¬ ∀ o ∈ told, Rr T o t → Rr T t o := fun q => hf (firstB_iff.mpr q)
      obtain ⟨o, ho⟩ := Classical.not_forall.mp this
      obtain ⟨hot, ho⟩ := Classical.not_imp.mp ho
      obtain ⟨h1, h2⟩ := Classical.not_imp.mp ho
      have hsub : (told.filter fun x => decide (Rr T x o)).Sublist (told.filter fun x => decide (Rr T x t)) := by
        have e : (told.filter fun x => decide (Rr T x o)) = (told.filter fun x => decide (Rr T x t)).filter fun x => decide (Rr T x o) := by
          rw [List.filter_filter]
          refine List.filter_congr fun x hx => ?_
          by_cases hxo : Rr T x o
          · rw [decide_eq_true hxo, decide_eq_true (Rr.trans hT (hl x hx) hxo h1)]; rfl
          · rw [decide_eq_false hxo]; rfl
        rw [e]; exact List.filter_sublist
      have hlt : (told.filter fun x => decide (Rr T x o)).length < (told.filter fun x => decide (Rr T x t)).length := by
        rcases Nat.lt_or_ge (told.filter fun x => decide (Rr T x o)).length (told.filter fun x => decide (Rr T x t)).length with q | q
        · exact q
        · have e := hsub.eq_of_length_le q
          have : t ∈ told.filter fun x => decide (Rr T x t) := List.mem_filter.mpr ⟨ht, decide_eq_true (Rr.refl hT (hl t ht))⟩
          rw [← e] at this
          exact absurd (of_decide_eq_true (List.mem_filter.mp this).2) h2
      obtain ⟨s, hs, hr, hfs⟩ := ih o hot (by omega)
      exact ⟨s, hs, Rr.trans hT (hl s hs) hr h1, hfs⟩
theorem kp_cov (hnd : told.Nodup) {t : Nat} (ht : t ∈ told) : ∃ f ∈ kp T told, Rr T f t := by
  obtain ⟨s, hs, hr, hf⟩ := src_ex hT hl _ t ht (Nat.le_refl _)
  have h := kp_ki hT hl hnd
  obtain ⟨f, hfF, hfs⟩ := h.cov s hs hf
  exact ⟨f, hfF, Rr.trans hT (hl f (h.sub.subset hfF)) hfs hr⟩
theorem kp_apart (hnd : told.Nodup) {a b : Nat} (ha : a ∈ kp T told) (hb : b ∈ kp T told) (hne : a ≠ b) : ¬ Rr T a b := by
  have h := kp_ki hT hl hnd
  intro hr
  have hfb := firstB_iff.mp (h.fst b hb)
  have hba := hfb a (h.sub.subset ha) hr
  obtain ⟨i, hi, rfl⟩ := List.getElem_of_mem ha
  obtain ⟨j, hj, rfl⟩ := List.getElem_of_mem hb
  have hp := List.pairwise_iff_getElem.mp h.apart
  rcases Nat.lt_trichotomy i j with q | q | q
  · exact hp i j hi hj q hr
  · subst q; exact hne rfl
  · exact hp j i hj hi q hba
theorem kp_least (hnd : told.Pairwise (· < ·)) {a o : Nat} (ha : a ∈ kp T told) (ho : o ∈ told) (hlt : o < a) : ¬ (Rr T a o ∧ Rr T o a) := by
  have hnd' : told.Nodup := hnd.imp fun h e => by rw [e] at h; exact Nat.lt_irrefl _ h
  have h := kp_ki hT hl hnd'
  rintro ⟨h1, h2⟩
  have hat := h.sub.subset ha
  have hfa := firstB_iff.mp (h.fst a ha)
  have hfo : firstB T told o = true := firstB_iff.mpr fun x hx hxo => Rr.trans hT (hl o ho) h2 (hfa x hx (Rr.trans hT (hl x hx) hxo h2))
  obtain ⟨p, s, e⟩ := List.append_of_mem hat
  have hop : o ∈ p := by
    rw [e] at ho hnd
    rcases List.mem_append.mp ho with q | q
    · exact q
    · rcases List.mem_cons.mp q with q | q
      · omega
      · have := (List.pairwise_append.mp hnd).2.1
        have := (List.pairwise_cons.mp this).1 o q
        omega
  exact h.least a ha p s e o hop hfo h2
/-- no fewer keep all -/
theorem kp_few (hnd : told.Nodup) {some : List Nat} (hs : ∀ x ∈ some, x ∈ told) (hc : ∀ t ∈ told, ∃ s ∈ some, Rr T s t) : (kp T told).length ≤ some.length := by
  have h := kp_ki hT hl hnd
  have hkn : (kp T told).Nodup := hnd.sublist h.sub
  -- an injection
  have hex : ∀ f : Nat, f ∈ kp T told → ∃ s, s ∈ some ∧ Rr T s f := fun f hf => by
    obtain ⟨s, h1, h2⟩ := hc f (h.sub.subset hf)
    exact ⟨s, h1, h2⟩
  let g : Nat → Nat := fun f => if hf : f ∈ kp T told then Classical.choose (hex f hf) else 0
  have hg : ∀ f, f ∈ kp T told → g f ∈ some ∧ Rr T (g f) f := fun f hf => by
    have : g f = Classical.choose (hex f hf) := dif_pos hf
    rw [this]; exact Classical.choose_spec (hex f hf)
  have hnd2 : ((kp T told).map g).Nodup := by
    unfold List.Nodup at hkn ⊢
    rw [List.pairwise_map]
    refine hkn.imp_of_mem fun {a b} ha hb hne e => ?_
    have h1 := hg a ha
    have h2 := hg b hb
    rw [← e] at h2
    have h3 := firstB_iff.mp (h.fst a ha) (g a) (hs _ h1.1) h1.2
    exact kp_apart hT hl hnd ha hb hne (Rr.trans hT (hl a (h.sub.subset ha)) h3 h2.2)
  have := List.Nodup.length_le_of_subset hnd2 (l₂ := some) (fun x hx => by
    obtain ⟨f, hf, rfl⟩ := List.mem_map.mp hx
    exact (hg f hf).1)
  rwa [List.length_map] at this
end
/-! ### reached_from, _law_far -/
abbrev rD (r : List Nat) : D := .tup (nI r)
abbrev hD (T : List (List Nat)) : D := .tup (T.map rD)
structure HB (T : List (List Nat)) : Prop where
  ok : HeapOk T
  len : T.length ≤ 64
  few : ∀ x, (succ T x).length ≤ 64
theorem at_hist {T : List (List Nat)} {x : Nat} (h : x < T.length) : ixD (hD T) (.int (x : Int)) = some (.pv (rD (succ T x))) := by
  refine at_get ?_
  unfold succ
  rw [List.getElem?_map, List.getD_eq_getElem?_getD, List.getElem?_eq_getElem h]; rfl
theorem addN_len (C later : List Nat) (o : Nat) : (addN C later o).length ≤ later.length + 1 := by
  unfold addN; split <;> simp
theorem foldN_len (C : List Nat) : ∀ (l later : List Nat), (l.foldl (addN C) later).length ≤ later.length + l.length
  | [], later => Nat.le_refl _
  | o :: l, later => by
    have h1 := foldN_len C l (addN C later o)
    have h2 := addN_len C later o
    rw [List.foldl_cons, List.length_cons]; omega
section
variable {a0 a1 a3 a4 a5 y : Slot} {W : List (List D)}
theorem rf_turn (C later : List Nat) (one o : Nat) (f : Nat → D) (hl : C.length + later.length < 60000) : ∃ f', l_reached_from_1 ⟨[a0, a1, .od (kvN (C ++ later) f), a3, a4, .ow (nI later), .pv (.int (one : Int)), .pv (.int (o : Int))], W⟩ = .ok .nx ⟨[a0, a1, .od (kvN (C ++ addN C later o) f'), a3, a4, .ow (nI (addN C later o)), .pv (.int (one : Int)), .pv (.int (o : Int))], W⟩ := by
  have hv := kvN_some (C ++ later) f o
  have hz : (kvN (C ++ later) f).length < 65536 := by rw [kvN_len, List.length_append]; omega
  have hz2 : (nI later).length < 65536 := by rw [List.length_map]; omega
  unfold addN
  by_cases h : o ∈ C ++ later
  · have hv := kvN_val (C ++ later) f o
    rw [if_pos h] at hv
    rw [if_pos (List.mem_append.mp h)]
    refine ⟨f, ?_⟩
    generalize kvN (C ++ later) f = K1 at *
    generalize nI later = LL at *
    simp [l_reached_from_1_ap, hv]
  · rw [decide_eq_false h] at hv
    rw [if_neg (fun q => h (List.mem_append.mpr q))]
    have hp := kvN_new f (.int (one : Int)) h
    rw [List.append_assoc] at hp
    refine ⟨upF f o (.int (one : Int)), ?_⟩
    rw [← hp]
    have en : nI (later ++ [o]) = nI later ++ [.int (o : Int)] := by simp
    rw [en]
    generalize kvN (C ++ later) f = K1 at *
    generalize nI later = LL at *
    have hv2 : valD K1 (.inl (o : Int)) = none := by simpa using hv
    simp [l_reached_from_1_ap, hv2, hz, hz2]
theorem rf_in (C : List Nat) (one : Nat) : ∀ (l later : List Nat) (f : Nat → D) (y : Slot), C.length + later.length + l.length ≤ 50000 →
    ∃ f' y', loopD (gSet 7) l_reached_from_1 (nI l) ⟨[a0, a1, .od (kvN (C ++ later) f), a3, a4, .ow (nI later), .pv (.int (one : Int)), y], W⟩ = .ok .nx ⟨[a0, a1, .od (kvN (C ++ l.foldl (addN C) later) f'), a3, a4, .ow (nI (l.foldl (addN C) later)), .pv (.int (one : Int)), y'], W⟩
  | [], later, f, y, _ => ⟨f, y, rfl⟩
  | o :: l, later, f, y, hl => by
    rw [List.length_cons] at hl
    obtain ⟨f1, e1⟩ := rf_turn (a0 := a0) (a1 := a1) (a3 := a3) (a4 := a4) (W := W) C later one o f (by omega)
    have := addN_len C later o
    obtain ⟨f2, y2, e2⟩ := rf_in C one l (addN C later o) f1 (.pv (.int (o : Int))) (by omega)
    refine ⟨f2, y2, ?_⟩
    rw [nI, List.map_cons, loopD_cons', List.foldl_cons]
    have e0 : turnD (gSet 7) l_reached_from_1 (.int (o : Int)) ⟨[a0, a1, .od (kvN (C ++ later) f), a3, a4, .ow (nI later), .pv (.int (one : Int)), y], W⟩ = .ok .nx ⟨[a0, a1, .od (kvN (C ++ addN C later o) f1), a3, a4, .ow (nI (addN C later o)), .pv (.int (one : Int)), .pv (.int (o : Int))], W⟩ := by
      rw [← e1]; simp
    rw [e0, bind_okR]
    exact e2
theorem rf_mid {T : List (List Nat)} (hT : HB T) (C : List Nat) : ∀ (w later : List Nat) (f : Nat → D) (y6 y7 : Slot), (∀ x ∈ w, x < T.length) → C.length + later.length + 64 * w.length ≤ 40000 →
    ∃ f' y6' y7', loopD (gSet 6) l_reached_from_2 (nI w) ⟨[.pv (hD T), a1, .od (kvN (C ++ later) f), a3, a4, .ow (nI later), y6, y7], W⟩ = .ok .nx ⟨[.pv (hD T), a1, .od (kvN (C ++ (w.flatMap (succ T)).foldl (addN C) later) f'), a3, a4, .ow (nI ((w.flatMap (succ T)).foldl (addN C) later)), y6', y7'], W⟩
  | [], later, f, y6, y7, _, _ => ⟨f, y6, y7, rfl⟩
  | x :: w, later, f, y6, y7, hx, hl => by
    rw [List.length_cons] at hl
    have hs := hT.few x
    have hlx := hx x List.mem_cons_self
    obtain ⟨f1, y1, e1⟩ := rf_in (a0 := .pv (hD T)) (a1 := a1) (a3 := a3) (a4 := a4) (W := W) C x (succ T x) later f y7 (by omega)
    have := foldN_len C (succ T x) later
    obtain ⟨f2, y2, y3, e2⟩ := rf_mid hT C w ((succ T x).foldl (addN C) later) f1 (.pv (.int (x : Int))) y1 (fun z hz => hx z (List.mem_cons_of_mem _ hz)) (by omega)
    refine ⟨f2, y2, y3, ?_⟩
    rw [nI, List.map_cons, loopD_cons', List.flatMap_cons, List.foldl_append]
    have hi := at_hist hlx
    have e0 : turnD (gSet 6) l_reached_from_2 (.int (x : Int)) ⟨[.pv (hD T), a1, .od (kvN (C ++ later) f), a3, a4, .ow (nI later), y6, y7], W⟩ = .ok .nx ⟨[.pv (hD T), a1, .od (kvN (C ++ (succ T x).foldl (addN C) later) f1), a3, a4, .ow (nI ((succ T x).foldl (addN C) later)), .pv (.int (x : Int)), y1], W⟩ := by
      have hi2 : ixY (hD T) (.int (x : Int)) = some (.pv (.tup (nI (succ T x)))) := hi
      have e1 := e1
      generalize kvN (C ++ later) f = K1 at *
      generalize kvN (C ++ (succ T x).foldl (addN C) later) f1 = K2 at *
      generalize nI ((succ T x).foldl (addN C) later) = L2 at *
      generalize nI later = L1 at *
      generalize nI (succ T x) = SS at *
      generalize hD T = H at *
      simp [l_reached_from_2_ap, hi2, e1]
    rw [e0, bind_okR]
    exact e2
theorem rf_round {T : List (List Nat)} (hT : HB T) (C w : List Nat) (f : Nat → D) (y4 y5 y6 y7 : Slot) (h4 : y4 = .ow (nI w) ∨ y4 = .pv (.lst (nI w))) (hx : ∀ x ∈ w, x < T.length) (hl : C.length + 64 * w.length ≤ 40000) :
    ∃ f' y5' y6' y7', l_reached_from_3 ⟨[.pv (hD T), a1, .od (kvN C f), a3, y4, y5, y6, y7], W⟩ = .ok .nx ⟨[.pv (hD T), a1, .od (kvN (C ++ nbr T C w) f'), a3, .pv (.lst (nI (nbr T C w))), y5', y6', y7'], W⟩ := by
  obtain ⟨f1, y6', y7', e⟩ := rf_mid (a1 := a1) (a3 := a3) (a4 := .pv (.lst (nI w))) (W := W) hT C w [] f y6 y7 hx (by simpa using hl)
  refine ⟨f1, .pv (.lst (nI (nbr T C w))), y6', y7', ?_⟩
  rw [List.append_nil] at e
  have e : loopD (gSet 6) l_reached_from_2 (nI w) ⟨[.pv (hD T), a1, .od (kvN C f), a3, .pv (.lst (nI w)), .ow [], y6, y7], W⟩ = .ok .nx ⟨[.pv (hD T), a1, .od (kvN (C ++ nbr T C w) f1), a3, .pv (.lst (nI w)), .ow (nI (nbr T C w)), y6', y7'], W⟩ := e
  generalize kvN (C ++ nbr T C w) f1 = K2 at *
  generalize kvN C f = K1 at *
  generalize nI (nbr T C w) = N at *
  generalize nI w = WW at *
  generalize hD T = H at *
  rcases h4 with rfl | rfl <;> simp [l_reached_from_3_ap, e]
theorem nat_nil (w : List Nat) : eqO (.lst (nI w)) (.lst []) = some (decide (w = [])) := Eq2.nat.lst.eqO w []
theorem rnd_le (T : List (List Nat)) (R : List Nat) : ∀ k, (rnd T k (R, R)).2.length ≤ (rnd T k (R, R)).1.length
  | 0 => Nat.le_refl _
  | k + 1 => by
    show (nbr T _ _).length ≤ (_ ++ nbr T _ _).length
    rw [List.length_append]; omega
theorem reached_from_ok {T : List (List Nat)} (hT : HB T) {R : List Nat} (hR : R.Nodup) (hl : ∀ x ∈ R, x < T.length) (W : List (List D)) : ∃ f, m_reached_from [.pv (hD T), .pv (rD R)] W = .ok (.pv (.dK (kvN (reachL T R) f))) W := by
  have hRl : R.length ≤ 64 := by have := nd_le hR hl; have := hT.len; omega
  have e1 : sDC 2 [3] (iOf (eV 1)) (gSet 3) tTrue k_reached_from_1 x_reached_from_1 ⟨[.pv (hD T), .pv (rD R), .no, .no, .no, .no, .no, .no], W⟩ = .ok .nx ⟨[.pv (hD T), .pv (rD R), .od (kvN R fun _ => .non), .no, .no, .no, .no, .no], W⟩ := by
    refine sDC_gen (s1 := ⟨[.pv (hD T), .pv (rD R), .no, .no, .no, .no, .no, .no], W⟩) (fun (x : Nat) => D.int (x : Int)) (fun x => some ((Sum.inl (x : Int) : Key), D.non)) R (ds := nI R) (by simp) rfl (by simp) (fun x hx => ?_) (szOk (by omega)) ?_ (by simp)
    · generalize hD T = H
      simp [k_reached_from_1_ap, x_reached_from_1_ap]
    · rw [fm_some]
      exact kvN_fold (fun _ => .non) R [] (fun _ => .non) (by simpa using hR) (by simp)
  obtain ⟨s', e2, f, y4, y5, y6, y7, rfl⟩ := while_rel (t := (tOfB (eOp2 neC (eV 4) (eLst aNil)))) (body := l_reached_from_3) (fun m s => ∃ (k : Nat) (f : Nat → D) (y4 y5 y6 y7 : Slot), m = T.length - k ∧ (y4 = .ow (nI (rnd T k (R, R)).2) ∨ y4 = .pv (.lst (nI (rnd T k (R, R)).2))) ∧ s = (⟨[.pv (hD T), .pv (rD R), .od (kvN (rnd T k (R, R)).1 f), .no, y4, y5, y6, y7], W⟩ : S))
    (fun s => ∃ (f : Nat → D) (y4 y5 y6 y7 : Slot), s = (⟨[.pv (hD T), .pv (rD R), .od (kvN (reachL T R) f), .no, y4, y5, y6, y7], W⟩ : S)) (fun m s hI => by
    obtain ⟨k, f, y4, y5, y6, y7, hm, h4, rfl⟩ := hI
    have h := rnd_ok hT.ok hR hl k
    have hn := nat_nil (rnd T k (R, R)).2
    have h64 := hT.len
    have hle := rnd_le T R k
    have hnd := nd_le h.nd h.lt
    by_cases hw : (rnd T k (R, R)).2 = []
    · refine .inl ⟨⟨[.pv (hD T), .pv (rD R), .od (kvN (rnd T k (R, R)).1 f), .no, y4, y5, y6, y7], W⟩, ?_, f, y4, y5, y6, y7, ?_⟩
      · rw [decide_eq_true hw] at hn
        generalize kvN (rnd T k (R, R)).1 f = K1 at *
        generalize nI (rnd T k (R, R)).2 = N at *
        generalize hD T = H
        rcases h4 with rfl | rfl <;> simp [hn]
      · rw [rnd_done hT.ok hR hl hw]
    · have hk : k < T.length := by
        rcases Nat.lt_or_ge k T.length with q | q
        · exact q
        · exact absurd (rnd_end hT.ok hR hl q) hw
      obtain ⟨f', z5, z6, z7, e⟩ := rf_round (a1 := .pv (rD R)) (a3 := .no) (W := W) hT (rnd T k (R, R)).1 (rnd T k (R, R)).2 f y4 y5 y6 y7 h4 (fun x hx => h.lt x (h.wc x hx)) (by omega)
      refine .inr ⟨⟨[.pv (hD T), .pv (rD R), .od (kvN (rnd T k (R, R)).1 f), .no, y4, y5, y6, y7], W⟩, .nx, _, T.length - (k + 1), ?_, e, .inl rfl, by omega, k + 1, f', _, z5, z6, z7, rfl, .inr rfl, rfl⟩
      rw [decide_eq_false hw] at hn
      generalize kvN (rnd T k (R, R)).1 f = K1 at *
      generalize nI (rnd T k (R, R)).2 = N at *
      generalize hD T = H
      rcases h4 with rfl | rfl <;> simp [hn]) (m := T.length) (s := ⟨[.pv (hD T), .pv (rD R), .od (kvN R fun _ => .non), .no, .ow (nI R), .no, .no, .no], W⟩) (by have := hT.len; omega) ⟨0, fun _ => .non, .ow (nI R), .no, .no, .no, rfl, .inl rfl, rfl⟩
  refine ⟨f, ?_⟩
  refine run_def (m_reached_from_ap _ _) rfl ?_
  rw [b_reached_from_ap]
  generalize kvN (reachL T R) f = K2 at *
  generalize (kvN R fun _ => D.non) = K1 at *
  generalize hD T = H at *
  simp only [rD] at *
  generalize nI R = N at *
  generalize (sDC 2 [3] (iOf (eV 1)) (gSet 3) tTrue k_reached_from_1 x_reached_from_1) = E1 at *
  generalize (sWhile fuel (tOfB (eOp2 neC (eV 4) (eLst aNil))) l_reached_from_3) = E2 at *
  simp [e1, e2]
end
/-! ### the law's own going out -/
def IVf (K : List Nat) (f : Nat → D) : Prop := ∀ x ∈ K, ∃ i : Int, f x = .int i
theorem IVf.put {K : List Nat} {f : Nat → D} (h : IVf K f) (o : Nat) (i : Int) : IVf (K ++ [o]) (upF f o (.int i)) := fun x hx => by
  unfold upF
  by_cases q : x = o
  · rw [if_pos q]; exact ⟨i, rfl⟩
  · rw [if_neg q]
    rcases List.mem_append.mp hx with hx | hx
    · exact h x hx
    · exact absurd (List.mem_singleton.mp hx) q
section
variable {a0 a1 a3 a4 a5 y : Slot} {W : List (List D)}
theorem lf_turn (C later : List Nat) (one o : Nat) (f : Nat → D) (h1 : one ∈ C) (hf : IVf (C ++ later) f) (hl : C.length + later.length < 60000) : ∃ f', IVf (C ++ addN C later o) f' ∧ l__law_far_2 ⟨[a0, a1, .od (kvN (C ++ later) f), a3, a4, a5, .ow (nI later), .pv (.int (one : Int)), .pv (.int (o : Int))], W⟩ = .ok .nx ⟨[a0, a1, .od (kvN (C ++ addN C later o) f'), a3, a4, a5, .ow (nI (addN C later o)), .pv (.int (one : Int)), .pv (.int (o : Int))], W⟩ := by
  have hz : (kvN (C ++ later) f).length < 65536 := by rw [kvN_len, List.length_append]; omega
  have hz2 : (nI later).length < 65536 := by rw [List.length_map]; omega
  unfold addN
  by_cases h : o ∈ C ++ later
  · have hv := kvN_val (C ++ later) f o
    rw [if_pos h] at hv
    rw [if_pos (List.mem_append.mp h)]
    refine ⟨f, hf, ?_⟩
    generalize kvN (C ++ later) f = K1 at *
    generalize nI later = LL at *
    simp [l__law_far_2_ap, hv]
  · rw [if_neg (fun q => h (List.mem_append.mpr q))]
    obtain ⟨i, hi⟩ := hf one (List.mem_append_left _ h1)
    have hw := kvN_val (C ++ later) f one
    rw [if_pos (List.mem_append_left _ h1), hi] at hw
    have hv2 : valD (kvN (C ++ later) f) (.inl (o : Int)) = none := by rw [kvN_val, if_neg h]
    have hp := kvN_new f (.int (i + 1)) h
    have hiv := hf.put o (i + 1)
    rw [List.append_assoc] at hp hiv
    refine ⟨upF f o (.int (i + 1)), hiv, ?_⟩
    rw [← hp]
    have en : nI (later ++ [o]) = nI later ++ [.int (o : Int)] := by simp
    rw [en]
    generalize kvN (C ++ later) f = K1 at *
    generalize nI later = LL at *
    simp [l__law_far_2_ap, hv2, hw, hz, hz2]
theorem lf_in (C : List Nat) (one : Nat) (h1 : one ∈ C) : ∀ (l later : List Nat) (f : Nat → D) (y : Slot), IVf (C ++ later) f → C.length + later.length + l.length ≤ 50000 →
    ∃ f' y', IVf (C ++ l.foldl (addN C) later) f' ∧ loopD (gSet 8) l__law_far_2 (nI l) ⟨[a0, a1, .od (kvN (C ++ later) f), a3, a4, a5, .ow (nI later), .pv (.int (one : Int)), y], W⟩ = .ok .nx ⟨[a0, a1, .od (kvN (C ++ l.foldl (addN C) later) f'), a3, a4, a5, .ow (nI (l.foldl (addN C) later)), .pv (.int (one : Int)), y'], W⟩
  | [], later, f, y, hf, _ => ⟨f, y, hf, rfl⟩
  | o :: l, later, f, y, hf, hl => by
    rw [List.length_cons] at hl
    obtain ⟨f1, hf1, e1⟩ := lf_turn (a0 := a0) (a1 := a1) (a3 := a3) (a4 := a4) (a5 := a5) (W := W) C later one o f h1 hf (by omega)
    have := addN_len C later o
    obtain ⟨f2, y2, hf2, e2⟩ := lf_in C one h1 l (addN C later o) f1 (.pv (.int (o : Int))) hf1 (by omega)
    refine ⟨f2, y2, hf2, ?_⟩
    rw [nI, List.map_cons, loopD_cons', List.foldl_cons]
    have e0 : turnD (gSet 8) l__law_far_2 (.int (o : Int)) ⟨[a0, a1, .od (kvN (C ++ later) f), a3, a4, a5, .ow (nI later), .pv (.int (one : Int)), y], W⟩ = .ok .nx ⟨[a0, a1, .od (kvN (C ++ addN C later o) f1), a3, a4, a5, .ow (nI (addN C later o)), .pv (.int (one : Int)), .pv (.int (o : Int))], W⟩ := by
      rw [← e1]; simp
    rw [e0, bind_okR]
    exact e2
theorem lf_mid {T : List (List Nat)} (hT : HB T) (C : List Nat) : ∀ (w later : List Nat) (f : Nat → D) (y7 y8 : Slot), (∀ x ∈ w, x < T.length ∧ x ∈ C) → IVf (C ++ later) f → C.length + later.length + 64 * w.length ≤ 40000 →
    ∃ f' y7' y8', IVf (C ++ (w.flatMap (succ T)).foldl (addN C) later) f' ∧ loopD (gSet 7) l__law_far_3 (nI w) ⟨[.pv (hD T), a1, .od (kvN (C ++ later) f), a3, a4, a5, .ow (nI later), y7, y8], W⟩ = .ok .nx ⟨[.pv (hD T), a1, .od (kvN (C ++ (w.flatMap (succ T)).foldl (addN C) later) f'), a3, a4, a5, .ow (nI ((w.flatMap (succ T)).foldl (addN C) later)), y7', y8'], W⟩
  | [], later, f, y7, y8, _, hf, _ => ⟨f, y7, y8, hf, rfl⟩
  | x :: w, later, f, y7, y8, hx, hf, hl => by
    rw [List.length_cons] at hl
    have hs := hT.few x
    have hlx := hx x List.mem_cons_self
    obtain ⟨f1, y1, hf1, e1⟩ := lf_in (a0 := .pv (hD T)) (a1 := a1) (a3 := a3) (a4 := a4) (a5 := a5) (W := W) C x hlx.2 (succ T x) later f y8 hf (by omega)
    have := foldN_len C (succ T x) later
    obtain ⟨f2, y2, y3, hf2, e2⟩ := lf_mid hT C w ((succ T x).foldl (addN C) later) f1 (.pv (.int (x : Int))) y1 (fun z hz => hx z (List.mem_cons_of_mem _ hz)) hf1 (by omega)
    rw [List.flatMap_cons, List.foldl_append]
    refine ⟨f2, y2, y3, hf2, ?_⟩
    rw [nI, List.map_cons, loopD_cons']
    have hi := at_hist hlx.1
    have e0 : turnD (gSet 7) l__law_far_3 (.int (x : Int)) ⟨[.pv (hD T), a1, .od (kvN (C ++ later) f), a3, a4, a5, .ow (nI later), y7, y8], W⟩ = .ok .nx ⟨[.pv (hD T), a1, .od (kvN (C ++ (succ T x).foldl (addN C) later) f1), a3, a4, a5, .ow (nI ((succ T x).foldl (addN C) later)), .pv (.int (x : Int)), y1], W⟩ := by
      have hi2 : ixY (hD T) (.int (x : Int)) = some (.pv (.tup (nI (succ T x)))) := hi
      generalize kvN (C ++ later) f = K1 at *
      generalize kvN (C ++ (succ T x).foldl (addN C) later) f1 = K2 at *
      generalize nI ((succ T x).foldl (addN C) later) = L2 at *
      generalize nI later = L1 at *
      generalize nI (succ T x) = SS at *
      generalize hD T = H at *
      simp [l__law_far_3_ap, hi2, e1]
    rw [e0, bind_okR]
    exact e2
theorem lf_round {T : List (List Nat)} (hT : HB T) (C w : List Nat) (f : Nat → D) (y4 y6 y7 y8 : Slot) (h4 : y4 = .ow (nI w) ∨ y4 = .pv (.lst (nI w))) (hf : IVf C f) (hx : ∀ x ∈ w, x < T.length ∧ x ∈ C) (hl : C.length + 64 * w.length ≤ 40000) :
    ∃ f' y6' y7' y8', IVf (C ++ nbr T C w) f' ∧ l__law_far_4 ⟨[.pv (hD T), a1, .od (kvN C f), a3, y4, a5, y6, y7, y8], W⟩ = .ok .nx ⟨[.pv (hD T), a1, .od (kvN (C ++ nbr T C w) f'), a3, .pv (.lst (nI (nbr T C w))), a5, y6', y7', y8'], W⟩ := by
  obtain ⟨f1, y7', y8', hf1, e⟩ := lf_mid (a1 := a1) (a3 := a3) (a4 := .pv (.lst (nI w))) (a5 := a5) (W := W) hT C w [] f y7 y8 hx (by simpa using hf) (by simpa using hl)
  refine ⟨f1, .pv (.lst (nI (nbr T C w))), y7', y8', hf1, ?_⟩
  rw [List.append_nil] at e
  have e : loopD (gSet 7) l__law_far_3 (nI w) ⟨[.pv (hD T), a1, .od (kvN C f), a3, .pv (.lst (nI w)), a5, .ow [], y7, y8], W⟩ = .ok .nx ⟨[.pv (hD T), a1, .od (kvN (C ++ nbr T C w) f1), a3, .pv (.lst (nI w)), a5, .ow (nI (nbr T C w)), y7', y8'], W⟩ := e
  generalize kvN (C ++ nbr T C w) f1 = K2 at *
  generalize kvN C f = K1 at *
  generalize nI (nbr T C w) = N at *
  generalize nI w = WW at *
  generalize hD T = H at *
  rcases h4 with rfl | rfl <;> simp [l__law_far_4_ap, e]
theorem law_far_ok {T : List (List Nat)} (hT : HB T) {R : List Nat} (hR : R.Nodup) (hl : ∀ x ∈ R, x < T.length) (W : List (List D)) : ∃ f, m__law_far [.pv (hD T), .pv (rD R)] W = .ok (.pv (.dK (kvN (reachL T R) f))) W := by
  have hRl : R.length ≤ 64 := by have := nd_le hR hl; have := hT.len; omega
  obtain ⟨s1, e1, f1, y3, hf1, rfl⟩ := loopD_rel (g := gSet 3) (body := l__law_far_1) (fun (x : Nat) => D.int (x : Int)) (fun l s => ∃ (f : Nat → D) (y3 : Slot), IVf l f ∧ s = (⟨[.pv (hD T), .pv (rD R), .od (kvN l f), y3, .no, .no, .no, .no, .no], W⟩ : S)) R (fun l x r s hL hI => by
    obtain ⟨f, y3, hf, rfl⟩ := hI
    have hx : x ∉ l := fun z => by
      rw [hL, List.nodup_append] at hR
      exact hR.2.2 x z x (by simp) rfl
    have hp := kvN_new f (.int 0) hx
    have hz : (kvN l f).length < 65536 := by
      have : R.length = l.length + (r.length + 1) := by rw [hL]; simp
      rw [kvN_len]; omega
    refine ⟨.nx, _, ?_, .inl rfl, upF f x (.int 0), .pv (.int (x : Int)), hf.put x 0, rfl⟩
    rw [← hp]
    generalize kvN l f = K1 at *
    generalize hD T = H
    generalize rD R = RR
    simp [l__law_far_1_ap, hz]) (s := ⟨[.pv (hD T), .pv (rD R), .od [], .no, .no, .no, .no, .no, .no], W⟩) ⟨fun _ => .non, .no, (fun x hx => by cases hx), rfl⟩
  obtain ⟨s2, e2, f2, y4, y5, y6, y7, y8, _, _, rfl⟩ := loopD_nat (g := gSet 5) (body := l__law_far_4) (fun k s => ∃ (f : Nat → D) (y4 y5 y6 y7 y8 : Slot), IVf (rnd T k (R, R)).1 f ∧ (y4 = .ow (nI (rnd T k (R, R)).2) ∨ y4 = .pv (.lst (nI (rnd T k (R, R)).2))) ∧ s = (⟨[.pv (hD T), .pv (rD R), .od (kvN (rnd T k (R, R)).1 f), y3, y4, y5, y6, y7, y8], W⟩ : S)) 0 T.length (by
    rintro k s _ hk ⟨f, y4, y5, y6, y7, y8, hf, h4, rfl⟩
    have h := rnd_ok hT.ok hR hl k
    have h64 := hT.len
    have hle := rnd_le T R k
    have hnd := nd_le h.nd h.lt
    obtain ⟨f', z6, z7, z8, hf', e⟩ := lf_round (a1 := .pv (rD R)) (a3 := y3) (a5 := .pv (.int (k : Int))) (W := W) hT (rnd T k (R, R)).1 (rnd T k (R, R)).2 f y4 y6 y7 y8 h4 hf (fun x hx => ⟨h.lt x (h.wc x hx), h.wc x hx⟩) (by omega)
    refine ⟨.nx, _, ?_, .inl rfl, f', _, .pv (.int (k : Int)), z6, z7, z8, hf', .inr rfl, rfl⟩
    rw [turnD_ap]
    have hg : (gSet 5 (.pv (.int (k : Int))) (⟨[.pv (hD T), .pv (rD R), .od (kvN (rnd T k (R, R)).1 f), y3, y4, y5, y6, y7, y8], W⟩ : S)) = .ok () ⟨[.pv (hD T), .pv (rD R), .od (kvN (rnd T k (R, R)).1 f), y3, y4, .pv (.int (k : Int)), y6, y7, y8], W⟩ := by
      generalize kvN (rnd T k (R, R)).1 f = K1 at *
      generalize hD T = H
      generalize rD R = RR
      simp
    rw [hg, bind_okR]
    exact e) (s := ⟨[.pv (hD T), .pv (rD R), .od (kvN R f1), y3, .ow (nI R), .no, .no, .no, .no], W⟩) ⟨f1, .ow (nI R), .no, .no, .no, .no, hf1, .inl rfl, rfl⟩
  refine ⟨f2, ?_⟩
  have hq := rngD_nat 0 T.length
  rw [Nat.sub_zero] at hq
  have e2 : loopD (gSet 5) l__law_far_4 (rngD 0 (T.length : Int)) ⟨[.pv (hD T), .pv (rD R), .od (kvN R f1), y3, .ow (nI R), .no, .no, .no, .no], W⟩ = .ok .nx ⟨[.pv (hD T), .pv (rD R), .od (kvN (reachL T R) f2), y3, y4, y5, y6, y7, y8], W⟩ := by
    have := (congrArg (fun l => loopD (gSet 5) l__law_far_4 l ⟨[.pv (hD T), .pv (rD R), .od (kvN R f1), y3, .ow (nI R), .no, .no, .no, .no], W⟩) hq).trans e2
    rw [Nat.zero_add] at this
    exact this
  have e1 : loopD (gSet 3) l__law_far_1 (nI R) ⟨[.pv (hD T), .pv (rD R), .od [], .no, .no, .no, .no, .no, .no], W⟩ = .ok .nx ⟨[.pv (hD T), .pv (rD R), .od (kvN R f1), y3, .no, .no, .no, .no, .no], W⟩ := e1
  have hlen : lenD (hD T) = pI (T.length : Int) := by show lenD (.tup _) = _; rw [len_tup, List.length_map]
  have hro : rOk (T.length : Int) = true := rOkN (by have := hT.len; omega)
  refine run_def (m__law_far_ap _ _) rfl ?_
  rw [b__law_far_ap]
  generalize kvN (reachL T R) f2 = K2 at *
  generalize kvN R f1 = K1 at *
  generalize hD T = H at *
  simp only [rD] at *
  generalize nI R = N at *
  simp [e1, e2, hlen, hro]
end
/-! ### keepers -/
section
variable {W : List (List D)} {T : List (List Nat)}
abbrev fD (T : List (List Nat)) (g : Nat → Nat → D) (x : Nat) : D := .dK (kvN (reachL T [x]) (g x))
theorem reach_all (hT : HB T) (W : List (List D)) : ∃ g : Nat → Nat → D, ∀ x, x < T.length → m_reached_from [.pv (hD T), .pv (.tup [.int (x : Int)])] W = .ok (.pv (fD T g x)) W := by
  have hex : ∀ x, x < T.length → ∃ f, m_reached_from [.pv (hD T), .pv (.tup [.int (x : Int)])] W = .ok (.pv (.dK (kvN (reachL T [x]) f))) W := fun x hx => reached_from_ok hT (R := [x]) (by simp) (by simpa using hx) W
  refine ⟨fun x => if h : x < T.length then Classical.choose (hex x h) else fun _ => .non, fun x hx => ?_⟩
  have := Classical.choose_spec (hex x hx)
  show _ = Rf.ok (.pv (.dK (kvN (reachL T [x]) (if h : x < T.length then Classical.choose (hex x h) else fun _ => .non)))) W
  rw [dif_pos hx]; exact this
theorem in_far (g : Nat → Nat → D) (a b : Nat) : inY (.int (b : Int)) (fD T g a) = some (.pv (.bl (decide (Rr T a b)))) := by
  show inY _ (.dK _) = _
  rw [inY_dK, keyD_int, Option.map_some, kvN_some]
  rfl
theorem ni_far (g : Nat → Nat → D) (a b : Nat) : niY (.int (b : Int)) (fD T g a) = some (.pv (.bl (!decide (Rr T a b)))) := by
  show niY _ (.dK _) = _
  rw [niY_dK, keyD_int, Option.map_some, kvN_some]
  rfl
theorem at_far {told : List Nat} (g : Nat → Nat → D) {x : Nat} (h : x ∈ told) : ixY (.dK (kvN told (fD T g))) (.int (x : Int)) = some (.pv (fD T g x)) := by
  rw [ixY_dK, keyD_int, Option.bind_some, kvN_val, if_pos h]; rfl
theorem keepers_ok (hT : HB T) {told : List Nat} (hnd : told.Nodup) (hl : ∀ x ∈ told, x < T.length) (W : List (List D)) : m_keepers [.pv (hD T), .pv (rD told)] W = .ok (.pv (rD (kp T told))) W := by
  obtain ⟨g, hg⟩ := reach_all hT W
  have htl : told.length ≤ 64 := by have := nd_le hnd hl; have := hT.len; omega
  have e1 : c_keepers_1 ⟨[.pv (hD T), .pv (rD told), .no, .no, .no, .no, .no], W⟩ = .ok (.pv (.dK (kvN told (fD T g)))) ⟨[.pv (hD T), .pv (rD told), .no, .no, .no, .no, .no], W⟩ := by
    rw [c_keepers_1_ap]
    refine eDC_gen (fun (x : Nat) => D.int (x : Int)) (fun x => some ((Sum.inl (x : Int) : Key), fD T g x)) told (ds := nI told) (by simp) rfl (by simp) (fun x hx => ?_) (szOk (by omega)) ?_
    · have e := hg x (hl x hx)
      generalize fD T g x = F at *
      generalize hD T = H at *
      simp [k_keepers_1_ap, x_keepers_1_ap, e]
    · rw [fm_some]
      exact kvN_fold (fD T g) told [] (fun _ => .non) (by simpa using hnd) (by simp)
  have e2 : ∀ (one : Nat) (y4 y5 : Slot), one ∈ told → c_keepers_2 ⟨[.pv (hD T), .pv (rD told), .pv (.dK (kvN told (fD T g))), .pv (.int (one : Int)), y4, y5, .no], W⟩ = .ok (.pv (.bl (firstB T told one))) ⟨[.pv (hD T), .pv (rD told), .pv (.dK (kvN told (fD T g))), .pv (.int (one : Int)), y4, y5, .no], W⟩ := fun one y4 y5 ho => by
    rw [c_keepers_2_ap]
    refine eAgg_gen false (fun (x : Nat) => D.int (x : Int)) (fun o => if Rr T o one then some (decide (Rr T one o)) else none) told (ds := nI told) (by simp) rfl (by simp) (fun l o r eL _ => ?_) ?_
    · have hot : o ∈ told := by rw [eL]; simp
      have h1 := at_far (T := T) g hot
      have h2 := at_far (T := T) g ho
      have h3 := in_far (T := T) g o one
      have h4 := in_far (T := T) g one o
      generalize fD T g o = F1 at *
      generalize fD T g one = F2 at *
      generalize kvN told (fD T g) = K at *
      generalize hD T = H at *
      generalize decide (Rr T one o) = b at *
      by_cases hr : Rr T o one
      · rw [decide_eq_true hr] at h3
        rw [if_pos hr]
        simp [t_keepers_2_ap, x_keepers_2_ap, h1, h2, h3, h4]
      · rw [decide_eq_false hr] at h3
        rw [if_neg hr]
        simp [t_keepers_2_ap, h1, h3]
    · have : (told.any fun o => (if Rr T o one then some (decide (Rr T one o)) else none) == some false) = !firstB T told one := by
        unfold firstB
        rw [List.not_all_eq_any_not]
        refine List.any_congr rfl fun o => ?_
        by_cases h1 : Rr T o one
        · by_cases h2 : Rr T one o <;> simp [h1, h2]
        · simp [h1]
      rw [this]; cases firstB T told one <;> rfl
  have e3 : ∀ (one : Nat) (F : List Nat) (y5 : Slot), one ∈ told → (∀ x ∈ F, x ∈ told) → c_keepers_3 ⟨[.pv (hD T), .pv (rD told), .pv (.dK (kvN told (fD T g))), .pv (.int (one : Int)), .ow (nI F), y5, .no], W⟩ = .ok (.pv (.bl (F.any fun o => decide (Rr T o one)))) ⟨[.pv (hD T), .pv (rD told), .pv (.dK (kvN told (fD T g))), .pv (.int (one : Int)), .ow (nI F), y5, .no], W⟩ := fun one F y5 ho hF => by
    rw [c_keepers_3_ap]
    refine eAggO_any 4 (fun (x : Nat) => D.int (x : Int)) (fun o => decide (Rr T o one)) F (ds := nI F) rfl rfl (by cases y5 <;> simp) (fun o hof => ?_) rfl
    have h1 := at_far (T := T) g (hF o hof)
    have h3 := in_far (T := T) g o one
    generalize fD T g o = F1 at *
    generalize kvN told (fD T g) = K at *
    generalize hD T = H at *
    generalize decide (Rr T o one) = b at *
    simp [x_keepers_3_ap, h1, h3]
  have turn : ∀ (one : Nat) (F : List Nat) (y3 y5 : Slot), one ∈ told → (∀ x ∈ F, x ∈ told) → F.length < 1000 → ∃ y5', turnD (gSet 3) l_keepers_1 (.int (one : Int)) ⟨[.pv (hD T), .pv (rD told), .pv (.dK (kvN told (fD T g))), y3, .ow (nI F), y5, .no], W⟩ = .ok .nx ⟨[.pv (hD T), .pv (rD told), .pv (.dK (kvN told (fD T g))), .pv (.int (one : Int)), .ow (nI (kstep T told F one)), y5', .no], W⟩ := fun one F y3 y5 ho hF hFl => by
    refine ⟨.pv (.bl (firstB T told one)), ?_⟩
    have q2 := e2 one (.ow (nI F)) y5 ho
    have q3 := e3 one F (.pv (.bl (firstB T told one))) ho hF
    have hz : (nI F).length < 65536 := by rw [List.length_map]; omega
    have en : nI (F ++ [one]) = nI F ++ [.int (one : Int)] := by simp
    unfold kstep
    generalize (F.any fun o => decide (Rr T o one)) = b2 at *
    generalize firstB T told one = b1 at *
    generalize kvN told (fD T g) = K at *
    simp only [rD] at *
    generalize nI told = N at *
    generalize hD T = H at *
    cases b1 <;> cases b2
    · rw [if_neg (by simp)]
      generalize nI F = FF at *
      simp [l_keepers_1_ap, q2]
    · rw [if_neg (by simp)]
      generalize nI F = FF at *
      simp [l_keepers_1_ap, q2]
    · rw [if_pos (by simp), en]
      generalize nI F = FF at *
      simp [l_keepers_1_ap, q2, q3, hz]
    · rw [if_neg (by simp)]
      generalize nI F = FF at *
      simp [l_keepers_1_ap, q2, q3]
  obtain ⟨_, j, e4⟩ := loopD_fold (g := gSet 3) (body := l_keepers_1) (fun (x : Nat) => D.int (x : Int)) (fun (F : List Nat) (j : Slot × Slot) => (⟨[.pv (hD T), .pv (rD told), .pv (.dK (kvN told (fD T g))), j.1, .ow (nI F), j.2, .no], W⟩ : S)) (kstep T told) (fun l F => (∀ x ∈ F, x ∈ l) ∧ F.length ≤ l.length) told [] (.no, .no) (by simp) (by
    rintro l x r F ⟨y3, y5⟩ hL ⟨h1, h2⟩
    have hlt : l.length < 64 := by rw [hL] at htl; simp at htl; omega
    obtain ⟨y5', e⟩ := turn x F y3 y5 (by rw [hL]; simp) (fun z hz => by rw [hL]; exact List.mem_append_left _ (h1 z hz)) (by omega)
    refine ⟨?_, (.pv (.int (x : Int)), y5'), e⟩
    unfold kstep
    split
    · refine ⟨fun z hz => ?_, by simpa using h2⟩
      rcases List.mem_append.mp hz with hz | hz
      · exact List.mem_append_left _ (h1 z hz)
      · exact List.mem_append_right _ hz
    · exact ⟨fun z hz => List.mem_append_left _ (h1 z hz), by rw [List.length_append]; omega⟩)
  obtain ⟨j1, j2⟩ := j
  have e4 : loopD (gSet 3) l_keepers_1 (nI told) ⟨[.pv (hD T), .pv (rD told), .pv (.dK (kvN told (fD T g))), .no, .ow [], .no, .no], W⟩ = .ok .nx ⟨[.pv (hD T), .pv (rD told), .pv (.dK (kvN told (fD T g))), j1, .ow (nI (kp T told)), j2, .no], W⟩ := e4
  refine run_def (m_keepers_ap _ _) rfl ?_
  rw [b_keepers_ap]
  generalize kvN told (fD T g) = K at *
  simp only [rD] at *
  generalize nI told = N at *
  generalize nI (kp T told) = N2 at *
  generalize hD T = H at *
  simp [e1, e4]
end
/-! ### _law_open, _law_draw -/
theorem open_loop {s0 : Slot} (W : List (List D)) : ∀ (ns : List Int) (acc : List D), acc.length + ns.length < 2 ^ 20 → ∃ cs : List Int, cs.length = ns.length ∧
    loopC [2] (gSet 2) tTrue x__law_open_1 (dI ns) acc ⟨[s0, .no, .no], W⟩ = .ok (acc ++ dI cs) ⟨[s0, .no, .no], W⟩
  | [], acc, _ => ⟨[], rfl, by simp [loopC]⟩
  | n :: ns, acc, h => by
    simp only [List.length_cons] at h
    obtain ⟨cs, hl, e⟩ := open_loop (s0 := s0) W ns (acc ++ [.int (if n < 0 then -n else n)]) (by simp; omega)
    refine ⟨(if n < 0 then -n else n) :: cs, by simp [hl], ?_⟩
    have hz : acc.length < sizeLine := by unfold sizeLine; omega
    simp at e
    simp [loopC, x__law_open_1_ap, hz, e]
/-- the state of the draws -/
def Dr (W : List (List D)) : Prop := ∃ (t l : Int) (cs : List Int), W = [[.int t, .int l, .lst (dI cs)]] ∧ cs ≠ []
theorem open_ok (ns : List Int) (hl : ns.length ≤ 63) (W : List (List D)) : ∃ cs : List Int, cs ≠ [] ∧ m__law_open [.pv (.scr (dI ns))] W = .ok (.ow [.int 0, .int 0, .lst (dI cs)]) W := by
  obtain ⟨cs, hc, e⟩ := open_loop (s0 := .pv (.scr (dI ns))) W (ns.take 63) [] (by simp; omega)
  refine ⟨cs ++ [0], by simp, ?_⟩
  have c1 : cutL (dI ns) none (some 63) = dI (ns.take 63) := by rw [cutL_map, cutL_hi (by decide)]; rfl
  have z1 : (1 : Nat) ≤ sizeLine := by decide
  have z3 : (3 : Nat) ≤ sizeLine := by decide
  have zc : cs.length + 1 ≤ sizeLine := by
    have : cs.length ≤ 63 := by rw [hc]; simp; omega
    unfold sizeLine; omega
  simp at e c1
  simp [m__law_open_ap, b__law_open_ap, c__law_open_1_ap, c1, e, z1, z3, zc]
theorem mixed_ok (c t : Int) (W : List (List D)) : ∃ v : Int, m__law_mixed [.pv (.int c), .pv (.int t)] W = .ok (.pv (.int v)) W := by
  have h : TriF (m__law_mixed [.pv (.int c), .pv (.int t)] W) fun r W' => ∃ v : Int, r = .pv (.int v) ∧ W' = W := by
    simp [m__law_mixed_ap, b__law_mixed_ap, mulOk]
  obtain ⟨r, W', e, v, rfl, rfl⟩ := h.ex
  exact ⟨v, e⟩
theorem draw_ok {W : List (List D)} (h : Dr W) (b : Int) (hb : 0 < b) (hb2 : b < 2 ^ 64) : ∃ v W', m__law_draw [.lc 0, .pv (.int b)] W = .ok (.pv (.int v)) W' ∧ 0 ≤ v ∧ v < b ∧ Dr W' := by
  obtain ⟨t, l, cs, rfl, hc⟩ := h
  have hb3 : b.natAbs < 18446744073709551616 := by omega
  have hlen : (0 : Int) < cs.length := by
    have : 0 < cs.length := List.length_pos_iff.mpr hc
    omega
  have hlenN : 0 < cs.length := List.length_pos_iff.mpr hc
  have ix3 : ixN 3 0 = some 0 := by decide
  have ix4 : ixN 3 1 = some 1 := by decide
  by_cases h1 : l < b
  · have i0 : 0 ≤ t % (cs.length : Int) := Int.emod_nonneg _ (by omega)
    have i1 : t % (cs.length : Int) < cs.length := Int.emod_lt_of_pos _ hlen
    obtain ⟨c, hcx⟩ : ∃ c, atI cs (t % (cs.length : Int)) = some c := by
      have : (t % (cs.length : Int)).toNat < cs.length := by omega
      exact ⟨_, atI_get i0 (List.getElem?_eq_getElem this)⟩
    have ea : atI (dI cs) (t % (cs.length : Int)) = some (.int c) := by rw [atI_map, hcx]; rfl
    obtain ⟨mx, em⟩ := mixed_ok c t [[.int t, .int l, .lst (dI cs)]]
    by_cases h2 : t < cs.length ∧ 1000000000000000000 ≤ c
    · refine ⟨c % b, [[.int (t + 1), .int (c / b), .lst (dI cs)]], ?_, Int.emod_nonneg _ (by omega), Int.emod_lt_of_pos _ hb, _, _, cs, rfl, hc⟩
      try simp at ea em
      simp [m__law_draw_ap, b__law_draw_ap, h1, hlenN, ea, h2.1, h2.2, hb, hb3, ix3, ix4]
    · refine ⟨mx % b, [[.int (t + 1), .int (mx / b), .lst (dI cs)]], ?_, Int.emod_nonneg _ (by omega), Int.emod_lt_of_pos _ hb, _, _, cs, rfl, hc⟩
      try simp at ea em
      by_cases h3 : t < cs.length
      · have h4 : ¬ 1000000000000000000 ≤ c := fun z => h2 ⟨h3, z⟩
        simp [m__law_draw_ap, b__law_draw_ap, h1, hlenN, ea, h3, h4, hb, hb3, ix3, ix4, em]
      · simp [m__law_draw_ap, b__law_draw_ap, h1, hlenN, ea, h3, hb, hb3, ix3, ix4, em]
  · refine ⟨l % b, [[.int t, .int (l / b), .lst (dI cs)]], ?_, Int.emod_nonneg _ (by omega), Int.emod_lt_of_pos _ hb, _, _, cs, rfl, hc⟩
    simp [m__law_draw_ap, b__law_draw_ap, h1, hb, hb3, ix3, ix4]
/-! ### rows of draws, heaps -/
theorem comp_draws {vs : List Nat} {g : GV} {t : TV} {fe : EV} {it : IV} {s : S} (n : Nat) (hz : n ≤ 60000) (hi : it s = .ok (nI (List.range n)) s) (hn : noOwn s.η vs = true) (hD : Dr s.W)
    (turn : ∀ W', Dr W' → ∀ x : Nat, x < n → ∃ (o : Bool) (W'' : List (List D)), turnC vs g t fe (.int (x : Int)) ⟨wipeN s.η vs, W'⟩ = .ok (if o = true then some (.int (x : Int)) else none) ⟨wipeN s.η vs, W''⟩ ∧ Dr W'') :
    ∃ (row : List Nat) (W' : List (List D)), row.Sublist (List.range n) ∧ Dr W' ∧ eComp vs it g t fe s = .ok (.ow (nI row)) ⟨s.η, W'⟩ := by
  obtain ⟨acc, s', e, row, W', hs, hD', rfl, rfl⟩ := loopC_rel (vs := vs) (g := g) (t := t) (fe := fe) (fun (x : Nat) => D.int (x : Int)) (fun l acc s' => ∃ (row : List Nat) (W' : List (List D)), row.Sublist l ∧ Dr W' ∧ acc = nI row ∧ s' = (⟨wipeN s.η vs, W'⟩ : S)) (List.range n) (fun l x r acc s' hL hI => by
    obtain ⟨row, W', hs, hD', rfl, rfl⟩ := hI
    have hx : x < n := List.mem_range.mp (by rw [hL]; simp)
    have hln : l.length < n := by
      have := congrArg List.length hL
      rw [List.length_range, List.length_append, List.length_cons] at this; omega
    obtain ⟨o, W'', e, hD''⟩ := turn W' hD' x hx
    refine ⟨_, _, e, ?_, ?_⟩
    · have := hs.length_le
      rw [List.length_map]; unfold sizeLine; omega
    · cases o with
      | true => exact ⟨row ++ [x], W'', hs.append (List.Sublist.refl _), hD'', by simp, rfl⟩
      | false => exact ⟨row, W'', hs.trans (List.sublist_append_left _ _), hD'', by simp, rfl⟩) (s := ⟨wipeN s.η vs, s.W⟩) ⟨[], s.W, List.Sublist.refl _, hD, rfl, rfl⟩
  refine ⟨row, W', hs, hD', ?_⟩
  have e : loopC vs g t fe (nI (List.range n)) [] ⟨wipeN s.η vs, s.W⟩ = .ok (nI row) ⟨wipeN s.η vs, W'⟩ := e
  rw [eComp_ap, hi, bind_okR, if_pos hn, e, noErr_ok, bind_okR]
  show Rs.ok _ ⟨restN s.η (wipeN s.η vs) vs, W'⟩ = _
  rw [rest_wipe _ _ hn]
theorem draw_b {W : List (List D)} (h : Dr W) (b : Int) (hb : 0 < b) (hb2 : b < 2 ^ 64) : ∃ (v : Nat) (W' : List (List D)), m__law_draw [.lc 0, .pv (.int b)] W = .ok (.pv (.int (v : Int))) W' ∧ (v : Int) < b ∧ Dr W' := by
  obtain ⟨v, W', e, h0, h1, h2⟩ := draw_ok h b hb hb2
  obtain ⟨k, rfl⟩ := Int.eq_ofNat_of_zero_le h0
  exact ⟨k, W', e, h1, h2⟩
theorem heap_row {W : List (List D)} (h : Dr W) (y1 y4 y5 y6 y7 : Slot) (hy : y5 = .no) {n thin : Nat} (hn : n ≤ 9) (ht : 0 < thin) (ht2 : thin < 100) : ∃ (row : List Nat) (W' : List (List D)), row.Sublist (List.range n) ∧ Dr W' ∧
    c__law_heap_1 ⟨[.lc 0, y1, .pv (.int (n : Int)), .pv (.int (thin : Int)), y4, y5, y6, y7], W⟩ = .ok (.ow (nI row)) ⟨[.lc 0, y1, .pv (.int (n : Int)), .pv (.int (thin : Int)), y4, y5, y6, y7], W'⟩ := by
  subst hy
  have hro : rOk (n : Int) = true := rOkN (by omega)
  rw [show c__law_heap_1 = eComp [5] (iR1 (eV 2)) (gSet 5) t__law_heap_1 x__law_heap_1 from funext c__law_heap_1_ap]
  refine comp_draws n (by omega) (by simp [hro, rngD_0]) (by simp) h fun W' hD x hx => ?_
  obtain ⟨v, W'', e, _, hD'⟩ := draw_b hD (thin : Int) (by omega) (by omega)
  refine ⟨decide (v = 0), W'', ?_, hD'⟩
  by_cases q : v = 0
  · simp [t__law_heap_1_ap, x__law_heap_1_ap, e, q]
  · simp [t__law_heap_1_ap, x__law_heap_1_ap, e, q]
theorem heap_row2 {W : List (List D)} (h : Dr W) (y1 y3 y4 y5 y6 : Slot) (hy : y5 = .no) {n few : Nat} (hn : n ≤ 9) (ht : 0 < few) (ht2 : few < 100) : ∃ (row : List Nat) (W' : List (List D)), row.Sublist (List.range n) ∧ Dr W' ∧
    c__law_heap_3 ⟨[.lc 0, y1, .pv (.int (n : Int)), y3, y4, y5, y6, .pv (.int (few : Int))], W⟩ = .ok (.ow (nI row)) ⟨[.lc 0, y1, .pv (.int (n : Int)), y3, y4, y5, y6, .pv (.int (few : Int))], W'⟩ := by
  subst hy
  have hro : rOk (n : Int) = true := rOkN (by omega)
  rw [show c__law_heap_3 = eComp [5] (iR1 (eV 2)) (gSet 5) t__law_heap_3 x__law_heap_3 from funext c__law_heap_3_ap]
  refine comp_draws n (by omega) (by simp [hro, rngD_0]) (by simp) h fun W' hD x hx => ?_
  obtain ⟨v, W'', e, _, hD'⟩ := draw_b hD (few : Int) (by omega) (by omega)
  refine ⟨decide (v = 0), W'', ?_, hD'⟩
  by_cases q : v = 0
  · simp [t__law_heap_3_ap, x__law_heap_3_ap, e, q]
  · simp [t__law_heap_3_ap, x__law_heap_3_ap, e, q]
structure HP (T : List (List Nat)) : Prop where
  pos : 0 < T.length
  len : T.length ≤ 9
  row : ∀ r ∈ T, r.Sublist (List.range T.length)
theorem HP.hb {T : List (List Nat)} (h : HP T) : HB T := by
  have hs : ∀ x, (succ T x).Sublist (List.range T.length) := fun x => by
    unfold succ
    rw [List.getD_eq_getElem?_getD]
    cases q : T[x]? with
    | none => exact List.nil_sublist _
    | some r => exact h.row r (List.mem_of_getElem? q)
  refine ⟨⟨fun x y hy => List.mem_range.mp ((hs x).subset hy)⟩, by have := h.len; omega, fun x => ?_⟩
  have q := (hs x).length_le
  have := h.len
  rw [List.length_range] at q
  omega
theorem heap_ok {W : List (List D)} (h : Dr W) : ∃ (T : List (List Nat)) (R : List Nat) (W' : List (List D)), HP T ∧ Dr W' ∧ m__law_heap [.lc 0, .pv (.int 9)] W = .ok (.pv (.tup [hD T, rD R])) W' := by
  obtain ⟨m, W1, e1, hm, h1⟩ := draw_b h 9 (by decide) (by decide)
  obtain ⟨th, W2, e2, hth, h2⟩ := draw_b h1 8 (by decide) (by decide)
  have hro : rOk ((m + 1 : Nat) : Int) = true := rOkN (by omega)
  -- the rows
  obtain ⟨acc, s', e3, T, W3, hTl, hTr, h3, rfl, rfl⟩ := loopC_rel (vs := [6]) (g := gSet 6) (t := tTrue) (fe := x__law_heap_2) (fun (x : Nat) => D.int (x : Int)) (fun l acc s' => ∃ (T : List (List Nat)) (W' : List (List D)), T.length = l.length ∧ (∀ r ∈ T, r.Sublist (List.range (m + 1))) ∧ Dr W' ∧ acc = T.map rD ∧ s' = (⟨[.lc 0, .pv (.int 9), .pv (.int ((m + 1 : Nat) : Int)), .pv (.int ((th + 2 : Nat) : Int)), .no, .no, .no, .no], W'⟩ : S)) (List.range (m + 1)) (fun l x r acc s' hL hI => by
    obtain ⟨T, W', hTl, hTr, hD', rfl, rfl⟩ := hI
    have hln : l.length < m + 1 := by
      have := congrArg List.length hL
      rw [List.length_range, List.length_append, List.length_cons] at this; omega
    obtain ⟨row, W'', hs, hD'', e⟩ := heap_row hD' (.pv (.int 9)) .no .no (.pv (.int (x : Int))) .no rfl (n := m + 1) (thin := th + 2) (by omega) (by omega) (by omega)
    refine ⟨some (rD row), _, ?_, ?_, T ++ [row], W'', by simp [hTl], fun q hq => ?_, hD'', by simp, rfl⟩
    · simp only [rD]
      generalize nI row = RR at *
      simp [x__law_heap_2_ap] at e ⊢
      simp [e]
    · rw [List.length_map, hTl]; unfold sizeLine; omega
    · rcases List.mem_append.mp hq with hq | hq
      · exact hTr q hq
      · rw [List.mem_singleton.mp hq]; exact hs) (s := ⟨[.lc 0, .pv (.int 9), .pv (.int ((m + 1 : Nat) : Int)), .pv (.int ((th + 2 : Nat) : Int)), .no, .no, .no, .no], W2⟩) ⟨[], W2, rfl, by simp, h2, rfl, rfl⟩
  rw [List.length_range] at hTl
  obtain ⟨fw, W4, e4, hfw, h4⟩ := draw_b h3 6 (by decide) (by decide)
  obtain ⟨R, W5, _, h5, e5⟩ := heap_row2 h4 (.pv (.int 9)) (.pv (.int ((th + 2 : Nat) : Int))) (.pv (hD T)) .no .no rfl (n := m + 1) (few := fw + 1) (by omega) (by omega) (by omega)
  refine ⟨T, R, W5, ⟨by omega, by omega, fun r hr => by rw [hTl]; exact hTr r hr⟩, h5, ?_⟩
  have a1 : (1 : Int) + (m : Int) = ((m + 1 : Nat) : Int) := by omega
  have a2 : (2 : Int) + (th : Int) = ((th + 2 : Nat) : Int) := by omega
  have a3 : (1 : Int) + (fw : Int) = ((fw + 1 : Nat) : Int) := by omega
  have e3 : loopC [6] (gSet 6) tTrue x__law_heap_2 (nI (List.range (m + 1))) [] ⟨[.lc 0, .pv (.int 9), .pv (.int ((m + 1 : Nat) : Int)), .pv (.int ((th + 2 : Nat) : Int)), .no, .no, .no, .no], W2⟩ = .ok (T.map rD) ⟨[.lc 0, .pv (.int 9), .pv (.int ((m + 1 : Nat) : Int)), .pv (.int ((th + 2 : Nat) : Int)), .no, .no, .no, .no], W3⟩ := e3
  have hr0 : rngD 0 ((m + 1 : Nat) : Int) = nI (List.range (m + 1)) := rngD_0 (m + 1)
  simp only [hD, rD] at *
  generalize nI R = RR at *
  generalize nI (List.range (m + 1)) = N at *
  generalize T.map (fun r => D.tup (nI r)) = TT at *
  generalize ((m + 1 : Nat) : Int) = M at *
  generalize ((th + 2 : Nat) : Int) = TH at *
  generalize ((fw + 1 : Nat) : Int) = FW at *
  refine run_def (m__law_heap_ap _ _) rfl ?_
  rw [b__law_heap_ap]
  simp [e1, e2, a1, a2, a3, c__law_heap_2_ap, hro, hr0, e3, e4, e5]
/-! ### the law's checks -/
theorem fl_ok (hT : HB T) (W : List (List D)) : ∃ g : Nat → Nat → D, ∀ x, x < T.length → m__law_far [.pv (hD T), .pv (.tup [.int (x : Int)])] W = .ok (.pv (fD T g x)) W := by
  have hex : ∀ x, x < T.length → ∃ f, m__law_far [.pv (hD T), .pv (.tup [.int (x : Int)])] W = .ok (.pv (.dK (kvN (reachL T [x]) f))) W := fun x hx => law_far_ok hT (R := [x]) (by simp) (by simpa using hx) W
  refine ⟨fun x => if h : x < T.length then Classical.choose (hex x h) else fun _ => .non, fun x hx => ?_⟩
  have := Classical.choose_spec (hex x hx)
  show _ = Rf.ok (.pv (.dK (kvN (reachL T [x]) (if h : x < T.length then Classical.choose (hex x h) else fun _ => .non)))) W
  rw [dif_pos hx]; exact this
theorem int_ok (i : Int) (W : List (List D)) : m__law_int [.pv (.int i)] W = .ok (.pv (.bl true)) W := by simp [m__law_int_ap, b__law_int_ap]
theorem in_natsT (j : Nat) (ms : List Nat) : inO (.int (j : Int)) (.tup (nI ms)) = some (decide (j ∈ ms)) := Eq2.nat.inT (fun _ => rfl) j ms
theorem srt_up {row : List Nat} (h : row.Pairwise (· < ·)) : srtI (row.map fun (x : Nat) => (x : Int)) = row.map fun (x : Nat) => (x : Int) := by
  unfold srtI
  refine List.mergeSort_of_pairwise ?_
  rw [List.pairwise_map]
  exact h.imp fun {a b} q => by unfold leI; simp; omega
theorem sort_up {row : List Nat} (h : row.Pairwise (· < ·)) : sortY (.tup (nI row)) = some (.ow (nI row)) := by
  have e : nI row = (row.map fun (x : Nat) => (x : Int)).map D.int := by rw [List.map_map]; rfl
  rw [sortY_tup, e, sortD_tup, srt_up h]
def fr (s : Slot) : Prop := s = .no ∨ ∃ d, s = .pv d
theorem fr_pv (d : D) : fr (.pv d) := .inr ⟨d, rfl⟩
/-- what the law holds of a turn -/
structure Tu (T : List (List Nat)) (told : List Nat) : Prop where
  h : HP T
  sub : told.Sublist (List.range T.length)
theorem Tu.lt {T : List (List Nat)} {told : List Nat} (h : Tu T told) : ∀ x ∈ told, x < T.length := fun x hx => List.mem_range.mp (h.sub.subset hx)
theorem Tu.up {T : List (List Nat)} {told : List Nat} (h : Tu T told) : told.Pairwise (· < ·) := List.pairwise_lt_range.sublist h.sub
theorem Tu.nd {T : List (List Nat)} {told : List Nat} (h : Tu T told) : told.Nodup := List.nodup_range.sublist h.sub
theorem Tu.ks {T : List (List Nat)} {told : List Nat} (h : Tu T told) : (kp T told).Sublist told := (kp_ki h.h.hb.ok h.lt h.nd).sub
theorem Tu.few {T : List (List Nat)} {told : List Nat} (h : Tu T told) : told.length ≤ 9 := by
  have := h.sub.length_le
  rw [List.length_range] at this
  have := h.h.len
  omega
theorem Tu.kfew {T : List (List Nat)} {told : List Nat} (h : Tu T told) : (kp T told).length ≤ 9 := Nat.le_trans h.ks.length_le h.few
theorem Tu.klt {T : List (List Nat)} {told : List Nat} (h : Tu T told) : ∀ x ∈ kp T told, x < T.length := fun x hx => h.lt x (h.ks.subset hx)
section
variable {s0 s1 s2 s3 s4 s5 s6 s7 s8 s9 s10 s11 s12 s13 : Slot} {W : List (List D)}
variable {T : List (List Nat)} {told : List Nat}
theorem E1 (hW : Dr W) : ∃ (T : List (List Nat)) (W' : List (List D)), HP T ∧ Dr W' ∧ e_law_1 ⟨[s0, .lc 0, s2, s3, s4, s5, s6, s7, s8, s9, s10, s11, s12, s13], W⟩ = .ok .nx ⟨[s0, .lc 0, s2, .pv (hD T), s4, s5, s6, s7, s8, s9, s10, s11, s12, s13], W'⟩ := by
  obtain ⟨T, R, W', h1, h2, e⟩ := heap_ok hW
  refine ⟨T, W', h1, h2, ?_⟩
  have hx : atI [hD T, rD R] 0 = some (hD T) := atI_get (by decide) rfl
  generalize hD T = H at *
  generalize rD R = RR at *
  simp [e_law_1_ap, e, hx]
theorem E2 (hW : Dr W) (hT : HP T) (f5 : fr s5) : ∃ (told : List Nat) (W' : List (List D)), Tu T told ∧ Dr W' ∧ e_law_2 ⟨[s0, .lc 0, s2, .pv (hD T), s4, s5, s6, s7, s8, s9, s10, s11, s12, s13], W⟩ = .ok .nx ⟨[s0, .lc 0, s2, .pv (hD T), .pv (rD told), s5, s6, s7, s8, s9, s10, s11, s12, s13], W'⟩ := by
  have hl := hT.len
  have hlen : lenD (hD T) = pI (T.length : Int) := by show lenD (.tup _) = _; rw [len_tup, List.length_map]
  have hro : rOk (T.length : Int) = true := rOkN (by omega)
  have hr0 : rngD 0 (T.length : Int) = nI (List.range T.length) := rngD_0 T.length
  generalize hD T = H at *
  have key : ∃ (told : List Nat) (W' : List (List D)), told.Sublist (List.range T.length) ∧ Dr W' ∧ c_law_1 ⟨[s0, .lc 0, s2, .pv H, s4, s5, s6, s7, s8, s9, s10, s11, s12, s13], W⟩ = .ok (.ow (nI told)) ⟨[s0, .lc 0, s2, .pv H, s4, s5, s6, s7, s8, s9, s10, s11, s12, s13], W'⟩ := by
    rw [show c_law_1 = eComp [5] (iR1 (eOp1 lenD (eV 3))) (gSet 5) t_law_1 x_law_1 from funext c_law_1_ap]
    refine comp_draws T.length (by omega) (by simp [hlen, hro, hr0]) (by rcases f5 with rfl | ⟨d, rfl⟩ <;> simp) hW fun W' hD x hx => ?_
    obtain ⟨v, W'', e, _, hD'⟩ := draw_b hD 3 (by decide) (by decide)
    refine ⟨decide (0 < v), W'', ?_, hD'⟩
    by_cases q : 0 < v
    · have q2 : (0 : Int) < (v : Int) := by omega
      simp [t_law_1_ap, x_law_1_ap, e, q, q2]
    · have q2 : ¬ (0 : Int) < (v : Int) := by omega
      simp [t_law_1_ap, x_law_1_ap, e, q, q2]
  obtain ⟨told, W', hs, h2, e⟩ := key
  refine ⟨told, W', ⟨hT, hs⟩, h2, ?_⟩
  simp only [rD]
  generalize nI told = N at *
  simp [e_law_2_ap, e]
theorem E3 (h : Tu T told) : e_law_3 ⟨[s0, s1, s2, .pv (hD T), .pv (rD told), s5, s6, s7, s8, s9, s10, s11, s12, s13], W⟩ = .ok .nx ⟨[s0, s1, s2, .pv (hD T), .pv (rD told), s5, .pv (rD (kp T told)), s7, s8, s9, s10, s11, s12, s13], W⟩ := by
  have e := keepers_ok h.h.hb h.nd h.lt W
  generalize hD T = H at *
  generalize rD told = R at *
  generalize rD (kp T told) = K at *
  simp [e_law_3_ap, e]
theorem E4 (h : Tu T told) (f5 : fr s5) : e_law_4 ⟨[s0, s1, s2, s3, .pv (rD told), s5, .pv (rD (kp T told)), s7, s8, s9, s10, s11, s12, s13], W⟩ = .ok .nx ⟨[s0, s1, s2, s3, .pv (rD told), s5, .pv (rD (kp T told)), s7, s8, s9, s10, s11, s12, s13], W⟩ := by
  have hk := h.ks
  have hz := h.kfew
  have e : c_law_2 ⟨[s0, s1, s2, s3, .pv (rD told), s5, .pv (rD (kp T told)), s7, s8, s9, s10, s11, s12, s13], W⟩ = .ok (.ow []) ⟨[s0, s1, s2, s3, .pv (rD told), s5, .pv (rD (kp T told)), s7, s8, s9, s10, s11, s12, s13], W⟩ := by
    rw [c_law_2_ap]
    refine eComp_gen (fun (x : Nat) => D.int (x : Int)) (fun _ => none) (kp T told) (ds := nI (kp T told)) (by simp) rfl (by rcases f5 with rfl | ⟨d, rfl⟩ <;> simp) (fun x hx => ?_) (szOk (by omega)) (by simp)
    have hin := in_natsT x told
    rw [decide_eq_true (hk.subset hx)] at hin
    simp only [rD]
    generalize nI told = N at *
    generalize nI (kp T told) = N2 at *
    simp [t_law_2_ap, int_ok, hin]
  have hs := sort_up (h.up.sublist hk)
  have hq : eqO (.lst (nI (kp T told))) (.lst (nI (kp T told))) = some true := by
    have := Eq2.nat.lst.eqO (kp T told) (kp T told)
    rw [decide_eq_true rfl] at this; exact this
  have hzl : (nI (kp T told)).length ≤ 65536 := by rw [List.length_map]; omega
  simp only [rD] at *
  generalize nI (kp T told) = N2 at *
  generalize nI told = N at *
  simp [e_law_4_ap, e, hs, hq, hzl, eqO_nil]
theorem E6 (h : Tu T told) (f5 : fr s5) : ∃ (g : Nat → Nat → D) (y5 : Slot), fr y5 ∧ e_law_6 ⟨[s0, s1, s2, .pv (hD T), s4, s5, s6, .od [], s8, s9, s10, s11, s12, s13], W⟩ = .ok .nx ⟨[s0, s1, s2, .pv (hD T), s4, y5, s6, .od (kvN (List.range T.length) (fD T g)), s8, s9, s10, s11, s12, s13], W⟩ := by
  obtain ⟨g, hg⟩ := fl_ok h.h.hb W
  have hl := h.h.len
  have hlen : lenD (hD T) = pI (T.length : Int) := by show lenD (.tup _) = _; rw [len_tup, List.length_map]
  have hro : rOk (T.length : Int) = true := rOkN (by omega)
  have hr0 : rngD 0 (T.length : Int) = nI (List.range T.length) := rngD_0 T.length
  obtain ⟨s', e, f, y5, hf, hy, rfl⟩ := loopD_rel (g := gSet 5) (body := l_law_1) (fun (x : Nat) => D.int (x : Int)) (fun l s => ∃ (f : Nat → D) (y5 : Slot), (∀ x ∈ l, f x = fD T g x) ∧ fr y5 ∧ s = (⟨[s0, s1, s2, .pv (hD T), s4, y5, s6, .od (kvN l f), s8, s9, s10, s11, s12, s13], W⟩ : S)) (List.range T.length) (fun l x r s hL hI => by
    obtain ⟨f, y5, hf, hy, rfl⟩ := hI
    have hxl : x ∉ l := fun z => by
      have hn := List.nodup_range (n := T.length)
      rw [hL, List.nodup_append] at hn
      exact hn.2.2 x z x (by simp) rfl
    have hx : x < T.length := List.mem_range.mp (by rw [hL]; simp)
    have hp := kvN_new f (fD T g x) hxl
    have hz : (kvN l f).length < 65536 := by
      have := congrArg List.length hL
      rw [List.length_range, List.length_append, List.length_cons] at this
      rw [kvN_len]; omega
    have e := hg x hx
    refine ⟨.nx, ⟨[s0, s1, s2, .pv (hD T), s4, .pv (.int (x : Int)), s6, .od (kvN (l ++ [x]) (upF f x (fD T g x))), s8, s9, s10, s11, s12, s13], W⟩, ?_, .inl rfl, upF f x (fD T g x), .pv (.int (x : Int)), fun z hz => ?_, fr_pv _, rfl⟩
    · rw [← hp]
      generalize kvN l f = K1 at *
      generalize fD T g x = F at *
      generalize hD T = H at *
      simp [l_law_1_ap, hz, e]
    · unfold upF
      by_cases q : z = x
      · rw [if_pos q, q]
      · rw [if_neg q]
        rcases List.mem_append.mp hz with hz | hz
        · exact hf z hz
        · exact absurd (List.mem_singleton.mp hz) q) (s := ⟨[s0, s1, s2, .pv (hD T), s4, s5, s6, .od [], s8, s9, s10, s11, s12, s13], W⟩) ⟨fun _ => .non, s5, (fun x hx => by cases hx), f5, rfl⟩
  refine ⟨g, y5, hy, ?_⟩
  have hkv : kvN (List.range T.length) f = kvN (List.range T.length) (fD T g) := List.map_congr_left fun x hx => by rw [hf x hx]
  rw [hkv] at e
  have e : loopD (gSet 5) l_law_1 (nI (List.range T.length)) ⟨[s0, s1, s2, .pv (hD T), s4, s5, s6, .od [], s8, s9, s10, s11, s12, s13], W⟩ = .ok .nx ⟨[s0, s1, s2, .pv (hD T), s4, y5, s6, .od (kvN (List.range T.length) (fD T g)), s8, s9, s10, s11, s12, s13], W⟩ := e
  generalize kvN (List.range T.length) (fD T g) = K at *
  generalize nI (List.range T.length) = N at *
  generalize hD T = H at *
  simp [e_law_6_ap, e, hlen, hro, hr0]
theorem at_all (g : Nat → Nat → D) {x : Nat} (h : x < T.length) : valD (kvN (List.range T.length) (fD T g)) (.inl (x : Int)) = some (fD T g x) := by
  rw [kvN_val, if_pos (List.mem_range.mpr h)]
theorem E7 (h : Tu T told) (g : Nat → Nat → D) (f5 : fr s5) : e_law_7 ⟨[s0, s1, s2, s3, s4, s5, .pv (rD (kp T told)), .od (kvN (List.range T.length) (fD T g)), .no, s9, s10, s11, s12, s13], W⟩ = .ok .nx ⟨[s0, s1, s2, s3, s4, s5, .pv (rD (kp T told)), .od (kvN (List.range T.length) (fD T g)), .no, s9, s10, s11, s12, s13], W⟩ := by
  have hz := h.kfew
  have e1 : ∀ one : Nat, one ∈ kp T told → c_law_3 ⟨[s0, s1, s2, s3, s4, .pv (.int (one : Int)), .pv (rD (kp T told)), .od (kvN (List.range T.length) (fD T g)), .no, s9, s10, s11, s12, s13], W⟩ = .ok (.ow []) ⟨[s0, s1, s2, s3, s4, .pv (.int (one : Int)), .pv (rD (kp T told)), .od (kvN (List.range T.length) (fD T g)), .no, s9, s10, s11, s12, s13], W⟩ := fun one ho => by
    rw [c_law_3_ap]
    refine eComp_gen (fun (x : Nat) => D.int (x : Int)) (fun _ => none) (kp T told) (ds := nI (kp T told)) (by simp) rfl (by simp) (fun x hx => ?_) (szOk (by omega)) (by simp)
    have hv := at_all g (h.klt one ho)
    have hin := in_far (T := T) g one x
    generalize fD T g one = F at *
    generalize kvN (List.range T.length) (fD T g) = K at *
    simp only [rD]
    generalize nI (kp T told) = N2 at *
    by_cases q : x = one
    · subst q
      simp [t_law_3_ap]
    · have q2 : ¬ (x : Int) = (one : Int) := by omega
      rw [decide_eq_false (kp_apart h.h.hb.ok h.lt h.nd ho hx (fun z => q z.symm))] at hin
      simp [t_law_3_ap, q2, hv, hin]
  have e : c_law_4 ⟨[s0, s1, s2, s3, s4, s5, .pv (rD (kp T told)), .od (kvN (List.range T.length) (fD T g)), .no, s9, s10, s11, s12, s13], W⟩ = .ok (.ow []) ⟨[s0, s1, s2, s3, s4, s5, .pv (rD (kp T told)), .od (kvN (List.range T.length) (fD T g)), .no, s9, s10, s11, s12, s13], W⟩ := by
    rw [c_law_4_ap]
    refine eComp_gen (fun (x : Nat) => D.int (x : Int)) (fun _ => none) (kp T told) (ds := nI (kp T told)) (by simp) rfl (by rcases f5 with rfl | ⟨d, rfl⟩ <;> simp) (fun x hx => ?_) (szOk (by omega)) (by simp)
    have e := e1 x hx
    generalize kvN (List.range T.length) (fD T g) = K at *
    simp only [rD] at *
    generalize nI (kp T told) = N2 at *
    simp [t_law_4_ap, e, eqO_nil]
  generalize kvN (List.range T.length) (fD T g) = K at *
  simp only [rD] at *
  generalize nI (kp T told) = N2 at *
  simp [e_law_7_ap, e, eqO_nil]
theorem E8 (h : Tu T told) (g : Nat → Nat → D) (f5 : fr s5) : e_law_8 ⟨[s0, s1, s2, s3, .pv (rD told), s5, .pv (rD (kp T told)), .od (kvN (List.range T.length) (fD T g)), .no, s9, s10, s11, s12, s13], W⟩ = .ok .nx ⟨[s0, s1, s2, s3, .pv (rD told), s5, .pv (rD (kp T told)), .od (kvN (List.range T.length) (fD T g)), .no, s9, s10, s11, s12, s13], W⟩ := by
  have hz := h.kfew
  have hz2 := h.few
  have e1 : ∀ one : Nat, one ∈ kp T told → c_law_5 ⟨[s0, s1, s2, s3, .pv (rD told), .pv (.int (one : Int)), .pv (rD (kp T told)), .od (kvN (List.range T.length) (fD T g)), .no, s9, s10, s11, s12, s13], W⟩ = .ok (.ow []) ⟨[s0, s1, s2, s3, .pv (rD told), .pv (.int (one : Int)), .pv (rD (kp T told)), .od (kvN (List.range T.length) (fD T g)), .no, s9, s10, s11, s12, s13], W⟩ := fun one ho => by
    rw [c_law_5_ap]
    refine eComp_gen (fun (x : Nat) => D.int (x : Int)) (fun _ => none) told (ds := nI told) (by simp) rfl (by simp) (fun x hx => ?_) (szOk (by omega)) (by simp)
    have hv := at_all g (h.klt one ho)
    have hv2 := at_all g (h.lt x hx)
    have hin := in_far (T := T) g one x
    have hin2 := in_far (T := T) g x one
    have hno : x < one → ¬ (Rr T one x ∧ Rr T x one) := fun q => kp_least h.h.hb.ok h.lt h.up ho hx q
    generalize fD T g one = F at *
    generalize fD T g x = F2 at *
    generalize kvN (List.range T.length) (fD T g) = K at *
    simp only [rD]
    generalize nI (kp T told) = N2 at *
    generalize nI told = N at *
    by_cases q : x < one
    · have q2 : (x : Int) < (one : Int) := by omega
      by_cases q3 : Rr T one x
      · rw [decide_eq_true q3] at hin
        rw [decide_eq_false (fun z => hno q ⟨q3, z⟩)] at hin2
        simp [t_law_5_ap, q2, hv, hv2, hin, hin2]
      · rw [decide_eq_false q3] at hin
        simp [t_law_5_ap, q2, hv, hin]
    · have q2 : ¬ (x : Int) < (one : Int) := by omega
      simp [t_law_5_ap, q2]
  have e : c_law_6 ⟨[s0, s1, s2, s3, .pv (rD told), s5, .pv (rD (kp T told)), .od (kvN (List.range T.length) (fD T g)), .no, s9, s10, s11, s12, s13], W⟩ = .ok (.ow []) ⟨[s0, s1, s2, s3, .pv (rD told), s5, .pv (rD (kp T told)), .od (kvN (List.range T.length) (fD T g)), .no, s9, s10, s11, s12, s13], W⟩ := by
    rw [c_law_6_ap]
    refine eComp_gen (fun (x : Nat) => D.int (x : Int)) (fun _ => none) (kp T told) (ds := nI (kp T told)) (by simp) rfl (by rcases f5 with rfl | ⟨d, rfl⟩ <;> simp) (fun x hx => ?_) (szOk (by omega)) (by simp)
    have e := e1 x hx
    generalize kvN (List.range T.length) (fD T g) = K at *
    simp only [rD] at *
    generalize nI (kp T told) = N2 at *
    generalize nI told = N at *
    simp [t_law_6_ap, e, eqO_nil]
  generalize kvN (List.range T.length) (fD T g) = K at *
  simp only [rD] at *
  generalize nI (kp T told) = N2 at *
  generalize nI told = N at *
  simp [e_law_8_ap, e, eqO_nil]
theorem ni_dk (R : List Nat) (f : Nat → D) (b : Nat) : niY (.int (b : Int)) (.dK (kvN R f)) = some (.pv (.bl (!decide (b ∈ R)))) := by
  rw [niY_dK, keyD_int, Option.map_some, kvN_some]
theorem E9 (h : Tu T told) : ∃ f : Nat → D, e_law_9 ⟨[s0, s1, s2, .pv (hD T), s4, s5, .pv (rD (kp T told)), s7, s8, s9, s10, s11, s12, s13], W⟩ = .ok .nx ⟨[s0, s1, s2, .pv (hD T), s4, s5, .pv (rD (kp T told)), s7, s8, .pv (.dK (kvN (reachL T (kp T told)) f)), s10, s11, s12, s13], W⟩ := by
  obtain ⟨f, e⟩ := law_far_ok h.h.hb (R := kp T told) (h.nd.sublist h.ks) h.klt W
  refine ⟨f, ?_⟩
  generalize kvN (reachL T (kp T told)) f = K at *
  generalize hD T = H at *
  generalize rD (kp T told) = N at *
  simp [e_law_9_ap, e]
theorem E10 (h : Tu T told) (f : Nat → D) (f5 : fr s5) : e_law_10 ⟨[s0, s1, s2, s3, .pv (rD told), s5, s6, s7, s8, .pv (.dK (kvN (reachL T (kp T told)) f)), s10, s11, s12, s13], W⟩ = .ok .nx ⟨[s0, s1, s2, s3, .pv (rD told), s5, s6, s7, s8, .pv (.dK (kvN (reachL T (kp T told)) f)), s10, s11, s12, s13], W⟩ := by
  have hz2 := h.few
  have e : c_law_7 ⟨[s0, s1, s2, s3, .pv (rD told), s5, s6, s7, s8, .pv (.dK (kvN (reachL T (kp T told)) f)), s10, s11, s12, s13], W⟩ = .ok (.ow []) ⟨[s0, s1, s2, s3, .pv (rD told), s5, s6, s7, s8, .pv (.dK (kvN (reachL T (kp T told)) f)), s10, s11, s12, s13], W⟩ := by
    rw [c_law_7_ap]
    refine eComp_gen (fun (x : Nat) => D.int (x : Int)) (fun _ => none) told (ds := nI told) (by simp) rfl (by rcases f5 with rfl | ⟨d, rfl⟩ <;> simp) (fun x hx => ?_) (szOk (by omega)) (by simp)
    have hin := ni_dk (reachL T (kp T told)) f x
    have hm : x ∈ reachL T (kp T told) := (reach_one h.h.hb.ok (h.nd.sublist h.ks) h.klt).mpr (kp_cov h.h.hb.ok h.lt h.nd hx)
    rw [decide_eq_true hm] at hin
    generalize kvN (reachL T (kp T told)) f = K at *
    simp only [rD]
    generalize nI told = N at *
    simp [t_law_7_ap, hin]
  generalize kvN (reachL T (kp T told)) f = K at *
  simp only [rD] at *
  generalize nI told = N at *
  simp [e_law_10_ap, e, eqO_nil]
end
/-! ### all smaller sets, and the end -/
def setsS (S : List (List Nat)) (one : Nat) : List (List Nat) := S ++ S.map fun r => r ++ [one]
def setsL (told : List Nat) : List (List Nat) := told.foldl setsS [[]]
theorem sets_ok {told : List Nat} (hl : told.length ≤ 9) (W : List (List D)) : (∀ r ∈ setsL told, r.Sublist told) ∧ m__law_sets [.pv (rD told)] W = .ok (.ow ((setsL told).map rD)) W := by
  have turn : ∀ (S : List (List Nat)) (one : Nat) (a0 y2 : Slot), S.length ≤ 512 → (∀ r ∈ S, r.length ≤ 9) → turnD (gSet 2) l__law_sets_1 (.int (one : Int)) ⟨[a0, .ow (S.map rD), y2, .no], W⟩ = .ok .nx ⟨[a0, .ow ((setsS S one).map rD), .pv (.int (one : Int)), .no], W⟩ := fun S one a0 y2 hS hr => by
    have e : c__law_sets_1 ⟨[a0, .ow (S.map rD), .pv (.int (one : Int)), .no], W⟩ = .ok (.ow (S.map fun r => rD (r ++ [one]))) ⟨[a0, .pv (.lst (S.map rD)), .pv (.int (one : Int)), .no], W⟩ := by
      rw [c__law_sets_1_ap]
      refine eComp_map rD (fun r => rD (r ++ [one])) S (ds := S.map rD) (by simp) rfl (by simp) (fun r hrS => ?_) (szOk (by omega)) rfl
      have hz := hr r hrS
      have en : nI (r ++ [one]) = nI r ++ [.int (one : Int)] := by simp
      have hz2 : (nI r).length + 1 ≤ 65536 := by rw [List.length_map]; omega
      simp only [rD]
      rw [en]
      generalize S.map (fun r => D.tup (nI r)) = SS at *
      generalize nI r = R at *
      simp [x__law_sets_1_ap, hz2]
    have e2 : (setsS S one).map rD = S.map rD ++ S.map fun r => rD (r ++ [one]) := by unfold setsS; rw [List.map_append, List.map_map]; rfl
    have hz : (S.map rD).length + (S.map fun r => rD (r ++ [one])).length ≤ 65536 := by rw [List.length_map, List.length_map]; omega
    rw [e2]
    generalize (S.map fun r => rD (r ++ [one])) = S2 at *
    generalize S.map rD = S1 at *
    simp [l__law_sets_1_ap, e, hz]
  obtain ⟨⟨hs, _⟩, j, e⟩ := loopD_fold (g := gSet 2) (body := l__law_sets_1) (fun (x : Nat) => D.int (x : Int)) (fun (Q : List (List Nat)) (j : Slot) => (⟨[.pv (rD told), .ow (Q.map rD), j, .no], W⟩ : S)) setsS (fun l Q => (∀ r ∈ Q, r.Sublist l) ∧ Q.length = 2 ^ l.length) told [[]] .no ⟨by simp, rfl⟩ (fun l x r Q j hL ⟨h1, h2⟩ => by
    have hll : l.length + 1 ≤ 9 := by
      have := congrArg List.length hL
      rw [List.length_append, List.length_cons] at this; omega
    have hp : 2 ^ l.length ≤ 2 ^ 8 := Nat.pow_le_pow_right (by decide) (by omega)
    refine ⟨⟨fun q hq => ?_, ?_⟩, _, turn Q x _ j (by omega) (fun q hq => by have := (h1 q hq).length_le; omega)⟩
    · rcases List.mem_append.mp hq with hq | hq
      · exact (h1 q hq).trans (List.sublist_append_left _ _)
      · obtain ⟨q', hq', rfl⟩ := List.mem_map.mp hq
        exact (h1 q' hq').append (List.Sublist.refl _)
    · show (Q ++ Q.map _).length = _
      rw [List.length_append, List.length_map, List.length_append, List.length_singleton, Nat.pow_succ]; omega)
  refine ⟨hs, ?_⟩
  have e : loopD (gSet 2) l__law_sets_1 (nI told) ⟨[.pv (rD told), .ow [.tup []], .no, .no], W⟩ = .ok .nx ⟨[.pv (rD told), .ow ((setsL told).map rD), j, .no], W⟩ := e
  refine run_def (m__law_sets_ap _ _) rfl ?_
  rw [b__law_sets_ap]
  generalize (setsL told).map rD = S2 at *
  simp only [rD] at *
  generalize nI told = N at *
  simp [e]
section
variable {s0 s1 s2 s3 s4 s5 s6 s7 s8 s9 s10 s11 s12 s13 : Slot} {W : List (List D)}
variable {T : List (List Nat)} {told : List Nat}
theorem few_miss (h : Tu T told) {sm : List Nat} (hs : sm.Sublist told) (hlt : sm.length < (kp T told).length) : ∃ x ∈ told, x ∉ reachL T sm := by
  refine Classical.byContradiction fun hno => ?_
  have hall : ∀ x ∈ told, x ∈ reachL T sm := fun x hx => Classical.byContradiction fun q => hno ⟨x, hx, q⟩
  have := kp_few h.h.hb.ok h.lt h.nd (some := sm) (fun x hx => hs.subset hx) (fun t ht => (reach_one h.h.hb.ok (h.nd.sublist hs) (fun x hx => h.lt x (hs.subset hx))).mp (hall t ht))
  omega
theorem L2t (h : Tu T told) {sm : List Nat} (hs : sm.Sublist told) (f5 : fr s5) : ∃ y11 : Slot, turnD (gSet 10) l_law_2 (rD sm) ⟨[s0, s1, s2, .pv (hD T), .pv (rD told), s5, .pv (rD (kp T told)), s7, s8, s9, s10, s11, s12, s13], W⟩ = .ok .nx ⟨[s0, s1, s2, .pv (hD T), .pv (rD told), s5, .pv (rD (kp T told)), s7, s8, s9, .pv (rD sm), y11, s12, s13], W⟩ := by
  have hz2 := h.few
  have hl1 : lenD (rD sm) = pI (sm.length : Int) := by show lenD (.tup _) = _; rw [len_tup, List.length_map]
  have hl2 : lenD (rD (kp T told)) = pI ((kp T told).length : Int) := by show lenD (.tup _) = _; rw [len_tup, List.length_map]
  by_cases hlt : sm.length < (kp T told).length
  · have q : (sm.length : Int) < ((kp T told).length : Int) := by omega
    obtain ⟨x, hx, hxn⟩ := few_miss h hs hlt
    obtain ⟨f, e1⟩ := law_far_ok h.h.hb (R := sm) (h.nd.sublist hs) (fun x hx => h.lt x (hs.subset hx)) W
    have e : c_law_8 ⟨[s0, s1, s2, .pv (hD T), .pv (rD told), s5, .pv (rD (kp T told)), s7, s8, s9, .pv (rD sm), .pv (.dK (kvN (reachL T sm) f)), s12, s13], W⟩ = .ok (.ow (nI (told.filter fun x => !decide (x ∈ reachL T sm)))) ⟨[s0, s1, s2, .pv (hD T), .pv (rD told), s5, .pv (rD (kp T told)), s7, s8, s9, .pv (rD sm), .pv (.dK (kvN (reachL T sm) f)), s12, s13], W⟩ := by
      rw [c_law_8_ap]
      refine eComp_fil (fun (x : Nat) => D.int (x : Int)) (fun x => !decide (x ∈ reachL T sm)) (fun (x : Nat) => D.int (x : Int)) told (ds := nI told) (by simp) rfl (by rcases f5 with rfl | ⟨d, rfl⟩ <;> simp) (fun x hx => ?_) (szOk (by omega)) rfl
      have hin := ni_dk (reachL T sm) f x
      generalize decide (x ∈ reachL T sm) = b at *
      generalize kvN (reachL T sm) f = K at *
      generalize hD T = H at *
      simp only [rD]
      generalize nI told = N at *
      cases b <;> simp [t_law_8_ap, x_law_8_ap, hin]
    have hq : eqO (.lst (nI (told.filter fun x => !decide (x ∈ reachL T sm)))) (.lst []) = some false := by
      have := Eq2.nat.lst.eqO (told.filter fun x => !decide (x ∈ reachL T sm)) []
      rw [decide_eq_false (fun z => by
        have hm : x ∈ told.filter fun x => !decide (x ∈ reachL T sm) := List.mem_filter.mpr ⟨hx, by simpa using hxn⟩
        rw [z] at hm; cases hm)] at this
      exact this
    refine ⟨.pv (.dK (kvN (reachL T sm) f)), ?_⟩
    · generalize kvN (reachL T sm) f = K at *
      generalize nI (told.filter fun x => !decide (x ∈ reachL T sm)) = F at *
      generalize (sm.length : Int) = l1 at *
      generalize ((kp T told).length : Int) = l2 at *
      generalize rD sm = R at *
      generalize hD T = H at *
      generalize rD (kp T told) = KP at *
      generalize rD told = N at *
      simp [l_law_2_ap, hl1, hl2, q, e1, e, hq]
  · have q : ¬ (sm.length : Int) < ((kp T told).length : Int) := by omega
    refine ⟨s11, ?_⟩
    generalize (sm.length : Int) = l1 at *
    generalize ((kp T told).length : Int) = l2 at *
    generalize rD sm = R at *
    generalize hD T = H at *
    generalize rD (kp T told) = KP at *
    generalize rD told = N at *
    simp [l_law_2_ap, hl1, hl2, q]
theorem E11 (h : Tu T told) (f5 : fr s5) : ∃ y10 y11 : Slot, e_law_11 ⟨[s0, s1, s2, .pv (hD T), .pv (rD told), s5, .pv (rD (kp T told)), s7, s8, s9, s10, s11, s12, s13], W⟩ = .ok .nx ⟨[s0, s1, s2, .pv (hD T), .pv (rD told), s5, .pv (rD (kp T told)), s7, s8, s9, y10, y11, s12, s13], W⟩ := by
  obtain ⟨hs, e1⟩ := sets_ok h.few W
  obtain ⟨s', e2, y10, y11, rfl⟩ := loopD_rel (g := gSet 10) (body := l_law_2) rD (fun l s => ∃ y10 y11 : Slot, s = (⟨[s0, s1, s2, .pv (hD T), .pv (rD told), s5, .pv (rD (kp T told)), s7, s8, s9, y10, y11, s12, s13], W⟩ : S)) (setsL told) (fun l x r s hL hI => by
    obtain ⟨y10, y11, rfl⟩ := hI
    obtain ⟨z, e⟩ := L2t (s0 := s0) (s1 := s1) (s2 := s2) (s7 := s7) (s8 := s8) (s9 := s9) (s10 := y10) (s11 := y11) (s12 := s12) (s13 := s13) (W := W) h (sm := x) (hs x (by rw [hL]; simp)) f5
    exact ⟨.nx, _, e, .inl rfl, _, z, rfl⟩) (s := ⟨[s0, s1, s2, .pv (hD T), .pv (rD told), s5, .pv (rD (kp T told)), s7, s8, s9, s10, s11, s12, s13], W⟩) ⟨s10, s11, rfl⟩
  refine ⟨y10, y11, ?_⟩
  generalize (setsL told).map rD = SS at *
  generalize hD T = H at *
  generalize rD (kp T told) = KP at *
  generalize rD told = N at *
  simp [e_law_11_ap, e1, e2]
end
/-- the state between the turns -/
def TS (ns : List Int) (s : S) : Prop := ∃ (y2 y3 y4 y5 y6 y7 y9 y10 y11 : Slot) (W : List (List D)), Dr W ∧ fr y5 ∧ s = (⟨[.pv (.scr (dI ns)), .lc 0, y2, y3, y4, y5, y6, y7, .no, y9, y10, y11, .no, .no], W⟩ : S)
theorem turn_ok (ns : List Int) (x : D) {s : S} (h : TS ns s) : ∃ s', turnD (gSet 2) l_law_3 x s = .ok .nx s' ∧ TS ns s' := by
  obtain ⟨y2, y3, y4, y5, y6, y7, y9, y10, y11, W, hW, f5, rfl⟩ := h
  obtain ⟨T, W1, hT, hW1, e1⟩ := E1 (s0 := .pv (.scr (dI ns))) (s2 := .pv x) (s3 := y3) (s4 := y4) (s5 := y5) (s6 := y6) (s7 := y7) (s8 := .no) (s9 := y9) (s10 := y10) (s11 := y11) (s12 := .no) (s13 := .no) hW
  obtain ⟨told, W2, hu, hW2, e2⟩ := E2 (s0 := .pv (.scr (dI ns))) (s2 := .pv x) (s4 := y4) (s5 := y5) (s6 := y6) (s7 := y7) (s8 := .no) (s9 := y9) (s10 := y10) (s11 := y11) (s12 := .no) (s13 := .no) hW1 hT f5
  obtain ⟨g, z5, f5', e6⟩ := E6 (s0 := .pv (.scr (dI ns))) (s1 := .lc 0) (s2 := .pv x) (s4 := .pv (rD told)) (s5 := y5) (s6 := .pv (rD (kp T told))) (s8 := .no) (s9 := y9) (s10 := y10) (s11 := y11) (s12 := .no) (s13 := .no) (W := W2) hu f5
  obtain ⟨f, e9⟩ := E9 (s0 := .pv (.scr (dI ns))) (s1 := .lc 0) (s2 := .pv x) (s4 := .pv (rD told)) (s5 := z5) (s7 := .od (kvN (List.range T.length) (fD T g))) (s8 := .no) (s9 := y9) (s10 := y10) (s11 := y11) (s12 := .no) (s13 := .no) (W := W2) hu
  obtain ⟨z10, z11, e11⟩ := E11 (s0 := .pv (.scr (dI ns))) (s1 := .lc 0) (s2 := .pv x) (s5 := z5) (s7 := .od (kvN (List.range T.length) (fD T g))) (s8 := .no) (s9 := .pv (.dK (kvN (reachL T (kp T told)) f))) (s10 := y10) (s11 := y11) (s12 := .no) (s13 := .no) (W := W2) hu f5'
  refine ⟨_, ?_, .pv x, .pv (hD T), .pv (rD told), z5, .pv (rD (kp T told)), .od (kvN (List.range T.length) (fD T g)), .pv (.dK (kvN (reachL T (kp T told)) f)), z10, z11, W2, hW2, f5', rfl⟩
  rw [turnD_ap]
  have hg : (gSet 2 (.pv x) (⟨[.pv (.scr (dI ns)), .lc 0, y2, y3, y4, y5, y6, y7, .no, y9, y10, y11, .no, .no], W⟩ : S)) = .ok () ⟨[.pv (.scr (dI ns)), .lc 0, .pv x, y3, y4, y5, y6, y7, .no, y9, y10, y11, .no, .no], W⟩ := by
    generalize dI ns = N
    simp
  rw [hg, bind_okR, l_law_3_ap]
  refine seq_go e1 ?_
  refine seq_go e2 ?_
  refine seq_go (E3 hu) ?_
  refine seq_go (E4 hu f5) ?_
  refine seq_go (s1 := ⟨[.pv (.scr (dI ns)), .lc 0, .pv x, .pv (hD T), .pv (rD told), y5, .pv (rD (kp T told)), .od [], .no, y9, y10, y11, .no, .no], W2⟩) (by
    generalize dI ns = N
    generalize hD T = H
    generalize rD told = R
    generalize rD (kp T told) = R2
    simp [e_law_5_ap]) ?_
  refine seq_go e6 ?_
  refine seq_go (E7 hu g f5') ?_
  refine seq_go (E8 hu g f5') ?_
  refine seq_go e9 ?_
  refine seq_go (E10 hu f f5') ?_
  exact e11
def ring9 : List (List Nat) := [[1], [2], [3], [4], [5], [6], [7], [8], [0]]
def bare5 : List (List Nat) := [[], [], [], [], []]
theorem hb_ring : HB ring9 := ⟨⟨fun x y hy => by
  unfold succ at hy
  rw [List.getD_eq_getElem?_getD] at hy
  cases q : ring9[x]? with
  | none => rw [q] at hy; cases hy
  | some r =>
    rw [q] at hy
    have := List.mem_of_getElem? q
    exact (by decide : ∀ r ∈ ring9, ∀ y ∈ r, y < ring9.length) r this y hy⟩, by decide, fun x => by
  unfold succ
  rw [List.getD_eq_getElem?_getD]
  cases q : ring9[x]? with
  | none => simp
  | some r => exact Nat.le_trans ((by decide : ∀ r ∈ ring9, r.length ≤ 1) r (List.mem_of_getElem? q)) (by decide)⟩
theorem hb_bare : HB bare5 := ⟨⟨fun x y hy => by
  unfold succ at hy
  rw [List.getD_eq_getElem?_getD] at hy
  cases q : bare5[x]? with
  | none => rw [q] at hy; cases hy
  | some r =>
    rw [q] at hy
    have := List.mem_of_getElem? q
    exact (by decide : ∀ r ∈ bare5, ∀ y ∈ r, y < bare5.length) r this y hy⟩, by decide, fun x => by
  unfold succ
  rw [List.getD_eq_getElem?_getD]
  cases q : bare5[x]? with
  | none => simp
  | some r => exact Nat.le_trans ((by decide : ∀ r ∈ bare5, r.length ≤ 1) r (List.mem_of_getElem? q)) (by decide)⟩
theorem k_ring (W : List (List D)) : m_keepers [.pv (hD ring9), .pv (.tup [.int 3, .int 5, .int 8])] W = .ok (.pv (.tup [.int 3])) W := keepers_ok hb_ring (told := [3, 5, 8]) (by decide) (by decide) W
theorem k_ring0 (W : List (List D)) : m_keepers [.pv (hD ring9), .pv (.tup [])] W = .ok (.pv (.tup [])) W := keepers_ok hb_ring (told := []) (by decide) (by decide) W
theorem k_bare (W : List (List D)) : m_keepers [.pv (hD bare5), .pv (.tup [.int 0, .int 2, .int 4])] W = .ok (.pv (.tup [.int 0, .int 2, .int 4])) W := keepers_ok hb_bare (told := [0, 2, 4]) (by decide) (by decide) W
section
variable {s0 s1 s2 s3 s4 s5 s6 s7 s8 s9 s10 s11 s12 s13 : Slot} {W : List (List D)}
theorem A3 (f13 : fr s13) : a_law_3 ⟨[s0, s1, s2, s3, s4, s5, s6, s7, s8, s9, s10, s11, s12, s13], W⟩ = .ok .nx ⟨[s0, s1, s2, s3, s4, s5, s6, s7, s8, s9, s10, s11, .pv (hD ring9), s13], W⟩ := by
  have hro : rOk (9 : Int) = true := rOkN (n := 9) (by omega)
  have hr0 : rngD 0 (9 : Int) = nI (List.range 9) := rngD_0 9
  have e : c_law_9 ⟨[s0, s1, s2, s3, s4, s5, s6, s7, s8, s9, s10, s11, s12, s13], W⟩ = .ok (.ow (ring9.map rD)) ⟨[s0, s1, s2, s3, s4, s5, s6, s7, s8, s9, s10, s11, s12, s13], W⟩ := by
    rw [c_law_9_ap]
    refine eComp_map (fun (x : Nat) => D.int (x : Int)) (fun (k : Nat) => .tup [.int (((k : Int) + 1) % 9)]) (List.range 9) (ds := nI (List.range 9)) ?_ rfl (by rcases f13 with rfl | ⟨d, rfl⟩ <;> simp) (fun x hx => ?_) (szOk (by decide)) (by rfl)
    · generalize nI (List.range 9) = N at *
      simp [hro, hr0]
    · have hx9 : x < 9 := List.mem_range.mp hx
      have h64 : ((x : Int) + 1).natAbs < 18446744073709551616 := by omega
      simp [x_law_9_ap, h64]
  simp only [hD]
  generalize ring9.map rD = N at *
  simp [a_law_3_ap, e]
theorem A4 : a_law_4 ⟨[s0, s1, s2, s3, s4, s5, s6, s7, s8, s9, s10, s11, .pv (hD ring9), s13], W⟩ = .ok (.rt (.pv (.bl true))) ⟨[s0, s1, s2, s3, s4, s5, s6, s7, s8, s9, s10, s11, .pv (hD ring9), s13], W⟩ := by
  have e1 := k_ring W
  have e2 := k_ring0 W
  have e3 : m_keepers [.pv (.tup [.tup [], .tup [], .tup [], .tup [], .tup []]), .pv (.tup [.int 0, .int 2, .int 4])] W = .ok (.pv (.tup [.int 0, .int 2, .int 4])) W := k_bare W
  have q1 : eqO (.tup [.int 3]) (.tup [.int 3]) = some true := by decide
  have q2 : eqO (.tup [.int 0, .int 2, .int 4]) (.tup [.int 0, .int 2, .int 4]) = some true := by decide
  have q3 : eqO (.tup []) (.tup []) = some true := by decide
  have hm : mulD (.tup [.tup []]) (.int 5) = some (.pv (.tup [.tup [], .tup [], .tup [], .tup [], .tup []])) := by rfl
  generalize hD ring9 = R at *
  simp [a_law_4_ap, e1, e2, e3, q1, q2, q3, hm]
end
theorem law_true (ns : List Int) (hl : ns.length ≤ 63) (hb : ∀ z ∈ ns, Builtin.Int.intBits z ≤ 1048576) : ∃ W', m_law [.pv (.scr (ns.map D.int))] [] = .ok (.pv (.bl true)) W' := by
  obtain ⟨cs, hc, e1⟩ := open_ok ns hl []
  refine run_gx (m_law_ap _ _) rfl ?_
  rw [b_law_ap]
  have g1 : a_law_1 ⟨[.pv (.scr (dI ns)), .no, .no, .no, .no, .no, .no, .no, .no, .no, .no, .no, .no, .no], []⟩ = .ok .nx ⟨[.pv (.scr (dI ns)), .lc 0, .no, .no, .no, .no, .no, .no, .no, .no, .no, .no, .no, .no], [[.int 0, .int 0, .lst (dI cs)]]⟩ := by
    generalize D.scr (dI ns) = sc at *
    generalize dI cs = cc at *
    simp [a_law_1_ap, e1]
  obtain ⟨s', e2, hs⟩ := loopD_nat (g := gSet 2) (body := l_law_3) (fun _ s => TS ns s) 0 3 (fun k s _ _ h => by
    obtain ⟨s', e, h'⟩ := turn_ok ns (.int (k : Int)) h
    exact ⟨.nx, s', e, .inl rfl, h'⟩) (s := ⟨[.pv (.scr (dI ns)), .lc 0, .no, .no, .no, .no, .no, .no, .no, .no, .no, .no, .no, .no], [[.int 0, .int 0, .lst (dI cs)]]⟩) ⟨.no, .no, .no, .no, .no, .no, .no, .no, .no, _, ⟨0, 0, cs, rfl, hc⟩, .inl rfl, rfl⟩
  obtain ⟨y2, y3, y4, y5, y6, y7, y9, y10, y11, W, hW, f5, rfl⟩ := hs
  have e2 : loopD (gSet 2) l_law_3 [.int 0, .int 1, .int 2] ⟨[.pv (.scr (dI ns)), .lc 0, .no, .no, .no, .no, .no, .no, .no, .no, .no, .no, .no, .no], [[.int 0, .int 0, .lst (dI cs)]]⟩ = .ok .nx ⟨[.pv (.scr (dI ns)), .lc 0, y2, y3, y4, y5, y6, y7, .no, y9, y10, y11, .no, .no], W⟩ := e2
  have hr0 : rngD 0 (3 : Int) = [.int 0, .int 1, .int 2] := rngD_0 3
  have hro : rOk (3 : Int) = true := rOkN (n := 3) (by omega)
  have g2 : a_law_2 ⟨[.pv (.scr (dI ns)), .lc 0, .no, .no, .no, .no, .no, .no, .no, .no, .no, .no, .no, .no], [[.int 0, .int 0, .lst (dI cs)]]⟩ = .ok .nx ⟨[.pv (.scr (dI ns)), .lc 0, y2, y3, y4, y5, y6, y7, .no, y9, y10, y11, .no, .no], W⟩ := by
    generalize D.scr (dI ns) = sc at *
    generalize dI cs = cc at *
    rw [a_law_2_ap]
    simp [hro, hr0, e2]
  exact ⟨_, _, seq_go g1 (seq_go g2 (seq_go (A3 (.inl rfl)) A4))⟩
end k58
namespace k58
open PySem PySem.Spec PyProof.Rows L2 DL
theorem all_ok {w : World} {K : PySem.W.Frag} {mg : Str → Option Value} {base : Heap} {tb : List Addr} (B : Bl mg) (R : Rw K mg base tb) : Has prog w K mg base tb 4 "law" ["script"] m_law := by
  have h__law_open := ok__law_open (w := w) (K := K) (base := base) (tb := tb) B R
  have h_reached_from := ok_reached_from (w := w) (K := K) (base := base) (tb := tb) B R
  have h_keepers := ok_keepers (w := w) (K := K) (base := base) (tb := tb) B R h_reached_from
  have h__law_far := ok__law_far (w := w) (K := K) (base := base) (tb := tb) B R
  have h__law_sets := ok__law_sets (w := w) (K := K) (base := base) (tb := tb) B R
  have h__law_mixed := ok__law_mixed (w := w) (K := K) (base := base) (tb := tb) B R
  have h__law_draw := ok__law_draw (w := w) (K := K) (base := base) (tb := tb) B R h__law_mixed
  have h__law_heap := ok__law_heap (w := w) (K := K) (base := base) (tb := tb) B R h__law_draw
  have h__law_int := ok__law_int (w := w) (K := K) (base := base) (tb := tb) B R
  have h_law := ok_law (w := w) (K := K) (base := base) (tb := tb) B R h__law_open h_keepers h__law_far h__law_sets h__law_draw h__law_heap h__law_int
  exact h_law
def hfn : List He.DefD := [⟨("_law_open", none), "_law_open", "_law_open", defArgs s__law_open, defBody s__law_open, defScope s__law_open, [], []⟩,
  ⟨("reached_from", none), "reached_from", "reached_from", defArgs s_reached_from, defBody s_reached_from, defScope s_reached_from, [], []⟩,
  ⟨("keepers", none), "keepers", "keepers", defArgs s_keepers, defBody s_keepers, defScope s_keepers, [], []⟩,
  ⟨("_law_far", none), "_law_far", "_law_far", defArgs s__law_far, defBody s__law_far, defScope s__law_far, [], []⟩,
  ⟨("_law_sets", none), "_law_sets", "_law_sets", defArgs s__law_sets, defBody s__law_sets, defScope s__law_sets, [], []⟩,
  ⟨("_law_mixed", none), "_law_mixed", "_law_mixed", defArgs s__law_mixed, defBody s__law_mixed, defScope s__law_mixed, [], []⟩,
  ⟨("_law_draw", none), "_law_draw", "_law_draw", defArgs s__law_draw, defBody s__law_draw, defScope s__law_draw, [], []⟩,
  ⟨("_law_heap", none), "_law_heap", "_law_heap", defArgs s__law_heap, defBody s__law_heap, defScope s__law_heap, [], []⟩,
  ⟨("_law_int", none), "_law_int", "_law_int", defArgs s__law_int, defBody s__law_int, defScope s__law_int, [], []⟩,
  ⟨("law", none), "law", "law", defArgs s_law, defBody s_law, defScope s_law, [], []⟩]
def hfa : List He.Fa := [.glo "_law_open", .glo "reached_from", .glo "keepers", .glo "_law_far", .glo "_law_sets", .glo "_law_mixed", .glo "_law_draw", .glo "_law_heap", .glo "_law_int", .glo "law", .free "abs", .free "all", .free "any", .free "bool", .free "int", .free "isinstance", .free "len", .free "list", .free "range", .free "sorted", .free "tuple"]
def htf : List He.Defn := [("keepers", none)]
abbrev hk : PySem.W.Hook := He.hookX 4 hfa hfn [] htf (fun _ => true)
def hob (s : PySem.W.SharedT) : He.AlX := He.obsX 4 hfa hfn [] htf (fun _ => true) (HandSHeadRun.getT s)
theorem hob_eq (s : PySem.W.SharedT) : hob s = hk.obs s.abs := He.obsX_eq (HandSHeadRun.getT_eq s)
abbrev RR : PySem.W.OpenRow := PySem.W.OpenLaw.row PySem.Challenge.rw_pageskept_k58_whole_keepers
def nm0 : List PySem.Str := ["reached_from", "keepers", "_law_open", "_law_mixed", "_law_draw", "_law_int", "_law_heap", "_law_far", "_law_sets"]
abbrev nms : List PySem.Str := nm0
theorem hrun (w : World) : HandSHeadRun.RunEq RR (PySem.W.view RR.prog [11]) hk hob 4000 nms w := by
  intro os
  kernel_rfl
theorem facts {w : World} {K : PySem.W.Frag} {h : Heap} {mg : Str → Option Value} {fa : Addr} (X : K.In h) (G : h.Ns mainGlobals mg) (hmg : mg ("law" : Str) = some (.ref fa)) (c : He.SaysX hfa hfn [] htf (fun _ => true) w h K) : LamX.LawAtS PySem.Challenge.rw_pageskept_k58_whole_keepers w K (L2N.CX prog w) 4 63 "script" mg fa h := by
  obtain ⟨fd0, F0⟩ := c.t.d.def_ 0 rfl
  obtain ⟨fd1, F1⟩ := c.t.d.def_ 1 rfl
  obtain ⟨fd2, F2⟩ := c.t.d.def_ 2 rfl
  obtain ⟨fd3, F3⟩ := c.t.d.def_ 3 rfl
  obtain ⟨fd4, F4⟩ := c.t.d.def_ 4 rfl
  obtain ⟨fd5, F5⟩ := c.t.d.def_ 5 rfl
  obtain ⟨fd6, F6⟩ := c.t.d.def_ 6 rfl
  obtain ⟨fd7, F7⟩ := c.t.d.def_ 7 rfl
  obtain ⟨fd8, F8⟩ := c.t.d.def_ 8 rfl
  obtain ⟨fd9, F9⟩ := c.t.d.def_ 9 rfl
  have g0 := He.glo_ok X G (c.t.d.fact 0 (f := .glo "_law_open") rfl)
  have g1 := He.glo_ok X G (c.t.d.fact 1 (f := .glo "reached_from") rfl)
  have g2 := He.glo_ok X G (c.t.d.fact 2 (f := .glo "keepers") rfl)
  have g3 := He.glo_ok X G (c.t.d.fact 3 (f := .glo "_law_far") rfl)
  have g4 := He.glo_ok X G (c.t.d.fact 4 (f := .glo "_law_sets") rfl)
  have g5 := He.glo_ok X G (c.t.d.fact 5 (f := .glo "_law_mixed") rfl)
  have g6 := He.glo_ok X G (c.t.d.fact 6 (f := .glo "_law_draw") rfl)
  have g7 := He.glo_ok X G (c.t.d.fact 7 (f := .glo "_law_heap") rfl)
  have g8 := He.glo_ok X G (c.t.d.fact 8 (f := .glo "_law_int") rfl)
  have g9 := He.glo_ok X G (c.t.d.fact 9 (f := .glo "law") rfl)
  refine lawAtX (st := s_law) (m := m_law) X c (row_of F9 g9 (fun _ _ _ _ _ _ us hl => match us, hl with | [_], _ => rfl)) hmg (fun base TB => ?_) law_true
  have A := all_ok (w := w) (K := K) (mg := mg) (base := base) (tb := htf.map fun p => (He.cT K p).2) ⟨He.free_ok X G (c.t.d.fact 10 (f := .free "abs") rfl), He.free_ok X G (c.t.d.fact 11 (f := .free "all") rfl), He.free_ok X G (c.t.d.fact 12 (f := .free "any") rfl), He.free_ok X G (c.t.d.fact 13 (f := .free "bool") rfl), He.free_ok X G (c.t.d.fact 14 (f := .free "int") rfl), He.free_ok X G (c.t.d.fact 15 (f := .free "isinstance") rfl), He.free_ok X G (c.t.d.fact 16 (f := .free "len") rfl), He.free_ok X G (c.t.d.fact 17 (f := .free "list") rfl), He.free_ok X G (c.t.d.fact 18 (f := .free "range") rfl), He.free_ok X G (c.t.d.fact 19 (f := .free "sorted") rfl), He.free_ok X G (c.t.d.fact 20 (f := .free "tuple") rfl)⟩ ⟨row_of F0 g0 (fun _ _ _ _ _ _ us hl => match us, hl with | [_], _ => rfl),
    row_of F1 g1 (fun _ _ _ _ _ _ us hl => match us, hl with | [_, _], _ => rfl),
    rowG_of F2 g2 (fun _ _ _ _ _ _ us hl => match us, hl with | [_, _], _ => rfl) (TB _ (.head _)) (List.mem_map.mpr ⟨_, .head _, rfl⟩),
    row_of F3 g3 (fun _ _ _ _ _ _ us hl => match us, hl with | [_, _], _ => rfl),
    row_of F4 g4 (fun _ _ _ _ _ _ us hl => match us, hl with | [_], _ => rfl),
    row_of F5 g5 (fun _ _ _ _ _ _ us hl => match us, hl with | [_, _], _ => rfl),
    row_of F6 g6 (fun _ _ _ _ _ _ us hl => match us, hl with | [_, _], _ => rfl),
    row_of F7 g7 (fun _ _ _ _ _ _ us hl => match us, hl with | [_, _], _ => rfl),
    row_of F8 g8 (fun _ _ _ _ _ _ us hl => match us, hl with | [_], _ => rfl),
    row_of F9 g9 (fun _ _ _ _ _ _ us hl => match us, hl with | [_], _ => rfl)⟩
  exact A
end k58
open PySem PySem.W PySem.Calls PyProof.Rows
theorem PySem.Challenge.cw_pageskept_k58_whole_keepers_holds : PySem.Challenge.rw_pageskept_k58_whole_keepers.Holds := by
  w_on; o_law
  refine HandSHeadRun.head_any (r := OpenLaw.row PySem.Challenge.rw_pageskept_k58_whole_keepers) (q := view (OpenLaw.row PySem.Challenge.rw_pageskept_k58_whole_keepers).prog [11]) (H := k58.hk) (ob := k58.hob) (M := 4000) (loose := k58.nms) (d := HandSHeadRun.topDef (OpenLaw.row PySem.Challenge.rw_pageskept_k58_whole_keepers).prog 11) (kwd := []) k58.hob_eq
    (by kernel_rfl) (fun s => by kernel_rfl) k58.hrun (by kernel_rfl) (by kernel_rfl) (by kernel_rfl) (by rfl) (by first | assumption | decide +kernel) (by decide +kernel) ⟨rfl, rfl, rfl, rfl, rfl, by decide +kernel⟩ ?hw ?hc
  case hw => w_witness2
  case hc =>
    refine LamX.walk_ofTsE (l := PySem.Challenge.rw_pageskept_k58_whole_keepers) (n := 63) (k := 4) (x := "script") (CX := fun w => L2N.CX PySem.Challenge.pw_pageskept_k58_whole_keepers w) rfl (by decide) (by kernel_rfl) ⟨rfl, by decide, by decide⟩ ?F (fun _ _ _ _ _ h => DL.cx_none h)
    intro w mg fa h Y G hmg0
    obtain ⟨K, KX, c⟩ := Y
    have hmg : mg ("law" : PySem.Str) = some (.ref fa) := by
      have e : (HandSHeadRun.topDef (OpenLaw.row PySem.Challenge.rw_pageskept_k58_whole_keepers).prog 11).name = ("law" : PySem.Str) := by kernel_rfl
      rw [← e]
      exact hmg0
    exact ⟨K, KX, k58.facts KX G hmg c⟩
