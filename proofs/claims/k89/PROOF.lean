import PyProof.Rows.All
import Wide.All
import OpenK.AllK
import Wide.FinOn
import HandS.ForMost
import HandS.Exc
import HandS.ExcOwn
import HandS.WordsExc
import HandS.Slots
import HandS.SlotsOwn
import HandS.Lambda
import HandS.Zip
import HandS.Conv
import HandS.Star
import HandS.FStr
import HandS.IsInst
import HandS.SortRule
import HandS.Wide
import HandS.TupAny
import HandS.TupLe
import HandS.Deep
import HandS.Style
import HandS.TupMul
import PyProof.Rows.ReprR
import HandS.RaiseMore
import HandS.WideMore
import HandS.Rev
import HandS.SortInts
import HandS.Ends
import HandS.TryMany
import KE.KExcSuper
import KE.KSuper
import HandS.ExcInit
import HandS.ExcField
import KE.KDflt
import KE.KNestM
import HandS.EndTab
import PyProof.ListStr
import PyProof.StrBlock2
import HandS.Text
import PySem.Challenge.RW_flowhues_k89_whole_texts_with_faults
set_option Elab.async false
set_option linter.all false
set_option maxRecDepth 100000
set_option maxHeartbeats 0
namespace F3
open PySem PySem.Spec
open PyProof.Rows L2
/-- deep values: what a Python value is, tuples and lists that are never changed written out -/
inductive D where
  | non | bl (b : Bool) | int (i : Int) | str (x : Str)
  | tup (ds : List D) | lst (ds : List D) | scr (ds : List D) | ins (c : Nat) (ds : List D) | dct (t : Bool) (ks ds : List D)
  | ref (i : Nat)
  | fn
/-- things that are changed -/
inductive AO where
  | lst (ds : List D) | ins (c : Nat) (fs : List (Option D)) | dct (t : Bool) (ks ds : List D) | fdct (t : Bool) (ks ds : List D) | dead
abbrev AH := List AO
abbrev Ev := List (Option D)
structure Xn where
  c : Nat
  args : List D
inductive Res (α : Type) where
  | ok (a : α) (A : AH) | ex (x : Xn) (A : AH) | stuck
@[reducible] def Res.bind {α β : Type} (r : Res α) (k : α → AH → Res β) : Res β :=
  match r with
  | .ok a A => k a A
  | .ex x A => .ex x A
  | .stuck => .stuck
/-- the ghost: where the changed things stand; whose an address is -/
structure Gh where
  ρ : List Addr
  o : Addr → Option (Option Nat)
/-- a lambda that a def got: its place, its code object, the code's name, the state at its making -/
structure Lm where
  f : Addr
  c : Addr
  q : Str
  γ : Gh
  H : Hp
/-- what of the text stands fixed: classes of instances, classes of errors, code tables -/
structure Gc where
  K : PySem.W.Frag
  cls : Nat → Option Addr
  xcl : Nat → Option Addr
  T : List (Addr × Str)
  xfl : Nat → Str
  lam : Option Lm
/-- a written list: what a heap without anything knows -/
def WrL (K : PySem.W.Frag) (a : Addr) (xs : List V) : Prop := SqL K (fun _ => none) a xs
theorem WrL.sq {K : PySem.W.Frag} {H : Hp} {a : Addr} {xs : List V} (h : WrL K a xs) : SqL K H a xs := by
  rcases h with (h | ⟨o, h⟩) | h
  · cases h
  · cases h
  · exact .inr h
def FxT (G : Gc) (γ : Gh) (H : Hp) (a : Addr) (xs : List V) : Prop := H a = some (.tup xs) ∧ γ.o a = none
def FxL (G : Gc) (γ : Gh) (H : Hp) (a : Addr) (xs : List V) : Prop := (Rd H a (.lst xs) ∧ γ.o a = none) ∨ WrL G.K a xs
theorem FxT.sq {G : Gc} {γ : Gh} {H : Hp} {a : Addr} {xs : List V} (h : FxT G γ H a xs) : SqT G.K H a xs := SqT.of h.1
theorem FxL.sq {G : Gc} {γ : Gh} {H : Hp} {a : Addr} {xs : List V} (h : FxL G γ H a xs) : SqL G.K H a xs := h.elim (fun h => .inl h.1) WrL.sq
def kD : Key → D
  | .inl i => .int i
  | .inr x => .str x
/-- u is the dict of these keys and values; t: the keys are tuples -/
def DK (t : Bool) (ks : List D) (vs : List V) (u : HO) : Prop := (t = false ∧ ∃ kvs : List (Key × V), u = .dK kvs ∧ kvs.map (fun p => kD p.1) = ks ∧ kvs.map (·.2) = vs) ∨
  (t = true ∧ ∃ kvs : List (List Key × V), u = .dT kvs ∧ kvs.map (fun p => D.tup (p.1.map kD)) = ks ∧ kvs.map (·.2) = vs)
/-- what a run leaves as it was: values; things put aside -/
structure Ext0 (γ : Gh) (H : Hp) (γ' : Gh) (H' : Hp) : Prop where
  ρ : ∀ (i : Nat) (a : Addr), γ.ρ[i]? = some a → γ'.ρ[i]? = some a
  keep : ∀ (a : Addr) (ob : HO), H a = some ob → γ.o a = none → (∀ ps, ob ≠ .tbl ps) → H' a = some ob ∧ γ'.o a = none
theorem Ext0.trans {γ γ1 γ2 : Gh} {H H1 H2 : Hp} (a : Ext0 γ H γ1 H1) (b : Ext0 γ1 H1 γ2 H2) : Ext0 γ H γ2 H2 :=
  ⟨fun i x h => b.ρ i x (a.ρ i x h), fun x ob h n t => let ⟨h1, n1⟩ := a.keep x ob h n t; b.keep x ob h1 n1 t⟩
mutual
def VR (G : Gc) (γ : Gh) (H : Hp) : D → V → Prop
  | .non, v => v = .non
  | .bl b, v => v = .bl b
  | .int i, v => v = .int i
  | .str x, v => v = .str x
  | .tup ds, v => ∃ a vs, v = .ref a ∧ FxT G γ H a vs ∧ VRs G γ H ds vs
  | .lst ds, v => ∃ a vs, v = .ref a ∧ H a = some (.lst vs) ∧ γ.o a = none ∧ VRs G γ H ds vs
  | .scr ds, v => ∃ a vs, v = .ref a ∧ FxL G γ H a vs ∧ VRs G γ H ds vs
  | .ins c ds, v => ∃ a C dx vs, v = .ref a ∧ γ.o a = none ∧ γ.o dx = none ∧ G.cls c = some C ∧ H a = some (SlX.SlO a C dx (vs.map some)) ∧ H dx = some (.xd []) ∧ VRs G γ H ds vs
  | .dct t ks ds, v => ∃ a o u vs, v = .ref a ∧ γ.o a = none ∧ H a = some (.frz o u) ∧ DK t ks vs u ∧ VRs G γ H ds vs
  | .ref i, v => ∃ a, v = .ref a ∧ γ.ρ[i]? = some a
  | .fn, v => ∃ L : Lm, G.lam = some L ∧ v = .ref L.f ∧ H L.c = some (LamX.CodeO L.c L.q) ∧ γ.o L.c = none ∧ Ext0 L.γ L.H γ H
def VRs (G : Gc) (γ : Gh) (H : Hp) : List D → List V → Prop
  | [], vs => vs = []
  | d :: ds, vs => ∃ v r, vs = v :: r ∧ VR G γ H d v ∧ VRs G γ H ds r
end
structure Ext (γ : Gh) (H : Hp) (γ' : Gh) (H' : Hp) : Prop extends Ext0 γ H γ' H' where
  hid : ∀ (a : Addr) (ob : HO), H a = some ob → γ.o a = some none → H' a = some ob ∧ γ'.o a = some none
theorem Ext.refl (γ : Gh) (H : Hp) : Ext γ H γ H := ⟨⟨fun _ _ h => h, fun _ _ h n _ => ⟨h, n⟩⟩, fun _ _ h n => ⟨h, n⟩⟩
theorem Ext.trans {γ γ1 γ2 : Gh} {H H1 H2 : Hp} (a : Ext γ H γ1 H1) (b : Ext γ1 H1 γ2 H2) : Ext γ H γ2 H2 :=
  ⟨⟨fun i x h => b.ρ i x (a.ρ i x h), fun x ob h n t => let ⟨h1, n1⟩ := a.keep x ob h n t; b.keep x ob h1 n1 t⟩, fun x ob h n => let ⟨h1, n1⟩ := a.hid x ob h n; b.hid x ob h1 n1⟩
section
variable {G : Gc} {γ γ' : Gh} {H H' : Hp}
theorem Ext0.fxT (e : Ext0 γ H γ' H') {a : Addr} {xs : List V} (h : FxT G γ H a xs) : FxT G γ' H' a xs := e.keep _ _ h.1 h.2 (fun _ z => nomatch z)
theorem Ext0.fxL (e : Ext0 γ H γ' H') {a : Addr} {xs : List V} (h : FxL G γ H a xs) : FxL G γ' H' a xs := by
  rcases h with ⟨h | ⟨o, h⟩, n⟩ | h
  · obtain ⟨h1, n1⟩ := e.keep _ _ h n (fun _ z => nomatch z)
    exact .inl ⟨.inl h1, n1⟩
  · obtain ⟨h1, n1⟩ := e.keep _ _ h n (fun _ z => nomatch z)
    exact .inl ⟨.inr ⟨o, h1⟩, n1⟩
  · exact .inr h
theorem slO_tbl {a C dx : Addr} {vs : List (Option V)} : ∀ ps, SlX.SlO a C dx vs ≠ .tbl ps := fun ps z => by
  unfold SlX.SlO at z; cases z
mutual
theorem VR.ext0 (e : Ext0 γ H γ' H') : ∀ (d : D) (v : V), VR G γ H d v → VR G γ' H' d v
  | .non, v, h => by unfold VR at h ⊢; exact h
  | .bl b, v, h => by unfold VR at h ⊢; exact h
  | .int b, v, h => by unfold VR at h ⊢; exact h
  | .str b, v, h => by unfold VR at h ⊢; exact h
  | .tup ds, v, h => by
    unfold VR at h ⊢
    obtain ⟨a, vs, e1, f, r⟩ := h
    exact ⟨a, vs, e1, e.fxT f, VRs.ext0 e ds vs r⟩
  | .lst ds, v, h => by
    unfold VR at h ⊢
    obtain ⟨a, vs, e1, h1, n1, r⟩ := h
    obtain ⟨h2, n2⟩ := e.keep _ _ h1 n1 (fun _ z => nomatch z)
    exact ⟨a, vs, e1, h2, n2, VRs.ext0 e ds vs r⟩
  | .scr ds, v, h => by
    unfold VR at h ⊢
    obtain ⟨a, vs, e1, f, r⟩ := h
    exact ⟨a, vs, e1, e.fxL f, VRs.ext0 e ds vs r⟩
  | .ins c ds, v, h => by
    unfold VR at h ⊢
    obtain ⟨a, C, dx, vs, e1, n1, n2, hc, h1, h2, r⟩ := h
    obtain ⟨a1, a2⟩ := e.keep _ _ h1 n1 slO_tbl
    obtain ⟨b1, b2⟩ := e.keep _ _ h2 n2 (fun _ z => nomatch z)
    exact ⟨a, C, dx, vs, e1, a2, b2, hc, a1, b1, VRs.ext0 e ds vs r⟩
  | .dct t ks ds, v, h => by
    unfold VR at h ⊢
    obtain ⟨a, o, u, vs, e1, n1, h1, hk, r⟩ := h
    obtain ⟨a1, a2⟩ := e.keep _ _ h1 n1 (fun _ z => nomatch z)
    exact ⟨a, o, u, vs, e1, a2, a1, hk, VRs.ext0 e ds _ r⟩
  | .ref i, v, h => by
    unfold VR at h ⊢
    obtain ⟨a, e1, h⟩ := h
    exact ⟨a, e1, e.ρ _ _ h⟩
  | .fn, v, h => by
    unfold VR at h ⊢
    obtain ⟨L, e0, e1, h1, n1, e2⟩ := h
    obtain ⟨h2, n2⟩ := e.keep _ _ h1 n1 LamX.codeO_ne
    exact ⟨L, e0, e1, h2, n2, e2.trans e⟩
theorem VRs.ext0 (e : Ext0 γ H γ' H') : ∀ (ds : List D) (vs : List V), VRs G γ H ds vs → VRs G γ' H' ds vs
  | [], vs, h => by unfold VRs at h ⊢; exact h
  | d :: ds, vs, h => by
    unfold VRs at h ⊢
    obtain ⟨v, r, e1, h1, h2⟩ := h
    exact ⟨v, r, e1, VR.ext0 e d v h1, VRs.ext0 e ds r h2⟩
end
theorem VR.ext (e : Ext γ H γ' H') (d : D) (v : V) (h : VR G γ H d v) : VR G γ' H' d v := VR.ext0 e.toExt0 d v h
theorem VRs.ext (e : Ext γ H γ' H') (ds : List D) (vs : List V) (h : VRs G γ H ds vs) : VRs G γ' H' ds vs := VRs.ext0 e.toExt0 ds vs h
end
section
variable {G : Gc} {γ γ' : Gh} {H H' : Hp}
theorem VRs.length : ∀ {ds : List D} {vs : List V}, VRs G γ H ds vs → ds.length = vs.length
  | [], vs, h => by unfold VRs at h; subst h; rfl
  | d :: ds, vs, h => by
    unfold VRs at h
    obtain ⟨v, r, rfl, _, h2⟩ := h
    simp [VRs.length h2]
theorem VRs.nil : VRs G γ H [] [] := by unfold VRs; rfl
theorem VRs.cons {d : D} {v : V} {ds : List D} {vs : List V} (h : VR G γ H d v) (t : VRs G γ H ds vs) : VRs G γ H (d :: ds) (v :: vs) := by
  unfold VRs; exact ⟨v, vs, rfl, h, t⟩
theorem VRs.get : ∀ {ds : List D} {vs : List V} {i : Nat} {d : D}, VRs G γ H ds vs → ds[i]? = some d → ∃ v, vs[i]? = some v ∧ VR G γ H d v
  | [], _, _, _, _, e => by simp at e
  | d :: ds, vs, 0, x, h, e => by
    unfold VRs at h
    obtain ⟨v, r, rfl, h1, _⟩ := h
    simp at e; subst e
    exact ⟨v, rfl, h1⟩
  | d :: ds, vs, i + 1, x, h, e => by
    unfold VRs at h
    obtain ⟨v, r, rfl, _, h2⟩ := h
    simp at e
    obtain ⟨v', e', h'⟩ := VRs.get h2 e
    exact ⟨v', by simpa using e', h'⟩
theorem VRs.get' : ∀ {ds : List D} {vs : List V} {i : Nat} {v : V}, VRs G γ H ds vs → vs[i]? = some v → ∃ d, ds[i]? = some d ∧ VR G γ H d v
  | [], vs, i, v, h, e => by unfold VRs at h; subst h; simp at e
  | d :: ds, vs, 0, x, h, e => by
    unfold VRs at h
    obtain ⟨v, r, rfl, h1, _⟩ := h
    simp at e; subst e
    exact ⟨d, rfl, h1⟩
  | d :: ds, vs, i + 1, x, h, e => by
    unfold VRs at h
    obtain ⟨v, r, rfl, _, h2⟩ := h
    simp at e
    obtain ⟨v', e', h'⟩ := VRs.get' h2 e
    exact ⟨v', by simpa using e', h'⟩
theorem VRs.append : ∀ {ds es : List D} {vs ws : List V}, VRs G γ H ds vs → VRs G γ H es ws → VRs G γ H (ds ++ es) (vs ++ ws)
  | [], _, _, _, h, t => by unfold VRs at h; subst h; exact t
  | d :: ds, es, vs, ws, h, t => by
    unfold VRs at h
    obtain ⟨v, r, rfl, h1, h2⟩ := h
    exact VRs.cons h1 (VRs.append h2 t)
theorem VRs.take : ∀ {ds : List D} {vs : List V} (n : Nat), VRs G γ H ds vs → VRs G γ H (ds.take n) (vs.take n)
  | _, _, 0, _ => by simp; exact VRs.nil
  | [], vs, n + 1, h => by unfold VRs at h; subst h; simp; exact VRs.nil
  | d :: ds, vs, n + 1, h => by
    unfold VRs at h
    obtain ⟨v, r, rfl, h1, h2⟩ := h
    exact VRs.cons h1 (VRs.take n h2)
theorem VRs.drop : ∀ {ds : List D} {vs : List V} (n : Nat), VRs G γ H ds vs → VRs G γ H (ds.drop n) (vs.drop n)
  | _, _, 0, h => by simpa using h
  | [], vs, n + 1, h => by unfold VRs at h; subst h; simp; exact VRs.nil
  | d :: ds, vs, n + 1, h => by
    unfold VRs at h
    obtain ⟨v, r, rfl, h1, h2⟩ := h
    simpa using VRs.drop n h2
theorem VRs.set {d : D} {v : V} (hd : VR G γ H d v) : ∀ {ds : List D} {vs : List V} (n : Nat), VRs G γ H ds vs → VRs G γ H (ds.set n d) (vs.set n v)
  | [], vs, n, h => by unfold VRs at h; subst h; simp; exact VRs.nil
  | e :: ds, vs, 0, h => by
    unfold VRs at h
    obtain ⟨w, r, rfl, h1, h2⟩ := h
    exact VRs.cons hd h2
  | e :: ds, vs, n + 1, h => by
    unfold VRs at h
    obtain ⟨w, r, rfl, h1, h2⟩ := h
    exact VRs.cons h1 (VRs.set hd n h2)
/-- by a map of ints, of bools, of texts -/
theorem VRs.ints : ∀ (is : List Int), VRs G γ H (is.map D.int) (is.map V.int)
  | [] => VRs.nil
  | i :: is => VRs.cons (by unfold VR; rfl) (VRs.ints is)
theorem VRs.strs : ∀ (is : List Str), VRs G γ H (is.map D.str) (is.map V.str)
  | [] => VRs.nil
  | i :: is => VRs.cons (by unfold VR; rfl) (VRs.strs is)
end
/-- slots, as far as they are stored -/
def FRs (G : Gc) (γ : Gh) (H : Hp) : List (Option D) → List (Option V) → Prop
  | [], vs => vs = []
  | fo :: fs, vs => ∃ vo r, vs = vo :: r ∧ (match fo, vo with
    | none, none => True
    | some d, some v => VR G γ H d v
    | _, _ => False) ∧ FRs G γ H fs r
theorem FRs.ext {G : Gc} {γ γ' : Gh} {H H' : Hp} (e : Ext0 γ H γ' H') : ∀ {fs : List (Option D)} {vs : List (Option V)}, FRs G γ H fs vs → FRs G γ' H' fs vs
  | [], vs, h => h
  | fo :: fs, vs, h => by
    obtain ⟨vo, r, rfl, h1, h2⟩ := h
    refine ⟨vo, r, rfl, ?_, FRs.ext e h2⟩
    cases fo <;> cases vo <;> first | exact h1 | exact VR.ext0 e _ _ h1
def OR (G : Gc) (γ : Gh) (H : Hp) (i : Nat) : AO → Addr → Prop
  | .lst ds, a => ∃ vs, H a = some (.lst vs) ∧ VRs G γ H ds vs
  | .ins c fs, a => ∃ C dx vs, G.cls c = some C ∧ SlX.Slt H a C dx vs ∧ γ.o dx = some (some i) ∧ dx ≠ a ∧ FRs G γ H fs vs
  | .dct t ks ds, a => ∃ u vs, H a = some u ∧ DK t ks vs u ∧ VRs G γ H ds vs
  | .fdct t ks ds, a => ∃ o u vs, H a = some (.frz o u) ∧ DK t ks vs u ∧ VRs G γ H ds vs
  | .dead, _ => True
/-- a code table: its own place and its codes are no changed thing -/
def TabG (γ : Gh) (H : Hp) (T : List (Addr × Str)) : Prop := ∀ p ∈ T, γ.o p.1 = none ∧ ∃ ps : Array Value, H p.1 = some (.tbl ps) ∧ TriplesOk ps.toList ∧ ∀ (pos : Pos) (cv : Value), codeAmong pos ps.toList = some cv → ∃ c, cv = .ref c ∧ H c = some (LamX.CodeO c p.2) ∧ γ.o c = none
structure Rel (G : Gc) (γ : Gh) (A : AH) (H : Hp) : Prop where
  len : γ.ρ.length = A.length
  at_ : ∀ (i : Nat) (ob : AO), A[i]? = some ob → ∃ a, γ.ρ[i]? = some a ∧ γ.o a = some (some i) ∧ OR G γ H i ob a
  dom : ∀ (a : Addr) (x : Option Nat), γ.o a = some x → H a ≠ none ∧ ∀ i, x = some i → i < A.length
  tab : TabG γ H G.T
section
variable {G : Gc} {γ : Gh} {H : Hp} {A : AH}
theorem TabG.upd_any {T : List (Addr × Str)} {a : Addr} {ob : HO} (t : TabG γ H T) (h : H a = none ∨ γ.o a ≠ none) : TabG γ (upd H a ob) T := fun p hp => by
  obtain ⟨n, ps, h1, h2, h3⟩ := t p hp
  have ne : ∀ {b o}, H b = some o → γ.o b = none → b ≠ a := fun {b o} e n z => by
    subst z
    rcases h with h | h
    · rw [h] at e; cases e
    · exact h n
  refine ⟨n, ps, by rw [upd_ne (ne h1 n)]; exact h1, h2, fun pos cv hc => ?_⟩
  obtain ⟨c, e1, e2, n2⟩ := h3 pos cv hc
  exact ⟨c, e1, by rw [upd_ne (ne e2 n2)]; exact e2, n2⟩
/-- a new thing that is never changed is laid -/
theorem Ext.laid {p : Addr} {ob : HO} (h : H p = none) : Ext γ H γ (upd H p ob) :=
  ⟨⟨fun _ _ e => e, fun b o e n _ => ⟨by rw [upd_ne (ne_of_none e h)]; exact e, n⟩⟩, fun b o e n => ⟨by rw [upd_ne (ne_of_none e h)]; exact e, n⟩⟩
theorem Rel.o_none (R : Rel G γ A H) {p : Addr} (h : H p = none) : γ.o p = none := by
  cases e : γ.o p with
  | none => rfl
  | some i => exact absurd h (R.dom p i e).1
theorem OR.ext {γ' : Gh} {H' : Hp} {i j : Nat} {ob : AO} {a : Addr} (e : Ext0 γ H γ' H') (ha : H' a = H a) (hd : ∀ dx, γ.o dx = some (some i) → H' dx = H dx ∧ γ'.o dx = some (some i)) (r : OR G γ H i ob a) : OR G γ' H' i ob a := by
  cases ob with
  | lst ds => obtain ⟨vs, h1, r⟩ := r; exact ⟨vs, by rw [ha]; exact h1, VRs.ext0 e _ _ r⟩
  | ins c fs =>
    obtain ⟨C, dx, vs, hc, hs, h1, hn, r⟩ := r
    obtain ⟨d1, d2⟩ := hd dx h1
    refine ⟨C, dx, vs, hc, ?_, d2, hn, r.ext e⟩
    rcases hs with ⟨q1, q2⟩ | ⟨q1, q2⟩
    · exact .inl ⟨by rw [ha]; exact q1, q2⟩
    · exact .inr ⟨by rw [ha]; exact q1, by rw [d1]; exact q2⟩
  | dct t ks ds => obtain ⟨u, vs, h1, h2, r⟩ := r; exact ⟨u, vs, by rw [ha]; exact h1, h2, VRs.ext0 e _ _ r⟩
  | fdct t ks ds => obtain ⟨o, u, vs, h1, h2, r⟩ := r; exact ⟨o, u, vs, by rw [ha]; exact h1, h2, VRs.ext0 e _ _ r⟩
  | dead => trivial
theorem Rel.laid {p : Addr} {ob : HO} (R : Rel G γ A H) (h : H p = none) : Rel G γ A (upd H p ob) := by
  have ne : ∀ b, H b ≠ none → b ≠ p := fun b q z => q (by rw [z]; exact h)
  refine ⟨R.len, fun i o e => ?_, fun a i e => ⟨?_, (R.dom a i e).2⟩, R.tab.upd_any (.inl h)⟩
  · obtain ⟨a, e1, e2, r⟩ := R.at_ i o e
    exact ⟨a, e1, e2, r.ext (j := i) (Ext.laid h).toExt0 (by rw [upd_ne (ne a (R.dom a _ e2).1)]) fun dx q => ⟨by rw [upd_ne (ne dx (R.dom dx _ q).1)], q⟩⟩
  · by_cases z : a = p
    · subst z; rw [upd_same]; exact fun q => nomatch q
    · rw [upd_ne z]; exact (R.dom a i e).1
/-- a new thing that is changed later -/
def Gh.more (γ : Gh) (n : Nat) (p : Addr) : Gh := ⟨γ.ρ ++ [p], fun a => if a = p then some (some n) else γ.o a⟩
theorem Gh.more_same {n : Nat} {p : Addr} : (γ.more n p).o p = some (some n) := if_pos rfl
theorem Gh.more_ne {n : Nat} {p a : Addr} (h : a ≠ p) : (γ.more n p).o a = γ.o a := if_neg h
theorem Ext.more {p : Addr} {ob : HO} {n : Nat} (h : H p = none) : Ext γ H (γ.more n p) (upd H p ob) :=
  ⟨⟨fun i a e => by show (γ.ρ ++ [p])[i]? = some a; rw [List.getElem?_append_left (List.getElem?_eq_some_iff.mp e).1]; exact e, fun b o e n _ => ⟨by rw [upd_ne (ne_of_none e h)]; exact e, by rw [Gh.more_ne (ne_of_none e h)]; exact n⟩⟩,
    fun b o e n => ⟨by rw [upd_ne (ne_of_none e h)]; exact e, by rw [Gh.more_ne (ne_of_none e h)]; exact n⟩⟩
theorem Rel.more {p : Addr} {ob : HO} {ao : AO} (R : Rel G γ A H) (h : H p = none) (new : OR G (γ.more A.length p) (upd H p ob) A.length ao p) : Rel G (γ.more A.length p) (A ++ [ao]) (upd H p ob) := by
  have ne : ∀ b, H b ≠ none → b ≠ p := fun b q z => q (by rw [z]; exact h)
  have E : Ext γ H (γ.more A.length p) (upd H p ob) := Ext.more h
  refine ⟨by show (γ.ρ ++ [p]).length = _; rw [List.length_append, List.length_append, R.len]; rfl, fun i o e => ?_, fun a x e => ?_, fun q hq => ?_⟩
  · by_cases hi : i < A.length
    · rw [List.getElem?_append_left hi] at e
      obtain ⟨a, e1, e2, r⟩ := R.at_ i o e
      have na := ne a (R.dom a _ e2).1
      exact ⟨a, E.ρ i a e1, by rw [Gh.more_ne na]; exact e2, r.ext (j := i) E.toExt0 (by rw [upd_ne na]) fun dx q => ⟨by rw [upd_ne (ne dx (R.dom dx _ q).1)], by rw [Gh.more_ne (ne dx (R.dom dx _ q).1)]; exact q⟩⟩
    · rw [List.getElem?_append_right (by omega)] at e
      have e0 : i - A.length = 0 := by
        have := (List.getElem?_eq_some_iff.mp e).1
        simp at this; omega
      rw [e0] at e
      have hi2 : i = A.length := by omega
      subst hi2
      cases e
      refine ⟨p, ?_, Gh.more_same, new⟩
      show (γ.ρ ++ [p])[A.length]? = some p
      rw [← R.len]; simp
  · by_cases z : a = p
    · subst z
      rw [Gh.more_same] at e; cases e
      refine ⟨by rw [upd_same]; exact (fun q => nomatch q), fun i q => ?_⟩
      cases q
      rw [List.length_append]; simp
    · rw [Gh.more_ne z] at e
      refine ⟨by rw [upd_ne z]; exact (R.dom a x e).1, fun i q => ?_⟩
      have := (R.dom a x e).2 i q
      rw [List.length_append]; omega
  · obtain ⟨n, ps, h1, h2, h3⟩ := R.tab q hq
    have nq := ne q.1 (by rw [h1]; exact fun z => nomatch z)
    refine ⟨by rw [Gh.more_ne nq]; exact n, ps, by rw [upd_ne nq]; exact h1, h2, fun pos cv hc => ?_⟩
    obtain ⟨c, c1, c2, c3⟩ := h3 pos cv hc
    have nc := ne c (by rw [c2]; exact fun z => nomatch z)
    exact ⟨c, c1, by rw [upd_ne nc]; exact c2, by rw [Gh.more_ne nc]; exact c3⟩
/-- a thing is changed -/
theorem Ext.put {H' : Hp} {i : Nat} (h : ∀ b, γ.o b ≠ some (some i) → H' b = H b) : Ext γ H γ H' :=
  ⟨⟨fun _ _ e => e, fun b o e n _ => ⟨by rw [h b (by rw [n]; exact fun z => nomatch z)]; exact e, n⟩⟩, fun b o e n => ⟨by rw [h b (by rw [n]; exact fun z => nomatch z)]; exact e, n⟩⟩
theorem Rel.put {H' : Hp} {i : Nat} {a : Addr} {ao : AO} (R : Rel G γ A H) (ha : γ.ρ[i]? = some a) (h : ∀ b, γ.o b ≠ some (some i) → H' b = H b) (hd : ∀ b, γ.o b = some (some i) → H' b ≠ none) (new : OR G γ H' i ao a) : Rel G γ (A.set i ao) H' := by
  have E : Ext γ H γ H' := Ext.put h
  refine ⟨by rw [List.length_set]; exact R.len, fun j o e => ?_, fun b x e => ⟨?_, fun j q => by rw [List.length_set]; exact (R.dom b x e).2 j q⟩, fun q hq => ?_⟩
  · by_cases z : i = j
    · subst z
      have hi : i < A.length := by
        have := (List.getElem?_eq_some_iff.mp ha).1
        rw [R.len] at this; exact this
      rw [List.getElem?_set_self hi] at e
      cases e
      obtain ⟨a', e1, e2, _⟩ := R.at_ i _ (List.getElem?_eq_getElem hi)
      rw [ha] at e1; cases e1
      exact ⟨a, ha, e2, new⟩
    · rw [List.getElem?_set_ne z] at e
      obtain ⟨b, e1, e2, r⟩ := R.at_ j o e
      have nb : ∀ c, γ.o c = some (some j) → γ.o c ≠ some (some i) := fun c q w => by rw [q] at w; cases w; exact z rfl
      exact ⟨b, e1, e2, r.ext (j := j) E.toExt0 (h b (nb b e2)) fun dx q => ⟨h dx (nb dx q), q⟩⟩
  · by_cases z : γ.o b = some (some i)
    · exact hd b z
    · rw [h b z]; exact (R.dom b x e).1
  · obtain ⟨n, ps, h1, h2, h3⟩ := R.tab q hq
    refine ⟨n, ps, by rw [h q.1 (by rw [n]; exact fun z => nomatch z)]; exact h1, h2, fun pos cv hc => ?_⟩
    obtain ⟨c, c1, c2, c3⟩ := h3 pos cv hc
    exact ⟨c, c1, by rw [h c (by rw [c3]; exact fun z => nomatch z)]; exact c2, c3⟩
end
/-- the names of a frame -/
def ER (G : Gc) (γ : Gh) (H : Hp) (env : Ev) (σ : L2.St) : Prop := ∀ (i : Nat) (d : D), env[i]? = some (some d) → ∃ v, σ[i]? = some (some v) ∧ VR G γ H d v
theorem ER.ext {G : Gc} {γ γ' : Gh} {H H' : Hp} {env : Ev} {σ : L2.St} (e : Ext γ H γ' H') (h : ER G γ H env σ) : ER G γ' H' env σ := fun j d q => by
  obtain ⟨v, e1, r⟩ := h j d q
  exact ⟨v, e1, VR.ext e d v r⟩
theorem ER.set {G : Gc} {γ : Gh} {H : Hp} {env : Ev} {σ : L2.St} {i : Nat} {d : D} {v : V} (h : ER G γ H env σ) (hl : env.length = σ.length) (r : VR G γ H d v) : ER G γ H (env.set i (some d)) (σ.set i (some v)) := fun j x q => by
  by_cases z : i = j
  · subst z
    by_cases hi : i < env.length
    · rw [List.getElem?_set_self hi] at q
      cases q
      exact ⟨v, List.getElem?_set_self (by omega), r⟩
    · rw [List.getElem?_eq_none (by simpa using hi)] at q; cases q
  · rw [List.getElem?_set_ne z] at q ⊢
    exact h j x q
structure St3 (G : Gc) (γ : Gh) (A : AH) (env : Ev) (H : Hp) (σ : L2.St) : Prop where
  rel : Rel G γ A H
  len : env.length = σ.length
  er : ER G γ H env σ
theorem St3.to {G : Gc} {γ γ' : Gh} {A A' : AH} {env : Ev} {H H' : Hp} {σ : L2.St} (S : St3 G γ A env H σ) (e : Ext γ H γ' H') (R : Rel G γ' A' H') : St3 G γ' A' env H' σ := ⟨R, S.len, S.er.ext e⟩
/-- an error as it lies: its class, its own dict -/
def XR (G : Gc) (γ : Gh) (H : Hp) (x : Xn) (cls : Value) (ad : Option Addr) : Prop := ∃ C, G.xcl x.c = some C ∧ cls = .ref C ∧
  ((x.args = [] ∧ ad = none) ∨ ∃ d a v, x.args = [d] ∧ ad = some a ∧ H a = some (.xd [(G.xfl x.c, v)]) ∧ γ.o a = none ∧ VR G γ H d v)
theorem XR.ext {G : Gc} {γ γ' : Gh} {H H' : Hp} {x : Xn} {cls : Value} {ad : Option Addr} (e : Ext γ H γ' H') (h : XR G γ H x cls ad) : XR G γ' H' x cls ad := by
  obtain ⟨C, h1, h2, h3 | ⟨d, a, v, h3, h4, h5, h6, h7⟩⟩ := h
  · exact ⟨C, h1, h2, .inl h3⟩
  · obtain ⟨k1, k2⟩ := e.keep a _ h5 h6 (fun _ z => nomatch z)
    exact ⟨C, h1, h2, .inr ⟨d, a, v, h3, h4, k1, k2, VR.ext e _ _ h7⟩⟩
abbrev WXe := Value → Option Addr → Hp → Prop
def Post {α : Type} (G : Gc) (γ : Gh) (H : Hp) (r : Res α) (Q : Gh → AH → Hp → α → Prop) (W : WXe) : Prop :=
  match r with
  | .ok d A' => ∀ γ' H', Ext γ H γ' H' → Rel G γ' A' H' → Q γ' A' H' d
  | .ex x A' => ∀ γ' H' cls ad, Ext γ H γ' H' → Rel G γ' A' H' → XR G γ' H' x cls ad → W cls ad H'
  | .stuck => False
theorem Post.ext {α : Type} {G : Gc} {γ γ' : Gh} {H H' : Hp} {r : Res α} {Q : Gh → AH → Hp → α → Prop} {W : WXe} (e : Ext γ H γ' H') (h : Post G γ H r Q W) : Post G γ' H' r Q W := by
  cases r with
  | ok d A => exact fun γ2 H2 e2 R => h γ2 H2 (e.trans e2) R
  | ex x A => exact fun γ2 H2 c a e2 R => h γ2 H2 c a (e.trans e2) R
  | stuck => exact h
theorem Post.bind {α β : Type} {G : Gc} {γ : Gh} {H : Hp} {r : Res α} {k : α → AH → Res β} {Q : Gh → AH → Hp → β → Prop} {R : Gh → AH → Hp → α → Prop} {W : WXe} (h : Post G γ H (r.bind k) Q W)
    (hk : ∀ d A1 γ1 H1, Ext γ H γ1 H1 → Rel G γ1 A1 H1 → Post G γ1 H1 (k d A1) Q W → R γ1 A1 H1 d) : Post G γ H r R W := by
  cases r with
  | ok d A => exact fun γ1 H1 e R1 => hk d A γ1 H1 e R1 (Post.ext e h)
  | ex x A => exact h
  | stuck => exact h
end F3
namespace F3
open PySem PySem.Spec
open PyProof.Rows L2
theorem PE.imp {X : Cx} {e : Expr} {t t' : TE} (h : PE X e t) (q : ∀ σ H Q, t' σ H Q → t σ H Q) : PE X e t' := ⟨fun pins s σ H Q I z => h.run pins s σ H Q I (q σ H Q z)⟩
theorem PT.imp {X : Cx} {e : Expr} {t t' : TT} (h : PT X e t) (q : ∀ σ H Q, t' σ H Q → t σ H Q) : PT X e t' := ⟨fun pins s σ H Q I z => h.run pins s σ H Q I (q σ H Q z)⟩
theorem PW.imp {X : Cx} {e : Expr} {t t' : TT} (h : PW X e t) (q : ∀ σ H Q, t' σ H Q → t σ H Q) : PW X e t' := ⟨fun w pins s σ H Q I z => h.run w pins s σ H Q I (q σ H Q z)⟩
theorem PA.imp {X : Cx} {e : List Expr} {t t' : TA} (h : PA X e t) (q : ∀ σ H Q, t' σ H Q → t σ H Q) : PA X e t' := ⟨fun p pins s σ H Q I z => h.run p pins s σ H Q I (q σ H Q z)⟩
theorem PS.imp {X : Cx} {e : Stmt} {t t' : TS} (h : PS X e t) (q : ∀ D σ H, t' D σ H → t D σ H) : PS X e t' := ⟨fun pins s σ H D I z => h.run pins s σ H D I (q D σ H z)⟩
theorem PSs.imp {X : Cx} {e : List Stmt} {t t' : TS} (h : PSs X e t) (q : ∀ D σ H, t' D σ H → t D σ H) : PSs X e t' := ⟨fun pins s σ H D I z => h.run pins s σ H D I (q D σ H z)⟩
/-- readings by a run over deep values -/
def tE (G : Gc) (W : WX) (f : Ev → AH → Res D) : TE := fun σ H Q => ∃ γ A env, St3 G γ A env H σ ∧ Post G γ H (f env A) (fun γ' _ H' d => ∀ v, VR G γ' H' d v → Q v H') (fun c a H' => W c a σ H')
def tB3 (G : Gc) (W : WX) (f : Ev → AH → Res Bool) : TT := fun σ H Q => ∃ γ A env, St3 G γ A env H σ ∧ Post G γ H (f env A) (fun _ _ H' b => Q b H') (fun c a H' => W c a σ H')
def tA (G : Gc) (W : WX) (f : Ev → AH → Res (List D)) : TA := fun σ H Q => ∃ γ A env, St3 G γ A env H σ ∧ Post G γ H (f env A) (fun γ' _ H' ds => ∀ vs, VRs G γ' H' ds vs → Q vs H') (fun c a H' => W c a σ H')
structure JE (X : Cx) (G : Gc) (W : WX) (e : Expr) (f : Ev → AH → Res D) : Prop where
  run : PE X e (tE G W f)
structure JT (X : Cx) (G : Gc) (W : WX) (e : Expr) (f : Ev → AH → Res Bool) : Prop where
  run : PT X e (tB3 G W f)
structure JW (X : Cx) (G : Gc) (W : WX) (e : Expr) (f : Ev → AH → Res Bool) : Prop where
  run : PW X e (tB3 G W f)
structure JA (X : Cx) (G : Gc) (W : WX) (es : List Expr) (f : Ev → AH → Res (List D)) : Prop where
  run : PA X es (tA G W f)
/-- what stands around -/
structure XO (X : Cx) (G : Gc) (W : WX) (k : Nat) : Prop where
  tk : Takes X W
  po : PassesOwn (model X.prog X.w) X.A X.env X.xe
  calm : X.calm = true
  room : Room k X.A
  gd : X.A.guards = some []
  gk : G.K = X.K
section
variable {X : Cx} {G : Gc} {W : WX} {k : Nat}
/-! ### names and constants -/
def sVar (i : Nat) : Ev → AH → Res D := fun env A => match env[i]? with
  | some (some d) => .ok d A
  | _ => .stuck
def sC (d : D) : Ev → AH → Res D := fun _ A => .ok d A
theorem je_var {x : Str} {pos : Pos} (i : Nat) (hN : X.N[i]? = some x) (hv : Vis X.env.scope x) (hd : (x == ("__debug__" : Str)) = false) (hcd : (x == ("__classdict__" : Str)) = false) : JE X G W (.Name x pos) (sVar i) := by
  refine ⟨PE.imp (pe_var hN hv hd hcd) fun σ H Q h => ?_⟩
  obtain ⟨γ, A, env, S, h⟩ := h
  unfold sVar at h
  cases e : env[i]? with
  | none => rw [e] at h; exact h.elim
  | some o =>
    cases o with
    | none => rw [e] at h; exact h.elim
    | some d =>
      rw [e] at h
      obtain ⟨v, e1, r⟩ := S.er i d e
      exact ⟨v, e1, h γ H (Ext.refl _ _) S.rel v r⟩
theorem tE_c {d : D} {v : V} {σ : L2.St} {H : Hp} {Q : VK} (hr : ∀ γ, VR G γ H d v) (h : tE G W (sC d) σ H Q) : Q v H := by
  obtain ⟨γ, A, env, S, h⟩ := h
  exact h γ H (Ext.refl _ _) S.rel v (hr γ)
theorem je_int {i j pos} : JE X G W (.Constant (.int i) j pos) (sC (.int i)) := ⟨PE.imp pe_int fun σ H Q h => tE_c (fun γ => by unfold VR; rfl) h⟩
theorem je_bl {b j pos} : JE X G W (.Constant (.bool b) j pos) (sC (.bl b)) := ⟨PE.imp pe_bl fun σ H Q h => tE_c (fun γ => by unfold VR; rfl) h⟩
theorem je_non {j pos} : JE X G W (.Constant .none j pos) (sC .non) := ⟨PE.imp pe_non fun σ H Q h => tE_c (fun γ => by unfold VR; rfl) h⟩
theorem je_str {x j pos} (y : Str) (h : x = y) : JE X G W (.Constant (.str x) j pos) (sC (.str y)) := by
  subst h
  exact ⟨PE.imp pe_str fun σ H Q h => tE_c (fun γ => by unfold VR; rfl) h⟩
/-- a module's constant: an int, a text -/
theorem je_globI {x : Str} {i : Int} {t : Tok} {pos : Pos} (hg : Gl X x) (hd : (x == ("__debug__" : Str)) = false) (hm : X.mg x = some (.int i t)) : JE X G W (.Name x pos) (sC (.int i)) :=
  ⟨PE.imp (pe_glob (v := .int i) hg hm ⟨t, rfl⟩ hd) fun σ H Q h => tE_c (fun γ => by unfold VR; rfl) h⟩
theorem je_globS {x : Str} {y : Str} {t : Tok} {pos : Pos} (hg : Gl X x) (hd : (x == ("__debug__" : Str)) = false) (hm : X.mg x = some (.str y t)) : JE X G W (.Name x pos) (sC (.str y)) :=
  ⟨PE.imp (pe_glob (v := .str y) hg hm ⟨t, rfl⟩ hd) fun σ H Q h => tE_c (fun γ => by unfold VR; rfl) h⟩
/-! ### two values -/
def sBin (g : D → D → AH → Res D) (fa fb : Ev → AH → Res D) : Ev → AH → Res D := fun env A => (fa env A).bind fun x A1 => (fb env A1).bind fun y A2 => g x y A2
def sUn (g : D → AH → Res D) (fa : Ev → AH → Res D) : Ev → AH → Res D := fun env A => (fa env A).bind fun x A1 => g x A1
/-- a reading of values by g -/
def OkV2 (G : Gc) (r : R2) (g : D → D → AH → Res D) : Prop := ∀ (γ : Gh) (A : AH) (H : Hp) (a b : D) (x y : V) (Q : VK) (Wx : WXe), Rel G γ A H → VR G γ H a x → VR G γ H b y → Post G γ H (g a b A) (fun γ' _ H' d => ∀ v, VR G γ' H' d v → Q v H') Wx → r x y H Q
theorem tOp_of {r : R2} {g : D → D → AH → Res D} {fa fb : Ev → AH → Res D} (hv : OkV2 G r g) {σ : L2.St} {H : Hp} {Q : VK} (h : tE G W (sBin g fa fb) σ H Q) : tOp r (tE G W fa) (tE G W fb) σ H Q := by
  obtain ⟨γ, A, env, S, h⟩ := h
  refine ⟨γ, A, env, S, Post.bind h fun x A1 γ1 H1 e1 R1 h1 v r1 => ?_⟩
  refine ⟨γ1, A1, env, S.to e1 R1, Post.bind h1 fun y A2 γ2 H2 e2 R2 h2 u r2 => ?_⟩
  exact hv γ2 A2 H2 x y v u Q _ R2 (VR.ext e2 _ _ r1) r2 h2
theorem je_bin {op : Operator} {a b : Expr} {pos : Pos} {r : R2} {g : D → D → AH → Res D} {fa fb : Ev → AH → Res D} (ho : OpR X (binaryOp op) r) (hv : OkV2 G r g) (ha : JE X G W a fa) (hb : JE X G W b fb) : JE X G W (.BinOp a op b pos) (sBin g fa fb) :=
  ⟨PE.imp (pe_op ho ha.run hb.run) fun σ H Q h => tOp_of hv h⟩
theorem je_cmp {op : CmpOp} {a b : Expr} {pos : Pos} {r : R2} {g : D → D → AH → Res D} {fa fb : Ev → AH → Res D} (ho : OpR X (compareOp op) r) (hv : OkV2 G r g) (hm : behindInMarks op b = false) (ha : JE X G W a fa) (hb : JE X G W b fb) : JE X G W (.Compare a [op] [b] pos) (sBin g fa fb) :=
  ⟨PE.imp (pe_cmpR ho ha.run hb.run hm) fun σ H Q h => tOp_of hv h⟩
/-- a bool's value as a test -/
def sTest (f : Ev → AH → Res D) : Ev → AH → Res Bool := fun env A => (f env A).bind fun d A1 => match d with
  | .bl b => .ok b A1
  | _ => .stuck
theorem tTest_of {t : TE} {f : Ev → AH → Res D} (ht : ∀ σ H Q, tE G W f σ H Q → t σ H Q) {σ : L2.St} {H : Hp} {Q : Bool → Hp → Prop} (h : tB3 G W (sTest f) σ H Q) : t σ H fun x H' => ∃ k, x = .bl k ∧ Q k H' := by
  obtain ⟨γ, A, env, S, h⟩ := h
  refine ht _ _ _ ⟨γ, A, env, S, Post.bind h fun x A1 γ1 H1 e1 R1 h1 v r1 => ?_⟩
  cases x with
  | bl b => unfold VR at r1; exact ⟨b, r1, h1 γ1 H1 (Ext.refl _ _) R1⟩
  | _ => exact h1.elim
theorem jt_cmp {op : CmpOp} {a b : Expr} {pos : Pos} {r : R2} {g : D → D → AH → Res D} {fa fb : Ev → AH → Res D} (ho : OpR X (compareOp op) r) (hv : OkV2 G r g) (hm : behindInMarks op b = false) (ha : JE X G W a fa) (hb : JE X G W b fb) : JT X G W (.Compare a [op] [b] pos) (sTest (sBin g fa fb)) :=
  ⟨PT.imp (pt_cmpR ho ha.run hb.run hm) fun σ H Q h => tTest_of (fun σ H Q h => tOp_of hv h) h⟩
theorem jt_val {e : Expr} {f : Ev → AH → Res D} (h : JE X G W e f) (he : ∀ whole, isTrue e X.env whole = (do let v ← whole; standAt e.pos; holding [v] (truthy v))) : JT X G W e (sTest f) :=
  ⟨PT.imp (pt_val h.run he) fun σ H Q h => tTest_of (fun σ H Q h => h) h⟩
/-- a op b op' c -/
def sChain (g g' : D → D → AH → Res D) (fa fb fc : Ev → AH → Res D) : Ev → AH → Res D := fun env A => (fa env A).bind fun x A1 => (fb env A1).bind fun y A2 => (g x y A2).bind fun z A3 => match z with
  | .bl true => (fc env A3).bind fun w A4 => g' y w A4
  | .bl false => .ok (.bl false) A3
  | _ => .stuck
theorem tChain_of {r r' : R2} {g g' : D → D → AH → Res D} {fa fb fc : Ev → AH → Res D} (hv : OkV2 G r g) (hv' : OkV2 G r' g') {σ : L2.St} {H : Hp} {Q : VK} (h : tE G W (sChain g g' fa fb fc) σ H Q) : tChain r r' (tE G W fa) (tE G W fb) (tE G W fc) σ H Q := by
  obtain ⟨γ, A, env, S, h⟩ := h
  refine ⟨γ, A, env, S, Post.bind h fun x A1 γ1 H1 e1 R1 h1 v r1 => ?_⟩
  refine ⟨γ1, A1, env, S.to e1 R1, Post.bind h1 fun y A2 γ2 H2 e2 R2 h2 u r2 => ?_⟩
  refine hv γ2 A2 H2 x y v u _ _ R2 (VR.ext e2 _ _ r1) r2 (Post.bind h2 fun z A3 γ3 H3 e3 R3 h3 p r3 => ?_)
  cases z with
  | bl b =>
    unfold VR at r3
    refine ⟨b, r3, ?_⟩
    cases b with
    | true =>
      rw [if_pos rfl]
      refine ⟨γ3, A3, env, ((S.to e1 R1).to e2 R2).to e3 R3, Post.bind h3 fun w A4 γ4 H4 e4 R4 h4 q r4 => ?_⟩
      exact hv' γ4 A4 H4 y w u q Q _ R4 (VR.ext (e3.trans e4) _ _ r2) r4 h4
    | false =>
      rw [if_neg Bool.false_ne_true]
      exact h3 γ3 H3 (Ext.refl _ _) R3 _ (by unfold VR; rfl)
  | _ => exact h3.elim
theorem je_chain {op op' : CmpOp} {a b c : Expr} {pos : Pos} {r r' : R2} {g g' : D → D → AH → Res D} {fa fb fc : Ev → AH → Res D} (ho : OpR X (compareOp op) r) (ho' : OpR X (compareOp op') r') (hv : OkV2 G r g) (hv' : OkV2 G r' g') (hm : lastMarks [op, op'] [b, c] = false)
    (ha : JE X G W a fa) (hb : JE X G W b fb) (hc : JE X G W c fc) : JE X G W (.Compare a [op, op'] [b, c] pos) (sChain g g' fa fb fc) :=
  ⟨PE.imp (pe_chain ho ho' ha.run hb.run hc.run hm) fun σ H Q h => tChain_of hv hv' h⟩
theorem jt_chain {op op' : CmpOp} {a b c : Expr} {pos : Pos} {r r' : R2} {g g' : D → D → AH → Res D} {fa fb fc : Ev → AH → Res D} (ho : OpR X (compareOp op) r) (ho' : OpR X (compareOp op') r') (hv : OkV2 G r g) (hv' : OkV2 G r' g') (hm : lastMarks [op, op'] [b, c] = false)
    (ha : JE X G W a fa) (hb : JE X G W b fb) (hc : JE X G W c fc) : JT X G W (.Compare a [op, op'] [b, c] pos) (sTest (sChain g g' fa fb fc)) :=
  ⟨PT.imp (pt_chain ho ho' ha.run hb.run hc.run hm) fun σ H Q h => tTest_of (fun σ H Q h => tChain_of hv hv' h) h⟩
/-! ### and, or, not -/
def sAndT (f g : Ev → AH → Res Bool) : Ev → AH → Res Bool := fun env A => (f env A).bind fun c A1 => match c with
  | true => g env A1
  | false => .ok false A1
def sOrT (f g : Ev → AH → Res Bool) : Ev → AH → Res Bool := fun env A => (f env A).bind fun c A1 => match c with
  | true => .ok true A1
  | false => g env A1
def sNotT (f : Ev → AH → Res Bool) : Ev → AH → Res Bool := fun env A => (f env A).bind fun c A1 => .ok (!c) A1
theorem jt_w {e : Expr} {f : Ev → AH → Res Bool} (h : JW X G W e f) : JT X G W e f := ⟨h.run.pt⟩
theorem jw_and1 {a : Expr} {pos : Pos} {f : Ev → AH → Res Bool} (h : JT X G W a f) : JW X G W (.BoolOp .And [a] pos) f := ⟨pw_and1 h.run⟩
theorem jw_or1 {a : Expr} {pos : Pos} {f : Ev → AH → Res Bool} (h : JT X G W a f) : JW X G W (.BoolOp .Or [a] pos) f := ⟨pw_or1 h.run⟩
theorem jw_and {a b : Expr} {rest : List Expr} {pos : Pos} {f g : Ev → AH → Res Bool} (ha : JT X G W a f) (hb : JW X G W (.BoolOp .And (b :: rest) pos) g) : JW X G W (.BoolOp .And (a :: b :: rest) pos) (sAndT f g) := by
  refine ⟨PW.imp (pw_and ha.run hb.run) fun σ H Q h => ?_⟩
  obtain ⟨γ, A, env, S, h⟩ := h
  refine ⟨γ, A, env, S, Post.bind h fun c A1 γ1 H1 e1 R1 h1 => ?_⟩
  cases c with
  | true => rw [if_pos rfl]; exact ⟨γ1, A1, env, S.to e1 R1, h1⟩
  | false => rw [if_neg Bool.false_ne_true]; exact h1 γ1 H1 (Ext.refl _ _) R1
theorem jw_or {a b : Expr} {rest : List Expr} {pos : Pos} {f g : Ev → AH → Res Bool} (ha : JT X G W a f) (hb : JW X G W (.BoolOp .Or (b :: rest) pos) g) : JW X G W (.BoolOp .Or (a :: b :: rest) pos) (sOrT f g) := by
  refine ⟨PW.imp (pw_or ha.run hb.run) fun σ H Q h => ?_⟩
  obtain ⟨γ, A, env, S, h⟩ := h
  refine ⟨γ, A, env, S, Post.bind h fun c A1 γ1 H1 e1 R1 h1 => ?_⟩
  cases c with
  | true => rw [if_pos rfl]; exact h1 γ1 H1 (Ext.refl _ _) R1
  | false => rw [if_neg Bool.false_ne_true]; exact ⟨γ1, A1, env, S.to e1 R1, h1⟩
theorem jt_not {a : Expr} {pos : Pos} {f : Ev → AH → Res Bool} (ha : JT X G W a f) : JT X G W (.UnaryOp .Not a pos) (sNotT f) := by
  refine ⟨PT.imp (pt_not ha.run) fun σ H Q h => ?_⟩
  obtain ⟨γ, A, env, S, h⟩ := h
  exact ⟨γ, A, env, S, Post.bind h fun c A1 γ1 H1 e1 R1 h1 => h1 γ1 H1 (Ext.refl _ _) R1⟩
/-- .. as values: all but the last a bool -/
def sAndV (f g : Ev → AH → Res D) : Ev → AH → Res D := fun env A => (f env A).bind fun c A1 => match c with
  | .bl true => g env A1
  | .bl false => .ok (.bl false) A1
  | _ => .stuck
def sOrV (f g : Ev → AH → Res D) : Ev → AH → Res D := fun env A => (f env A).bind fun c A1 => match c with
  | .bl true => .ok (.bl true) A1
  | .bl false => g env A1
  | _ => .stuck
def sNotV (f : Ev → AH → Res D) : Ev → AH → Res D := fun env A => (f env A).bind fun c A1 => match c with
  | .bl b => .ok (.bl (!b)) A1
  | _ => .stuck
theorem je_one {op} {a : Expr} {pos : Pos} {f : Ev → AH → Res D} (h : JE X G W a f) : JE X G W (.BoolOp op [a] pos) f := ⟨pe_one h.run⟩
theorem je_and {a b : Expr} {rest : List Expr} {pos : Pos} {f g : Ev → AH → Res D} (ha : JE X G W a f) (hb : JE X G W (.BoolOp .And (b :: rest) pos) g) : JE X G W (.BoolOp .And (a :: b :: rest) pos) (sAndV f g) := by
  refine ⟨PE.imp (pe_and ha.run hb.run) fun σ H Q h => ?_⟩
  obtain ⟨γ, A, env, S, h⟩ := h
  refine ⟨γ, A, env, S, Post.bind h fun c A1 γ1 H1 e1 R1 h1 v r1 => ?_⟩
  cases c with
  | bl b =>
    unfold VR at r1
    refine ⟨b, r1, ?_⟩
    cases b with
    | true => rw [if_pos rfl]; exact ⟨γ1, A1, env, S.to e1 R1, h1⟩
    | false => rw [if_neg Bool.false_ne_true]; exact h1 γ1 H1 (Ext.refl _ _) R1 _ (by unfold VR; rfl)
  | _ => exact h1.elim
theorem je_or {a b : Expr} {rest : List Expr} {pos : Pos} {f g : Ev → AH → Res D} (ha : JE X G W a f) (hb : JE X G W (.BoolOp .Or (b :: rest) pos) g) : JE X G W (.BoolOp .Or (a :: b :: rest) pos) (sOrV f g) := by
  refine ⟨PE.imp (pe_or ha.run hb.run) fun σ H Q h => ?_⟩
  obtain ⟨γ, A, env, S, h⟩ := h
  refine ⟨γ, A, env, S, Post.bind h fun c A1 γ1 H1 e1 R1 h1 v r1 => ?_⟩
  cases c with
  | bl b =>
    unfold VR at r1
    refine ⟨b, r1, ?_⟩
    cases b with
    | false => rw [if_neg Bool.false_ne_true]; exact ⟨γ1, A1, env, S.to e1 R1, h1⟩
    | true => rw [if_pos rfl]; exact h1 γ1 H1 (Ext.refl _ _) R1 _ (by unfold VR; rfl)
  | _ => exact h1.elim
theorem je_not {a : Expr} {pos : Pos} {f : Ev → AH → Res D} (ha : JE X G W a f) : JE X G W (.UnaryOp .Not a pos) (sNotV f) := by
  refine ⟨PE.imp (pe_not ha.run) fun σ H Q h => ?_⟩
  obtain ⟨γ, A, env, S, h⟩ := h
  refine ⟨γ, A, env, S, Post.bind h fun c A1 γ1 H1 e1 R1 h1 v r1 => ?_⟩
  cases c with
  | bl b =>
    unfold VR at r1
    exact ⟨b, r1, h1 γ1 H1 (Ext.refl _ _) R1 _ (by unfold VR; rfl)⟩
  | _ => exact h1.elim
def sIf (c : Ev → AH → Res Bool) (f g : Ev → AH → Res D) : Ev → AH → Res D := fun env A => (c env A).bind fun b A1 => match b with
  | true => f env A1
  | false => g env A1
theorem je_if {c a b : Expr} {pos : Pos} {fc : Ev → AH → Res Bool} {f g : Ev → AH → Res D} (hc : JT X G W c fc) (ha : JE X G W a f) (hb : JE X G W b g) : JE X G W (.IfExp c a b pos) (sIf fc f g) := by
  refine ⟨PE.imp (pe_ifExp hc.run ha.run hb.run) fun σ H Q h => ?_⟩
  obtain ⟨γ, A, env, S, h⟩ := h
  refine ⟨γ, A, env, S, Post.bind h fun c A1 γ1 H1 e1 R1 h1 => ?_⟩
  cases c with
  | true => rw [if_pos rfl]; exact ⟨γ1, A1, env, S.to e1 R1, h1⟩
  | false => rw [if_neg Bool.false_ne_true]; exact ⟨γ1, A1, env, S.to e1 R1, h1⟩
/-! ### lists of arguments -/
def sNil : Ev → AH → Res (List D) := fun _ A => .ok [] A
def sCons (f : Ev → AH → Res D) (g : Ev → AH → Res (List D)) : Ev → AH → Res (List D) := fun env A => (f env A).bind fun d A1 => (g env A1).bind fun ds A2 => .ok (d :: ds) A2
/-- a list as it stands, a tuple -/
def asL (A : AH) : D → Option (List D)
  | .tup ds => some ds
  | .lst ds => some ds
  | .scr ds => some ds
  | .ref i => match A[i]? with
    | some (.lst ds) => some ds
    | _ => none
  | _ => none
def sStar (f : Ev → AH → Res D) (g : Ev → AH → Res (List D)) : Ev → AH → Res (List D) := fun env A => (f env A).bind fun d A1 => match asL A1 d with
  | some xs => (g env A1).bind fun ds A2 => .ok (xs ++ ds) A2
  | none => .stuck
theorem asL_at {γ : Gh} {A : AH} {H : Hp} {d : D} {v : V} {ds : List D} (R : Rel G γ A H) (h : VR G γ H d v) (e : asL A d = some ds) : ∃ a vs, v = .ref a ∧ VRs G γ H ds vs ∧ (SqL G.K H a vs ∨ SqT G.K H a vs) := by
  cases d with
  | tup xs => unfold VR at h; obtain ⟨a, vs, e1, f, r⟩ := h; cases e; exact ⟨a, vs, e1, r, .inr f.sq⟩
  | lst xs => unfold VR at h; obtain ⟨a, vs, e1, f, n, r⟩ := h; cases e; exact ⟨a, vs, e1, r, .inl (SqL.of f)⟩
  | scr xs => unfold VR at h; obtain ⟨a, vs, e1, f, r⟩ := h; cases e; exact ⟨a, vs, e1, r, .inl f.sq⟩
  | ref i =>
    unfold VR at h
    obtain ⟨a, e1, e2⟩ := h
    unfold asL at e
    simp only at e
    split at e
    · rename_i xs q
      cases e
      obtain ⟨a', h1, h2, vs, h3, h4⟩ := R.at_ i _ q
      rw [e2] at h1; cases h1
      exact ⟨a, vs, e1, h4, .inl (SqL.of h3)⟩
    · cases e
  | _ => cases e
/-- a list as it stands -/
def asQ (A : AH) : D → Option (List D)
  | .lst ds => some ds
  | .scr ds => some ds
  | .ref i => match A[i]? with
    | some (.lst ds) => some ds
    | _ => none
  | _ => none
theorem asQ_at {γ : Gh} {A : AH} {H : Hp} {d : D} {v : V} {ds : List D} (R : Rel G γ A H) (h : VR G γ H d v) (e : asQ A d = some ds) : ∃ a vs, v = .ref a ∧ VRs G γ H ds vs ∧ SqL G.K H a vs := by
  cases d with
  | lst xs => unfold VR at h; obtain ⟨a, vs, e1, f, n, r⟩ := h; cases e; exact ⟨a, vs, e1, r, SqL.of f⟩
  | scr xs => unfold VR at h; obtain ⟨a, vs, e1, f, r⟩ := h; cases e; exact ⟨a, vs, e1, r, f.sq⟩
  | ref i =>
    unfold VR at h
    obtain ⟨a, e1, e2⟩ := h
    unfold asQ at e
    simp only at e
    split at e
    · rename_i xs q
      cases e
      obtain ⟨a', h1, h2, vs, h3, h4⟩ := R.at_ i _ q
      rw [e2] at h1; cases h1
      exact ⟨a, vs, e1, h4, SqL.of h3⟩
    · cases e
  | _ => cases e
theorem ja_nil : JA X G W [] sNil := by
  refine ⟨PA.imp pa_nil fun σ H Q h => ?_⟩
  obtain ⟨γ, A, env, S, h⟩ := h
  exact h γ H (Ext.refl _ _) S.rel [] VRs.nil
theorem ja_cons {e : Expr} {es : List Expr} {f : Ev → AH → Res D} {g : Ev → AH → Res (List D)} (ha : JE X G W e f) (hb : JA X G W es g) (hs : starEach (e :: es) X.env = (false, eval e X.env) :: starEach es X.env := by rfl) : JA X G W (e :: es) (sCons f g) := by
  refine ⟨PA.imp (pa_cons ha.run hb.run hs) fun σ H Q h => ?_⟩
  obtain ⟨γ, A, env, S, h⟩ := h
  refine ⟨γ, A, env, S, Post.bind h fun c A1 γ1 H1 e1 R1 h1 v r1 => ?_⟩
  refine ⟨γ1, A1, env, S.to e1 R1, Post.bind h1 fun y A2 γ2 H2 e2 R2 h2 vs r2 => ?_⟩
  exact h2 γ2 H2 (Ext.refl _ _) R2 _ (VRs.cons (VR.ext e2 _ _ r1) r2)
theorem ja_star (o : XO X G W k) {e : Expr} {p : Pos} {es : List Expr} {f : Ev → AH → Res D} {g : Ev → AH → Res (List D)} (ha : JE X G W e f) (hb : JA X G W es g) (hs : starEach (.Starred e p :: es) X.env = (true, eval e X.env) :: starEach es X.env := by rfl) : JA X G W (.Starred e p :: es) (sStar f g) := by
  refine ⟨PA.imp (StX.pa_star ha.run hb.run hs) fun σ H Q h => ?_⟩
  obtain ⟨γ, A, env, S, h⟩ := h
  refine ⟨γ, A, env, S, Post.bind h fun c A1 γ1 H1 e1 R1 h1 v r1 => ?_⟩
  cases q : asL A1 c with
  | none => rw [q] at h1; exact h1.elim
  | some xs =>
    rw [q] at h1
    obtain ⟨a, vs, e2, r2, hq⟩ := asL_at R1 r1 q
    rw [← o.gk]
    refine ⟨a, vs, e2, hq.symm, γ1, A1, env, S.to e1 R1, Post.bind h1 fun y A2 γ2 H2 e2 R2 h2 ws r3 => ?_⟩
    exact h2 γ2 H2 (Ext.refl _ _) R2 _ ((VRs.ext e2 _ _ r2).append r3)
/-! ### displays -/
theorem Post.new {α : Type} {γ : Gh} {A : AH} {H : Hp} {Q : Gh → AH → Hp → α → Prop} {Wx : WXe} {d : α} {p : Addr} {ob : HO} (R : Rel G γ A H) (hp : H p = none) (h : Post G γ H (.ok d A) Q Wx) : Q γ A (upd H p ob) d :=
  h γ _ (Ext.laid hp) (R.laid hp)
def sTup (f : Ev → AH → Res (List D)) : Ev → AH → Res D := fun env A => (f env A).bind fun ds A1 => if ds.length ≤ sizeLine then .ok (.tup ds) A1 else .stuck
def sLst (f : Ev → AH → Res (List D)) : Ev → AH → Res D := fun env A => (f env A).bind fun ds A1 => if ds.length ≤ sizeLine then .ok (.lst ds) A1 else .stuck
/-- a list that is changed later -/
def sLstM (f : Ev → AH → Res (List D)) : Ev → AH → Res D := fun env A => (f env A).bind fun ds A1 => if ds.length ≤ sizeLine then .ok (.ref A1.length) (A1 ++ [.lst ds]) else .stuck
theorem VR.newT {γ : Gh} {A : AH} {H : Hp} {p : Addr} {ds : List D} {vs : List V} (R : Rel G γ A H) (hp : H p = none) (r : VRs G γ H ds vs) : VR G γ (upd H p (.tup vs)) (.tup ds) (.ref p) := by
  unfold VR
  exact ⟨p, vs, rfl, ⟨upd_same, R.o_none hp⟩, VRs.ext (Ext.laid hp) _ _ r⟩
theorem VR.newL {γ : Gh} {A : AH} {H : Hp} {p : Addr} {ds : List D} {vs : List V} (R : Rel G γ A H) (hp : H p = none) (r : VRs G γ H ds vs) : VR G γ (upd H p (.lst vs)) (.lst ds) (.ref p) := by
  unfold VR
  exact ⟨p, vs, rfl, upd_same, R.o_none hp, VRs.ext (Ext.laid hp) _ _ r⟩
theorem je_tup {es : List Expr} {x1} {pos : Pos} {f : Ev → AH → Res (List D)} (h : JA X G W es f) : JE X G W (.Tuple es x1 pos) (sTup f) := by
  refine ⟨PE.imp (pe_tup h.run) fun σ H Q h => ?_⟩
  obtain ⟨γ, A, env, S, h⟩ := h
  refine ⟨γ, A, env, S, Post.bind h fun ds A1 γ1 H1 e1 R1 h1 vs r1 => ?_⟩
  split at h1
  · rename_i hz
    exact ⟨by rw [← r1.length]; exact hz, fun p hp => Post.new (ob := .tup vs) R1 hp h1 _ (VR.newT R1 hp r1)⟩
  · exact h1.elim
theorem je_lst {es : List Expr} {pos : Pos} {f : Ev → AH → Res (List D)} (h : JA X G W es f) : JE X G W (.List es pos) (sLst f) := by
  refine ⟨PE.imp (pe_lst h.run) fun σ H Q h => ?_⟩
  obtain ⟨γ, A, env, S, h⟩ := h
  refine ⟨γ, A, env, S, Post.bind h fun ds A1 γ1 H1 e1 R1 h1 vs r1 => ?_⟩
  split at h1
  · rename_i hz
    exact ⟨by rw [← r1.length]; exact hz, fun p hp => Post.new (ob := .lst vs) R1 hp h1 _ (VR.newL R1 hp r1)⟩
  · exact h1.elim
/-- [..], changed later -/
theorem je_lstM {es : List Expr} {pos : Pos} {f : Ev → AH → Res (List D)} (h : JA X G W es f) : JE X G W (.List es pos) (sLstM f) := by
  refine ⟨PE.imp (pe_lst h.run) fun σ H Q h => ?_⟩
  obtain ⟨γ, A, env, S, h⟩ := h
  refine ⟨γ, A, env, S, Post.bind h fun ds A1 γ1 H1 e1 R1 h1 vs r1 => ?_⟩
  split at h1
  · rename_i hz
    refine ⟨by rw [← r1.length]; exact hz, fun p hp => ?_⟩
    have E : Ext γ1 H1 (γ1.more A1.length p) (upd H1 p (.lst vs)) := Ext.more hp
    refine h1 _ _ E (R1.more hp ⟨vs, upd_same, VRs.ext E _ _ r1⟩) _ ?_
    unfold VR
    refine ⟨p, rfl, ?_⟩
    show (γ1.ρ ++ [p])[A1.length]? = some p
    rw [← R1.len]; simp
  · exact h1.elim
end
end F3
namespace F3
open PySem PySem.Spec
open PyProof.Rows L2
/-- what a statement ends with -/
inductive SR where
  | nx (env : Ev) (A : AH) | rt (d : D) (A : AH) | bk (env : Ev) (A : AH) | ct (env : Ev) (A : AH) | ex (x : Xn) (env : Ev) (A : AH) | stuck
def PostS (G : Gc) (γ : Gh) (H : Hp) (r : SR) (E : Ends) (W : WX) : Prop :=
  match r with
  | .nx env A' => ∀ γ' H' σ', Ext γ H γ' H' → St3 G γ' A' env H' σ' → E.nx σ' H'
  | .rt d A' => ∀ γ' H' v, Ext γ H γ' H' → Rel G γ' A' H' → VR G γ' H' d v → E.rt v H'
  | .bk env A' => ∀ γ' H' σ', Ext γ H γ' H' → St3 G γ' A' env H' σ' → E.bk σ' H'
  | .ct env A' => ∀ γ' H' σ', Ext γ H γ' H' → St3 G γ' A' env H' σ' → E.ct σ' H'
  | .ex x env A' => ∀ γ' H' σ' cls ad, Ext γ H γ' H' → St3 G γ' A' env H' σ' → XR G γ' H' x cls ad → W cls ad σ' H'
  | .stuck => False
theorem PostS.ext {G : Gc} {γ γ' : Gh} {H H' : Hp} {r : SR} {E : Ends} {W : WX} (e : Ext γ H γ' H') (h : PostS G γ H r E W) : PostS G γ' H' r E W := by
  cases r with
  | nx env A => exact fun γ2 H2 σ e2 S => h γ2 H2 σ (e.trans e2) S
  | rt d A => exact fun γ2 H2 v e2 R r => h γ2 H2 v (e.trans e2) R r
  | bk env A => exact fun γ2 H2 σ e2 S => h γ2 H2 σ (e.trans e2) S
  | ct env A => exact fun γ2 H2 σ e2 S => h γ2 H2 σ (e.trans e2) S
  | ex x env A => exact fun γ2 H2 σ c a e2 S => h γ2 H2 σ c a (e.trans e2) S
  | stuck => exact h
/-- a value's run within a statement -/
def lft {α : Type} (r : Res α) (env : Ev) (k : α → AH → SR) : SR :=
  match r with
  | .ok a A => k a A
  | .ex x A => .ex x env A
  | .stuck => .stuck
theorem PostS.lft {α : Type} {G : Gc} {γ : Gh} {H : Hp} {A : AH} {env : Ev} {σ : L2.St} {r : Res α} {k : α → AH → SR} {E : Ends} {W : WX} {R : Gh → AH → Hp → α → Prop} (S : St3 G γ A env H σ) (h : PostS G γ H (lft r env k) E W)
    (hk : ∀ d A1 γ1 H1, Ext γ H γ1 H1 → Rel G γ1 A1 H1 → PostS G γ1 H1 (k d A1) E W → R γ1 A1 H1 d) : Post G γ H r R (fun c a H' => W c a σ H') := by
  cases r with
  | ok d A1 => exact fun γ1 H1 e R1 => hk d A1 γ1 H1 e R1 (PostS.ext e h)
  | ex x A1 => exact fun γ1 H1 c a e R1 xr => h γ1 H1 σ c a e (S.to e R1) xr
  | stuck => exact h
def tS3 (G : Gc) (W : WX) (g : Ev → AH → SR) : TS := fun E σ H => ∃ γ A env, St3 G γ A env H σ ∧ PostS G γ H (g env A) E W
structure JS (X : Cx) (G : Gc) (W : WX) (st : Stmt) (g : Ev → AH → SR) : Prop where
  run : PS X st (tS3 G W g)
structure JB (X : Cx) (G : Gc) (W : WX) (st : List Stmt) (g : Ev → AH → SR) : Prop where
  run : PSs X st (tS3 G W g)
section
variable {X : Cx} {G : Gc} {W : WX} {k : Nat}
def bNil : Ev → AH → SR := fun env A => .nx env A
def bSeq (f g : Ev → AH → SR) : Ev → AH → SR := fun env A => match f env A with
  | .nx env1 A1 => g env1 A1
  | r => r
theorem jb_nil : JB X G W [] bNil := by
  refine ⟨PSs.imp pss_nil fun E σ H h => ?_⟩
  obtain ⟨γ, A, env, S, h⟩ := h
  exact h γ H σ (Ext.refl _ _) S
theorem tSeq_of {f g : Ev → AH → SR} {E : Ends} {σ : L2.St} {H : Hp} (h : tS3 G W (bSeq f g) E σ H) : tSeq (tS3 G W f) (tS3 G W g) E σ H := by
  obtain ⟨γ, A, env, S, h⟩ := h
  refine ⟨γ, A, env, S, ?_⟩
  unfold bSeq at h
  cases q : f env A with
  | nx env1 A1 =>
    rw [q] at h
    exact fun γ1 H1 σ1 e1 S1 => ⟨γ1, A1, env1, S1, PostS.ext e1 h⟩
  | _ => rw [q] at h; exact h
theorem jb_cons {st : Stmt} {rest : List Stmt} {f g : Ev → AH → SR} (h1 : JS X G W st f) (h2 : JB X G W rest g) : JB X G W (st :: rest) (bSeq f g) := ⟨PSs.imp (pss_cons h1.run h2.run) fun E σ H h => tSeq_of h⟩
theorem jb_one {st : Stmt} {f : Ev → AH → SR} (h1 : JS X G W st f) : JB X G W [st] f := ⟨pss_one h1.run⟩
theorem js_pass {pos : Pos} : JS X G W (.Pass pos) bNil := by
  refine ⟨PS.imp ps_pass fun E σ H h => ?_⟩
  obtain ⟨γ, A, env, S, h⟩ := h
  exact h γ H σ (Ext.refl _ _) S
/-- what is never reached -/
def bStuck : Ev → AH → SR := fun _ _ => .stuck
theorem js_never {st : Stmt} : JS X G W st bStuck := by
  refine ⟨PS.imp ps_never fun E σ H h => ?_⟩
  obtain ⟨γ, A, env, S, h⟩ := h
  exact h
def bRet (f : Ev → AH → Res D) : Ev → AH → SR := fun env A => lft (f env A) env fun d A1 => .rt d A1
theorem js_ret {e : Expr} {pos : Pos} {f : Ev → AH → Res D} (h : JE X G W e f) : JS X G W (.Return (some e) pos) (bRet f) := by
  refine ⟨PS.imp (ps_ret h.run) fun E σ H h => ?_⟩
  obtain ⟨γ, A, env, S, h⟩ := h
  exact ⟨γ, A, env, S, PostS.lft S h fun d A1 γ1 H1 e R h1 v r => h1 γ1 H1 v (Ext.refl _ _) R r⟩
def bExpr (f : Ev → AH → Res D) : Ev → AH → SR := fun env A => lft (f env A) env fun _ A1 => .nx env A1
theorem js_expr {e : Expr} {pos : Pos} {f : Ev → AH → Res D} (h : JE X G W e f) (hs : swapsWith e none pos.line X.env = pure false := by rfl) : JS X G W (.Expr e pos) (bExpr f) := by
  refine ⟨PS.imp (ps_expr h.run hs) fun E σ H h => ?_⟩
  obtain ⟨γ, A, env, S, h⟩ := h
  exact ⟨γ, A, env, S, PostS.lft S h fun d A1 γ1 H1 e R h1 v r => h1 γ1 H1 σ (Ext.refl _ _) (S.to e R)⟩
def bIf (c : Ev → AH → Res Bool) (f g : Ev → AH → SR) : Ev → AH → SR := fun env A => lft (c env A) env fun b A1 => match b with
  | true => f env A1
  | false => g env A1
theorem js_if {c : Expr} {a b : List Stmt} {pos : Pos} {fc : Ev → AH → Res Bool} {f g : Ev → AH → SR} (hc : JT X G W c fc) (ha : JB X G W a f) (hb : JB X G W b g) : JS X G W (.If c a b pos) (bIf fc f g) := by
  refine ⟨PS.imp (ps_if hc.run ha.run hb.run) fun E σ H h => ?_⟩
  obtain ⟨γ, A, env, S, h⟩ := h
  refine ⟨γ, A, env, S, PostS.lft S h fun d A1 γ1 H1 e R h1 => ?_⟩
  cases d with
  | true => rw [if_pos rfl]; exact ⟨γ1, A1, env, S.to e R, h1⟩
  | false => rw [if_neg Bool.false_ne_true]; exact ⟨γ1, A1, env, S.to e R, h1⟩
/-! ### targets -/
/-- st: the names stored; js: their places -/
structure JG (X : Cx) (G : Gc) (tg : Expr) (js : List Nat) (st : Ev → D → Option Ev) : Prop where
  run : PG X tg (fun v σ H Q => ∃ γ A env d env', St3 G γ A env H σ ∧ VR G γ H d v ∧ st env d = some env' ∧ ∀ σ', St3 G γ A env' H σ' → σ'.length = σ.length → (∀ j, j ∉ js → σ'[j]? = σ[j]?) → Q σ' H)
structure JGs (X : Cx) (G : Gc) (tgs : List Expr) (js : List Nat) (st : Ev → List D → Option Ev) : Prop where
  run : PGs X tgs (fun vs σ H Q => ∃ γ A env ds env', St3 G γ A env H σ ∧ VRs G γ H ds vs ∧ st env ds = some env' ∧ ∀ σ', St3 G γ A env' H σ' → σ'.length = σ.length → (∀ j, j ∉ js → σ'[j]? = σ[j]?) → Q σ' H)
theorem PG.imp {X : Cx} {e : Expr} {t t' : TG} (h : PG X e t) (q : ∀ v σ H Q, t' v σ H Q → t v σ H Q) : PG X e t' := ⟨fun pins s σ H v u Q I r z => h.run pins s σ H v u Q I r (q v σ H Q z)⟩
theorem PGs.imp {X : Cx} {e : List Expr} {t t' : TGs} (h : PGs X e t) (q : ∀ v σ H Q, t' v σ H Q → t v σ H Q) : PGs X e t' := ⟨fun pins s σ H v u Q I r z => h.run pins s σ H v u Q I r (q v σ H Q z)⟩
def gNm (i : Nat) : Ev → D → Option Ev := fun env d => some (env.set i (some d))
def gEnd : Ev → List D → Option Ev := fun env ds => match ds with
  | [] => some env
  | _ => none
def gMore (g : Ev → D → Option Ev) (gs : Ev → List D → Option Ev) : Ev → List D → Option Ev := fun env ds => match ds with
  | d :: r => (g env d).bind fun env1 => gs env1 r
  | [] => none
def gTp (gs : Ev → List D → Option Ev) : Ev → D → Option Ev := fun env d => match d with
  | .tup ds => gs env ds
  | _ => none
theorem jg_name {x : Str} {pos : Pos} (i : Nat) (hN : X.N.Nodup) (hi : X.N[i]? = some x) (hx : Loc X.env.scope x) (hf : X.fn x = true ∨ X.env.scope.names.lookup x = some .local) : JG X G (.Name x pos) [i] (gNm i) := by
  refine ⟨PG.imp (pg_name hN hi hx hf) fun v σ H Q h => ?_⟩
  obtain ⟨γ, A, env, d, env', S, r, e, h⟩ := h
  cases e
  exact h _ ⟨S.rel, by simp [S.len], S.er.set S.len r⟩ (by simp) fun j hj => List.getElem?_set_ne (fun z => hj (by simp [z]))
theorem jgs_nil : JGs X G [] [] gEnd := by
  refine ⟨PGs.imp pgs_nil fun vs σ H Q h => ?_⟩
  obtain ⟨γ, A, env, ds, env', S, r, e, h⟩ := h
  cases ds with
  | nil =>
    cases e
    unfold VRs at r
    exact ⟨r, h σ S rfl fun _ _ => rfl⟩
  | cons d ds => cases e
theorem jgs_cons {e : Expr} {es : List Expr} {js ks : List Nat} {g : Ev → D → Option Ev} {gs : Ev → List D → Option Ev} (h1 : JG X G e js g) (h2 : JGs X G es ks gs) (hs : (assignEach (e :: es) X.env).map (·.2) = assign e X.env :: (assignEach es X.env).map (·.2) := by rfl) :
    JGs X G (e :: es) (js ++ ks) (gMore g gs) := by
  refine ⟨PGs.imp (pgs_cons h1.run h2.run hs) fun vs σ H Q h => ?_⟩
  obtain ⟨γ, A, env, ds, env', S, r, e, h⟩ := h
  cases ds with
  | nil => cases e
  | cons d ds =>
    unfold VRs at r
    obtain ⟨v, rs, rfl, r1, r2⟩ := r
    obtain ⟨env1, e1, e2⟩ := Option.bind_eq_some_iff.mp (show (g env d).bind _ = some env' from e)
    refine ⟨v, rs, rfl, γ, A, env, d, env1, S, r1, e1, fun σ1 S1 l1 k1 => ?_⟩
    refine ⟨γ, A, env1, ds, env', S1, r2, e2, fun σ2 S2 l2 k2 => h σ2 S2 (l2.trans l1) fun j hj => ?_⟩
    rw [List.mem_append, not_or] at hj
    exact (k2 j hj.2).trans (k1 j hj.1)
theorem jg_tup (hc : X.calm = true) (hk : G.K = X.K) {es : List Expr} {kk : Nat} {pos : Pos} {js : List Nat} {gs : Ev → List D → Option Ev} (n : Nat) (h : JGs X G es js gs) (hg : ∀ env ds env', gs env ds = some env' → ds.length = n)
    (hn : (assignEach es X.env).length = n := by rfl) (hst : (assignEach es X.env).findIdx? (·.1) = none := by rfl) : JG X G (.Tuple es kk pos) js (gTp gs) := by
  refine ⟨PG.imp (pg_tup hc h.run hn hst) fun v σ H Q h => ?_⟩
  obtain ⟨γ, A, env, d, env', S, r, e, h⟩ := h
  cases d with
  | tup ds =>
    unfold VR at r
    obtain ⟨a, vs, e1, f, r⟩ := r
    have e : gs env ds = some env' := e
    exact ⟨a, vs, e1, hk ▸ f.sq, by rw [← r.length]; exact hg _ _ _ e, γ, A, env, ds, env', S, r, e, h⟩
  | _ => cases e
theorem gEnd_len : ∀ env ds env', gEnd env ds = some env' → ds.length = 0 := fun env ds env' e => by
  cases ds with
  | nil => rfl
  | cons _ _ => cases e
theorem gMore_len {n : Nat} {g : Ev → D → Option Ev} {gs : Ev → List D → Option Ev} (h : ∀ env ds env', gs env ds = some env' → ds.length = n) : ∀ env ds env', gMore g gs env ds = some env' → ds.length = n + 1 := fun env ds env' e => by
  cases ds with
  | nil => cases e
  | cons d ds =>
    obtain ⟨env1, e1, e2⟩ := Option.bind_eq_some_iff.mp (show (g env d).bind _ = some env' from e)
    rw [List.length_cons, h _ _ _ e2]
/-- name = e; a, b = e -/
def bSet (st : Ev → D → Option Ev) (f : Ev → AH → Res D) : Ev → AH → SR := fun env A => lft (f env A) env fun d A1 => match st env d with
  | some env1 => .nx env1 A1
  | none => .stuck
theorem js_asg {tg e : Expr} {pos : Pos} {js : List Nat} {st : Ev → D → Option Ev} {f : Ev → AH → Res D} (he : JE X G W e f) (hg : JG X G tg js st) (hs : swapsWithSole [tg] e pos.line X.env = pure false := by rfl) (hw : swappedStores [tg] e X.env = pure none := by rfl)
    (h1 : (assignEach [tg] X.env).map (·.2) = [assign tg X.env] := by rfl) : JS X G W (.Assign [tg] e pos) (bSet st f) := by
  refine ⟨PS.imp (ps_asg he.run hg.run hs hw h1) fun E σ H h => ?_⟩
  obtain ⟨γ, A, env, S, h⟩ := h
  refine ⟨γ, A, env, S, PostS.lft S h fun d A1 γ1 H1 e1 R1 h1 v r1 => ?_⟩
  cases q : st env d with
  | none => rw [q] at h1; exact h1.elim
  | some env1 =>
    rw [q] at h1
    exact ⟨γ1, A1, env, d, env1, S.to e1 R1, r1, q, fun σ1 S1 _ _ => h1 γ1 H1 σ1 (Ext.refl _ _) S1⟩
/-- a, b = x, y with two local names -/
def bPar (i j : Nat) (f : Ev → AH → Res (List D)) : Ev → AH → SR := fun env A => lft (f env A) env fun ds A1 => match ds with
  | [x, y] => .nx ((env.set i (some x)).set j (some y)) A1
  | _ => .stuck
theorem js_par (o : XO X G W k) {i j : Nat} {x y : Str} {a b : Expr} {f : Ev → AH → Res (List D)} {px py pt : Pos} {kt k2 pt2} {pos : Pos} (hN : X.N.Nodup) (hi : X.N[i]? = some x) (hj : X.N[j]? = some y) (hij : i ≠ j)
    (hx : X.env.scope.names.lookup x = some .local) (hy : X.env.scope.names.lookup y = some .local) (ha : JA X G W [a, b] f)
    (hw : swappedStores [.Tuple [.Name x px, .Name y py] kt pt] (.Tuple [a, b] k2 pt2) X.env = pure (some [x, y]))
    (hs : swapsWithSole [.Tuple [.Name x px, .Name y py] kt pt] (.Tuple [a, b] k2 pt2) pos.line X.env = pure false := by rfl) :
    JS X G W (.Assign [.Tuple [.Name x px, .Name y py] kt pt] (.Tuple [a, b] k2 pt2) pos) (bPar i j f) := by
  refine ⟨PS.imp (ps_par o.calm hN hi hj hij hx hy ha.run hw hs) fun E σ H h => ?_⟩
  obtain ⟨γ, A, env, S, h⟩ := h
  refine ⟨γ, A, env, S, PostS.lft S h fun d A1 γ1 H1 e1 R1 h1 vs r1 => ?_⟩
  match d, h1, r1 with
  | [x, y], h1, r1 =>
    unfold VRs at r1
    obtain ⟨v, rs, rfl, q1, r2⟩ := r1
    unfold VRs at r2
    obtain ⟨u, rs, rfl, q2, r3⟩ := r2
    unfold VRs at r3
    subst r3
    have S1 := S.to e1 R1
    exact ⟨v, u, rfl, h1 γ1 H1 _ (Ext.refl _ _) ⟨R1, by simp [S.len], (S1.er.set S1.len q1).set (by simp [S.len]) q2⟩⟩
  | [], h1, _ => exact h1.elim
  | [_], h1, _ => exact h1.elim
  | _ :: _ :: _ :: _, h1, _ => exact h1.elim
/-! ### what is walked -/
def Yl (G : Gc) (γ0 : Gh) (H0 : Hp) (J : It) (ds : List D) : Prop := ∀ (i : Nat) (γ : Gh) (H : Hp) (A : AH), Ext0 γ0 H0 γ H → Rel G γ A H →
  (∀ d, ds[i]? = some d → J.go i H ∧ ∀ x H', J.yld i H x H' → Ext γ H γ H' ∧ Rel G γ A H' ∧ VR G γ H' d x) ∧ (ds.length ≤ i → J.stop i H)
structure JI (X : Cx) (G : Gc) (W : WX) (tg iter : Expr) (f : Ev → AH → Res (List D)) : Prop where
  run : PI X tg iter (fun σ H R => ∃ γ A env, St3 G γ A env H σ ∧ Post G γ H (f env A) (fun γ' _ H' ds => ∀ J, Yl G γ' H' J ds → R J H') (fun c a H' => W c a σ H'))
theorem PI.imp {X : Cx} {tg e : Expr} {t t' : TI} (h : PI X tg e t) (q : ∀ σ H R, t' σ H R → t σ H R) : PI X tg e t' := ⟨fun pins s σ H R I z => h.run pins s σ H R I (q σ H R z)⟩
/-! ### for -/
def forL (st : Ev → D → Option Ev) (body : Ev → AH → SR) : List D → Ev → AH → SR
  | [], env, A => .nx env A
  | d :: ds, env, A => match st env d with
    | none => .stuck
    | some env1 => match body env1 A with
      | .nx env2 A2 => forL st body ds env2 A2
      | .ct env2 A2 => forL st body ds env2 A2
      | .bk env2 A2 => .nx env2 A2
      | r => r
def bFor (fi : Ev → AH → Res (List D)) (st : Ev → D → Option Ev) (body : Ev → AH → SR) : Ev → AH → SR := fun env A => lft (fi env A) env fun ds A1 => forL st body ds env A1
theorem js_for (o : XO X G W k) {tg iter : Expr} {body : List Stmt} {pos : Pos} {js : List Nat} {fi : Ev → AH → Res (List D)} {st : Ev → D → Option Ev} {b : Ev → AH → SR} (hi : JI X G W tg iter fi) (hg : JG X G tg js st) (hb : JB X G W body b)
    (hfs : ∀ x, foldedSetIterable iter X.env x = pure x := by intro _; rfl) : JS X G W (.For tg iter body [] pos) (bFor fi st b) := by
  refine ⟨PS.imp (ps_for o.po o.calm hi.run hg.run hb.run hfs) fun E σ H h => ?_⟩
  obtain ⟨γ, A, env, S, h⟩ := h
  refine ⟨γ, A, env, S, PostS.lft S h fun ds A1 γ1 H1 e1 R1 h1 J hJ => ?_⟩
  refine ⟨fun i m σ' H' => m = ds.length - i ∧ ∃ γ' A' env', Ext γ1 H1 γ' H' ∧ St3 G γ' A' env' H' σ' ∧ PostS G γ' H' (forL st b (ds.drop i) env' A') E W, ⟨ds.length, by simp, γ1, A1, env, Ext.refl _ _, S.to e1 R1, by simpa using h1⟩, ?_⟩
  rintro i m σ2 H2 ⟨rfl, γ2, A2, env2, e2, S2, h2⟩
  obtain ⟨y1, y2⟩ := hJ i γ2 H2 A2 e2.toExt0 S2.rel
  by_cases hlt : i < ds.length
  · obtain ⟨g1, g2⟩ := y1 ds[i] (List.getElem?_eq_getElem hlt)
    rw [List.drop_eq_getElem_cons hlt] at h2
    unfold forL at h2
    refine .inr ⟨g1, fun σ' H' => ∃ γ' A' env', Ext γ1 H1 γ' H' ∧ St3 G γ' A' env' H' σ' ∧ PostS G γ' H' (forL st b (ds.drop (i + 1)) env' A') E W, fun σ' H' q => ⟨ds.length - (i + 1), by omega, rfl, q⟩, fun x H3 hy => ?_⟩
    obtain ⟨e3, R3, r3⟩ := g2 x H3 hy
    cases q : st env2 ds[i] with
    | none => rw [q] at h2; exact h2.elim
    | some env3 =>
      rw [q] at h2
      simp only at h2
      refine ⟨γ2, A2, env2, ds[i], env3, S2.to e3 R3, r3, q, fun σ3 S3 _ _ => ⟨γ2, A2, env3, S3, ?_⟩⟩
      have e23 := e2.trans e3
      have h3 := PostS.ext e3 h2
      cases q3 : b env3 A2 with
      | nx env4 A4 =>
        rw [q3] at h3
        exact fun γ4 H4 σ4 e4 S4 => ⟨γ4, A4, env4, e23.trans e4, S4, PostS.ext e4 h3⟩
      | ct env4 A4 =>
        rw [q3] at h3
        exact fun γ4 H4 σ4 e4 S4 => ⟨γ4, A4, env4, e23.trans e4, S4, PostS.ext e4 h3⟩
      | bk env4 A4 => rw [q3] at h3; exact h3
      | rt d A4 => rw [q3] at h3; exact h3
      | ex x env4 A4 => rw [q3] at h3; exact h3
      | stuck => rw [q3] at h3; exact h3
  · refine .inl ⟨y2 (by omega), ?_⟩
    rw [List.drop_eq_nil_of_le (by omega)] at h2
    exact h2 γ2 H2 σ2 (Ext.refl _ _) S2
/-! ### while -/
def whileL (c : Ev → AH → Res Bool) (body : Ev → AH → SR) : Nat → Ev → AH → SR
  | 0, _, _ => .stuck
  | n + 1, env, A => lft (c env A) env fun b A1 => match b with
    | false => .nx env A1
    | true => match body env A1 with
      | .nx env2 A2 => whileL c body n env2 A2
      | .ct env2 A2 => whileL c body n env2 A2
      | .bk env2 A2 => .nx env2 A2
      | r => r
theorem js_while (o : XO X G W k) {c : Expr} {body : List Stmt} {pos : Pos} {fc : Ev → AH → Res Bool} {b : Ev → AH → SR} (n : Nat) (hc : JT X G W c fc) (hb : JB X G W body b) : JS X G W (.While c body [] pos) (whileL fc b n) := by
  refine ⟨PS.imp (ps_while o.po hc.run hb.run) fun E σ H h => ?_⟩
  obtain ⟨γ, A, env, S, h⟩ := h
  refine ⟨fun m σ' H' => ∃ γ' A' env', St3 G γ' A' env' H' σ' ∧ PostS G γ' H' (whileL fc b m env' A') E W, ⟨n, γ, A, env, S, h⟩, ?_⟩
  rintro m σ2 H2 ⟨γ2, A2, env2, S2, h2⟩
  cases m with
  | zero => exact h2.elim
  | succ m =>
    unfold whileL at h2
    refine ⟨γ2, A2, env2, S2, PostS.lft S2 h2 fun d A3 γ3 H3 e3 R3 h3 => ?_⟩
    cases d with
    | false =>
      rw [if_neg Bool.false_ne_true]
      exact h3 γ3 H3 σ2 (Ext.refl _ _) (S2.to e3 R3)
    | true =>
      rw [if_pos rfl]
      refine ⟨fun σ' H' => ∃ γ' A' env', St3 G γ' A' env' H' σ' ∧ PostS G γ' H' (whileL fc b m env' A') E W, fun σ' H' q => ⟨m, Nat.lt_succ_self _, q⟩, γ3, A3, env2, S2.to e3 R3, ?_⟩
      simp only at h3
      cases q3 : b env2 A3 with
      | nx env4 A4 =>
        rw [q3] at h3
        exact fun γ4 H4 σ4 e4 S4 => ⟨γ4, A4, env4, S4, PostS.ext e4 h3⟩
      | ct env4 A4 =>
        rw [q3] at h3
        exact fun γ4 H4 σ4 e4 S4 => ⟨γ4, A4, env4, S4, PostS.ext e4 h3⟩
      | bk env4 A4 => rw [q3] at h3; exact h3
      | rt d A4 => rw [q3] at h3; exact h3
      | ex x env4 A4 => rw [q3] at h3; exact h3
      | stuck => rw [q3] at h3; exact h3
theorem js_break {pos : Pos} : JS X G W (.Break pos) (fun env A => .bk env A) := by
  refine ⟨PS.imp ps_break fun E σ H h => ?_⟩
  obtain ⟨γ, A, env, S, h⟩ := h
  exact h γ H σ (Ext.refl _ _) S
theorem js_continue {pos : Pos} : JS X G W (.Continue pos) (fun env A => .ct env A) := by
  refine ⟨PS.imp ps_continue fun E σ H h => ?_⟩
  obtain ⟨γ, A, env, S, h⟩ := h
  exact h γ H σ (Ext.refl _ _) S
end
end F3
namespace F3
open PySem PySem.Spec
open PyProof.Rows L2
/-! ### list comprehensions: the new list is put aside while it grows -/
def Gh.hide (γ : Gh) (p : Addr) : Gh := ⟨γ.ρ, fun a => if a = p then some none else γ.o a⟩
def Gh.show (γ : Gh) (p : Addr) : Gh := ⟨γ.ρ, fun a => if a = p then none else γ.o a⟩
section
variable {G : Gc} {γ γ' : Gh} {H H' : Hp} {A : AH} {p : Addr}
theorem Gh.hide_same : (γ.hide p).o p = some none := if_pos rfl
theorem Gh.hide_ne {a : Addr} (h : a ≠ p) : (γ.hide p).o a = γ.o a := if_neg h
theorem Gh.show_same : (γ.show p).o p = none := if_pos rfl
theorem Gh.show_ne {a : Addr} (h : a ≠ p) : (γ.show p).o a = γ.o a := if_neg h
theorem Ext.hide {ob : HO} (h : H p = none) : Ext γ H (γ.hide p) (upd H p ob) :=
  ⟨⟨fun _ _ e => e, fun b o e n _ => ⟨by rw [upd_ne (ne_of_none e h)]; exact e, by rw [Gh.hide_ne (ne_of_none e h)]; exact n⟩⟩, fun b o e n => ⟨by rw [upd_ne (ne_of_none e h)]; exact e, by rw [Gh.hide_ne (ne_of_none e h)]; exact n⟩⟩
/-- γ' is γ but for p, H' is H but for p; p is no table, no code, no changed thing -/
theorem Rel.aside (R : Rel G γ A H) (hρ : γ'.ρ = γ.ρ) (ho : ∀ b, b ≠ p → γ'.o b = γ.o b) (hH : ∀ b, b ≠ p → H' b = H b) (e0 : Ext0 γ H γ' H') (np : ∀ i, γ.o p ≠ some (some i)) (np' : ∀ i, γ'.o p ≠ some (some i)) (hp : H' p ≠ none) (nt : H p = none ∨ γ.o p = some none) : Rel G γ' A H' := by
  have nk : ∀ {b o}, H b = some o → γ.o b = none → b ≠ p := fun {b o} e n z => by
    subst z
    rcases nt with q | q
    · rw [q] at e; cases e
    · rw [q] at n; cases n
  refine ⟨by rw [hρ]; exact R.len, fun i o e => ?_, fun a x e => ?_, fun q hq => ?_⟩
  · obtain ⟨a, e1, e2, r⟩ := R.at_ i o e
    have na : a ≠ p := fun z => np i (by rw [← z]; exact e2)
    refine ⟨a, by rw [hρ]; exact e1, by rw [ho a na]; exact e2, r.ext (j := i) e0 (hH a na) fun dx q => ?_⟩
    have nd : dx ≠ p := fun z => np i (by rw [← z]; exact q)
    exact ⟨hH dx nd, by rw [ho dx nd]; exact q⟩
  · by_cases z : a = p
    · subst z
      refine ⟨hp, fun i q => ?_⟩
      subst q
      exact absurd e (np' i)
    · rw [ho a z] at e
      exact ⟨by rw [hH a z]; exact (R.dom a x e).1, (R.dom a x e).2⟩
  · obtain ⟨n, ps, h1, h2, h3⟩ := R.tab q hq
    have nq := nk h1 n
    refine ⟨by rw [ho _ nq]; exact n, ps, by rw [hH _ nq]; exact h1, h2, fun pos cv hc => ?_⟩
    obtain ⟨c, c1, c2, c3⟩ := h3 pos cv hc
    have nc := nk c2 c3
    exact ⟨c, c1, by rw [hH _ nc]; exact c2, by rw [ho _ nc]; exact c3⟩
theorem Rel.hide {ob : HO} (R : Rel G γ A H) (h : H p = none) : Rel G (γ.hide p) A (upd H p ob) := by
  have n0 := R.o_none h
  exact R.aside rfl (fun b hb => Gh.hide_ne hb) (fun b hb => upd_ne hb) (Ext.hide h).toExt0 (fun i z => by rw [n0] at z; cases z) (fun i z => by rw [Gh.hide_same] at z; cases z) (by rw [upd_same]; exact (fun q => nomatch q)) (.inl h)
/-- what is put aside grows -/
theorem Rel.grow {ob : HO} (R : Rel G γ A H) (h : γ.o p = some none) : Rel G γ A (upd H p ob) := by
  have e0 : Ext0 γ H γ (upd H p ob) := ⟨fun _ _ e => e, fun b o e n _ => ⟨by rw [upd_ne (fun z => by rw [z, h] at n; cases n)]; exact e, n⟩⟩
  exact R.aside rfl (fun _ _ => rfl) (fun b hb => upd_ne hb) e0 (fun i z => by rw [h] at z; cases z) (fun i z => by rw [h] at z; cases z) (by rw [upd_same]; exact (fun q => nomatch q)) (.inr h)
theorem Ext0.grow {ob : HO} (h : γ.o p = some none) : Ext0 γ H γ (upd H p ob) := ⟨fun _ _ e => e, fun b o e n _ => ⟨by rw [upd_ne (fun z => by rw [z, h] at n; cases n)]; exact e, n⟩⟩
theorem Ext0.show (h : γ.o p = some none) : Ext0 γ H (γ.show p) H := ⟨fun _ _ e => e, fun b o e n _ => ⟨e, by rw [Gh.show_ne (fun z => by rw [z, h] at n; cases n)]; exact n⟩⟩
theorem Rel.show (R : Rel G γ A H) (h : γ.o p = some none) : Rel G (γ.show p) A H :=
  R.aside rfl (fun b hb => Gh.show_ne hb) (fun _ _ => rfl) (Ext0.show h) (fun i z => by rw [h] at z; cases z) (fun i z => by rw [Gh.show_same] at z; cases z) (R.dom p _ h).1 (.inr h)
end
/-- the block's own names forgotten -/
def wip : List Nat → Ev → Ev
  | [], env => env
  | v :: vs, env => (wip vs env).set v none
theorem wip_length (env : Ev) : ∀ vs : List Nat, (wip vs env).length = env.length
  | [] => rfl
  | v :: vs => by unfold wip; rw [List.length_set, wip_length env vs]
theorem wip_er {G : Gc} {γ : Gh} {H : Hp} {env : Ev} {σ : L2.St} (h : ER G γ H env σ) : ∀ vs : List Nat, ER G γ H (wip vs env) (wipe σ vs)
  | [] => h
  | v :: vs => fun i d q => by
    have ih := wip_er h vs
    unfold wip at q
    unfold wipe
    by_cases z : v = i
    · subst z
      by_cases hi : v < (wip vs env).length
      · rw [List.getElem?_set_self hi] at q; cases q
      · rw [List.getElem?_eq_none (by simpa using hi)] at q; cases q
    · rw [List.getElem?_set_ne z] at q ⊢
      exact ih i d q
theorem wipe_get (σ : L2.St) (j : Nat) : ∀ vs : List Nat, (wipe σ vs)[j]? = if j ∈ vs ∧ j < σ.length then some none else σ[j]?
  | [] => by simp [wipe]
  | v :: vs => by
    unfold wipe
    by_cases z : v = j
    · subst z
      by_cases hi : v < σ.length
      · rw [List.getElem?_set_self (by rw [wipe_length]; exact hi)]; simp [hi]
      · rw [List.getElem?_eq_none (by simp [wipe_length]; omega)]
        simp [hi]
    · rw [List.getElem?_set_ne z, wipe_get σ j vs]
      have : (j ∈ v :: vs) ↔ (j ∈ vs) := by simp [Ne.symm z]
      simp only [this]
theorem wipe_eq {σ σ' : L2.St} {js vs : List Nat} (hl : σ'.length = (wipe σ vs).length) (h : ∀ j, j ∉ js → σ'[j]? = (wipe σ vs)[j]?) (hj : ∀ j ∈ js, j ∈ vs) : wipe σ' vs = wipe σ vs := by
  rw [wipe_length] at hl
  apply List.ext_getElem?
  intro j
  rw [wipe_get, wipe_get, hl]
  by_cases q : j ∈ vs ∧ j < σ.length
  · rw [if_pos q, if_pos q]
  · rw [if_neg q, if_neg q]
    by_cases m : j ∈ js
    · have hv := hj j m
      have : ¬ j < σ.length := fun z => q ⟨hv, z⟩
      rw [List.getElem?_eq_none (by omega), List.getElem?_eq_none (by omega)]
    · rw [h j m, wipe_get, if_neg q]
def compL (st : Ev → D → Option Ev) (t : Ev → AH → Res Bool) (f : Ev → AH → Res D) : List D → Ev → AH → Res (List D)
  | [], _, A => .ok [] A
  | d :: ds, env, A => match st env d with
    | none => .stuck
    | some env1 => match t env1 A with
      | .ok true A1 => match f env1 A1 with
        | .ok x A2 => (compL st t f ds env A2).bind fun xs A3 => .ok (x :: xs) A3
        | _ => .stuck
      | .ok false A1 => compL st t f ds env A1
      | _ => .stuck
def sComp (vs : List Nat) (fi : Ev → AH → Res (List D)) (st : Ev → D → Option Ev) (t : Ev → AH → Res Bool) (f : Ev → AH → Res D) : Ev → AH → Res (List D) := fun env A => (fi env A).bind fun ds A1 => if ds.length ≤ sizeLine then compL st t f ds (wip vs env) A1 else .stuck
def sLC (vs : List Nat) (fi : Ev → AH → Res (List D)) (st : Ev → D → Option Ev) (t : Ev → AH → Res Bool) (f : Ev → AH → Res D) : Ev → AH → Res D := fun env A => (sComp vs fi st t f env A).bind fun ds A1 => .ok (.lst ds) A1
def tTrue : Ev → AH → Res Bool := fun _ A => .ok true A
abbrev W0 : WX := fun _ _ _ _ => False
structure JTs (X : Cx) (G : Gc) (W : WX) (es : List Expr) (f : Ev → AH → Res Bool) : Prop where
  run : PTs X es (tB3 G W f)
section
variable {X : Cx} {G : Gc} {W : WX} {k : Nat}
theorem jts_nil : JTs X G W [] tTrue := by
  refine ⟨⟨fun pins s σ H Q I h => ?_⟩⟩
  obtain ⟨γ, A, env, S, h⟩ := h
  exact pts_nil.run pins s σ H Q I (h γ H (Ext.refl _ _) S.rel)
theorem jts_one {e : Expr} {f : Ev → AH → Res Bool} (h : JT X G W e f) : JTs X G W [e] f := ⟨pts_one h.run⟩
/-- the block's run in the reading of HandS -/
theorem comp_core {σ : L2.St} {vs js : List Nat} {st : Ev → D → Option Ev} {t : Ev → AH → Res Bool} {f : Ev → AH → Res D} {g : TG} {tt : TT} {te : TE} {J : It} {ds : List D} {γ1 : Gh} {A1 : AH} {H1 : Hp} {env : Ev} {Q : VK} {Wx : WXe}
    (hg : ∀ (v : V) (σ : L2.St) (H : Hp) (Q : L2.St → Hp → Prop), (∃ γ A env d env', St3 G γ A env H σ ∧ VR G γ H d v ∧ st env d = some env' ∧ ∀ σ', St3 G γ A env' H σ' → σ'.length = σ.length → (∀ j, j ∉ js → σ'[j]? = σ[j]?) → Q σ' H) → g v σ H Q)
    (ht : ∀ σ H Q, tB3 G W0 t σ H Q → tt σ H Q) (he : ∀ σ H Q, tE G W0 f σ H Q → te σ H Q) (hj : ∀ j ∈ js, j ∈ vs) (S : St3 G γ1 A1 env H1 σ) (hJ : Yl G γ1 H1 J ds) (hz : ds.length ≤ sizeLine)
    (h : Post G γ1 H1 (compL st t f ds (wip vs env) A1) (fun γ' A' H' ds' => ∀ v, VR G γ' H' (.lst ds') v → Q v H') Wx) :
    ∀ D, H1 D = none → ∃ W : Nat → Nat → Hp → Prop, (∃ m, W 0 m (upd H1 D (.lst []))) ∧ ∀ i m H, W i m H →
      (J.stop i H ∧ Q (.ref D) H) ∨ (J.go i H ∧ ∃ Nx : Hp → Prop, (∀ H', Nx H' → ∃ m', m' < m ∧ W (i + 1) m' H') ∧ ∀ x H', J.yld i H x H' → g x (wipe σ vs) H' fun σ2 H2 => wipe σ2 vs = wipe σ vs ∧ tt σ2 H2 fun b H3 =>
        if b = true then te σ2 H3 fun y H4 => ∃ acc, H4 D = some (.lst acc) ∧ acc.length < sizeLine ∧ Nx (upd H4 D (.lst (acc ++ [y]))) else Nx H3) := by
  intro DD hD
  let Wn : Nat → Hp → Prop := fun i H => i ≤ ds.length ∧ ∃ γ A acc accV, Ext γ1 H1 γ H ∧ Rel G γ A H ∧ γ.o DD = some none ∧ H DD = some (.lst accV) ∧ VRs G γ H acc accV ∧ acc.length ≤ i ∧
    ∃ r, compL st t f (ds.drop i) (wip vs env) A = r ∧ Post G γ1 H1 (r.bind fun xs A3 => .ok (acc ++ xs) A3) (fun γ' A' H' ds' => ∀ v, VR G γ' H' (.lst ds') v → Q v H') Wx
  refine ⟨fun i m H => m = ds.length - i ∧ Wn i H, ⟨ds.length, by simp, Nat.zero_le _, γ1.hide DD, A1, [], [], Ext.hide hD, S.rel.hide hD, Gh.hide_same, upd_same, VRs.nil, Nat.le_refl _, _, rfl, ?_⟩, ?_⟩
  · rw [List.drop_zero]
    cases q : compL st t f ds (wip vs env) A1 with
    | ok xs A3 => rw [q] at h; simpa [Res.bind] using h
    | ex x A3 => rw [q] at h; exact h
    | stuck => rw [q] at h; exact h
  · rintro i m H ⟨rfl, hi, γ, A, acc, accV, e, R, ho, hH, rv, hl, r, hr, hp⟩
    obtain ⟨y1, y2⟩ := hJ i γ H A e.toExt0 R
    by_cases hlt : i < ds.length
    · obtain ⟨g1, g2⟩ := y1 ds[i] (List.getElem?_eq_getElem hlt)
      rw [List.drop_eq_getElem_cons hlt] at hr
      unfold compL at hr
      refine .inr ⟨g1, Wn (i + 1), fun H' q => ⟨ds.length - (i + 1), by omega, rfl, q⟩, fun x H2 hy => ?_⟩
      obtain ⟨e2, R2, r2⟩ := g2 x H2 hy
      have S2 : St3 G γ A (wip vs env) H2 (wipe σ vs) := ⟨R2, by rw [wip_length, wipe_length]; exact S.len, wip_er ((S.er.ext e).ext e2) vs⟩
      cases q : st (wip vs env) ds[i] with
      | none => rw [q] at hr; subst hr; exact hp.elim
      | some env1 =>
        rw [q] at hr
        simp only at hr
        refine hg x _ H2 _ ⟨γ, A, wip vs env, ds[i], env1, S2, r2, q, fun σ3 S3 l3 k3 => ⟨wipe_eq l3 k3 hj, ?_⟩⟩
        cases q2 : t env1 A with
        | ex z A3 => rw [q2] at hr; subst hr; exact hp.elim
        | stuck => rw [q2] at hr; subst hr; exact hp.elim
        | ok b A3 =>
          rw [q2] at hr
          refine ht _ _ _ ⟨γ, A, env1, S3, ?_⟩
          rw [q2]
          intro γ3 H3 e3 R3
          obtain ⟨hD2, _⟩ := e2.hid DD _ hH ho
          obtain ⟨hD3, ho3⟩ := e3.hid DD _ hD2 ho
          have rv3 := VRs.ext e3 _ _ (VRs.ext e2 _ _ rv)
          cases b with
          | false =>
            rw [if_neg Bool.false_ne_true]
            exact ⟨hlt, γ3, A3, acc, accV, (e.trans e2).trans e3, R3, ho3, hD3, rv3, by omega, r, hr, hp⟩
          | true =>
            rw [if_pos rfl]
            simp only at hr
            refine he _ _ _ ⟨γ3, A3, env1, S3.to e3 R3, ?_⟩
            cases q3 : f env1 A3 with
            | ex z A4 => rw [q3] at hr; subst hr; exact hp.elim
            | stuck => rw [q3] at hr; subst hr; exact hp.elim
            | ok y A4 =>
              rw [q3] at hr
              intro γ4 H4 e4 R4 v r4
              obtain ⟨hD4, ho4⟩ := e4.hid DD _ hD3 ho3
              have rv4 := VRs.ext e4 _ _ rv3
              have e0 : Ext0 γ4 H4 γ4 (upd H4 DD (.lst (accV ++ [v]))) := Ext0.grow ho4
              refine ⟨accV, hD4, by rw [← rv4.length]; omega, hlt, γ4, A4, acc ++ [y], accV ++ [v], ?_, R4.grow ho4, ho4, upd_same, (VRs.ext0 e0 _ _ rv4).append (VRs.cons (VR.ext0 e0 _ _ r4) VRs.nil), by rw [List.length_append]; simp; omega, _, rfl, ?_⟩
              · have eb := ((e.trans e2).trans e3).trans e4
                have nD : ∀ b o, H1 b = some o → b ≠ DD := fun b o q => ne_of_none q hD
                exact ⟨⟨eb.ρ, fun b o q n tt => ⟨by rw [upd_ne (nD b o q)]; exact (eb.keep b o q n tt).1, (eb.keep b o q n tt).2⟩⟩, fun b o q n => ⟨by rw [upd_ne (nD b o q)]; exact (eb.hid b o q n).1, (eb.hid b o q n).2⟩⟩
              · subst hr
                simp only at hp
                cases q4 : compL st t f (ds.drop (i + 1)) (wip vs env) A4 with
                | ok xs A5 => rw [q4] at hp; simpa [Res.bind] using hp
                | ex z A5 => rw [q4] at hp; exact hp
                | stuck => rw [q4] at hp; exact hp
    · have hi2 : i = ds.length := by omega
      refine .inl ⟨y2 (by omega), ?_⟩
      rw [List.drop_eq_nil_of_le (by omega)] at hr
      unfold compL at hr
      subst hr
      simp only [Res.bind, List.append_nil] at hp
      have e5 : Ext γ1 H1 (γ.show DD) H := by
        have nD : ∀ b o, H1 b = some o → b ≠ DD := fun b o q => ne_of_none q hD
        exact ⟨⟨e.ρ, fun b o q n tt => ⟨(e.keep b o q n tt).1, by rw [Gh.show_ne (nD b o q)]; exact (e.keep b o q n tt).2⟩⟩, fun b o q n => ⟨(e.hid b o q n).1, by rw [Gh.show_ne (nD b o q)]; exact (e.hid b o q n).2⟩⟩
      refine hp (γ.show DD) H e5 (R.show ho) (.ref DD) ?_
      unfold VR
      exact ⟨DD, accV, rfl, hH, Gh.show_same, VRs.ext0 (Ext0.show ho) _ _ rv⟩
/-- a list comprehension, as a value that is never changed -/
theorem je_comp (o : XO X G W k) {elt tg iter : Expr} {ifs : List Expr} {scope : Scope} {own : List (Str × Nat)} {pos : Pos} {js : List Nat} {fi : Ev → AH → Res (List D)} {st : Ev → D → Option Ev} {t : Ev → AH → Res Bool} {f : Ev → AH → Res D}
    (hN : X.N.Nodup) (hi : JI X G W tg iter fi) (ok : BlkOk X.N X.env.scope scope own)
    (hg : ∀ (s : Shared) (H : Hp) (C : Addr) (cl : List (Str × Addr)) (fp : List Addr), JG (X.blk s H scope (compEnvC scope cl C X.env) fp) G tg js st)
    (ht : ∀ (s : Shared) (H : Hp) (C : Addr) (cl : List (Str × Addr)) (fp : List Addr), JTs (X.blk s H scope (compEnvC scope cl C X.env) fp) G W0 ifs t)
    (he : ∀ (s : Shared) (H : Hp) (C : Addr) (cl : List (Str × Addr)) (fp : List Addr), JE (X.blk s H scope (compEnvC scope cl C X.env) fp) G W0 elt f)
    (hj : (js.all fun j => (own.map (·.2)).contains j) = true)
    (hfs : ∀ x, foldedSetIterable iter X.env x = pure x := by intro _; rfl) :
    JE X G W (.ListComp elt [⟨tg, iter, ifs, 0⟩] scope pos) (sLC (own.map (·.2)) fi st t f) := by
  refine ⟨PE.imp (pe_lc o.calm hN hi.run ok (fun s H C cl fp => (hg s H C cl fp).run) (fun s H C cl fp => (ht s H C cl fp).run) (fun s H C cl fp => (he s H C cl fp).run) hfs) fun σ H Q h => ?_⟩
  obtain ⟨γ, A, env, S, h⟩ := h
  have hj' : ∀ j ∈ js, j ∈ own.map (·.2) := fun j q => by simpa using List.all_eq_true.mp hj j q
  refine ⟨γ, A, env, S, ?_⟩
  have h' : Post G γ H ((fi env A).bind fun ds A1 => (if ds.length ≤ sizeLine then compL st t f ds (wip (own.map (·.2)) env) A1 else .stuck).bind fun ds A1 => .ok (D.lst ds) A1) (fun γ' _ H' d => ∀ v, VR G γ' H' d v → Q v H') (fun c a H' => W c a σ H') := by
    unfold sLC sComp at h
    cases q : fi env A with
    | ok ds A1 => rw [q] at h; exact h
    | ex x A1 => rw [q] at h; exact h
    | stuck => rw [q] at h; exact h
  refine Post.bind h' fun ds A1 γ1 H1 e1 R1 h1 J hJ => ?_
  by_cases hz : ds.length ≤ sizeLine
  · rw [if_pos hz] at h1
    refine comp_core (js := js) (st := st) (t := t) (f := f) (Wx := fun c a H' => W c a σ H') (fun v σ H Q h => h) (fun σ H Q h => h) (fun σ H Q h => h) hj' (S.to e1 R1) hJ hz ?_
    cases q : compL st t f ds (wip (own.map (·.2)) env) A1 with
    | ok xs A3 => rw [q] at h1; exact h1
    | ex x A3 => rw [q] at h1; exact h1
    | stuck => rw [q] at h1; exact h1
  · rw [if_neg hz] at h1; exact h1.elim
end
end F3
namespace F3
open PySem PySem.Spec
open PyProof.Rows L2
/-! ### as plain data -/
mutual
def toP : D → Option PyData
  | .non => some .none
  | .bl b => some (.bool b)
  | .int i => some (.int i)
  | .str x => some (.str x)
  | .tup ds => (toPs ds).map .tuple
  | .lst ds => (toPs ds).map .list
  | _ => none
def toPs : List D → Option (List PyData)
  | [] => some []
  | d :: ds => match toP d, toPs ds with
    | some p, some ps => some (p :: ps)
    | _, _ => none
end
def topD (A : AH) : D → D
  | .ref i => match A[i]? with
    | some (.lst ds) => .lst ds
    | _ => .ref i
  | d => d
section
variable {G : Gc} {γ : Gh} {H : Hp} {A : AH}
mutual
theorem VR.dp : ∀ (d : D) (v : V) (p : PyData), VR G γ H d v → toP d = some p → Dp G.K H v p
  | .non, v, p, h, e => by unfold VR at h; unfold toP at e; cases e; subst h; exact .non
  | .bl b, v, p, h, e => by unfold VR at h; unfold toP at e; cases e; subst h; exact .bl b
  | .int b, v, p, h, e => by unfold VR at h; unfold toP at e; cases e; subst h; exact .int b
  | .str b, v, p, h, e => by unfold VR at h; unfold toP at e; cases e; subst h; exact .str b
  | .tup ds, v, p, h, e => by
    unfold VR at h; unfold toP at e
    obtain ⟨a, vs, rfl, f, r⟩ := h
    obtain ⟨ps, e1, e2⟩ := Option.map_eq_some_iff.mp e
    subst e2
    exact .tup f.sq (VRs.dp ds vs ps r e1)
  | .lst ds, v, p, h, e => by
    unfold VR at h; unfold toP at e
    obtain ⟨a, vs, rfl, f, n, r⟩ := h
    obtain ⟨ps, e1, e2⟩ := Option.map_eq_some_iff.mp e
    subst e2
    exact .lst (SqL.of f) (VRs.dp ds vs ps r e1)
  | .scr ds, v, p, h, e => by unfold toP at e; cases e
  | .ins c ds, v, p, h, e => by unfold toP at e; cases e
  | .dct _ ks ds, v, p, h, e => by unfold toP at e; cases e
  | .ref i, v, p, h, e => by unfold toP at e; cases e
theorem VRs.dp : ∀ (ds : List D) (vs : List V) (ps : List PyData), VRs G γ H ds vs → toPs ds = some ps → DpAll G.K H vs ps
  | [], vs, ps, h, e => by unfold VRs at h; unfold toPs at e; cases e; subst h; exact .nil
  | d :: ds, vs, ps, h, e => by
    unfold VRs at h; unfold toPs at e
    obtain ⟨v, r, rfl, h1, h2⟩ := h
    cases q1 : toP d with
    | none => rw [q1] at e; cases e
    | some p =>
      cases q2 : toPs ds with
      | none => rw [q1, q2] at e; cases e
      | some qs =>
        rw [q1, q2] at e
        cases e
        exact .cons (VR.dp d v p h1 q1) (VRs.dp ds r qs h2 q2)
end
theorem VR.dpA {d : D} {v : V} {p : PyData} (R : Rel G γ A H) (h : VR G γ H d v) (e : toP (topD A d) = some p) : Dp G.K H v p := by
  cases d with
  | ref i =>
    unfold topD at e
    simp only at e
    split at e
    · rename_i ds q
      unfold VR at h
      obtain ⟨a, rfl, e1⟩ := h
      obtain ⟨a', h1, h2, vs, h3, h4⟩ := R.at_ i _ q
      rw [e1] at h1; cases h1
      unfold toP at e
      obtain ⟨ps, e2, e3⟩ := Option.map_eq_some_iff.mp e
      subst e3
      exact .lst (SqL.of h3) (VRs.dp ds vs ps h4 e2)
    · unfold toP at e; cases e
  | _ => exact VR.dp _ v p h e
end
def pureB (o : Option Bool) (A : AH) : Res D := match o with
  | some b => .ok (.bl b) A
  | none => .stuck
theorem pureB_of {G : Gc} {γ : Gh} {H : Hp} {A : AH} {o : Option Bool} {Q : VK} {Wx : WXe} (R : Rel G γ A H) (h : Post G γ H (pureB o A) (fun γ' _ H' d => ∀ v, VR G γ' H' d v → Q v H') Wx) : ∃ b, o = some b ∧ Q (.bl b) H := by
  cases o with
  | none => exact h.elim
  | some b => exact ⟨b, rfl, h γ H (Ext.refl _ _) R _ (by unfold VR; rfl)⟩
theorem ok_here {G : Gc} {γ : Gh} {H : Hp} {A : AH} {d : D} {v : V} {Q : VK} {Wx : WXe} (R : Rel G γ A H) (hv : VR G γ H d v) (h : Post G γ H (.ok d A) (fun γ' _ H' d => ∀ v, VR G γ' H' d v → Q v H') Wx) : Q v H := h γ H (Ext.refl _ _) R v hv
/-! ### ==, != -/
def eqP (A : AH) (x y : D) : Option Bool := match toP (topD A x), toP (topD A y) with
  | some d, some e => if SeqAt.shaped d && SeqAt.shaped e then some (PyData.eqv d e) else none
  | _, _ => none
def gEq (x y : D) (A : AH) : Res D := pureB (eqP A x y) A
def gNe (x y : D) (A : AH) : Res D := pureB ((eqP A x y).map (!·)) A
theorem eqP_some {A : AH} {x y : D} {b : Bool} (h : eqP A x y = some b) : ∃ d e, toP (topD A x) = some d ∧ toP (topD A y) = some e ∧ SeqAt.shaped d = true ∧ SeqAt.shaped e = true ∧ PyData.eqv d e = b := by
  unfold eqP at h
  split at h
  · rename_i d e q1 q2
    split at h
    · rename_i hs
      rw [Bool.and_eq_true] at hs
      exact ⟨d, e, q1, q2, hs.1, hs.2, Option.some.inj h⟩
    · cases h
  · cases h
theorem ok_eq {G : Gc} {K : PySem.W.Frag} (hk : G.K = K) : OkV2 G (rEqD K) gEq := fun γ A H a b x y Q Wx R r1 r2 h => by
  obtain ⟨c, e, q⟩ := pureB_of R h
  obtain ⟨d, e', h1, h2, s1, s2, h3⟩ := eqP_some e
  subst hk
  exact ⟨d, e', r1.dpA R h1, r2.dpA R h2, s1, s2, by rw [h3]; exact q⟩
theorem ok_ne {G : Gc} {K : PySem.W.Frag} (hk : G.K = K) : OkV2 G (rNeD K) gNe := fun γ A H a b x y Q Wx R r1 r2 h => by
  obtain ⟨c, e, q⟩ := pureB_of R h
  obtain ⟨c', e1, e2⟩ := Option.map_eq_some_iff.mp e
  obtain ⟨d, e', h1, h2, s1, s2, h3⟩ := eqP_some e1
  subst hk
  exact ⟨d, e', r1.dpA R h1, r2.dpA R h2, s1, s2, by rw [h3, e2]; exact q⟩
/-! ### is -/
def gIs (x y : D) (A : AH) : Res D := match x, y with
  | .bl a, .bl b => .ok (.bl (decide (a = b))) A
  | .non, .non => .ok (.bl true) A
  | _, .non => .ok (.bl false) A
  | _, _ => .stuck
def gIsNot (x y : D) (A : AH) : Res D := match x, y with
  | .bl a, .bl b => .ok (.bl (!decide (a = b))) A
  | .non, .non => .ok (.bl false) A
  | _, .non => .ok (.bl true) A
  | _, _ => .stuck
def rIsU : R2 := fun x y H Q => rIsB x y H Q ∨ (y = .non ∧ Q (.bl (decide (x = .non))) H)
def rIsNotU : R2 := fun x y H Q => rNotB x y H Q ∨ (y = .non ∧ Q (.bl (!decide (x = .non))) H)
theorem op_is {X : Cx} : OpR X (compareOp .Is) rIsU := OpR.or op_isBl op_isN
theorem op_isNot {X : Cx} : OpR X (compareOp .IsNot) rIsNotU := OpR.or op_notBl op_notN
theorem VR.non_iff {G : Gc} {γ : Gh} {H : Hp} {d : D} {v : V} (r : VR G γ H d v) (n : d ≠ .non) : v ≠ .non := fun z => by
  subst z
  cases d with
  | non => exact n rfl
  | bl _ => unfold VR at r; cases r
  | int _ => unfold VR at r; cases r
  | str _ => unfold VR at r; cases r
  | tup _ => unfold VR at r; obtain ⟨a, vs, e, _⟩ := r; cases e
  | lst _ => unfold VR at r; obtain ⟨a, vs, e, _⟩ := r; cases e
  | scr _ => unfold VR at r; obtain ⟨a, vs, e, _⟩ := r; cases e
  | ins _ _ => unfold VR at r; obtain ⟨a, _, _, vs, e, _⟩ := r; cases e
  | dct _ _ _ => unfold VR at r; obtain ⟨a, _, _, _, e, _⟩ := r; cases e
  | ref _ => unfold VR at r; obtain ⟨a, e, _⟩ := r; cases e
  | fn => unfold VR at r; obtain ⟨_, _, e, _⟩ := r; cases e
theorem ok_is {G : Gc} : OkV2 G rIsU gIs := fun γ A H a b x y Q Wx R r1 r2 h => by
  unfold gIs at h
  split at h
  · unfold VR at r1 r2; subst r1; subst r2
    exact .inl ⟨_, _, rfl, rfl, ok_here R (by unfold VR; rfl) h⟩
  · unfold VR at r1 r2; subst r1; subst r2
    exact .inr ⟨rfl, by simpa using ok_here (v := .bl true) R (by unfold VR; rfl) h⟩
  · rename_i hn
    unfold VR at r2; subst r2
    exact .inr ⟨rfl, by rw [decide_eq_false (r1.non_iff fun z => hn z)]; exact ok_here (v := .bl false) R (by unfold VR; rfl) h⟩
  · exact h.elim
theorem ok_isNot {G : Gc} : OkV2 G rIsNotU gIsNot := fun γ A H a b x y Q Wx R r1 r2 h => by
  unfold gIsNot at h
  split at h
  · unfold VR at r1 r2; subst r1; subst r2
    exact .inl ⟨_, _, rfl, rfl, ok_here R (by unfold VR; rfl) h⟩
  · unfold VR at r1 r2; subst r1; subst r2
    exact .inr ⟨rfl, by simpa using ok_here (v := .bl false) R (by unfold VR; rfl) h⟩
  · rename_i hn
    unfold VR at r2; subst r2
    exact .inr ⟨rfl, by rw [decide_eq_false (r1.non_iff fun z => hn z)]; exact ok_here (v := .bl true) R (by unfold VR; rfl) h⟩
  · exact h.elim
/-! ### <, <=, >, >= -/
def dints : List D → Option (List Int)
  | [] => some []
  | .int i :: ds => (dints ds).map (i :: ·)
  | _ :: _ => none
theorem ints_map : ∀ {ds : List D} {ns : List Int}, dints ds = some ns → ds = ns.map D.int
  | [], ns, e => by unfold dints at e; cases e; rfl
  | d :: ds, ns, e => by
    cases d with
    | int i =>
      unfold dints at e
      obtain ⟨ms, e1, rfl⟩ := Option.map_eq_some_iff.mp e
      rw [ints_map e1]; rfl
    | _ => unfold dints at e; cases e
theorem VRs.intsV {G : Gc} {γ : Gh} {H : Hp} : ∀ {ns : List Int} {vs : List V}, VRs G γ H (ns.map D.int) vs → vs = ns.map V.int
  | [], vs, h => by simp only [List.map_nil] at h; unfold VRs at h; exact h
  | n :: ns, vs, h => by
    simp only [List.map_cons] at h
    unfold VRs at h
    obtain ⟨v, r, rfl, h1, h2⟩ := h
    unfold VR at h1
    subst h1
    rw [VRs.intsV h2]; rfl
def gLt (x y : D) (A : AH) : Res D := match x, y with
  | .int i, .int j => .ok (.bl (decide (i < j))) A
  | .tup a, .tup b => match dints a, dints b with
    | some ns, some ms => .ok (.bl (HT.lexLt ns ms)) A
    | _, _ => .stuck
  | _, _ => .stuck
def gCmpI (p : Int → Int → Bool) (x y : D) (A : AH) : Res D := match x, y with
  | .int i, .int j => .ok (.bl (p i j)) A
  | _, _ => .stuck
def rLtU (K : PySem.W.Frag) : R2 := fun x y H Q => rI0 (fun i j => .bl (decide (i < j))) x y H Q ∨ rLtT K x y H Q
theorem op_ltU {X : Cx} (hu : X.A.units < cLine) : OpR X (compareOp .Lt) (rLtU X.K) := OpR.or op_lt (op_ltT hu)
theorem ok_lt {G : Gc} {K : PySem.W.Frag} (hk : G.K = K) : OkV2 G (rLtU K) gLt := fun γ A H a b x y Q Wx R r1 r2 h => by
  unfold gLt at h
  split at h
  · unfold VR at r1 r2; subst r1; subst r2
    exact .inl ⟨_, _, rfl, rfl, ok_here R (by unfold VR; rfl) h⟩
  · split at h
    · rename_i ns ms e1 e2
      rw [ints_map e1] at r1
      rw [ints_map e2] at r2
      unfold VR at r1 r2
      obtain ⟨a1, vs, rfl, f1, q1⟩ := r1
      obtain ⟨a2, ws, rfl, f2, q2⟩ := r2
      rw [VRs.intsV q1] at f1
      rw [VRs.intsV q2] at f2
      subst hk
      exact .inr ⟨a1, a2, ns, ms, rfl, rfl, f1.sq, f2.sq, ok_here R (by unfold VR; rfl) h⟩
    · exact h.elim
  · exact h.elim
theorem ok_cmpI {G : Gc} {p : Int → Int → Bool} : OkV2 G (rI0 fun i j => .bl (p i j)) (gCmpI p) := fun γ A H a b x y Q Wx R r1 r2 h => by
  unfold gCmpI at h
  split at h
  · unfold VR at r1 r2; subst r1; subst r2
    exact ⟨_, _, rfl, rfl, ok_here R (by unfold VR; rfl) h⟩
  · exact h.elim
def leL (ns ms : List Int) : Bool := Ob.lexAt (fun j => decide (ns.getD j 0 = ms.getD j 0)) (fun j => decide (ns.getD j 0 ≤ ms.getD j 0)) (decide (ns.length ≤ ms.length)) 0 (min ns.length ms.length)
def gLe (x y : D) (A : AH) : Res D := match x, y with
  | .int i, .int j => .ok (.bl (decide (i ≤ j))) A
  | .tup a, .tup b => match dints a, dints b with
    | some ns, some ms => .ok (.bl (leL ns ms)) A
    | _, _ => .stuck
  | _, _ => .stuck
def rLeU (K : PySem.W.Frag) : R2 := fun x y H Q => rI0 (fun i j => .bl (decide (i ≤ j))) x y H Q ∨ rLeT K x y H Q
theorem op_leU {X : Cx} (hu : X.A.units < cLine) : OpR X (compareOp .LtE) (rLeU X.K) := OpR.or op_le (op_leT hu)
theorem ok_le {G : Gc} {K : PySem.W.Frag} (hk : G.K = K) : OkV2 G (rLeU K) gLe := fun γ A H a b x y Q Wx R r1 r2 h => by
  unfold gLe at h
  split at h
  · unfold VR at r1 r2; subst r1; subst r2
    exact .inl ⟨_, _, rfl, rfl, ok_here R (by unfold VR; rfl) h⟩
  · split at h
    · rename_i ns ms e1 e2
      rw [ints_map e1] at r1
      rw [ints_map e2] at r2
      unfold VR at r1 r2
      obtain ⟨a1, vs, rfl, f1, q1⟩ := r1
      obtain ⟨a2, ws, rfl, f2, q2⟩ := r2
      rw [VRs.intsV q1] at f1
      rw [VRs.intsV q2] at f2
      subst hk
      exact .inr ⟨a1, a2, ns, ms, rfl, rfl, f1.sq, f2.sq, ok_here R (by unfold VR; rfl) h⟩
    · exact h.elim
  · exact h.elim
abbrev gGt := gCmpI fun i j => decide (j < i)
abbrev gGe := gCmpI fun i j => decide (j ≤ i)
/-! ### in, not in -/
def signIn (y z : Str) : Bool := match y.cps.toList with
  | [c] => decide (c ∈ z.cps.toList)
  | _ => !(Builtin.Str.occurrences z y 0 z.length 1).isEmpty
def inP (A : AH) (x y : D) : Option Bool := match topD A y with
  | .str z => match x with
    | .str a => some (signIn a z)
    | _ => none
  | .lst ds => match toP (topD A x), toPs ds with
    | some d, some es => if SeqAt.shaped d && SeqAt.shaped (.list es) then some (es.any fun z => PyData.eqv z d) else none
    | _, _ => none
  | .tup ds => match toP (topD A x), toPs ds with
    | some d, some es => if SeqAt.shaped d && SeqAt.shaped (.tuple es) then some (es.any fun z => PyData.eqv z d) else none
    | _, _ => none
  | _ => none
def gIn (x y : D) (A : AH) : Res D := pureB (inP A x y) A
def gNotIn (x y : D) (A : AH) : Res D := pureB ((inP A x y).map (!·)) A
def rInT (K : PySem.W.Frag) (n : Bool) : R2 := fun x y H Q => ∃ d ds, Dp K H x d ∧ Dp K H y (.tuple ds) ∧ SeqAt.shaped d = true ∧ SeqAt.shaped (.tuple ds) = true ∧ Q (.bl (n ^^ ds.any fun z => PyData.eqv z d)) H
theorem room_tup {A : Around} {d : PyData} {ds : List PyData} (h : SeqAt.shaped d = true) (hu : A.units + 65 < cLine) : A.units + 1 + min (PyData.depthAll ds) d.depth < cLine := by
  have := SeqAt.depth_of_shaped h
  omega
theorem op_inT {X : Cx} (hu : X.A.units + 65 < cLine) : OpR X (compareOp .In) (rInT X.K false) := by
  rintro pins s σ H x y v u Q I rx ry ⟨d, ds, hd, he, sd, se, q⟩
  obtain ⟨as, r1⟩ := Dp.reads I d x v hd rx
  obtain ⟨bs, r2⟩ := Dp.reads I (.tuple ds) y u he ry
  rw [Bool.false_xor] at q
  exact SeqAt.in_tuple_reads r2 r1 (SeqAt.canLay_of_shaped se) (SeqAt.canLay_of_shaped sd) (room_tup sd hu) ⟨.bl _, H, I, rfl, q⟩
theorem op_notInT {X : Cx} (hu : X.A.units + 65 < cLine) : OpR X (compareOp .NotIn) (rInT X.K true) := by
  rintro pins s σ H x y v u Q I rx ry ⟨d, ds, hd, he, sd, se, q⟩
  obtain ⟨as, r1⟩ := Dp.reads I d x v hd rx
  obtain ⟨bs, r2⟩ := Dp.reads I (.tuple ds) y u he ry
  rw [Bool.true_xor] at q
  exact SeqAt.notIn_tuple_reads r2 r1 (SeqAt.canLay_of_shaped se) (SeqAt.canLay_of_shaped sd) (room_tup sd hu) ⟨.bl _, H, I, rfl, q⟩
def rInStr (n : Bool) : R2 := fun x y H Q => ∃ a z, x = .str a ∧ y = .str z ∧ Q (.bl (n ^^ signIn a z)) H
theorem occ_of {X : Cx} {op : CmpOp} {n : Bool} (h1 : OpR X (compareOp op) (fun x y H Q => ∃ i j, x = .str i ∧ y = .str j ∧ Q (.bl (n ^^ !(Builtin.Str.occurrences j i 0 j.length 1).isEmpty)) H))
    (h2 : OpR X (compareOp op) (fun x y H Q => ∃ (c : Nat) (z : Str), x = .str ⟨#[c]⟩ ∧ y = .str z ∧ Q (.bl (n ^^ decide (c ∈ z.cps.toList))) H)) : OpR X (compareOp op) (rInStr n) := by
  rintro pins s σ H x y v u Q I rx ry ⟨a, z, rfl, rfl, q⟩
  by_cases hc : ∃ c, a.cps.toList = [c]
  · obtain ⟨c, hc⟩ := hc
    have ea : a = ⟨#[c]⟩ := by
      obtain ⟨ar⟩ := a
      have : ar = #[c] := by apply Array.toList_inj.mp; simpa using hc
      rw [this]
    unfold signIn at q
    rw [hc] at q
    exact h2 pins s σ H _ _ v u Q I rx ry ⟨c, z, by rw [ea], rfl, q⟩
  · refine h1 pins s σ H _ _ v u Q I rx ry ⟨a, z, rfl, rfl, ?_⟩
    unfold signIn at q
    split at q
    · rename_i c e; exact absurd ⟨c, e⟩ hc
    · exact q
theorem op_inStr {X : Cx} : OpR X (compareOp .In) (rInStr false) := by
  refine occ_of ?_ ?_
  · rintro pins s σ H x y v u Q I rx ry ⟨i, j, e1, e2, q⟩
    exact op_in_str pins s σ H x y v u Q I rx ry ⟨i, j, e1, e2, by simpa using q⟩
  · rintro pins s σ H x y v u Q I rx ry ⟨i, j, e1, e2, q⟩
    exact op_in_sign pins s σ H x y v u Q I rx ry ⟨i, j, e1, e2, by simpa using q⟩
theorem op_notInStr {X : Cx} : OpR X (compareOp .NotIn) (rInStr true) := by
  refine occ_of ?_ ?_
  · rintro pins s σ H x y v u Q I rx ry ⟨i, j, e1, e2, q⟩
    exact op_notIn_str pins s σ H x y v u Q I rx ry ⟨i, j, e1, e2, by simpa using q⟩
  · rintro pins s σ H x y v u Q I rx ry ⟨i, j, e1, e2, q⟩
    exact op_notIn_sign pins s σ H x y v u Q I rx ry ⟨i, j, e1, e2, by simpa using q⟩
def rInU (K : PySem.W.Frag) : R2 := fun x y H Q => (rInD K x y H Q ∨ rInT K false x y H Q) ∨ rInStr false x y H Q
def rNotInU (K : PySem.W.Frag) : R2 := fun x y H Q => (rNotInD K x y H Q ∨ rInT K true x y H Q) ∨ rInStr true x y H Q
theorem op_inU {X : Cx} (hu : X.A.units + 65 < cLine) : OpR X (compareOp .In) (rInU X.K) := OpR.or (OpR.or (op_inD hu) (op_inT hu)) op_inStr
theorem op_notInU {X : Cx} (hu : X.A.units + 65 < cLine) : OpR X (compareOp .NotIn) (rNotInU X.K) := OpR.or (OpR.or (op_notInD hu) (op_notInT hu)) op_notInStr
theorem inP_some {G : Gc} {γ : Gh} {H : Hp} {A : AH} {a b : D} {x y : V} {c : Bool} (R : Rel G γ A H) (r1 : VR G γ H a x) (r2 : VR G γ H b y) (h : inP A a b = some c) :
    (∃ u z, x = .str u ∧ y = .str z ∧ signIn u z = c) ∨ ∃ d es, Dp G.K H x d ∧ SeqAt.shaped d = true ∧ (es.any fun z => PyData.eqv z d) = c ∧ ((Dp G.K H y (.list es) ∧ SeqAt.shaped (.list es) = true) ∨ (Dp G.K H y (.tuple es) ∧ SeqAt.shaped (.tuple es) = true)) := by
  unfold inP at h
  split at h
  · rename_i z e
    have e2 : b = .str z := by
      cases b with
      | ref i => unfold topD at e; simp only at e; split at e <;> cases e
      | _ => exact e
    subst e2
    split at h
    · rename_i u
      unfold VR at r1 r2
      exact .inl ⟨u, z, r1, r2, Option.some.inj h⟩
    · cases h
  · rename_i ds e
    split at h
    · rename_i d es q1 q2
      split at h
      · rename_i hs
        rw [Bool.and_eq_true] at hs
        refine .inr ⟨d, es, r1.dpA R q1, hs.1, Option.some.inj h, .inl ⟨r2.dpA R ?_, hs.2⟩⟩
        rw [e]; unfold toP; rw [q2]; rfl
      · cases h
    · cases h
  · rename_i ds e
    split at h
    · rename_i d es q1 q2
      split at h
      · rename_i hs
        rw [Bool.and_eq_true] at hs
        refine .inr ⟨d, es, r1.dpA R q1, hs.1, Option.some.inj h, .inr ⟨r2.dpA R ?_, hs.2⟩⟩
        rw [e]; unfold toP; rw [q2]; rfl
      · cases h
    · cases h
  · cases h
theorem ok_in {G : Gc} {K : PySem.W.Frag} (hk : G.K = K) : OkV2 G (rInU K) gIn := fun γ A H a b x y Q Wx R r1 r2 h => by
  obtain ⟨c, e, q⟩ := pureB_of R h
  subst hk
  rcases inP_some R r1 r2 e with ⟨u, z, e1, e2, e3⟩ | ⟨d, es, h1, h2, h3, ⟨h4, h5⟩ | ⟨h4, h5⟩⟩
  · exact .inr ⟨u, z, e1, e2, by rw [e3]; simpa using q⟩
  · exact .inl (.inl ⟨d, es, h1, h4, h2, h5, by rw [h3]; exact q⟩)
  · exact .inl (.inr ⟨d, es, h1, h4, h2, h5, by rw [h3]; simpa using q⟩)
theorem ok_notIn {G : Gc} {K : PySem.W.Frag} (hk : G.K = K) : OkV2 G (rNotInU K) gNotIn := fun γ A H a b x y Q Wx R r1 r2 h => by
  obtain ⟨c0, e0, q⟩ := pureB_of R h
  obtain ⟨c, e, e'⟩ := Option.map_eq_some_iff.mp e0
  subst hk; subst e'
  rcases inP_some R r1 r2 e with ⟨u, z, e1, e2, e3⟩ | ⟨d, es, h1, h2, h3, ⟨h4, h5⟩ | ⟨h4, h5⟩⟩
  · exact .inr ⟨u, z, e1, e2, by rw [e3]; simpa using q⟩
  · exact .inl (.inl ⟨d, es, h1, h4, h2, h5, by rw [h3]; exact q⟩)
  · exact .inl (.inr ⟨d, es, h1, h4, h2, h5, by rw [h3]; simpa using q⟩)
/-! ### + - * // % ** -/
/-- a list that may be read and joined -/
def asM (A : AH) : D → Option (List D)
  | .lst ds => some ds
  | .ref i => match A[i]? with
    | some (.lst ds) => some ds
    | _ => none
  | _ => none
theorem asM_at {G : Gc} {γ : Gh} {A : AH} {H : Hp} {d : D} {v : V} {ds : List D} (R : Rel G γ A H) (h : VR G γ H d v) (e : asM A d = some ds) : ∃ a vs, v = .ref a ∧ VRs G γ H ds vs ∧ H a = some (.lst vs) := by
  cases d with
  | lst xs => unfold VR at h; obtain ⟨a, vs, e1, f, n, r⟩ := h; cases e; exact ⟨a, vs, e1, r, f⟩
  | ref i =>
    unfold VR at h
    obtain ⟨a, e1, e2⟩ := h
    unfold asM at e
    simp only at e
    split at e
    · rename_i xs q
      cases e
      obtain ⟨a', h1, h2, vs, h3, h4⟩ := R.at_ i _ q
      rw [e2] at h1; cases h1
      exact ⟨a, vs, e1, h4, h3⟩
    · cases e
  | _ => cases e
def gAdd (x y : D) (A : AH) : Res D := match x, y with
  | .int i, .int j => .ok (.int (i + j)) A
  | .int i, .bl b => .ok (.int (i + b2i b)) A
  | .str i, .str j => if i.length + j.length ≤ sizeLine then .ok (.str (i ++ j)) A else .stuck
  | .tup a, .tup b => if a.length + b.length ≤ sizeLine then .ok (.tup (a ++ b)) A else .stuck
  | x, y => match asM A x, asM A y with
    | some a, some b => if a.length + b.length ≤ sizeLine then .ok (.lst (a ++ b)) A else .stuck
    | _, _ => .stuck
def rAddU (K : PySem.W.Frag) : R2 := fun x y H Q => (((rI0 (fun i j => .int (i + j)) x y H Q ∨ ∃ i k, x = .int i ∧ y = .bl k ∧ Q (.int (i + b2i k)) H) ∨ ∃ i j, x = .str i ∧ y = .str j ∧ i.length + j.length ≤ sizeLine ∧ Q (.str (i ++ j)) H) ∨ rCatA K x y H Q) ∨ rCat x y H Q
theorem op_addU {X : Cx} : OpR X (binaryOp .Add) (rAddU X.K) := OpR.or (OpR.or (OpR.or (OpR.or op_add op_add_ib) op_add_str) op_catA) op_cat
theorem ok_add {G : Gc} {K : PySem.W.Frag} (hk : G.K = K) : OkV2 G (rAddU K) gAdd := fun γ A H a b x y Q Wx R r1 r2 h => by
  unfold gAdd at h
  subst hk
  split at h
  · unfold VR at r1 r2; subst r1; subst r2
    exact .inl (.inl (.inl (.inl ⟨_, _, rfl, rfl, ok_here R (by unfold VR; rfl) h⟩)))
  · unfold VR at r1 r2; subst r1; subst r2
    exact .inl (.inl (.inl (.inr ⟨_, _, rfl, rfl, ok_here R (by unfold VR; rfl) h⟩)))
  · split at h
    · rename_i hz
      unfold VR at r1 r2; subst r1; subst r2
      exact .inl (.inl (.inr ⟨_, _, rfl, rfl, hz, ok_here R (by unfold VR; rfl) h⟩))
    · exact h.elim
  · split at h
    · rename_i hz
      have r1' := r1
      have r2' := r2
      unfold VR at r1 r2
      obtain ⟨a1, vs, rfl, f1, q1⟩ := r1
      obtain ⟨a2, ws, rfl, f2, q2⟩ := r2
      refine .inl (.inr ⟨a1, a2, vs, ws, rfl, rfl, f1.sq, f2.sq, by rw [← q1.length, ← q2.length]; exact hz, ?_⟩)
      have nil : ∀ {ds : List D} {us : List V}, VRs G γ H ds us → us = [] → ds = [] := fun {ds us} q e => by
        have := q.length
        rw [e] at this
        exact List.length_eq_zero_iff.mp this
      refine ⟨fun e => ?_, fun e1 e2 => ?_, fun e1 e2 p hp => ?_⟩
      · have := nil q1 e
        subst this
        exact ok_here R r2' h
      · have := nil q2 e2
        subst this
        rw [List.append_nil] at h
        exact ok_here R r1' h
      · exact Post.new (ob := .tup (vs ++ ws)) R hp h _ (VR.newT R hp (q1.append q2))
    · exact h.elim
  · split at h
    · rename_i e1 e2
      split at h
      · rename_i hz
        obtain ⟨a1, vs, rfl, q1, f1⟩ := asM_at R r1 e1
        obtain ⟨a2, ws, rfl, q2, f2⟩ := asM_at R r2 e2
        exact .inr ⟨a1, a2, vs, ws, rfl, rfl, f1, f2, by rw [← q1.length, ← q2.length]; exact hz, fun p hp => Post.new (ob := .lst (vs ++ ws)) R hp h _ (VR.newL R hp (q1.append q2))⟩
      · exact h.elim
    · exact h.elim
end F3
namespace F3
open PySem PySem.Spec
open PyProof.Rows L2
/-! ### - * // % ** and the signs -/
def gSub (x y : D) (A : AH) : Res D := match x, y with
  | .int i, .int j => .ok (.int (i - j)) A
  | _, _ => .stuck
theorem ok_sub {G : Gc} : OkV2 G (rI0 fun i j => .int (i - j)) gSub := fun γ A H a b x y Q Wx R r1 r2 h => by
  unfold gSub at h
  split at h
  · unfold VR at r1 r2; subst r1; subst r2
    exact ⟨_, _, rfl, rfl, ok_here R (by unfold VR; rfl) h⟩
  · exact h.elim
/-- the items so many times -/
def timesL (k : Nat) (ds : List D) : List D := (List.replicate k ds).flatten
theorem VRs.times {G : Gc} {γ : Gh} {H : Hp} {ds : List D} {vs : List V} (h : VRs G γ H ds vs) : ∀ k, VRs G γ H (timesL k ds) (List.replicate k vs).flatten
  | 0 => VRs.nil
  | k + 1 => by
    unfold timesL
    rw [List.replicate_succ, List.replicate_succ, List.flatten_cons, List.flatten_cons]
    exact h.append (VRs.times h k)
def gMul (x y : D) (A : AH) : Res D := match x, y with
  | .int i, .int j => if i.natAbs.log2 + j.natAbs.log2 < 1000000 then .ok (.int (i * j)) A else .stuck
  | .tup ds, .int k => if ds.isEmpty = false ∧ 2 ≤ k ∧ k ≤ 1000 ∧ ds.length ≤ 1000 then .ok (.tup (timesL k.toNat ds)) A else .stuck
  | .lst ds, .int k => if -(2 ^ 63) ≤ k ∧ k < 2 ^ 63 ∧ ds.length * k.toNat ≤ sizeLine then .ok (.lst (timesL k.toNat ds)) A else .stuck
  | _, _ => .stuck
def rMulU (K : PySem.W.Frag) : R2 := fun x y H Q => (rI CMulW (fun i j => .int (i * j)) x y H Q ∨ rRepT K x y H Q) ∨ rRep x y H Q
theorem op_mulU {X : Cx} : OpR X (binaryOp .Mult) (rMulU X.K) := OpR.or (OpR.or op_mulW op_repT) op_rep
theorem ok_mul {G : Gc} {K : PySem.W.Frag} (hk : G.K = K) : OkV2 G (rMulU K) gMul := fun γ A H a b x y Q Wx R r1 r2 h => by
  unfold gMul at h
  subst hk
  split at h
  · split at h
    · rename_i hz
      unfold VR at r1 r2; subst r1; subst r2
      exact .inl (.inl ⟨_, _, rfl, rfl, hz, ok_here R (by unfold VR; rfl) h⟩)
    · exact h.elim
  · split at h
    · rename_i ds k hz
      unfold VR at r1 r2; subst r2
      obtain ⟨a1, vs, rfl, f1, q1⟩ := r1
      have hl := q1.length
      have ne : vs ≠ [] := fun z => by
        rw [z] at hl
        have := List.length_eq_zero_iff.mp hl
        rw [this] at hz; exact absurd hz.1 (by simp)
      refine .inl (.inr ⟨a1, k, vs, rfl, rfl, f1.sq, ne, hz.2.1, hz.2.2.1, by omega, fun p hp => Post.new (ob := .tup _) R hp h _ (VR.newT R hp (q1.times _))⟩)
    · exact h.elim
  · split at h
    · rename_i ds k hz
      unfold VR at r1 r2; subst r2
      obtain ⟨a1, vs, rfl, f1, n1, q1⟩ := r1
      have hl := q1.length
      exact .inr ⟨a1, k, vs, rfl, rfl, f1, hz.1, hz.2.1, by rw [← hl]; exact hz.2.2, fun p hp => Post.new (ob := .lst _) R hp h _ (VR.newL R hp (q1.times _))⟩
    · exact h.elim
  · exact h.elim
def gFdiv (x y : D) (A : AH) : Res D := match x, y with
  | .int i, .int j => if 0 < j ∧ j.natAbs.log2 < 9000 then .ok (.int (i / j)) A else .stuck
  | _, _ => .stuck
theorem ok_fdiv {G : Gc} : OkV2 G (rI CDivW fun i j => .int (i / j)) gFdiv := fun γ A H a b x y Q Wx R r1 r2 h => by
  unfold gFdiv at h
  split at h
  · split at h
    · rename_i hz
      unfold VR at r1 r2; subst r1; subst r2
      exact ⟨_, _, rfl, rfl, hz, ok_here R (by unfold VR; rfl) h⟩
    · exact h.elim
  · exact h.elim
def gMod (x y : D) (A : AH) : Res D := match x, y with
  | .int i, .int j => if 0 < j then .ok (.int (i % j)) A else .stuck
  | _, _ => .stuck
theorem ok_mod {G : Gc} : OkV2 G (rI (fun _ j => 0 < j) fun i j => .int (i % j)) gMod := fun γ A H a b x y Q Wx R r1 r2 h => by
  unfold gMod at h
  split at h
  · split at h
    · rename_i hz
      unfold VR at r1 r2; subst r1; subst r2
      exact ⟨_, _, rfl, rfl, hz, ok_here R (by unfold VR; rfl) h⟩
    · exact h.elim
  · exact h.elim
def gPow (x y : D) (A : AH) : Res D := match x, y with
  | .int i, .int j => if 0 ≤ j ∧ j ≤ 1000000 ∧ i.natAbs < 2 ^ 64 then .ok (.int (i ^ j.toNat)) A else .stuck
  | _, _ => .stuck
theorem ok_pow {G : Gc} : OkV2 G (rI CPow fun i j => .int (i ^ j.toNat)) gPow := fun γ A H a b x y Q Wx R r1 r2 h => by
  unfold gPow at h
  split at h
  · split at h
    · rename_i hz
      unfold VR at r1 r2; subst r1; subst r2
      exact ⟨_, _, rfl, rfl, hz, ok_here R (by unfold VR; rfl) h⟩
    · exact h.elim
  · exact h.elim
def gNeg (x : D) (A : AH) : Res D := match x with
  | .int i => .ok (.int (-i)) A
  | _ => .stuck
section
variable {X : Cx} {G : Gc} {W : WX} {k : Nat} {a b : Expr} {pos : Pos} {fa fb : Ev → AH → Res D}
theorem je_neg (ha : JE X G W a fa) : JE X G W (.UnaryOp .USub a pos) (sUn gNeg fa) := by
  refine ⟨PE.imp (pe_un un_neg ha.run) fun σ H Q h => ?_⟩
  obtain ⟨γ, A, env, S, h⟩ := h
  refine ⟨γ, A, env, S, Post.bind h fun x A1 γ1 H1 e1 R1 h1 v r1 => ?_⟩
  unfold gNeg at h1
  split at h1
  · unfold VR at r1; subst r1
    exact ⟨_, rfl, ok_here R1 (by unfold VR; rfl) h1⟩
  · exact h1.elim
/-! ### the rules of operators in short -/
theorem je_add (o : XO X G W k) (ha : JE X G W a fa) (hb : JE X G W b fb) : JE X G W (.BinOp a .Add b pos) (sBin gAdd fa fb) := je_bin op_addU (ok_add o.gk) ha hb
theorem je_sub (ha : JE X G W a fa) (hb : JE X G W b fb) : JE X G W (.BinOp a .Sub b pos) (sBin gSub fa fb) := je_bin op_sub ok_sub ha hb
theorem je_mul (o : XO X G W k) (ha : JE X G W a fa) (hb : JE X G W b fb) : JE X G W (.BinOp a .Mult b pos) (sBin gMul fa fb) := je_bin op_mulU (ok_mul o.gk) ha hb
theorem je_fdiv (ha : JE X G W a fa) (hb : JE X G W b fb) : JE X G W (.BinOp a .FloorDiv b pos) (sBin gFdiv fa fb) := je_bin op_fdivW ok_fdiv ha hb
theorem je_mod (ha : JE X G W a fa) (hb : JE X G W b fb) : JE X G W (.BinOp a .Mod b pos) (sBin gMod fa fb) := je_bin op_mod ok_mod ha hb
theorem je_pow (ha : JE X G W a fa) (hb : JE X G W b fb) : JE X G W (.BinOp a .Pow b pos) (sBin gPow fa fb) := je_bin op_pow ok_pow ha hb
theorem XO.u64 (o : XO X G W k) : X.A.units + 64 < cLine := o.room.units
theorem XO.u65 (o : XO X G W k) : X.A.units + 65 < cLine := by have := o.room.un; omega
theorem XO.u0 (o : XO X G W k) : X.A.units < cLine := o.room.units0
/-- a comparison's operator, what it reckons, its rule -/
structure CO (X : Cx) (G : Gc) (op : CmpOp) (g : D → D → AH → Res D) : Prop where
  ex : ∃ r, OpR X (compareOp op) r ∧ OkV2 G r g
theorem XO.eq (o : XO X G W k) : CO X G .Eq gEq := ⟨_, op_eqD o.u64, ok_eq o.gk⟩
theorem XO.ne (o : XO X G W k) : CO X G .NotEq gNe := ⟨_, op_neD o.u64, ok_ne o.gk⟩
theorem XO.lt (o : XO X G W k) : CO X G .Lt gLt := ⟨_, op_ltU o.u0, ok_lt o.gk⟩
theorem XO.le (o : XO X G W k) : CO X G .LtE gLe := ⟨_, op_leU o.u0, ok_le o.gk⟩
theorem XO.gt (o : XO X G W k) : CO X G .Gt gGt := ⟨_, op_gt, ok_cmpI⟩
theorem XO.ge (o : XO X G W k) : CO X G .GtE gGe := ⟨_, op_ge, ok_cmpI⟩
theorem XO.is (o : XO X G W k) : CO X G .Is gIs := ⟨_, op_is, ok_is⟩
theorem XO.isNot (o : XO X G W k) : CO X G .IsNot gIsNot := ⟨_, op_isNot, ok_isNot⟩
theorem XO.in_ (o : XO X G W k) : CO X G .In gIn := ⟨_, op_inU o.u65, ok_in o.gk⟩
theorem XO.notIn (o : XO X G W k) : CO X G .NotIn gNotIn := ⟨_, op_notInU o.u65, ok_notIn o.gk⟩
theorem jec {op : CmpOp} {g : D → D → AH → Res D} (c : CO X G op g) (hm : behindInMarks op b = false) (ha : JE X G W a fa) (hb : JE X G W b fb) : JE X G W (.Compare a [op] [b] pos) (sBin g fa fb) := by
  obtain ⟨r, h1, h2⟩ := c.ex
  exact je_cmp h1 h2 hm ha hb
theorem jtc {op : CmpOp} {g : D → D → AH → Res D} (c : CO X G op g) (hm : behindInMarks op b = false) (ha : JE X G W a fa) (hb : JE X G W b fb) : JT X G W (.Compare a [op] [b] pos) (sTest (sBin g fa fb)) := by
  obtain ⟨r, h1, h2⟩ := c.ex
  exact jt_cmp h1 h2 hm ha hb
theorem jec2 {c : Expr} {fc : Ev → AH → Res D} {op op' : CmpOp} {g g' : D → D → AH → Res D} (c1 : CO X G op g) (c2 : CO X G op' g') (hm : lastMarks [op, op'] [b, c] = false) (ha : JE X G W a fa) (hb : JE X G W b fb) (hc : JE X G W c fc) : JE X G W (.Compare a [op, op'] [b, c] pos) (sChain g g' fa fb fc) := by
  obtain ⟨r, h1, h2⟩ := c1.ex
  obtain ⟨r', h3, h4⟩ := c2.ex
  exact je_chain h1 h3 h2 h4 hm ha hb hc
theorem jtc2 {c : Expr} {fc : Ev → AH → Res D} {op op' : CmpOp} {g g' : D → D → AH → Res D} (c1 : CO X G op g) (c2 : CO X G op' g') (hm : lastMarks [op, op'] [b, c] = false) (ha : JE X G W a fa) (hb : JE X G W b fb) (hc : JE X G W c fc) : JT X G W (.Compare a [op, op'] [b, c] pos) (sTest (sChain g g' fa fb fc)) := by
  obtain ⟨r, h1, h2⟩ := c1.ex
  obtain ⟨r', h3, h4⟩ := c2.ex
  exact jt_chain h1 h3 h2 h4 hm ha hb hc
/-! ### items and slices -/
def gIx (x y : D) (A : AH) : Res D := match y with
  | .int i => match x with
    | .str z => if z.length ≤ sizeLine then match atI z.cps.toList i with
      | some c => .ok (.str ⟨#[c]⟩) A
      | none => .stuck
      else .stuck
    | x => match asL A x with
      | some ds => match atI ds i with
        | some d => .ok d A
        | none => .stuck
      | none => .stuck
  | _ => .stuck
theorem VRs.atI {γ : Gh} {H : Hp} {ds : List D} {vs : List V} {i : Int} {d : D} (h : VRs G γ H ds vs) (e : atI ds i = some d) : ∃ v, L2.atI vs i = some v ∧ VR G γ H d v := by
  unfold L2.atI at e ⊢
  rw [← h.length]
  obtain ⟨j, e1, e2⟩ := Option.bind_eq_some_iff.mp e
  obtain ⟨v, e3, r⟩ := h.get e2
  exact ⟨v, by rw [e1]; exact e3, r⟩
theorem IxR.or {r r' : R2} (h : IxR X r) (h' : IxR X r') : IxR X (fun x y H Q => r x y H Q ∨ r' x y H Q) := fun val sl pins s σ H x y v u Q I rx ry q hs => by
  rcases q with q | q
  · exact h val sl pins s σ H x y v u Q I rx ry q hs
  · exact h' val sl pins s σ H x y v u Q I rx ry q hs
theorem ix_all (gk : G.K = X.K) : ∃ r, IxR X r ∧ OkV2 G r gIx := by
  refine ⟨_, IxR.or (IxR.or ix_list ix_tup) ix_str, fun γ A H a b x y Q Wx R r1 r2 h => ?_⟩
  rw [← gk]
  unfold gIx at h
  split at h
  · rename_i i
    unfold VR at r2; subst r2
    split at h
    · rename_i z
      unfold VR at r1; subst r1
      split at h
      · rename_i hz
        split at h
        · rename_i c e
          exact .inr ⟨z, i, c, rfl, rfl, hz, e, ok_here R (by unfold VR; rfl) h⟩
        · exact h.elim
      · exact h.elim
    · split at h
      · rename_i ds e
        obtain ⟨p, vs, rfl, rv, hq⟩ := asL_at R r1 e
        split at h
        · rename_i d e2
          obtain ⟨v, e3, r⟩ := rv.atI e2
          rcases hq with hq | hq
          · exact .inl (.inl ⟨p, vs, i, v, rfl, rfl, hq, e3, ok_here R r h⟩)
          · exact .inl (.inr ⟨p, vs, i, v, rfl, rfl, hq, e3, ok_here R r h⟩)
        · exact h.elim
      · exact h.elim
  · exact h.elim
theorem je_ix (o : XO X G W k) (ha : JE X G W a fa) (hb : JE X G W b fb) (hp : PlainIx b) : JE X G W (.Subscript a b pos) (sBin gIx fa fb) := by
  obtain ⟨r, h1, h2⟩ := ix_all (G := G) o.gk
  exact ⟨PE.imp (pe_ix h1 ha.run hb.run hp) fun σ H Q h => tOp_of h2 h⟩
structure JO (X : Cx) (G : Gc) (W : WX) (e : Option Expr) (f : Ev → AH → Res (Option Int)) : Prop where
  run : PO X e (fun σ H Q => ∃ γ A env, St3 G γ A env H σ ∧ Post G γ H (f env A) (fun _ _ H' d => Q d H') (fun c a H' => W c a σ H'))
def oNone : Ev → AH → Res (Option Int) := fun _ A => .ok none A
def oSome (f : Ev → AH → Res D) : Ev → AH → Res (Option Int) := fun env A => (f env A).bind fun d A1 => match d with
  | .int i => .ok (some i) A1
  | _ => .stuck
theorem jo_none : JO X G W none oNone := by
  refine ⟨⟨fun pins s σ H Q I h => ?_⟩⟩
  obtain ⟨γ, A, env, S, h⟩ := h
  exact po_none.run pins s σ H Q I (h γ H (Ext.refl _ _) S.rel)
theorem jo_some (ha : JE X G W a fa) : JO X G W (some a) (oSome fa) := by
  refine ⟨⟨fun pins s σ H Q I h => ?_⟩⟩
  obtain ⟨γ, A, env, S, h⟩ := h
  refine (po_some ha.run).run pins s σ H Q I ⟨γ, A, env, S, Post.bind h fun x A1 γ1 H1 e1 R1 h1 v r1 => ?_⟩
  split at h1
  · unfold VR at r1
    exact ⟨_, r1, h1 γ1 H1 (Ext.refl _ _) R1⟩
  · exact h1.elim
def cutD (ds : List D) (lo hi : Option Int) : List D := (ds.drop (HT.sIx ds.length 0 lo)).take (HT.sIx ds.length ds.length hi - HT.sIx ds.length 0 lo)
theorem VRs.cut {γ : Gh} {H : Hp} {ds : List D} {vs : List V} (h : VRs G γ H ds vs) (lo hi : Option Int) : VRs G γ H (cutD ds lo hi) (cutV vs lo hi) := by
  unfold cutD cutV
  rw [h.length]
  exact (h.drop _).take _
def gSl (lo hi : Option Int) (x : D) (A : AH) : Res D := match x with
  | .str z => if z.length ≤ sizeLine then .ok (.str (cutS z lo hi)) A else .stuck
  | .tup ds => .ok (.tup (cutD ds lo hi)) A
  | x => match asQ A x with
    | some ds => .ok (.lst (cutD ds lo hi)) A
    | none => .stuck
def sSlice (fa : Ev → AH → Res D) (fl fh : Ev → AH → Res (Option Int)) : Ev → AH → Res D := fun env A => (fa env A).bind fun x A1 => (fl env A1).bind fun lo A2 => (fh env A2).bind fun hi A3 => gSl lo hi x A3
theorem SlR.or {r r' : V → Option Int → Option Int → Hp → VK → Prop} (h : SlR X r) (h' : SlR X r') : SlR X (fun x lo hi H Q => r x lo hi H Q ∨ r' x lo hi H Q) := fun pins s σ H x v vl vu lo hi sl Q I rx hs pl pu q => by
  rcases q with q | q
  · exact h pins s σ H x v vl vu lo hi sl Q I rx hs pl pu q
  · exact h' pins s σ H x v vl vu lo hi sl Q I rx hs pl pu q
theorem je_slice (o : XO X G W k) {lo hi : Option Expr} {p2 : Pos} {fl fh : Ev → AH → Res (Option Int)} (ha : JE X G W a fa) (hl : JO X G W lo fl) (hh : JO X G W hi fh) : JE X G W (.Subscript a (.Slice lo hi none p2) pos) (sSlice fa fl fh) := by
  refine ⟨PE.imp (pe_slice (SlR.or (SlR.or sl_list sl_tupA) sl_str) ha.run hl.run hh.run) fun σ H Q h => ?_⟩
  obtain ⟨γ, A, env, S, h⟩ := h
  refine ⟨γ, A, env, S, Post.bind h fun x A1 γ1 H1 e1 R1 h1 v r1 => ?_⟩
  refine ⟨γ1, A1, env, S.to e1 R1, Post.bind h1 fun l A2 γ2 H2 e2 R2 h2 => ?_⟩
  refine ⟨γ2, A2, env, (S.to e1 R1).to e2 R2, Post.bind h2 fun u A3 γ3 H3 e3 R3 h3 => ?_⟩
  have r3 := VR.ext (e2.trans e3) _ _ r1
  rw [← o.gk]
  unfold gSl at h3
  split at h3
  · split at h3
    · rename_i z hz
      unfold VR at r3; subst r3
      exact .inr ⟨z, rfl, hz, ok_here R3 (by unfold VR; rfl) h3⟩
    · exact h3.elim
  · rename_i ds
    have r4 := r3
    unfold VR at r3
    obtain ⟨p, vs, rfl, f, rv⟩ := r3
    refine .inl (.inr ⟨p, vs, rfl, f.sq, fun z => ?_, fun z q hq => Post.new (ob := .tup _) R3 hq h3 _ (VR.newT R3 hq (rv.cut _ _))⟩)
    have hw : cutD ds l u = ds := by
      unfold cutD
      rw [rv.length, z.1, z.2, List.drop_zero, List.take_of_length_le (by rw [rv.length]; omega)]
    rw [hw] at h3
    exact ok_here R3 r4 h3
  · rename_i hns hnt
    split at h3
    · rename_i ds e
      obtain ⟨p, vs, rfl, rv, hq⟩ := asQ_at R3 r3 e
      exact .inl (.inl ⟨p, vs, rfl, hq, fun q hq => Post.new (ob := .lst _) R3 hq h3 _ (VR.newL R3 hq (rv.cut _ _))⟩)
    · exact h3.elim
end
end F3
namespace F3
open PySem PySem.Spec
open PyProof.Rows L2
/-! ### built-ins by values -/
def OkC (G : Gc) (r : List V → Hp → VK → Prop) (g : List D → AH → Res D) : Prop := ∀ (γ : Gh) (A : AH) (H : Hp) (ds : List D) (vs : List V) (Q : VK) (Wx : WXe), Rel G γ A H → VRs G γ H ds vs → Post G γ H (g ds A) (fun γ' _ H' d => ∀ v, VR G γ' H' d v → Q v H') Wx → r vs H Q
def sCall (g : List D → AH → Res D) (f : Ev → AH → Res (List D)) : Ev → AH → Res D := fun env A => (f env A).bind fun ds A1 => g ds A1
structure CB (X : Cx) (G : Gc) (fn : Value) (g : List D → AH → Res D) : Prop where
  ex : ∃ r, CallR X fn r ∧ OkC G r g
theorem VRs.one {G : Gc} {γ : Gh} {H : Hp} {d : D} {vs : List V} (h : VRs G γ H [d] vs) : ∃ v, vs = [v] ∧ VR G γ H d v := by
  unfold VRs at h
  obtain ⟨v, r, rfl, h1, h2⟩ := h
  unfold VRs at h2
  subst h2
  exact ⟨v, rfl, h1⟩
theorem VRs.two {G : Gc} {γ : Gh} {H : Hp} {d e : D} {vs : List V} (h : VRs G γ H [d, e] vs) : ∃ v w, vs = [v, w] ∧ VR G γ H d v ∧ VR G γ H e w := by
  unfold VRs at h
  obtain ⟨v, r, rfl, h1, h2⟩ := h
  obtain ⟨w, rfl, h3⟩ := VRs.one h2
  exact ⟨v, w, rfl, h1, h3⟩
theorem CallR.or {X : Cx} {f : Value} {r r' : List V → Hp → VK → Prop} (h : CallR X f r) (h' : CallR X f r') : CallR X f (fun xs H Q => r xs H Q ∨ r' xs H Q) := by
  intro pins s σ H xs us Q I rx q
  rcases q with q | q
  · exact h pins s σ H xs us Q I rx q
  · exact h' pins s σ H xs us Q I rx q
section
variable {X : Cx} {G : Gc} {W : WX} {k : Nat}
theorem tCB_of {r : List V → Hp → VK → Prop} {g : List D → AH → Res D} {f : Ev → AH → Res (List D)} (hv : OkC G r g) {σ : L2.St} {H : Hp} {Q : VK} (h : tE G W (sCall g f) σ H Q) : tCB r (tA G W f) σ H Q := by
  obtain ⟨γ, A, env, S, h⟩ := h
  exact ⟨γ, A, env, S, Post.bind h fun ds A1 γ1 H1 e1 R1 h1 vs r1 => hv γ1 A1 H1 ds vs Q _ R1 r1 h1⟩
theorem je_callB {id : String} {x : Str} {p pos : Pos} {e : Expr} {es : List Expr} {g : List D → AH → Res D} {f : Ev → AH → Res (List D)} (c : CB X G (.builtin id) g) (hg : Gl X x) (hm : X.mg x = none) (hv : bootBuiltins x = some (.builtin id)) (ha : JA X G W (e :: es) f)
    (hn : x ≠ "__name__") (hdb : (x == ("__debug__" : Str)) = false) (he : starEach (e :: es) X.env = (false, eval e X.env) :: starEach es X.env := by rfl) (hpl : (backTo pos (starEach es X.env)).any (·.1) = false := by rfl) : JE X G W (.Call (.Name x p) (e :: es) [] pos) (sCall g f) := by
  obtain ⟨r, h1, h2⟩ := c.ex
  exact ⟨PE.imp (pe_callB h1 hg hm hv ha.run hn hdb he hpl) fun σ H Q h => tCB_of h2 h⟩
theorem je_callTy {T : String} {x : Str} {p pos : Pos} {e : Expr} {es : List Expr} {g : List D → AH → Res D} {f : Ev → AH → Res (List D)} (c : CB X G (.type T) g) (hg : Gl X x) (hm : X.mg x = none) (hv : bootBuiltins x = some (.type T)) (ha : JA X G W (e :: es) f)
    (hn : x ≠ "__name__") (hdb : (x == ("__debug__" : Str)) = false) (he : starEach (e :: es) X.env = (false, eval e X.env) :: starEach es X.env := by rfl) (hpl : (backTo pos (starEach es X.env)).any (·.1) = false := by rfl) : JE X G W (.Call (.Name x p) (e :: es) [] pos) (sCall g f) := by
  obtain ⟨r, h1, h2⟩ := c.ex
  exact ⟨PE.imp (pe_callTy h1 hg hm hv ha.run hn hdb he hpl) fun σ H Q h => tCB_of h2 h⟩
/-- len -/
def gLen (ds : List D) (A : AH) : Res D := match ds with
  | [.str z] => if z.length ≤ sizeLine then .ok (.int z.length) A else .stuck
  | [d] => match asL A d with
    | some xs => .ok (.int xs.length) A
    | none => .stuck
  | _ => .stuck
theorem XO.len (o : XO X G W k) : CB X G (.builtin "len") gLen := by
  refine ⟨_, call_len, fun γ A H ds vs Q Wx R r h => ?_⟩
  unfold gLen at h
  split at h
  · obtain ⟨v, rfl, r1⟩ := r.one
    split at h
    · rename_i hz
      unfold VR at r1; subst r1
      exact ⟨_, _, rfl, ⟨hz, rfl⟩, ok_here R (by unfold VR; rfl) h⟩
    · exact h.elim
  · obtain ⟨v, rfl, r1⟩ := r.one
    split at h
    · rename_i xs e
      obtain ⟨a, us, rfl, rv, hq⟩ := asL_at R r1 e
      rw [o.gk] at hq
      refine ⟨_, us.length, rfl, ?_, by rw [← rv.length]; exact ok_here R (by unfold VR; rfl) h⟩
      rcases hq with hq | hq
      · exact .inl ⟨us, hq, rfl⟩
      · exact .inr ⟨us, hq, rfl⟩
    · exact h.elim
  · exact h.elim
/-- all, any -/
def dbls : List D → Option (List Bool)
  | [] => some []
  | .bl i :: ds => (dbls ds).map (i :: ·)
  | _ :: _ => none
theorem dbls_map : ∀ {ds : List D} {ns : List Bool}, dbls ds = some ns → ds = ns.map D.bl
  | [], ns, e => by unfold dbls at e; cases e; rfl
  | d :: ds, ns, e => by
    cases d with
    | bl i =>
      unfold dbls at e
      obtain ⟨ms, e1, rfl⟩ := Option.map_eq_some_iff.mp e
      rw [dbls_map e1]; rfl
    | _ => unfold dbls at e; cases e
theorem VRs.blsV {γ : Gh} {H : Hp} : ∀ {ns : List Bool} {vs : List V}, VRs G γ H (ns.map D.bl) vs → vs = ns.map V.bl
  | [], vs, h => by simp only [List.map_nil] at h; unfold VRs at h; exact h
  | n :: ns, vs, h => by
    simp only [List.map_cons] at h
    unfold VRs at h
    obtain ⟨v, r, rfl, h1, h2⟩ := h
    unfold VR at h1
    subst h1
    rw [VRs.blsV h2]; rfl
def gAll (ds : List D) (A : AH) : Res D := match ds with
  | [d] => match (asQ A d).bind dbls with
    | some bs => .ok (.bl (bs.all id)) A
    | none => .stuck
  | _ => .stuck
def gAny (ds : List D) (A : AH) : Res D := match ds with
  | [d] => match (asQ A d).bind dbls with
    | some bs => .ok (.bl (bs.any id)) A
    | none => .stuck
  | _ => .stuck
theorem bls_at {γ : Gh} {A : AH} {H : Hp} {d : D} {v : V} {bs : List Bool} (R : Rel G γ A H) (h : VR G γ H d v) (e : (asQ A d).bind dbls = some bs) : ∃ a, v = .ref a ∧ SqL G.K H a (bs.map V.bl) := by
  obtain ⟨xs, e1, e2⟩ := Option.bind_eq_some_iff.mp e
  obtain ⟨a, us, rfl, rv, hq⟩ := asQ_at R h e1
  rw [dbls_map e2] at rv
  rw [VRs.blsV rv] at hq
  exact ⟨a, rfl, hq⟩
theorem XO.all (o : XO X G W k) : CB X G (.builtin "all") gAll := by
  refine ⟨_, cr_all o.calm, fun γ A H ds vs Q Wx R r h => ?_⟩
  unfold gAll at h
  split at h
  · obtain ⟨v, rfl, r1⟩ := r.one
    split at h
    · rename_i bs e
      obtain ⟨a, rfl, hq⟩ := bls_at R r1 e
      rw [o.gk] at hq
      exact ⟨a, bs, rfl, hq, ok_here R (by unfold VR; rfl) h⟩
    · exact h.elim
  · exact h.elim
theorem XO.any (o : XO X G W k) : CB X G (.builtin "any") gAny := by
  refine ⟨_, cr_any o.calm, fun γ A H ds vs Q Wx R r h => ?_⟩
  unfold gAny at h
  split at h
  · obtain ⟨v, rfl, r1⟩ := r.one
    split at h
    · rename_i bs e
      obtain ⟨a, rfl, hq⟩ := bls_at R r1 e
      rw [o.gk] at hq
      exact ⟨a, bs, rfl, hq, ok_here R (by unfold VR; rfl) h⟩
    · exact h.elim
  · exact h.elim
def gAbs (ds : List D) (A : AH) : Res D := match ds with
  | [.int i] => .ok (.int (if i < 0 then -i else i)) A
  | _ => .stuck
theorem cb_abs : CB X G (.builtin "abs") gAbs := by
  refine ⟨_, call_abs, fun γ A H ds vs Q Wx R r h => ?_⟩
  unfold gAbs at h
  split at h
  · obtain ⟨v, rfl, r1⟩ := r.one
    unfold VR at r1; subst r1
    exact ⟨_, rfl, ok_here R (by unfold VR; rfl) h⟩
  · exact h.elim
def gMax2 (ds : List D) (A : AH) : Res D := match ds with
  | [.int i, .int j] => .ok (.int (if j > i then j else i)) A
  | _ => .stuck
def gMin2 (ds : List D) (A : AH) : Res D := match ds with
  | [.int i, .int j] => .ok (.int (if j < i then j else i)) A
  | _ => .stuck
theorem XO.max2 (o : XO X G W k) : CB X G (.builtin "max") gMax2 := by
  refine ⟨_, call_max2 o.calm, fun γ A H ds vs Q Wx R r h => ?_⟩
  unfold gMax2 at h
  split at h
  · obtain ⟨v, w, rfl, r1, r2⟩ := r.two
    unfold VR at r1 r2; subst r1; subst r2
    exact ⟨_, _, rfl, ok_here R (by unfold VR; rfl) h⟩
  · exact h.elim
theorem XO.min2 (o : XO X G W k) : CB X G (.builtin "min") gMin2 := by
  refine ⟨_, call_min2 o.calm, fun γ A H ds vs Q Wx R r h => ?_⟩
  unfold gMin2 at h
  split at h
  · obtain ⟨v, w, rfl, r1, r2⟩ := r.two
    unfold VR at r1 r2; subst r1; subst r2
    exact ⟨_, _, rfl, ok_here R (by unfold VR; rfl) h⟩
  · exact h.elim
def gInt (ds : List D) (A : AH) : Res D := match ds with
  | [.int i] => .ok (.int i) A
  | [.bl b] => .ok (.int (if b = true then 1 else 0)) A
  | [.str a] => match PySem.intText? a with
    | some n => if a.length ≤ 640 then .ok (.int n) A else .stuck
    | none => .stuck
  | _ => .stuck
theorem cb_int : CB X G (.type "int") gInt := by
  refine ⟨_, CallR.or call_int1 call_int_str, fun γ A H ds vs Q Wx R r h => ?_⟩
  unfold gInt at h
  split at h
  · obtain ⟨v, rfl, r1⟩ := r.one
    unfold VR at r1; subst r1
    exact .inl (.inl ⟨_, rfl, ok_here R (by unfold VR; rfl) h⟩)
  · obtain ⟨v, rfl, r1⟩ := r.one
    unfold VR at r1; subst r1
    exact .inl (.inr ⟨_, rfl, ok_here R (by unfold VR; rfl) h⟩)
  · obtain ⟨v, rfl, r1⟩ := r.one
    unfold VR at r1; subst r1
    split at h
    · rename_i n e
      split at h
      · rename_i hz
        exact .inr ⟨_, n, rfl, e, hz, ok_here R (by unfold VR; rfl) h⟩
      · exact h.elim
    · exact h.elim
  · exact h.elim
def gStr (ds : List D) (A : AH) : Res D := match ds with
  | [.int i] => if i.natAbs.log2 < 1920 then .ok (.str (toString i)) A else .stuck
  | [.str a] => .ok (.str a) A
  | _ => .stuck
theorem cb_str : CB X G (.type "str") gStr := by
  refine ⟨_, CallR.or call_str_int SkE.call_str_str, fun γ A H ds vs Q Wx R r h => ?_⟩
  unfold gStr at h
  split at h
  · obtain ⟨v, rfl, r1⟩ := r.one
    unfold VR at r1; subst r1
    split at h
    · rename_i hz
      exact .inl ⟨_, rfl, hz, ok_here R (by unfold VR; rfl) h⟩
    · exact h.elim
  · obtain ⟨v, rfl, r1⟩ := r.one
    unfold VR at r1; subst r1
    exact .inr ⟨_, rfl, ok_here R (by unfold VR; rfl) h⟩
  · exact h.elim
/-- tuple(x), list(x) -/
def gTuple (ds : List D) (A : AH) : Res D := match ds with
  | [.tup xs] => .ok (.tup xs) A
  | [d] => match asQ A d with
    | some xs => .ok (.tup xs) A
    | none => .stuck
  | _ => .stuck
theorem XO.tuple (o : XO X G W k) : CB X G (.type "tuple") gTuple := by
  refine ⟨_, call_tuple_of, fun γ A H ds vs Q Wx R r h => ?_⟩
  unfold gTuple at h
  rw [← o.gk]
  split at h
  · obtain ⟨v, rfl, r1⟩ := r.one
    have r2 := r1
    unfold VR at r1
    obtain ⟨a, us, rfl, f, rv⟩ := r1
    exact ⟨a, us, rfl, .inr ⟨f.sq, ok_here R r2 h⟩⟩
  · obtain ⟨v, rfl, r1⟩ := r.one
    split at h
    · rename_i xs e
      obtain ⟨a, us, rfl, rv, hq⟩ := asQ_at R r1 e
      exact ⟨a, us, rfl, .inl ⟨hq, fun q hq => Post.new (ob := .tup _) R hq h _ (VR.newT R hq rv)⟩⟩
    · exact h.elim
  · exact h.elim
def gList (ds : List D) (A : AH) : Res D := match ds with
  | [d] => match asL A d with
    | some xs => .ok (.lst xs) A
    | none => .stuck
  | _ => .stuck
/-- repr -/
def reprP (A : AH) (x : D) : Option Str := match toP (topD A x) with
  | some d => if d.showable && !d.hasDict && decide (d.depth ≤ 60) && decide (d.shown.length ≤ sizeLine) then some d.shown else none
  | none => none
def gRepr (ds : List D) (A : AH) : Res D := match ds with
  | [d] => match reprP A d with
    | some z => .ok (.str z) A
    | none => .stuck
  | _ => .stuck
def rRepr (K : PySem.W.Frag) : List V → Hp → VK → Prop := fun vs H Q => ∃ x d, vs = [x] ∧ Dp K H x d ∧ d.showable = true ∧ d.hasDict = false ∧ d.depth ≤ 60 ∧ d.shown.length ≤ sizeLine ∧ Q (.str d.shown) H
theorem call_reprL (hgd : X.A.guards = some []) (hu : X.A.units + 65 < cLine) : CallR X (.builtin "repr") (rRepr X.K) := by
  rintro pins s σ H xs us Q I r ⟨x, d, rfl, hd, h1, h2, h3, h4, q⟩
  obtain ⟨u, rfl, ru⟩ := r.one
  have ref : ∀ a, x = .ref a → wpAny (model X.prog X.w) X.A (call (.builtin "repr") [u]) (EP X pins σ Q) X.xe s := fun a e => by
    subst e
    obtain ⟨as, rd⟩ := Dp.reads I d _ u hd ru
    obtain rfl : u = Value.ref a := ru
    exact repr_of_reads' rd h1 (PyData.noDict_hsm h2) hgd (by omega) (fun _ _ e => e) (fun h' u tk hk => ⟨.str d.shown, H, I.kept hk, ⟨_, rfl⟩, q⟩) h4
  cases hd with
  | non => cases ru; exact P.repr_of_none ⟨.str _, H, I.tok _, ⟨_, rfl⟩, by simpa only [PyData.shown] using q⟩
  | bl b => cases ru; exact P.repr_of_bool ⟨.str _, H, I.tok _, ⟨_, rfl⟩, by simpa only [PyData.shown] using q⟩
  | int i =>
    obtain ⟨t, rfl⟩ := ru
    have h1' : i.natAbs.log2 < 1920 := by unfold PyData.showable at h1; exact of_decide_eq_true h1
    exact P.repr_of_int h1' ⟨.str _, H, I.tok _, ⟨_, rfl⟩, by simpa only [PyData.shown] using q⟩
  | str z =>
    obtain ⟨t, rfl⟩ := ru
    exact P.repr_of_str ⟨.str _, H, I.tok _, ⟨_, rfl⟩, by simpa only [PyData.shown] using q⟩ (by simpa only [PyData.shown] using h4)
  | lst _ _ => exact ref _ rfl
  | tup _ _ => exact ref _ rfl
theorem cb_reprL (hgd : X.A.guards = some []) (hu : X.A.units + 65 < cLine) (gk : G.K = X.K) : CB X G (.builtin "repr") gRepr := by
  refine ⟨_, call_reprL hgd hu, fun γ A H ds vs Q Wx R r h => ?_⟩
  unfold gRepr at h
  split at h
  · obtain ⟨v, rfl, r1⟩ := r.one
    split at h
    · rename_i z e
      unfold reprP at e
      split at e
      · rename_i d e1
        split at e
        · rename_i hs
          simp only [Bool.and_eq_true, Bool.not_eq_true', decide_eq_true_eq] at hs
          cases e
          exact ⟨v, d, rfl, gk ▸ r1.dpA R e1, hs.1.1.1, hs.1.1.2, hs.1.2, hs.2, ok_here R (by unfold VR; rfl) h⟩
        · cases e
      · cases e
    · exact h.elim
  · exact h.elim
theorem XO.repr (o : XO X G W k) : CB X G (.builtin "repr") gRepr := cb_reprL o.gd o.u65 o.gk
/-! ### methods of texts -/
def dstrs : List D → Option (List Str)
  | [] => some []
  | .str i :: ds => (dstrs ds).map (i :: ·)
  | _ :: _ => none
theorem dstrs_map : ∀ {ds : List D} {ns : List Str}, dstrs ds = some ns → ds = ns.map D.str
  | [], ns, e => by unfold dstrs at e; cases e; rfl
  | d :: ds, ns, e => by
    cases d with
    | str i =>
      unfold dstrs at e
      obtain ⟨ms, e1, rfl⟩ := Option.map_eq_some_iff.mp e
      rw [dstrs_map e1]; rfl
    | _ => unfold dstrs at e; cases e
theorem VRs.strsV {γ : Gh} {H : Hp} : ∀ {ns : List Str} {vs : List V}, VRs G γ H (ns.map D.str) vs → vs = ns.map V.str
  | [], vs, h => by simp only [List.map_nil] at h; unfold VRs at h; exact h
  | n :: ns, vs, h => by
    simp only [List.map_cons] at h
    unfold VRs at h
    obtain ⟨v, r, rfl, h1, h2⟩ := h
    unfold VR at h1
    subst h1
    rw [VRs.strsV h2]; rfl
/-- what a method of texts is called on: evaluated first, a text -/
def sM1 (g : Str → D → AH → Res D) (fa fb : Ev → AH → Res D) : Ev → AH → Res D := fun env A => (fa env A).bind fun x A1 => match x with
  | .str a => (fb env A1).bind fun y A2 => g a y A2
  | _ => .stuck
def mSplit (a : Str) (y : D) (A : AH) : Res D := match y with
  | .str b => if (b.length == 0) = false ∧ a.length + 2 ≤ sizeLine then .ok (.lst ((Txt.split a b).map .str)) A else .stuck
  | _ => .stuck
def mJoin (a : Str) (y : D) (A : AH) : Res D := match (asL A y).bind dstrs with
  | some ys => if (ys.map (·.length)).sum + ys.length * a.length ≤ 16777216 then .ok (.str (Txt.join a ys)) A else .stuck
  | none => .stuck
theorem je_split {a b : Expr} {apos pos : Pos} {fa fb : Ev → AH → Res D} (ha : JE X G W a fa) (hb : JE X G W b fb) (hs : starEach [b] X.env = [(false, eval b X.env)] := by rfl) (hbase : attributeBase a "split" X.env (eval a X.env) = eval a X.env := by rfl)
    (hline : (apos.endLine == pos.line) = true := by rfl) : JE X G W (.Call (.Attribute a "split" apos) [b] [] pos) (sM1 mSplit fa fb) := by
  refine ⟨PE.imp (pe_split ha.run hb.run hs hbase hline) fun σ H Q h => ?_⟩
  obtain ⟨γ, A, env, S, h⟩ := h
  refine ⟨γ, A, env, S, Post.bind h fun x A1 γ1 H1 e1 R1 h1 v r1 => ?_⟩
  split at h1
  · rename_i z
    unfold VR at r1; subst r1
    refine ⟨⟨z, rfl⟩, γ1, A1, env, S.to e1 R1, Post.bind h1 fun y A2 γ2 H2 e2 R2 h2 w r2 => ?_⟩
    unfold mSplit at h2
    split at h2
    · rename_i b
      split at h2
      · rename_i hz
        unfold VR at r2; subst r2
        refine ⟨z, b, rfl, rfl, hz.1, hz.2, fun p hp => Post.new (ob := .lst _) R2 hp h2 _ (VR.newL R2 hp (VRs.strs _))⟩
      · exact h2.elim
    · exact h2.elim
  · exact h1.elim
theorem je_join (o : XO X G W k) {a b : Expr} {apos pos : Pos} {fa fb : Ev → AH → Res D} (ha : JE X G W a fa) (hb : JE X G W b fb) (hs : starEach [b] X.env = [(false, eval b X.env)] := by rfl) (hbase : attributeBase a "join" X.env (eval a X.env) = eval a X.env := by rfl)
    (hline : (apos.endLine == pos.line) = true := by rfl) : JE X G W (.Call (.Attribute a "join" apos) [b] [] pos) (sM1 mJoin fa fb) := by
  refine ⟨PE.imp (pe_join ha.run hb.run hs hbase hline) fun σ H Q h => ?_⟩
  obtain ⟨γ, A, env, S, h⟩ := h
  refine ⟨γ, A, env, S, Post.bind h fun x A1 γ1 H1 e1 R1 h1 v r1 => ?_⟩
  split at h1
  · rename_i z
    unfold VR at r1; subst r1
    refine ⟨⟨z, rfl⟩, γ1, A1, env, S.to e1 R1, Post.bind h1 fun y A2 γ2 H2 e2 R2 h2 w r2 => ?_⟩
    unfold mJoin at h2
    split at h2
    · rename_i ys e
      split at h2
      · rename_i hz
        obtain ⟨xs, e3, e4⟩ := Option.bind_eq_some_iff.mp e
        obtain ⟨p, us, rfl, rv, hq⟩ := asL_at R2 r2 e3
        rw [dstrs_map e4] at rv
        rw [VRs.strsV rv, o.gk] at hq
        exact ⟨z, p, ys, rfl, rfl, hq, hz, ok_here R2 (by unfold VR; rfl) h2⟩
      · exact h2.elim
    · exact h2.elim
  · exact h1.elim
/-! ### f-strings -/
def sFmt (f : Ev → AH → Res D) : Ev → AH → Res D := fun env A => (f env A).bind fun d A1 => match d with
  | .str y => if y.length ≤ sizeLine then .ok (.str y) A1 else .stuck
  | .int i => if i.natAbs.log2 < 1920 then .ok (.str (toString i)) A1 else .stuck
  | _ => .stuck
theorem je_fmt {e : Expr} {pos : Pos} {f : Ev → AH → Res D} (h : JE X G W e f) : JE X G W (.FormattedValue e (-1) none pos) (sFmt f) := by
  refine ⟨PE.imp (pe_fmt h.run) fun σ H Q h => ?_⟩
  obtain ⟨γ, A, env, S, h⟩ := h
  refine ⟨γ, A, env, S, Post.bind h fun x A1 γ1 H1 e1 R1 h1 v r1 => ?_⟩
  split at h1
  · split at h1
    · rename_i hz
      unfold VR at r1; subst r1
      exact .inl ⟨_, rfl, hz, ok_here R1 (by unfold VR; rfl) h1⟩
    · exact h1.elim
  · split at h1
    · rename_i hz
      unfold VR at r1; subst r1
      exact .inr ⟨_, rfl, hz, ok_here R1 (by unfold VR; rfl) h1⟩
    · exact h1.elim
  · exact h1.elim
def fsL : List (Ev → AH → Res D) → Str → Ev → AH → Res D
  | [], acc, _, A => .ok (.str acc) A
  | f :: fs, acc, env, A => (f env A).bind fun d A1 => match d with
    | .str y => if (acc ++ y).length ≤ sizeLine then fsL fs (acc ++ y) env A1 else .stuck
    | _ => .stuck
inductive JJ (X : Cx) (G : Gc) (W : WX) : List Expr → List (Ev → AH → Res D) → Prop where
  | nil : JJ X G W [] []
  | cons {e : Expr} {f : Ev → AH → Res D} {es : List Expr} {fs : List (Ev → AH → Res D)} (h : JE X G W e f) (r : JJ X G W es fs) : JJ X G W (e :: es) (f :: fs)
theorem JJ.pj {es : List Expr} {fs : List (Ev → AH → Res D)} (h : JJ X G W es fs) : PJ X es (fs.map (tE G W)) := by
  induction h with
  | nil => exact .nil
  | cons h r ih => exact .cons h.run ih
theorem fsL_of {σ : L2.St} {Q : VK} : ∀ (fs : List (Ev → AH → Res D)) (acc : Str) (γ : Gh) (A : AH) (env : Ev) (H : Hp), St3 G γ A env H σ → Post G γ H (fsL fs acc env A) (fun γ' _ H' d => ∀ v, VR G γ' H' d v → Q v H') (fun c a H' => W c a σ H') →
    tJs (fs.map (tE G W)) acc σ H fun out H1 => Q (.str out) H1
  | [], acc, γ, A, env, H, S, h => ok_here S.rel (by unfold VR; rfl) h
  | f :: fs, acc, γ, A, env, H, S, h => by
    unfold fsL at h
    refine ⟨γ, A, env, S, Post.bind h fun x A1 γ1 H1 e1 R1 h1 v r1 => ?_⟩
    split at h1
    · rename_i y
      split at h1
      · rename_i hz
        unfold VR at r1; subst r1
        exact ⟨y, rfl, hz, fsL_of fs (acc ++ y) γ1 A1 env H1 (S.to e1 R1) h1⟩
      · exact h1.elim
    · exact h1.elim
theorem je_joined {v1 v2 : Expr} {rest : List Expr} {fs : List (Ev → AH → Res D)} {pos : Pos} (h : JJ X G W (v1 :: v2 :: rest) fs) : JE X G W (.JoinedStr (v1 :: v2 :: rest) pos) (fsL fs Str.empty) := by
  refine ⟨PE.imp (pe_joined h.pj) fun σ H Q h => ?_⟩
  obtain ⟨γ, A, env, S, h⟩ := h
  exact fsL_of fs Str.empty γ A env H S h
/-! ### what is walked -/
def iOf (f : Ev → AH → Res D) : Ev → AH → Res (List D) := fun env A => (f env A).bind fun d A1 => match d with
  | .tup ds => .ok ds A1
  | .lst ds => .ok ds A1
  | .str z => .ok (z.cps.toList.map fun c => .str ⟨#[c]⟩) A1
  | _ => .stuck
theorem PI.or {tg e : Expr} {t t' : TI} (h : PI X tg e t) (h' : PI X tg e t') : PI X tg e (fun σ H R => t σ H R ∨ t' σ H R) := ⟨fun pins s σ H R I z => z.elim (fun z => h.run pins s σ H R I z) fun z => h'.run pins s σ H R I z⟩
theorem yl_list {γ : Gh} {H : Hp} {a : Addr} {ds : List D} {vs : List V} (h : H a = some (.lst vs)) (n : γ.o a = none) (r : VRs G γ H ds vs) (K : PySem.W.Frag) : Yl G γ H (Itl K a) ds := by
  intro i γ' H' A e R
  obtain ⟨h', n'⟩ := e.keep a _ h n (fun _ z => nomatch z)
  refine ⟨fun d q => ?_, fun q => ⟨vs, SqL.of h', by rw [← r.length]; exact q⟩⟩
  obtain ⟨v, e1, rv⟩ := r.get q
  refine ⟨⟨vs, v, SqL.of h', e1⟩, fun x H2 hy => ?_⟩
  obtain ⟨rfl, hx⟩ := hy
  have := hx vs (SqL.of h')
  rw [e1] at this
  cases this
  exact ⟨Ext.refl _ _, R, VR.ext0 e _ _ rv⟩
end
end F3
namespace F3
open PySem PySem.Spec
open PyProof.Rows L2
section
variable {X : Cx} {G : Gc} {W : WX} {k : Nat}
theorem yl_tup {γ : Gh} {H : Hp} {a : Addr} {ds : List D} {vs : List V} (f : FxT G γ H a vs) (r : VRs G γ H ds vs) : Yl G γ H (Itt G.K a) ds := by
  intro i γ' H' A e R
  have f' := e.fxT f
  refine ⟨fun d q => ?_, fun q => ⟨vs, f'.sq, by rw [← r.length]; exact q⟩⟩
  obtain ⟨v, e1, rv⟩ := r.get q
  refine ⟨⟨vs, v, f'.sq, e1⟩, fun x H2 hy => ?_⟩
  obtain ⟨rfl, hx⟩ := hy
  have := hx vs f'.sq
  rw [e1] at this
  cases this
  exact ⟨Ext.refl _ _, R, VR.ext0 e _ _ rv⟩
theorem yl_str {γ : Gh} {H : Hp} (z : Str) : Yl G γ H (Its z) (z.cps.toList.map fun c => .str ⟨#[c]⟩) := by
  intro i γ' H' A e R
  refine ⟨fun d q => ?_, fun q => (by simpa using q : z.cps.size ≤ i)⟩
  rw [List.getElem?_map] at q
  obtain ⟨c, q1, rfl⟩ := Option.map_eq_some_iff.mp q
  have q2 : z.cps[i]? = some c := by simpa using q1
  refine ⟨(Array.getElem?_eq_some_iff.mp q2).1, fun x H2 hy => ?_⟩
  obtain ⟨rfl, c', e1, rfl⟩ := hy
  rw [q2] at e1; cases e1
  exact ⟨Ext.refl _ _, R, by unfold VR; rfl⟩
theorem ji_of (o : XO X G W k) {tg e : Expr} {f : Ev → AH → Res D} (h : JE X G W e f) : JI X G W tg e (iOf f) := by
  refine ⟨PI.imp (PI.or (PI.or (pi_list h.run) (pi_tup h.run)) (pi_str h.run)) fun σ H R hw => ?_⟩
  obtain ⟨γ, A, env, S, hw⟩ := hw
  unfold iOf at hw
  cases q : f env A with
  | ex x A1 =>
    rw [q] at hw
    exact .inl (.inl ⟨γ, A, env, S, by rw [q]; exact hw⟩)
  | stuck => rw [q] at hw; exact hw.elim
  | ok d A1 =>
    rw [q] at hw
    cases d with
    | tup ds =>
      refine .inl (.inr ⟨γ, A, env, S, ?_⟩)
      rw [q]
      intro γ1 H1 e1 R1 v r1
      unfold VR at r1
      obtain ⟨a, vs, rfl, f, rv⟩ := r1
      exact ⟨a, rfl, ⟨vs, o.gk ▸ f.sq⟩, hw γ1 H1 e1 R1 _ (o.gk ▸ yl_tup f rv)⟩
    | lst ds =>
      refine .inl (.inl ⟨γ, A, env, S, ?_⟩)
      rw [q]
      intro γ1 H1 e1 R1 v r1
      unfold VR at r1
      obtain ⟨a, vs, rfl, f, n, rv⟩ := r1
      exact ⟨a, rfl, ⟨vs, SqL.of f⟩, hw γ1 H1 e1 R1 _ (yl_list f n rv X.K)⟩
    | str z =>
      refine .inr ⟨γ, A, env, S, ?_⟩
      rw [q]
      intro γ1 H1 e1 R1 v r1
      unfold VR at r1
      exact ⟨z, r1, hw γ1 H1 e1 R1 _ (yl_str z)⟩
    | _ => exact hw.elim
/-- range -/
def rngL (lo c : Int) : Nat → List D
  | 0 => []
  | n + 1 => .int lo :: rngL (lo + c) c n
theorem rngL_get (c : Int) : ∀ (n : Nat) (lo : Int) (i : Nat), (rngL lo c n)[i]? = if i < n then some (.int (lo + i * c)) else none
  | 0, lo, i => by simp [rngL]
  | n + 1, lo, 0 => by simp [rngL]
  | n + 1, lo, i + 1 => by
    have ih := rngL_get c n (lo + c) i
    simp only [rngL, List.getElem?_cons_succ, ih, Nat.add_lt_add_iff_right]
    split
    · congr 2
      rw [Int.natCast_add, Int.add_mul]
      omega
    · rfl
theorem rngL_length (c : Int) : ∀ (n : Nat) (lo : Int), (rngL lo c n).length = n
  | 0, _ => rfl
  | n + 1, lo => by simp [rngL, rngL_length c n]
theorem yl_rng {γ : Gh} {H : Hp} (lo : Int) (n : Nat) : Yl G γ H (Itr lo n) (rngL lo 1 n) := by
  intro i γ' H' A e R
  refine ⟨fun d q => ?_, fun q => by rw [rngL_length] at q; exact q⟩
  rw [rngL_get] at q
  split at q
  · rename_i hi
    cases q
    refine ⟨hi, fun x H2 hy => ?_⟩
    obtain ⟨rfl, rfl⟩ := hy
    exact ⟨Ext.refl _ _, R, by unfold VR; rw [Int.mul_one]⟩
  · cases q
def iRange1 (f : Ev → AH → Res (List D)) : Ev → AH → Res (List D) := fun env A => (f env A).bind fun ds A1 => match ds with
  | [.int j] => if j.natAbs < 2 ^ 62 then .ok (rngL 0 1 j.toNat) A1 else .stuck
  | _ => .stuck
def iRange2 (f : Ev → AH → Res (List D)) : Ev → AH → Res (List D) := fun env A => (f env A).bind fun ds A1 => match ds with
  | [.int i, .int j] => if i.natAbs < 2 ^ 62 ∧ j.natAbs < 2 ^ 62 then .ok (rngL i 1 (j - i).toNat) A1 else .stuck
  | _ => .stuck
theorem ji_range1 {tg a : Expr} {p pos : Pos} {f : Ev → AH → Res (List D)} (hg : Gl X "range") (hm : X.mg "range" = none) (ha : JA X G W [a] f) (hs : starEach [a] X.env = [(false, eval a X.env)] := by rfl) : JI X G W tg (.Call (.Name "range" p) [a] [] pos) (iRange1 f) := by
  refine ⟨PI.imp (pi_range1 hg hm ha.run hs) fun σ H R hw => ?_⟩
  obtain ⟨γ, A, env, S, hw⟩ := hw
  refine ⟨γ, A, env, S, Post.bind hw fun ds A1 γ1 H1 e1 R1 h1 vs r1 => ?_⟩
  split at h1
  · obtain ⟨v, rfl, r2⟩ := r1.one
    split at h1
    · rename_i hz
      unfold VR at r2; subst r2
      exact ⟨_, rfl, by omega, by omega, h1 γ1 H1 (Ext.refl _ _) R1 _ (yl_rng 0 _)⟩
    · exact h1.elim
  · exact h1.elim
theorem ji_range2 {tg a b : Expr} {p pos : Pos} {f : Ev → AH → Res (List D)} (hg : Gl X "range") (hm : X.mg "range" = none) (ha : JA X G W [a, b] f) (hs : starEach [a, b] X.env = [(false, eval a X.env), (false, eval b X.env)] := by rfl) (hs2 : starEach [b] X.env = [(false, eval b X.env)] := by rfl) :
    JI X G W tg (.Call (.Name "range" p) [a, b] [] pos) (iRange2 f) := by
  refine ⟨PI.imp (pi_range2 hg hm ha.run hs hs2) fun σ H R hw => ?_⟩
  obtain ⟨γ, A, env, S, hw⟩ := hw
  refine ⟨γ, A, env, S, Post.bind hw fun ds A1 γ1 H1 e1 R1 h1 vs r1 => ?_⟩
  split at h1
  · obtain ⟨v, w, rfl, r2, r3⟩ := r1.two
    split at h1
    · rename_i hz
      unfold VR at r2 r3; subst r2; subst r3
      exact ⟨_, _, rfl, ⟨by omega, by omega, by omega, by omega⟩, h1 γ1 H1 (Ext.refl _ _) R1 _ (yl_rng _ _)⟩
    · exact h1.elim
  · exact h1.elim
/-- zip -/
def zipD : List D → List D → List D
  | x :: xs, y :: ys => .tup [x, y] :: zipD xs ys
  | _, _ => []
theorem zipD_get : ∀ (xs ys : List D) (i : Nat) (d : D), (zipD xs ys)[i]? = some d → ∃ x y, xs[i]? = some x ∧ ys[i]? = some y ∧ d = .tup [x, y]
  | [], ys, i, d, h => by simp [zipD] at h
  | x :: xs, [], i, d, h => by simp [zipD] at h
  | x :: xs, y :: ys, 0, d, h => by simp [zipD] at h; exact ⟨x, y, rfl, rfl, h.symm⟩
  | x :: xs, y :: ys, i + 1, d, h => by
    simp [zipD] at h
    obtain ⟨a, b, h1, h2, h3⟩ := zipD_get xs ys i d h
    exact ⟨a, b, by simpa using h1, by simpa using h2, h3⟩
theorem zipD_length : ∀ (xs ys : List D), (zipD xs ys).length = min xs.length ys.length
  | [], ys => by simp [zipD]
  | x :: xs, [] => by simp [zipD]
  | x :: xs, y :: ys => by simp [zipD, zipD_length xs ys]
theorem new_pair {γ : Gh} {A : AH} {H : Hp} {T : Addr} {d e : D} {v w : V} (R : Rel G γ A H) (hT : H T = none) (h1 : VR G γ H d v) (h2 : VR G γ H e w) : Ext γ H γ (upd H T (.tup [v, w])) ∧ Rel G γ A (upd H T (.tup [v, w])) ∧ VR G γ (upd H T (.tup [v, w])) (.tup [d, e]) (.ref T) :=
  ⟨Ext.laid hT, R.laid hT, VR.newT R hT (VRs.cons h1 (VRs.cons h2 VRs.nil))⟩
theorem yl_zipL {γ : Gh} {H : Hp} {a b : Addr} {ds es : List D} {vs ws : List V} (h : H a = some (.lst vs)) (n : γ.o a = none) (r : VRs G γ H ds vs) (h' : H b = some (.lst ws)) (n' : γ.o b = none) (r' : VRs G γ H es ws) (K : PySem.W.Frag) : Yl G γ H (Itz K a b) (zipD ds es) := by
  intro i γ' H' A e R
  obtain ⟨q, _⟩ := e.keep a _ h n (fun _ z => nomatch z)
  obtain ⟨q', _⟩ := e.keep b _ h' n' (fun _ z => nomatch z)
  refine ⟨fun d z => ?_, fun z => ⟨vs, ws, SqL.of q, SqL.of q', by rw [zipD_length] at z; rw [← r.length, ← r'.length]; omega⟩⟩
  obtain ⟨x, y, z1, z2, rfl⟩ := zipD_get _ _ _ _ z
  obtain ⟨v, e1, rv⟩ := r.get z1
  obtain ⟨w, e2, rw'⟩ := r'.get z2
  refine ⟨⟨vs, ws, v, w, SqL.of q, SqL.of q', e1, e2⟩, fun u H2 hy => ?_⟩
  obtain ⟨T, x', y', rfl, hT, rfl, hx, hy⟩ := hy
  have k1 := hx vs (SqL.of q)
  have k2 := hy ws (SqL.of q')
  rw [e1] at k1; cases k1
  rw [e2] at k2; cases k2
  exact new_pair R hT (VR.ext0 e _ _ rv) (VR.ext0 e _ _ rw')
theorem yl_zipT {γ : Gh} {H : Hp} {a b : Addr} {ds es : List D} {vs ws : List V} (f : FxT G γ H a vs) (r : VRs G γ H ds vs) (f' : FxT G γ H b ws) (r' : VRs G γ H es ws) : Yl G γ H (RZ.ItzT G.K a b) (zipD ds es) := by
  intro i γ' H' A e R
  have q := (e.fxT f).sq
  have q' := (e.fxT f').sq
  refine ⟨fun d z => ?_, fun z => ⟨vs, ws, q, q', by rw [zipD_length] at z; rw [← r.length, ← r'.length]; omega⟩⟩
  obtain ⟨x, y, z1, z2, rfl⟩ := zipD_get _ _ _ _ z
  obtain ⟨v, e1, rv⟩ := r.get z1
  obtain ⟨w, e2, rw'⟩ := r'.get z2
  refine ⟨⟨vs, ws, v, w, q, q', e1, e2⟩, fun u H2 hy => ?_⟩
  obtain ⟨T, x', y', rfl, hT, rfl, hx, hy⟩ := hy
  have k1 := hx vs q
  have k2 := hy ws q'
  rw [e1] at k1; cases k1
  rw [e2] at k2; cases k2
  exact new_pair R hT (VR.ext0 e _ _ rv) (VR.ext0 e _ _ rw')
def iZip2 (f : Ev → AH → Res (List D)) : Ev → AH → Res (List D) := fun env A => (f env A).bind fun ds A1 => match ds with
  | [.tup xs, .tup ys] => .ok (zipD xs ys) A1
  | [.lst xs, .lst ys] => .ok (zipD xs ys) A1
  | _ => .stuck
theorem ji_zip (o : XO X G W k) {e e2 : Expr} {p pos tpos : Pos} {elts : List Expr} {kk : Nat} {f : Ev → AH → Res (List D)} (hg : Gl X "zip") (hm : X.mg "zip" = none) (ha : JA X G W [e, e2] f)
    (hs : starEach [e, e2] X.env = (false, eval e X.env) :: starEach [e2] X.env := by rfl) (hs2 : ((backTo pos (starEach [e2] X.env)).any fun x => x.fst) = false := by rfl) : JI X G W (.Tuple elts kk tpos) (.Call (.Name "zip" p) [e, e2] [] pos) (iZip2 f) := by
  refine ⟨PI.imp (RZ.pi_zipA hg hm ha.run hs hs2) fun σ H R hw => ?_⟩
  obtain ⟨γ, A, env, S, hw⟩ := hw
  refine ⟨γ, A, env, S, Post.bind hw fun ds A1 γ1 H1 e1 R1 h1 vs r1 => ?_⟩
  split at h1
  · obtain ⟨v, w, rfl, r2, r3⟩ := r1.two
    unfold VR at r2 r3
    obtain ⟨a, us, rfl, f1, q1⟩ := r2
    obtain ⟨b, ws, rfl, f2, q2⟩ := r3
    exact ⟨a, b, us, ws, rfl, .inr ⟨o.gk ▸ f1.sq, o.gk ▸ f2.sq, h1 γ1 H1 (Ext.refl _ _) R1 _ (o.gk ▸ yl_zipT f1 q1 f2 q2)⟩⟩
  · obtain ⟨v, w, rfl, r2, r3⟩ := r1.two
    unfold VR at r2 r3
    obtain ⟨a, us, rfl, f1, n1, q1⟩ := r2
    obtain ⟨b, ws, rfl, f2, n2, q2⟩ := r3
    exact ⟨a, b, us, ws, rfl, .inl ⟨SqL.of f1, SqL.of f2, h1 γ1 H1 (Ext.refl _ _) R1 _ (yl_zipL f1 n1 q1 f2 n2 q2 X.K)⟩⟩
  · exact h1.elim
/-- enumerate of a list -/
def enumD : Nat → List D → List D
  | _, [] => []
  | i, d :: ds => .tup [.int i, d] :: enumD (i + 1) ds
theorem enumD_get : ∀ (ds : List D) (n i : Nat) (d : D), (enumD n ds)[i]? = some d → ∃ x, ds[i]? = some x ∧ d = .tup [.int ((n + i : Nat) : Int), x]
  | [], n, i, d, h => by simp [enumD] at h
  | x :: xs, n, 0, d, h => by simp [enumD] at h; exact ⟨x, rfl, h.symm⟩
  | x :: xs, n, i + 1, d, h => by
    simp [enumD] at h
    obtain ⟨a, h1, h2⟩ := enumD_get xs (n + 1) i d h
    exact ⟨a, by simpa using h1, by rw [h2]; congr 3; omega⟩
theorem enumD_length : ∀ (ds : List D) (n : Nat), (enumD n ds).length = ds.length
  | [], _ => rfl
  | d :: ds, n => by simp [enumD, enumD_length ds]
theorem yl_enum {γ : Gh} {H : Hp} {a : Addr} {ds : List D} {vs : List V} (h : H a = some (.lst vs)) (n : γ.o a = none) (r : VRs G γ H ds vs) (K : PySem.W.Frag) : Yl G γ H (Ite K a) (enumD 0 ds) := by
  intro i γ' H' A e R
  obtain ⟨q, _⟩ := e.keep a _ h n (fun _ z => nomatch z)
  refine ⟨fun d z => ?_, fun z => ⟨vs, SqL.of q, by rw [enumD_length] at z; rw [← r.length]; exact z⟩⟩
  obtain ⟨x, z1, rfl⟩ := enumD_get _ _ _ _ z
  obtain ⟨v, e1, rv⟩ := r.get z1
  refine ⟨⟨vs, v, SqL.of q, e1⟩, fun u H2 hy => ?_⟩
  obtain ⟨T, x', rfl, hT, rfl, hx⟩ := hy
  have k1 := hx vs (SqL.of q)
  rw [e1] at k1; cases k1
  rw [Nat.zero_add]
  exact new_pair R hT (by unfold VR; rfl) (VR.ext0 e _ _ rv)
def iEnum1 (f : Ev → AH → Res (List D)) : Ev → AH → Res (List D) := fun env A => (f env A).bind fun ds A1 => match ds with
  | [.lst xs] => .ok (enumD 0 xs) A1
  | _ => .stuck
theorem ji_enum {e : Expr} {p pos tpos : Pos} {elts : List Expr} {kk : Nat} {f : Ev → AH → Res (List D)} (hg : Gl X "enumerate") (hm : X.mg "enumerate" = none) (ha : JA X G W [e] f) (hs : starEach [e] X.env = [(false, eval e X.env)] := by rfl) :
    JI X G W (.Tuple elts kk tpos) (.Call (.Name "enumerate" p) [e] [] pos) (iEnum1 f) := by
  refine ⟨PI.imp (pi_enum hg hm ha.run hs) fun σ H R hw => ?_⟩
  obtain ⟨γ, A, env, S, hw⟩ := hw
  refine ⟨γ, A, env, S, Post.bind hw fun ds A1 γ1 H1 e1 R1 h1 vs r1 => ?_⟩
  split at h1
  · obtain ⟨v, rfl, r2⟩ := r1.one
    unfold VR at r2
    obtain ⟨a, us, rfl, f1, n1, q1⟩ := r2
    exact ⟨a, us, rfl, SqL.of f1, h1 γ1 H1 (Ext.refl _ _) R1 _ (yl_enum f1 n1 q1 X.K)⟩
  · exact h1.elim
/-! ### lists that are changed -/
theorem put_list {γ : Gh} {A : AH} {H : Hp} {i : Nat} {v : V} {ds ds' : List D} {vs' : List V} (R : Rel G γ A H) (h : VR G γ H (.ref i) v) (e : A[i]? = some (.lst ds)) :
    ∃ a vs, v = .ref a ∧ H a = some (.lst vs) ∧ VRs G γ H ds vs ∧ (VRs G γ H ds' vs' → Ext γ H γ (upd H a (.lst vs')) ∧ Rel G γ (A.set i (.lst ds')) (upd H a (.lst vs'))) := by
  unfold VR at h
  obtain ⟨a, rfl, h1⟩ := h
  obtain ⟨a', h2, h3, vs, h4, h5⟩ := R.at_ i _ e
  rw [h1] at h2; cases h2
  refine ⟨a, vs, rfl, h4, h5, fun r => ?_⟩
  have E : Ext γ H γ (upd H a (.lst vs')) := Ext.put (i := i) fun b hb => upd_ne fun z => hb (by rw [z]; exact h3)
  refine ⟨E, R.put h1 (fun b hb => upd_ne fun z => hb (by rw [z]; exact h3)) (fun b hb => ?_) ⟨vs', upd_same, VRs.ext E _ _ r⟩⟩
  by_cases z : b = a
  · subst z; rw [upd_same]; exact (fun q => nomatch q)
  · rw [upd_ne z]; exact (R.dom b _ hb).1
/-- xs.append(e) -/
def sAppend (fa fb : Ev → AH → Res D) : Ev → AH → Res D := fun env A => (fa env A).bind fun x A1 => match x with
  | .ref i => match A1[i]? with
    | some (.lst _) => (fb env A1).bind fun d A2 => match A2[i]? with
      | some (.lst ds) => if ds.length < sizeLine then .ok .non (A2.set i (.lst (ds ++ [d]))) else .stuck
      | _ => .stuck
    | _ => .stuck
  | _ => .stuck
theorem je_append (o : XO X G W k) {a b : Expr} {apos cpos : Pos} {fa fb : Ev → AH → Res D} (ha : JE X G W a fa) (hb : JE X G W b fb) (hbase : attributeBase a "append" X.env (eval a X.env) = eval a X.env := by rfl)
    (hfew : ((backTo cpos (starEach [b] X.env)).all (fun x => !x.1) && (backToKw cpos (keywordEach [] X.env)).all (fun x => x.1.isSome)
      && decide ([b].length + ([] : List Keyword).length + (if ([] : List Keyword).isEmpty then 0 else 1) < 30)) = true := by rfl)
    (hline : (apos.endLine == cpos.line) = true := by rfl) (hs : starEach [b] X.env = (false, eval b X.env) :: starEach [] X.env := by rfl) (hplain : (backTo cpos (starEach [] X.env)).any (·.1) = false := by rfl) :
    JE X G W (.Call (.Attribute a "append" apos) [b] [] cpos) (sAppend fa fb) := by
  refine ⟨PE.imp (pe_bm F.plainAttrs_list F.slot_list_append F.type_list_append mt_append ha.run (pa_cons hb.run pa_nil hs) hbase hfew hline hs hplain) fun σ H Q h => ?_⟩
  obtain ⟨γ, A, env, S, h⟩ := h
  refine ⟨γ, A, env, S, Post.bind h fun x A1 γ1 H1 e1 R1 h1 v r1 => ?_⟩
  split at h1
  · rename_i i
    split at h1
    · rename_i ds0 q0
      obtain ⟨a0, vs0, rfl, hl0, _, _⟩ := put_list (ds' := []) (vs' := []) R1 r1 q0
      refine ⟨.inl ⟨rfl, vs0, SqL.of hl0⟩, γ1, A1, env, S.to e1 R1, Post.bind h1 fun d A2 γ2 H2 e2 R2 h2 w r2 => ?_⟩
      have r1' := VR.ext e2 _ _ r1
      split at h2
      · rename_i ds q
        split at h2
        · rename_i hz
          obtain ⟨a1, vs, e3, hl, rv, put⟩ := put_list (ds' := ds ++ [d]) (vs' := vs0) R2 r1' q
          cases e3
          obtain ⟨a2, vs2, e3, hl2, rv2, put⟩ := put_list (ds' := ds ++ [d]) (vs' := vs ++ [w]) R2 r1' q
          cases e3
          rw [hl] at hl2; cases hl2
          obtain ⟨E, R3⟩ := put (rv.append (VRs.cons r2 VRs.nil))
          exact ⟨a0, vs, w, rfl, rfl, hl, by rw [← rv.length]; exact hz, h2 γ2 _ E R3 _ (by unfold VR; rfl)⟩
        · exact h2.elim
      · exact h2.elim
    · exact h1.elim
  · exact h1.elim
/-- xs[i] = e -/
def bStore (fo fi fe : Ev → AH → Res D) : Ev → AH → SR := fun env A => lft (fe env A) env fun d A1 => lft (fo env A1) env fun x A2 => lft (fi env A2) env fun y A3 => match x, y with
  | .ref r, .int n => match A3[r]? with
    | some (.lst ds) => match ixN ds.length n with
      | some j => .nx env (A3.set r (.lst (ds.set j d)))
      | none => .stuck
    | _ => .stuck
  | _, _ => .stuck
theorem js_store {ob ix e : Expr} {pos spos : Pos} {fo fi fe : Ev → AH → Res D} (ho : JE X G W ob fo) (hi : JE X G W ix fi) (he : JE X G W e fe) (ha : ∀ v, assign (.Subscript ob ix spos) X.env v = (do
      let ov ← holding [v] (eval ob X.env)
      let iv ← holding [v, ov] (eval ix X.env)
      standAt spos
      holding [v, ov, iv] (setItem ov iv v)
      release [v, ov, iv] []) := by intro _; rfl)
    (hs : swapsWithSole [.Subscript ob ix spos] e pos.line X.env = pure false := by rfl) (hw : swappedStores [.Subscript ob ix spos] e X.env = pure none := by rfl) (h1 : (assignEach [.Subscript ob ix spos] X.env).map (·.2) = [assign (.Subscript ob ix spos) X.env] := by rfl) :
    JS X G W (.Assign [.Subscript ob ix spos] e pos) (bStore fo fi fe) := by
  refine ⟨PS.imp (ps_asg he.run (pg_sub ho.run hi.run set_list ha) hs hw h1) fun E σ H h => ?_⟩
  obtain ⟨γ, A, env, S, h⟩ := h
  refine ⟨γ, A, env, S, PostS.lft S h fun d A1 γ1 H1 e1 R1 h1 v r1 => ?_⟩
  have S1 := S.to e1 R1
  refine ⟨γ1, A1, env, S1, PostS.lft S1 h1 fun x A2 γ2 H2 e2 R2 h2 p r2 => ?_⟩
  have S2 := S1.to e2 R2
  refine ⟨γ2, A2, env, S2, PostS.lft S2 h2 fun y A3 γ3 H3 e3 R3 h3 q r3 => ?_⟩
  have S3 := S2.to e3 R3
  split at h3
  · rename_i r n
    split at h3
    · rename_i ds q1
      split at h3
      · rename_i j q2
        unfold VR at r3; subst r3
        have rv := VR.ext (e2.trans e3) _ _ r1
        obtain ⟨a0, vs, rfl, hl, rvs, _⟩ := put_list (ds' := ds) (vs' := []) R3 (VR.ext e3 _ _ r2) q1
        obtain ⟨a1, vs1, e4, hl1, rvs1, put⟩ := put_list (ds' := ds.set j d) (vs' := vs.set j v) R3 (VR.ext e3 _ _ r2) q1
        cases e4
        rw [hl] at hl1; cases hl1
        obtain ⟨E', R4⟩ := put (rvs.set rv j)
        exact ⟨a0, vs, n, j, rfl, rfl, hl, by rw [← rvs.length]; exact q2, h3 γ3 _ σ E' (S3.to E' R4)⟩
      · exact h3.elim
    · exact h3.elim
  · exact h3.elim
end
end F3
namespace F3
open PySem PySem.Spec
open PyProof.Rows L2
/-! ### behind a def: what it made is changed no more -/
def frzL (f : D → Option D) : List D → Option (List D)
  | [] => some []
  | d :: ds => match f d, frzL f ds with
    | some e, some es => some (e :: es)
    | _, _ => none
def allSome : List (Option D) → Option (List D)
  | [] => some []
  | some d :: r => (allSome r).map (d :: ·)
  | none :: _ => none
def frz (A : AH) (n : Nat) : Nat → D → Option D
  | 0, _ => none
  | k + 1, d => match d with
    | .tup ds => (frzL (frz A n k) ds).map .tup
    | .lst ds => (frzL (frz A n k) ds).map .lst
    | .scr ds => (frzL (frz A n k) ds).map .scr
    | .ins c ds => (frzL (frz A n k) ds).map (.ins c)
    | .dct t ks ds => (frzL (frz A n k) ds).map (.dct t ks)
    | .ref i => if i < n then some (.ref i) else match A[i]? with
      | some (.lst ds) => (frzL (frz A n k) ds).map .lst
      | some (.ins c fs) => match fs, allSome fs with
        | _ :: _, some ds => (frzL (frz A n k) ds).map (.ins c)
        | _, _ => none
      | some (.fdct t ks ds) => (frzL (frz A n k) ds).map (.dct t ks)
      | _ => none
    | .fn => none
    | d => some d
mutual
def below (n : Nat) : D → Bool
  | .ref i => decide (i < n)
  | .tup ds => belows n ds
  | .lst ds => belows n ds
  | .scr ds => belows n ds
  | .ins _ ds => belows n ds
  | .dct _ _ ds => belows n ds
  | .fn => false
  | _ => true
def belows (n : Nat) : List D → Bool
  | [] => true
  | d :: ds => below n d && belows n ds
end
def belowF (n : Nat) : List (Option D) → Bool
  | [] => true
  | some d :: r => below n d && belowF n r
  | none :: r => belowF n r
def belowO (n : Nat) : AO → Bool
  | .lst ds => belows n ds
  | .ins _ fs => belowF n fs
  | .dct _ _ ds => belows n ds
  | .fdct _ _ ds => belows n ds
  | .dead => true
def belowsO (n : Nat) : List AO → Bool
  | [] => true
  | o :: r => belowO n o && belowsO n r
/-- what a def hands back: its own lists laid still, its own things forgotten -/
def clean (n : Nat) (d : D) (A : AH) : Res D :=
  if A.length = n then .ok d A else
    match frz A n 30 d with
    | some d' => if belowsO n (A.take n) then .ok d' (A.take n) else .ok d A
    | none => .ok d A
def Gh.cut (γ : Gh) (n : Nat) : Gh := ⟨γ.ρ.take n, fun a => match γ.o a with
  | some (some i) => if i < n then some (some i) else none
  | x => x⟩
section
variable {G : Gc} {γ : Gh} {H : Hp} {A : AH} {n : Nat}
theorem cut_none {a : Addr} (h : γ.o a = none) : (γ.cut n).o a = none := by show (match γ.o a with | some (some i) => _ | x => x) = none; rw [h]
theorem cut_hid {a : Addr} (h : γ.o a = some none) : (γ.cut n).o a = some none := by show (match γ.o a with | some (some i) => _ | x => x) = some none; rw [h]
theorem cut_lt {a : Addr} {i : Nat} (h : γ.o a = some (some i)) (hi : i < n) : (γ.cut n).o a = some (some i) := by
  show (match γ.o a with | some (some i) => if i < n then some (some i) else none | x => x) = some (some i)
  rw [h]; exact if_pos hi
theorem cut_ge {a : Addr} {i : Nat} (h : γ.o a = some (some i)) (hi : n ≤ i) : (γ.cut n).o a = none := by
  show (match γ.o a with | some (some i) => if i < n then some (some i) else none | x => x) = none
  rw [h]; exact if_neg (by omega)
theorem cut_some {a : Addr} {x : Option Nat} (h : (γ.cut n).o a = some x) : γ.o a = some x ∧ ∀ i, x = some i → i < n := by
  cases e : γ.o a with
  | none => rw [cut_none e] at h; cases h
  | some y =>
    cases y with
    | none => rw [cut_hid e] at h; cases h; exact ⟨rfl, fun _ z => nomatch z⟩
    | some i =>
      by_cases hi : i < n
      · rw [cut_lt e hi] at h; cases h; exact ⟨rfl, fun j z => by cases z; exact hi⟩
      · rw [cut_ge e (by omega)] at h; cases h
theorem cut_fxT {a : Addr} {xs : List V} (h : FxT G γ H a xs) : FxT G (γ.cut n) H a xs := ⟨h.1, cut_none h.2⟩
theorem cut_fxL {a : Addr} {xs : List V} (h : FxL G γ H a xs) : FxL G (γ.cut n) H a xs := h.elim (fun h => .inl ⟨h.1, cut_none h.2⟩) .inr
mutual
theorem VR.below : ∀ (d : D) (v : V), VR G γ H d v → below n d = true → VR G (γ.cut n) H d v
  | .non, v, h, _ => by unfold VR at h ⊢; exact h
  | .bl b, v, h, _ => by unfold VR at h ⊢; exact h
  | .int b, v, h, _ => by unfold VR at h ⊢; exact h
  | .str b, v, h, _ => by unfold VR at h ⊢; exact h
  | .tup ds, v, h, b => by
    unfold VR at h ⊢; unfold F3.below at b
    obtain ⟨a, vs, e1, f, r⟩ := h
    exact ⟨a, vs, e1, cut_fxT f, VRs.below ds vs r b⟩
  | .lst ds, v, h, b => by
    unfold VR at h ⊢; unfold F3.below at b
    obtain ⟨a, vs, e1, f, n0, r⟩ := h
    exact ⟨a, vs, e1, f, cut_none n0, VRs.below ds vs r b⟩
  | .scr ds, v, h, b => by
    unfold VR at h ⊢; unfold F3.below at b
    obtain ⟨a, vs, e1, f, r⟩ := h
    exact ⟨a, vs, e1, cut_fxL f, VRs.below ds vs r b⟩
  | .ins c ds, v, h, b => by
    unfold VR at h ⊢; unfold F3.below at b
    obtain ⟨a, C, dx, vs, e1, n1, n2, hc, h1, h2, r⟩ := h
    exact ⟨a, C, dx, vs, e1, cut_none n1, cut_none n2, hc, h1, h2, VRs.below ds vs r b⟩
  | .dct t ks ds, v, h, b => by
    unfold VR at h ⊢; unfold F3.below at b
    obtain ⟨a, o, u, vs, e1, n1, h1, hk, r⟩ := h
    exact ⟨a, o, u, vs, e1, cut_none n1, h1, hk, VRs.below ds _ r b⟩
  | .ref i, v, h, b => by
    unfold VR at h ⊢; unfold F3.below at b
    obtain ⟨a, e1, h⟩ := h
    refine ⟨a, e1, ?_⟩
    show (γ.ρ.take n)[i]? = some a
    rw [List.getElem?_take_of_lt (of_decide_eq_true b)]; exact h
  | .fn, v, h, b => by cases b
theorem VRs.below : ∀ (ds : List D) (vs : List V), VRs G γ H ds vs → belows n ds = true → VRs G (γ.cut n) H ds vs
  | [], vs, h, _ => by unfold VRs at h ⊢; exact h
  | d :: ds, vs, h, b => by
    unfold VRs at h ⊢; unfold belows at b
    rw [Bool.and_eq_true] at b
    obtain ⟨v, r, e1, h1, h2⟩ := h
    exact ⟨v, r, e1, VR.below d v h1 b.1, VRs.below ds r h2 b.2⟩
end
theorem FRs.below : ∀ {fs : List (Option D)} {vs : List (Option V)}, FRs G γ H fs vs → belowF n fs = true → FRs G (γ.cut n) H fs vs
  | [], vs, h, _ => h
  | none :: fs, vs, h, b => by
    obtain ⟨vo, r, rfl, h1, h2⟩ := h
    exact ⟨vo, r, rfl, by cases vo <;> exact h1, FRs.below h2 b⟩
  | some d :: fs, vs, h, b => by
    obtain ⟨vo, r, rfl, h1, h2⟩ := h
    unfold belowF at b
    rw [Bool.and_eq_true] at b
    refine ⟨vo, r, rfl, ?_, FRs.below h2 b.2⟩
    cases vo with
    | none => exact h1
    | some v => exact VR.below d v h1 b.1
theorem belowsO_at : ∀ {l : List AO} {i : Nat} {o : AO}, belowsO n l = true → l[i]? = some o → belowO n o = true
  | [], i, o, _, e => by simp at e
  | x :: l, 0, o, b, e => by
    unfold belowsO at b; rw [Bool.and_eq_true] at b
    simp at e; subst e; exact b.1
  | x :: l, i + 1, o, b, e => by
    unfold belowsO at b; rw [Bool.and_eq_true] at b
    exact belowsO_at b.2 (by simpa using e)
theorem Rel.cut (R : Rel G γ A H) (b : belowsO n (A.take n) = true) : Rel G (γ.cut n) (A.take n) H := by
  refine ⟨by show (γ.ρ.take n).length = _; rw [List.length_take, List.length_take, R.len], fun i o e => ?_, fun a x e => ?_, fun q hq => ?_⟩
  · have hi : i < n := by
      have := (List.getElem?_eq_some_iff.mp e).1
      rw [List.length_take] at this; omega
    have bo := belowsO_at b e
    rw [List.getElem?_take_of_lt hi] at e
    obtain ⟨a, e1, e2, r⟩ := R.at_ i o e
    refine ⟨a, by show (γ.ρ.take n)[i]? = some a; rw [List.getElem?_take_of_lt hi]; exact e1, cut_lt e2 hi, ?_⟩
    cases o with
    | lst ds => obtain ⟨vs, h1, r⟩ := r; exact ⟨vs, h1, VRs.below _ _ r bo⟩
    | ins c fs =>
      obtain ⟨C, dx, vs, hc, hs, h1, hn, r⟩ := r
      exact ⟨C, dx, vs, hc, hs, cut_lt h1 hi, hn, FRs.below r bo⟩
    | dct t ks ds => obtain ⟨u, vs, h1, h2, r⟩ := r; exact ⟨u, vs, h1, h2, VRs.below _ _ r bo⟩
    | fdct t ks ds => obtain ⟨o, u, vs, h1, h2, r⟩ := r; exact ⟨o, u, vs, h1, h2, VRs.below _ _ r bo⟩
    | dead => trivial
  · obtain ⟨h1, h2⟩ := cut_some e
    obtain ⟨h3, h4⟩ := R.dom a x h1
    refine ⟨h3, fun i z => ?_⟩
    have := h2 i z
    have := h4 i z
    rw [List.length_take]; omega
  · obtain ⟨n0, ps, h1, h2, h3⟩ := R.tab q hq
    refine ⟨cut_none n0, ps, h1, h2, fun pos cv hc => ?_⟩
    obtain ⟨c, c1, c2, c3⟩ := h3 pos cv hc
    exact ⟨c, c1, c2, cut_none c3⟩
theorem FRs.all : ∀ {fs : List (Option D)} {vs : List (Option V)} {ds : List D}, FRs G γ H fs vs → allSome fs = some ds → ∃ us, vs = us.map some ∧ VRs G γ H ds us
  | [], vs, ds, h, e => by unfold allSome at e; cases e; exact ⟨[], h, VRs.nil⟩
  | none :: fs, vs, ds, h, e => by unfold allSome at e; cases e
  | some d :: fs, vs, ds, h, e => by
    unfold allSome at e
    obtain ⟨es, e1, rfl⟩ := Option.map_eq_some_iff.mp e
    obtain ⟨vo, r, rfl, h1, h2⟩ := h
    obtain ⟨us, rfl, h3⟩ := FRs.all h2 e1
    cases vo with
    | none => exact h1.elim
    | some v => exact ⟨v :: us, rfl, VRs.cons h1 h3⟩
theorem frzL_of {f : D → Option D} (hf : ∀ d d' v, f d = some d' → VR G γ H d v → VR G (γ.cut n) H d' v) : ∀ {ds ds' : List D} {vs : List V}, frzL f ds = some ds' → VRs G γ H ds vs → VRs G (γ.cut n) H ds' vs
  | [], ds', vs, e, h => by unfold frzL at e; cases e; unfold VRs at h ⊢; exact h
  | d :: ds, ds', vs, e, h => by
    unfold frzL at e
    unfold VRs at h
    obtain ⟨v, r, rfl, h1, h2⟩ := h
    cases q1 : f d with
    | none => rw [q1] at e; cases e
    | some d1 =>
      cases q2 : frzL f ds with
      | none => rw [q1, q2] at e; cases e
      | some es =>
        rw [q1, q2] at e; cases e
        exact VRs.cons (hf d d1 v q1 h1) (frzL_of hf q2 h2)
theorem frz_of (R : Rel G γ A H) : ∀ (k : Nat) (d d' : D) (v : V), frz A n k d = some d' → VR G γ H d v → VR G (γ.cut n) H d' v
  | 0, d, d', v, e, h => by unfold frz at e; cases e
  | k + 1, d, d', v, e, h => by
    have ih := fun d d' v => frz_of R k d d' v
    unfold frz at e
    cases d with
    | non => cases e; unfold VR at h ⊢; exact h
    | bl _ => cases e; unfold VR at h ⊢; exact h
    | int _ => cases e; unfold VR at h ⊢; exact h
    | str _ => cases e; unfold VR at h ⊢; exact h
    | fn => cases e
    | tup ds =>
      obtain ⟨es, e1, rfl⟩ := Option.map_eq_some_iff.mp e
      unfold VR at h ⊢
      obtain ⟨a, vs, e2, f, r⟩ := h
      exact ⟨a, vs, e2, cut_fxT f, frzL_of ih e1 r⟩
    | lst ds =>
      obtain ⟨es, e1, rfl⟩ := Option.map_eq_some_iff.mp e
      unfold VR at h ⊢
      obtain ⟨a, vs, e2, f, n0, r⟩ := h
      exact ⟨a, vs, e2, f, cut_none n0, frzL_of ih e1 r⟩
    | scr ds =>
      obtain ⟨es, e1, rfl⟩ := Option.map_eq_some_iff.mp e
      unfold VR at h ⊢
      obtain ⟨a, vs, e2, f, r⟩ := h
      exact ⟨a, vs, e2, cut_fxL f, frzL_of ih e1 r⟩
    | ins c ds =>
      obtain ⟨es, e1, rfl⟩ := Option.map_eq_some_iff.mp e
      unfold VR at h ⊢
      obtain ⟨a, C, dx, vs, e2, n1, n2, hc, h1, h2, r⟩ := h
      exact ⟨a, C, dx, vs, e2, cut_none n1, cut_none n2, hc, h1, h2, frzL_of ih e1 r⟩
    | dct t ks ds =>
      obtain ⟨es, e1, rfl⟩ := Option.map_eq_some_iff.mp e
      unfold VR at h ⊢
      obtain ⟨a, o, u, vs, e2, n1, h1, hk, r⟩ := h
      exact ⟨a, o, u, vs, e2, cut_none n1, h1, hk, frzL_of ih e1 r⟩
    | ref i =>
      simp only at e
      unfold VR at h
      obtain ⟨a, rfl, h0⟩ := h
      split at e
      · rename_i hi
        cases e
        unfold VR
        exact ⟨a, rfl, by show (γ.ρ.take n)[i]? = some a; rw [List.getElem?_take_of_lt hi]; exact h0⟩
      · rename_i hi
        have hi : n ≤ i := by omega
        split at e
        · rename_i ds q
          obtain ⟨es, e1, rfl⟩ := Option.map_eq_some_iff.mp e
          obtain ⟨a', k1, k2, vs, k3, k4⟩ := R.at_ i _ q
          rw [h0] at k1; cases k1
          unfold VR
          exact ⟨a, vs, rfl, k3, cut_ge k2 hi, frzL_of ih e1 k4⟩
        · rename_i c fs q
          split at e
          · rename_i fo fr ds e0
            obtain ⟨es, e1, rfl⟩ := Option.map_eq_some_iff.mp e
            obtain ⟨a', k1, k2, C, dx, vs, hc, hs, k5, k6, k7⟩ := R.at_ i _ q
            rw [h0] at k1; cases k1
            obtain ⟨us, rfl, rv⟩ := FRs.all k7 e0
            unfold VR
            rcases hs with ⟨_, z⟩ | ⟨z1, z2⟩
            · exfalso
              obtain ⟨vo, r, z2, _⟩ := k7
              rw [z] at z2; cases z2
            · exact ⟨a, C, dx, us, rfl, cut_ge k2 hi, cut_ge k5 hi, hc, z1, z2, frzL_of ih e1 rv⟩
          · cases e
        · rename_i t ks ds q
          obtain ⟨es, e1, rfl⟩ := Option.map_eq_some_iff.mp e
          obtain ⟨a', k1, k2, o, u, vs, r1, r2, r3⟩ := R.at_ i _ q
          rw [h0] at k1; cases k1
          unfold VR
          exact ⟨a, o, u, vs, rfl, cut_ge k2 hi, r1, r2, frzL_of ih e1 r3⟩
        · cases e
theorem Ext.cut {γ0 : Gh} {A0 : AH} {H0 : Hp} (R0 : Rel G γ0 A0 H0) (e : Ext γ0 H0 γ H) (hn : A0.length = n) : Ext γ0 H0 (γ.cut n) H := by
  refine ⟨⟨fun i a q => ?_, fun a ob q z t => ⟨(e.keep a ob q z t).1, cut_none (e.keep a ob q z t).2⟩⟩, fun a ob q z => ⟨(e.hid a ob q z).1, cut_hid (e.hid a ob q z).2⟩⟩
  have hi : i < n := by
    have := (List.getElem?_eq_some_iff.mp q).1
    rw [R0.len] at this; omega
  show (γ.ρ.take n)[i]? = some a
  rw [List.getElem?_take_of_lt hi]; exact e.ρ i a q
/-- the run of a def, cleaned -/
theorem Post.clean {γ0 : Gh} {A0 : AH} {H0 : Hp} {d : D} {A1 : AH} {Q : VK} {Wx : WXe} (R0 : Rel G γ0 A0 H0) (h : Post G γ0 H0 (clean A0.length d A1) (fun γ' _ H' d => ∀ v, VR G γ' H' d v → Q v H') Wx) :
    ∀ γ' H' v, Ext γ0 H0 γ' H' → Rel G γ' A1 H' → VR G γ' H' d v → Q v H' := by
  intro γ' H' v e R r
  unfold F3.clean at h
  split at h
  · exact h γ' H' e R v r
  · split at h
    · rename_i d' q
      split at h
      · rename_i b
        exact h (γ'.cut A0.length) H' (e.cut R0 rfl) (R.cut b) v (frz_of R _ _ _ _ q r)
      · exact h γ' H' e R v r
    · exact h γ' H' e R v r
theorem XR.cut (R : Rel G γ A H) {x : Xn} {args : List D} {cls : Value} {ad : Option Addr} (h : XR G γ H x cls ad) (e : frzL (frz A n 30) x.args = some args) : XR G (γ.cut n) H ⟨x.c, args⟩ cls ad := by
  obtain ⟨C, h1, h2, h3 | ⟨d, a, v, h3, h4, h5, h5', h6⟩⟩ := h
  · rw [h3.1] at e
    unfold frzL at e
    cases e
    exact ⟨C, h1, h2, .inl ⟨rfl, h3.2⟩⟩
  · rw [h3] at e
    unfold frzL at e
    cases q : frz A n 30 d with
    | none => rw [q] at e; cases e
    | some d' =>
      rw [q] at e
      cases e
      exact ⟨C, h1, h2, .inr ⟨d', a, v, rfl, h4, h5, cut_none h5', frz_of R _ _ _ _ q h6⟩⟩
/-- .. of an error -/
def cleanX (n : Nat) (x : Xn) (A : AH) : Res D :=
  if A.length = n then .ex x A else
    match frzL (frz A n 30) x.args with
    | some args => if belowsO n (A.take n) then .ex ⟨x.c, args⟩ (A.take n) else .ex x A
    | none => .ex x A
theorem Post.cleanX {γ0 : Gh} {A0 : AH} {H0 : Hp} {x : Xn} {A1 : AH} {Q : Gh → AH → Hp → D → Prop} {Wx : WXe} (R0 : Rel G γ0 A0 H0) (h : Post G γ0 H0 (cleanX A0.length x A1) Q Wx) :
    ∀ γ' H' cls ad, Ext γ0 H0 γ' H' → Rel G γ' A1 H' → XR G γ' H' x cls ad → Wx cls ad H' := by
  intro γ' H' cls ad e R r
  unfold F3.cleanX at h
  split at h
  · exact h γ' H' cls ad e R r
  · split at h
    · rename_i args q
      split at h
      · rename_i b
        exact h (γ'.cut A0.length) H' cls ad (e.cut R0 rfl) (R.cut b) (r.cut R q)
      · exact h γ' H' cls ad e R r
    · exact h γ' H' cls ad e R r
end
end F3
namespace F3
open PySem PySem.Spec
open PyProof.Rows L2
/-! ### what a def does, whatever stands around -/
def FnG (P : Program) (w : World) (K : PySem.W.Frag) (mg : Str → Option Value) (base : Heap) (G : Gc) (k : Nat) (f : Addr) (m : List D → AH → Res D) : Prop :=
  ∀ (A : Around) (outer : List Env) (s : Shared) (H : Hp) (us : List Value) (vs : List V) (ds : List D) (γ : Gh) (Ah : AH) (Q : VK) (E : XK), Room k A → A.guards = some [] → Env0 P w K mg base A outer s H → Vals vs us → Rel G γ Ah H → VRs G γ H ds vs →
    Post G γ H (m ds Ah) (fun γ' _ H' d => ∀ v, VR G γ' H' d v → Q v H') E → codeAny (model P w) A (.call (.ref f) ⟨us, []⟩) (CR (L2.CX P w) outer P w H s Q E) s
theorem FnG.mono {P : Program} {w : World} {K : PySem.W.Frag} {mg : Str → Option Value} {base : Heap} {G : Gc} {j k : Nat} {f : Addr} {m : List D → AH → Res D} (F : FnG P w K mg base G j f m) (h : j ≤ k) : FnG P w K mg base G k f m :=
  fun A outer s H us vs ds γ Ah Q E hr => F A outer s H us vs ds γ Ah Q E (hr.mono h)
/-- a def's run: its names, how many are parameters, its body -/
def runF (n p : Nat) (g : Ev → AH → SR) (ds : List D) (A : AH) : Res D :=
  if ds.length = p then
    match g (ds.map some ++ List.replicate (n - p) none) A with
    | .nx _ A1 => clean A.length .non A1
    | .rt d A1 => clean A.length d A1
    | .ex x _ A1 => cleanX A.length x A1
    | _ => .stuck
  else .stuck
section
variable {P : Program} {w : World} {K : PySem.W.Frag} {mg : Str → Option Value} {base : Heap} {G : Gc}
theorem er_start {γ : Gh} {H : Hp} {ds : List D} {vs : List V} {n : Nat} (h : VRs G γ H ds vs) (N : List Str) (hp : N.length - vs.length = n) : ER G γ H (ds.map some ++ List.replicate n none) (L2.start N vs) := by
  intro i d e
  unfold L2.start
  by_cases hi : i < ds.length
  · rw [List.getElem?_append_left (by simpa using hi), List.getElem?_map] at e
    obtain ⟨d', e1, e2⟩ := Option.map_eq_some_iff.mp e
    cases e2
    obtain ⟨v, e3, r⟩ := h.get e1
    refine ⟨v, ?_, r⟩
    rw [List.getElem?_append_left (by rw [List.length_map, ← h.length]; exact hi), List.getElem?_map, e3]; rfl
  · rw [List.getElem?_append_right (by simpa using hi), List.getElem?_replicate] at e
    split at e <;> cases e
theorem fnG_of {x qual : Str} {st : Stmt} {f : Addr} {fd : FuncData} {N ps : List Str} {k : Nat} {g : Ev → AH → SR} (F : Fun K x qual st f fd) (Sc : FnScope N ps (defScope st)) (hK : G.K = K)
    (hb : ∀ (kV doc pm : Value) (an : Option Addr) (cdv ct : Value) (us : List Value), us.length = ps.length → bindArgs (PySem.W.fnOf x qual (defArgs st) (defBody st) (defScope st) .none kV doc pm an cdv ct) ⟨us, []⟩ = pure (ps.zip us))
    (body : ∀ (cdv : Value) (A : Around) (outer : List Env) (s : Shared) (H : Hp) (E : XK), XO (cxOf (L2.CX P w) P w K mg base N qual (defScope st) f cdv A outer s H E) G (fun c d _ H => E c d H) k →
      JB (cxOf (L2.CX P w) P w K mg base N qual (defScope st) f cdv A outer s H E) G (fun c d _ H => E c d H) (defBody st) g) :
    FnG P w K mg base G (k + 1) f (runF N.length ps.length g) := by
  intro A outer s H us vs ds γ Ah Q E hr hg e0 r R rv h
  obtain ⟨oc, od, kV, doc, pm, an, cdv, ct, osl, rfl, lk, hcd⟩ := F.ex
  unfold runF at h
  by_cases hl : ds.length = ps.length
  · rw [if_pos hl] at h
    have hlv : vs.length = ps.length := by rw [← rv.length]; exact hl
    have hNp : ps.length ≤ N.length := by have := congrArg List.length Sc.pre; rw [List.length_take] at this; omega
    refine LamX.run_ofS (N := N) (us := us) (vs := vs) lk hcd Sc hr e0 (.of_eq (hb _ _ _ _ _ _ us (by rw [← r.length]; exact hlv))) r hlv fun hr' => ?_
    have o : XO (cxOf (L2.CX P w) P w K mg base N qual (defScope st) f cdv A outer s H E) G (fun c d _ H => E c d H) k :=
      ⟨takes_of rfl rfl rfl rfl, passes_of rfl, rfl, hr', hg, hK⟩
    refine ⟨_, (body cdv A outer s H E o).run, γ, Ah, ds.map some ++ List.replicate (N.length - ps.length) none, ⟨R, ?_, er_start rv N (by rw [hlv])⟩, ?_⟩
    · unfold L2.start
      simp only [List.length_append, List.length_map, List.length_replicate]
      omega
    · cases q : g (ds.map some ++ List.replicate (N.length - ps.length) none) Ah with
      | nx env1 A1 =>
        rw [q] at h
        exact fun γ' H' σ' e S => Post.clean R h γ' H' .non e S.rel (by unfold VR; rfl)
      | rt d A1 =>
        rw [q] at h
        exact fun γ' H' v e R' r' => Post.clean R h γ' H' v e R' r'
      | ex x env1 A1 =>
        rw [q] at h
        exact fun γ' H' σ' cls ad e S xr => Post.cleanX R h γ' H' cls ad e S.rel xr
      | bk env1 A1 => rw [q] at h; exact h.elim
      | ct env1 A1 => rw [q] at h; exact h.elim
      | stuck => rw [q] at h; exact h.elim
  · rw [if_neg hl] at h; exact h.elim
end
section
variable {X : Cx} {G : Gc} {W : WX} {k j : Nat}
/-- the callee runs from a body -/
theorem run_fg {pins : List (Addr × Obj)} {σ : L2.St} {H : Hp} {s : Shared} {Q : VK} {f : Addr} {us : List Value} {vs : List V} {ds : List D} {γ : Gh} {Ah : AH} {m : List D → AH → Res D} (o : XO X G W k) (F : FnG X.prog X.w X.K X.mg X.base G k f m) (I : Inv X pins σ H s) (r : Vals vs us) (R : Rel G γ Ah H) (rv : VRs G γ H ds vs)
    (h : Post G γ H (m ds Ah) (fun γ' _ H' d => ∀ v, VR G γ' H' d v → Q v H') (fun c a H' => W c a σ H')) : wpAny (model X.prog X.w) X.A (call (.ref f) us) (EP X pins σ Q) X.xe s := by
  refine wpAny_call (codeAny_mono (F X.A X.stack s H us vs ds γ Ah Q (WE W σ) o.room o.gd I.env0 r R rv h) fun z s' hq => ?_)
  cases z with
  | error e => exact passAt o.tk σ _ _ _ _ _ I hq
  | ok fl =>
    cases fl with
    | ret u => exact I.after hq
    | _ => exact False.elim hq
theorem je_call (o : XO X G W k) {f : Addr} {x : Str} {p pos : Pos} {e : Expr} {es : List Expr} {m : List D → AH → Res D} {fa : Ev → AH → Res (List D)} (F : FnG X.prog X.w X.K X.mg X.base G j f m) (hj : j ≤ k) (hg : Gl X x) (hm : X.mg x = some (.ref f)) (hk : PySem.W.keepIn X.K (.ref f) = true)
    (ha : JA X G W (e :: es) fa) (hdb : (x == ("__debug__" : Str)) = false) (he : starEach (e :: es) X.env = (false, eval e X.env) :: starEach es X.env := by rfl) (hpl : (backTo pos (starEach es X.env)).any (·.1) = false := by rfl) : JE X G W (.Call (.Name x p) (e :: es) [] pos) (sCall m fa) := by
  refine ⟨⟨fun pins s σ H Q I h => ?_⟩⟩
  obtain ⟨γ, A, env, S, h⟩ := h
  refine wpAny_Call_Name_kw (ld_glob I hg hm ?_ hdb)
  refine PySem.W.callWith_K (h₀ := X.base) I.ok.mod.kin hk (thn (ha.run.run pos pins s σ H (fun vs H1 => ∃ γ1 A1 ds, Rel G γ1 A1 H1 ∧ VRs G γ1 H1 ds vs ∧ Post G γ1 H1 (m ds A1) (fun γ' _ H' d => ∀ v, VR G γ' H' d v → Q v H') (fun c a H' => W c a σ H')) I
    ⟨γ, A, env, S, Post.bind h fun ds A1 γ1 H1 e1 R1 h1 vs r1 => ⟨γ1, A1, ds, R1, r1, h1⟩⟩) fun us s1 ⟨vs, H1, I1, r, γ1, A1, ds, R1, r1, h1⟩ => ⟨I1.kIn, ?_⟩) he hpl
  exact run_fg o (F.mono hj) I1 r R1 r1 h1
theorem je_call0 (o : XO X G W k) {f : Addr} {x : Str} {p pos : Pos} {m : List D → AH → Res D} (F : FnG X.prog X.w X.K X.mg X.base G j f m) (hj : j ≤ k) (hg : Gl X x) (hm : X.mg x = some (.ref f)) (hk : PySem.W.keepIn X.K (.ref f) = true)
    (hdb : (x == ("__debug__" : Str)) = false) : JE X G W (.Call (.Name x p) [] [] pos) (sCall m sNil) := by
  refine ⟨⟨fun pins s σ H Q I h => ?_⟩⟩
  obtain ⟨γ, A, env, S, h⟩ := h
  refine wpAny_Call_Name_kw (ld_glob I hg hm ?_ hdb)
  exact PySem.W.callWith_K0 I.kIn hk (run_fg (us := []) o (F.mono hj) I .nil S.rel VRs.nil h)
/-! ### classes with slots -/
/-- what stands of the class numbered c -/
structure SC (G : Gc) (K : PySem.W.Frag) (c : Nat) (C : Addr) : Prop where
  cls : G.cls c = some C
  sc : SlX.SCls K C
/-- e.f, f the i-th slot -/
def gFld (c i : Nat) (x : D) (A : AH) : Res D := match x with
  | .ins c' ds => if c' = c then match ds[i]? with
    | some d => .ok d A
    | none => .stuck
    else .stuck
  | .ref r => match A[r]? with
    | some (.ins c' fs) => if c' = c then match fs[i]? with
      | some (some d) => .ok d A
      | _ => .stuck
      else .stuck
    | _ => .stuck
  | _ => .stuck
theorem FRs.get {γ : Gh} {H : Hp} : ∀ {fs : List (Option D)} {vs : List (Option V)} {i : Nat} {d : D}, FRs G γ H fs vs → fs[i]? = some (some d) → ∃ v, vs[i]? = some (some v) ∧ VR G γ H d v
  | [], _, _, _, _, e => by simp at e
  | fo :: fs, vs, 0, d, h, e => by
    obtain ⟨vo, r, rfl, h1, h2⟩ := h
    simp at e; subst e
    cases vo with
    | none => exact h1.elim
    | some v => exact ⟨v, rfl, h1⟩
  | fo :: fs, vs, i + 1, d, h, e => by
    obtain ⟨vo, r, rfl, h1, h2⟩ := h
    obtain ⟨v, e1, r⟩ := FRs.get h2 (by simpa using e)
    exact ⟨v, by simpa using e1, r⟩
theorem je_fld (o : XO X G W k) {c i : Nat} {C p : Addr} {f : Str} {e : Expr} {pos : Pos} {fa : Ev → AH → Res D} (T : SC G X.K c C) (t : SlX.Slot1 X.K C f p i) (ha : JE X G W e fa) (hb : attributeBase e f X.env (eval e X.env) = eval e X.env := by rfl) : JE X G W (.Attribute e f pos) (sUn (gFld c i) fa) := by
  refine ⟨PE.imp (SlX.pe_sl ha.run hb) fun σ H Q h => ?_⟩
  obtain ⟨γ, A, env, S, h⟩ := h
  refine ⟨γ, A, env, S, Post.bind h fun x A1 γ1 H1 e1 R1 h1 v r1 => ?_⟩
  unfold gFld at h1
  split at h1
  · rename_i c' ds
    split at h1
    · rename_i hc
      subst hc
      split at h1
      · rename_i d q
        unfold VR at r1
        obtain ⟨a, C', dx, vs, rfl, n1, n2, hC, k1, k2, rv⟩ := r1
        rw [T.cls] at hC; cases hC
        obtain ⟨u, q1, q2⟩ := rv.get q
        exact ⟨a, C, dx, p, vs.map some, i, u, rfl, .inr ⟨k1, k2⟩, T.sc, t, by rw [List.getElem?_map, q1]; rfl, ok_here R1 q2 h1⟩
      · exact h1.elim
    · exact h1.elim
  · rename_i r
    split at h1
    · rename_i c' fs q
      split at h1
      · rename_i hc
        subst hc
        split at h1
        · rename_i d q2
          unfold VR at r1
          obtain ⟨a, rfl, q3⟩ := r1
          obtain ⟨a', k1, k2, C', dx, vs, hC, hs, k3, k4, rv⟩ := R1.at_ _ _ q
          rw [q3] at k1; cases k1
          rw [T.cls] at hC; cases hC
          obtain ⟨u, q4, q5⟩ := FRs.get rv q2
          exact ⟨a, C, dx, p, vs, i, u, rfl, hs, T.sc, t, q4, ok_here R1 q5 h1⟩
        · exact h1.elim
      · exact h1.elim
    · exact h1.elim
  · exact h1.elim
/-- slots stored -/
def putD (i : Nat) (d : D) (fs : List (Option D)) : List (Option D) := (fs ++ List.replicate (i + 1 - fs.length) none).set i (some d)
theorem FRs.length {γ : Gh} {H : Hp} : ∀ {fs : List (Option D)} {vs : List (Option V)}, FRs G γ H fs vs → fs.length = vs.length
  | [], vs, h => by have : vs = [] := h; subst this; rfl
  | fo :: fs, vs, h => by
    obtain ⟨vo, r, rfl, h1, h2⟩ := h
    simp [FRs.length h2]
theorem FRs.pad {γ : Gh} {H : Hp} : ∀ (n : Nat), FRs G γ H (List.replicate n none) (List.replicate n none)
  | 0 => rfl
  | n + 1 => ⟨none, List.replicate n none, rfl, trivial, FRs.pad n⟩
theorem FRs.append {γ : Gh} {H : Hp} : ∀ {fs gs : List (Option D)} {vs ws : List (Option V)}, FRs G γ H fs vs → FRs G γ H gs ws → FRs G γ H (fs ++ gs) (vs ++ ws)
  | [], gs, vs, ws, h, t => by have : vs = [] := h; subst this; exact t
  | fo :: fs, gs, vs, ws, h, t => by
    obtain ⟨vo, r, rfl, h1, h2⟩ := h
    exact ⟨vo, r ++ ws, rfl, h1, FRs.append h2 t⟩
theorem FRs.set {γ : Gh} {H : Hp} {d : D} {v : V} (hd : VR G γ H d v) : ∀ {fs : List (Option D)} {vs : List (Option V)} (n : Nat), FRs G γ H fs vs → FRs G γ H (fs.set n (some d)) (vs.set n (some v))
  | [], vs, n, h => by have : vs = [] := h; subst this; simp; rfl
  | fo :: fs, vs, 0, h => by
    obtain ⟨vo, r, rfl, h1, h2⟩ := h
    exact ⟨some v, r, rfl, hd, h2⟩
  | fo :: fs, vs, n + 1, h => by
    obtain ⟨vo, r, rfl, h1, h2⟩ := h
    exact ⟨vo, r.set n (some v), rfl, h1, FRs.set hd n h2⟩
theorem FRs.put {γ : Gh} {H : Hp} {d : D} {v : V} {fs : List (Option D)} {vs : List (Option V)} (h : FRs G γ H fs vs) (hd : VR G γ H d v) (i : Nat) : FRs G γ H (putD i d fs) (SlX.putS i v vs) := by
  unfold putD SlX.putS
  rw [FRs.length h]
  exact FRs.set hd i (FRs.append h (FRs.pad _))
theorem put_slot {γ : Gh} {A : AH} {H : Hp} {r c i : Nat} {fs : List (Option D)} {d : D} {v u : V} {C : Addr} (R : Rel G γ A H) (h : VR G γ H (.ref r) v) (e : A[r]? = some (.ins c fs)) (hC : G.cls c = some C) (hd : VR G γ H d u) :
    ∃ a dx vs, v = .ref a ∧ SlX.Slt H a C dx vs ∧ Ext γ H γ (SlX.slH H a C dx (SlX.putS i u vs)) ∧ Rel G γ (A.set r (.ins c (putD i d fs))) (SlX.slH H a C dx (SlX.putS i u vs)) := by
  unfold VR at h
  obtain ⟨a, rfl, h1⟩ := h
  obtain ⟨a', h2, h3, C', dx, vs, hC', hs, h4, h5, rv⟩ := R.at_ r _ e
  rw [h1] at h2; cases h2
  rw [hC] at hC'; cases hC'
  have off : ∀ b, γ.o b ≠ some (some r) → SlX.slH H a C dx (SlX.putS i u vs) b = H b := fun b hb => SlX.slH_ne (fun z => hb (by rw [z]; exact h3)) fun z => hb (by rw [z]; exact h4)
  have E : Ext γ H γ (SlX.slH H a C dx (SlX.putS i u vs)) := Ext.put off
  refine ⟨a, dx, vs, rfl, hs, E, R.put h1 off (fun b hb => ?_) ⟨C, dx, SlX.putS i u vs, hC, SlX.slH_slt h5, h4, h5, (FRs.put rv hd i).ext E.toExt0⟩⟩
  by_cases z1 : b = a
  · subst z1; unfold SlX.slH; rw [upd_same]; exact (fun q => nomatch q)
  · by_cases z2 : b = dx
    · subst z2; unfold SlX.slH; rw [upd_ne z1, upd_same]; exact (fun q => nomatch q)
    · rw [SlX.slH_ne z1 z2]; exact (R.dom b _ hb).1
/-- self.f = e -/
def bFld (c i : Nat) (fo fe : Ev → AH → Res D) : Ev → AH → SR := fun env A => lft (fe env A) env fun d A1 => lft (fo env A1) env fun x A2 => match x with
  | .ref r => match A2[r]? with
    | some (.ins c' fs) => if c' = c then .nx env (A2.set r (.ins c (putD i d fs))) else .stuck
    | _ => .stuck
  | _ => .stuck
theorem js_fld {c i : Nat} {C p : Addr} {f : Str} {ob e : Expr} {pos pos' : Pos} {fo fe : Ev → AH → Res D} (T : SC G X.K c C) (t : SlX.Slot1 X.K C f p i) (ho : JE X G W ob fo) (he : JE X G W e fe)
    (hs : swapsWith e (some (.Attribute ob f pos')) pos.line X.env = pure false := by rfl) : JS X G W (.Assign [.Attribute ob f pos'] e pos) (bFld c i fo fe) := by
  refine ⟨PS.imp (SlX.ps_sl ho.run he.run hs) fun E σ H h => ?_⟩
  obtain ⟨γ, A, env, S, h⟩ := h
  refine ⟨γ, A, env, S, PostS.lft S h fun d A1 γ1 H1 e1 R1 h1 v r1 => ?_⟩
  have S1 := S.to e1 R1
  refine ⟨γ1, A1, env, S1, PostS.lft S1 h1 fun x A2 γ2 H2 e2 R2 h2 u r2 => ?_⟩
  have S2 := S1.to e2 R2
  split at h2
  · rename_i r
    split at h2
    · rename_i c' fs q
      split at h2
      · rename_i hc
        subst hc
        obtain ⟨a, dx, vs, rfl, hsl, E', R3⟩ := put_slot (i := i) R2 r2 q T.cls (VR.ext e2 _ _ r1)
        exact ⟨a, C, dx, p, vs, i, rfl, hsl, T.sc, t, h2 γ2 _ σ E' (S2.to E' R3)⟩
      · exact h2.elim
    · exact h2.elim
  · exact h2.elim
end
end F3
namespace F3
open PySem PySem.Spec
open PyProof.Rows L2
/-! ### self.f, self.g = x, y -/
structure JGA (X : Cx) (G : Gc) (tg : Expr) (g : Ev → AH → D → Option AH) : Prop where
  run : PG X tg (fun v σ H Q => ∃ γ A env d A', St3 G γ A env H σ ∧ VR G γ H d v ∧ g env A d = some A' ∧ ∀ γ' H', Ext γ H γ' H' → St3 G γ' A' env H' σ → Q σ H')
structure JGAs (X : Cx) (G : Gc) (tgs : List Expr) (g : Ev → AH → List D → Option AH) : Prop where
  run : PGs X tgs (fun vs σ H Q => ∃ γ A env ds A', St3 G γ A env H σ ∧ VRs G γ H ds vs ∧ g env A ds = some A' ∧ ∀ γ' H', Ext γ H γ' H' → St3 G γ' A' env H' σ → Q σ H')
def aFld (c i : Nat) (fo : Ev → AH → Res D) : Ev → AH → D → Option AH := fun env A d => match fo env A with
  | .ok (.ref r) A1 => match A1[r]? with
    | some (.ins c' fs) => if c' = c then some (A1.set r (.ins c (putD i d fs))) else none
    | _ => none
  | _ => none
def aEnd : Ev → AH → List D → Option AH := fun _ A ds => match ds with
  | [] => some A
  | _ => none
def aMore (g : Ev → AH → D → Option AH) (gs : Ev → AH → List D → Option AH) : Ev → AH → List D → Option AH := fun env A ds => match ds with
  | d :: r => (g env A d).bind fun A1 => gs env A1 r
  | [] => none
section
variable {X : Cx} {G : Gc} {W : WX} {k j : Nat}
theorem pg_attr {ob : Expr} {f : Str} {pos : Pos} {to : TE} (ho : PE X ob to) : PG X (.Attribute ob f pos) (fun v σ H Q => to σ H fun x H1 => ∃ a C dx p vs i, x = .ref a ∧ SlX.Slt H1 a C dx vs ∧ SlX.SCls X.K C ∧ SlX.Slot1 X.K C f p i ∧ Q σ (SlX.slH H1 a C dx (SlX.putS i v vs))) := by
  refine ⟨fun pins s σ H v u Q I r h => ?_⟩
  rw [assign_Attribute]
  refine wpAny_bind (wpAny_holding (thn (ho.run pins s σ H _ I h) fun ov s1 hv => ?_))
  obtain ⟨x, H1, I1, rx, a, C, dx, p, vs, i, rfl, hsl, c, t, q⟩ := hv
  obtain rfl : ov = Value.ref a := rx
  refine wpAny_bind (wpAny_standAt (wpAny_bind (wpAny_holding (SlX.setslot_ok I1 hsl c t r fun s2 I2 => ?_))))
  exact wpAny_release ⟨σ, _, I2, q⟩
theorem jga_fld {c i : Nat} {C p : Addr} {f : Str} {ob : Expr} {pos : Pos} {fo : Ev → AH → Res D} (T : SC G X.K c C) (t : SlX.Slot1 X.K C f p i) (ho : JE X G W0 ob fo) : JGA X G (.Attribute ob f pos) (aFld c i fo) := by
  refine ⟨PG.imp (pg_attr ho.run) fun v σ H Q h => ?_⟩
  obtain ⟨γ, A, env, d, A', S, r, e, h⟩ := h
  unfold aFld at e
  split at e
  · rename_i n A1 q0
    split at e
    · rename_i c' fs q
      split at e
      · rename_i hc
        subst hc
        cases e
        refine ⟨γ, A, env, S, ?_⟩
        rw [q0]
        intro γ1 H1 e1 R1 u r1
        obtain ⟨a, dx, vs, rfl, hsl, E', R3⟩ := put_slot (i := i) R1 r1 q T.cls (VR.ext e1 _ _ r)
        exact ⟨a, C, dx, p, vs, i, rfl, hsl, T.sc, t, h γ1 _ (e1.trans E') ((S.to e1 R1).to E' R3)⟩
      · cases e
    · cases e
  · cases e
theorem jgas_nil : JGAs X G [] aEnd := by
  refine ⟨PGs.imp pgs_nil fun vs σ H Q h => ?_⟩
  obtain ⟨γ, A, env, ds, A', S, r, e, h⟩ := h
  cases ds with
  | nil =>
    cases e
    unfold VRs at r
    exact ⟨r, h γ H (Ext.refl _ _) S⟩
  | cons d ds => cases e
theorem jgas_cons {e : Expr} {es : List Expr} {g : Ev → AH → D → Option AH} {gs : Ev → AH → List D → Option AH} (h1 : JGA X G e g) (h2 : JGAs X G es gs) (hs : (assignEach (e :: es) X.env).map (·.2) = assign e X.env :: (assignEach es X.env).map (·.2) := by rfl) : JGAs X G (e :: es) (aMore g gs) := by
  refine ⟨PGs.imp (pgs_cons h1.run h2.run hs) fun vs σ H Q h => ?_⟩
  obtain ⟨γ, A, env, ds, A', S, r, e, h⟩ := h
  cases ds with
  | nil => cases e
  | cons d ds =>
    unfold VRs at r
    obtain ⟨v, rs, rfl, r1, r2⟩ := r
    obtain ⟨A1, e1, e2⟩ := Option.bind_eq_some_iff.mp (show (g env A d).bind _ = some A' from e)
    refine ⟨v, rs, rfl, γ, A, env, d, A1, S, r1, e1, fun γ1 H1 e3 S1 => ?_⟩
    exact ⟨γ1, A1, env, ds, A', S1, VRs.ext e3 _ _ r2, e2, fun γ2 H2 e4 S2 => h γ2 H2 (e3.trans e4) S2⟩
theorem aMore_len {n : Nat} {g : Ev → AH → D → Option AH} {gs : Ev → AH → List D → Option AH} (h : ∀ env A ds A', gs env A ds = some A' → ds.length = n) : ∀ env A ds A', aMore g gs env A ds = some A' → ds.length = n + 1 := fun env A ds A' e => by
  cases ds with
  | nil => cases e
  | cons d ds =>
    obtain ⟨A1, e1, e2⟩ := Option.bind_eq_some_iff.mp (show (g env A d).bind _ = some A' from e)
    rw [List.length_cons, h _ _ _ _ e2]
theorem aEnd_len : ∀ env A ds A', aEnd env A ds = some A' → ds.length = 0 := fun env A ds A' e => by
  cases ds with
  | nil => rfl
  | cons _ _ => cases e
def bFlds (gs : Ev → AH → List D → Option AH) (f : Ev → AH → Res D) : Ev → AH → SR := fun env A => lft (f env A) env fun d A1 => match d with
  | .tup ds => match gs env A1 ds with
    | some A2 => .nx env A2
    | none => .stuck
  | _ => .stuck
theorem js_flds (o : XO X G W k) {es : List Expr} {e : Expr} {kk : Nat} {tpos pos : Pos} {gs : Ev → AH → List D → Option AH} {f : Ev → AH → Res D} (n : Nat) (hg : JGAs X G es gs) (hl : ∀ env A ds A', gs env A ds = some A' → ds.length = n) (he : JE X G W e f)
    (hn : (assignEach es X.env).length = n := by rfl) (hst : (assignEach es X.env).findIdx? (·.1) = none := by rfl)
    (hs : swapsWithSole [.Tuple es kk tpos] e pos.line X.env = pure false := by rfl) (hw : swappedStores [.Tuple es kk tpos] e X.env = pure none := by rfl) (h1 : (assignEach [.Tuple es kk tpos] X.env).map (·.2) = [assign (.Tuple es kk tpos) X.env] := by rfl) :
    JS X G W (.Assign [.Tuple es kk tpos] e pos) (bFlds gs f) := by
  refine ⟨PS.imp (ps_asg he.run (pg_tup o.calm hg.run hn hst) hs hw h1) fun E σ H h => ?_⟩
  obtain ⟨γ, A, env, S, h⟩ := h
  refine ⟨γ, A, env, S, PostS.lft S h fun d A1 γ1 H1 e1 R1 h1 v r1 => ?_⟩
  split at h1
  · rename_i ds
    split at h1
    · rename_i A2 q
      unfold VR at r1
      obtain ⟨a, vs, rfl, f1, rv⟩ := r1
      exact ⟨a, vs, rfl, o.gk ▸ f1.sq, by rw [← rv.length]; exact hl _ _ _ _ q, γ1, A1, env, ds, A2, S.to e1 R1, rv, q, fun γ2 H2 e2 S2 => h1 γ2 H2 σ e2 S2⟩
    · exact h1.elim
  · exact h1.elim
/-! ### isinstance -/
/-- the built-in type of a value -/
def tyD (A : AH) : D → Option String
  | .non => some "NoneType"
  | .bl _ => some "bool"
  | .int _ => some "int"
  | .str _ => some "str"
  | .tup _ => some "tuple"
  | .lst _ => some "list"
  | .dct t _ _ => match t with
    | false => some "dict"
    | true => none
  | .ref i => match A[i]? with
    | some (.lst _) => some "list"
    | some (.dct _ _ _) => some "dict"
    | _ => none
  | _ => none
theorem tyD_at {γ : Gh} {A : AH} {H : Hp} {d : D} {v : V} {t : String} (R : Rel G γ A H) (h : VR G γ H d v) (e : tyD A d = some t) : TyX G.K H v (.type t) := by
  cases d with
  | non => unfold VR at h; subst h; cases e; exact .base .non
  | bl _ => unfold VR at h; subst h; cases e; exact .base (.bl _)
  | int _ => unfold VR at h; subst h; cases e; exact .base (.int _)
  | str _ => unfold VR at h; subst h; cases e; exact .base (.str _)
  | tup _ => unfold VR at h; obtain ⟨a, vs, rfl, f, _⟩ := h; cases e; exact .base (.tup f.1)
  | lst _ => unfold VR at h; obtain ⟨a, vs, rfl, f, _⟩ := h; cases e; exact .base (.lst f)
  | scr _ => cases e
  | ins _ _ => cases e
  | fn => cases e
  | dct t _ _ =>
    unfold VR at h
    cases t with
    | true => cases e
    | false =>
      obtain ⟨a, o, u, vs, rfl, _, h1, ⟨_, kvs, rfl, _⟩ | ⟨z, _⟩, _⟩ := h
      · cases e; exact .fDict h1
      · cases z
  | ref i =>
    unfold VR at h
    obtain ⟨a, rfl, h0⟩ := h
    unfold tyD at e
    simp only at e
    split at e
    · rename_i q
      obtain ⟨a', k1, k2, vs, k3, k4⟩ := R.at_ i _ q
      rw [h0] at k1; cases k1; cases e
      exact .base (.lst k3)
    · rename_i q
      obtain ⟨a', k1, k2, u, vs, h1, r, _⟩ := R.at_ i _ q
      rw [h0] at k1; cases k1; cases e
      rcases r with ⟨_, kvs, rfl, _⟩ | ⟨_, kvs, rfl, _⟩
      · exact .base (.dK h1)
      · exact .base (.dT h1)
    · cases e
def isiB (t T : String) : Bool := t == T || (t == "bool" && T == "int")
/-- the classes asked by the program are among these -/
def gIsiB (T : String) (d : D) (A : AH) : Res D := match d with
  | .ins _ _ => .ok (.bl false) A
  | .ref r => match A[r]? with
    | some (.ins _ _) => .ok (.bl false) A
    | _ => match tyD A (.ref r) with
      | some t => .ok (.bl (isiB t T)) A
      | none => .stuck
  | d => match tyD A d with
    | some t => .ok (.bl (isiB t T)) A
    | none => .stuck
/-- what isinstance with a built-in class T asks -/
structure IsB (G : Gc) (K : PySem.W.Frag) (T : String) : Prop where
  bt : ∀ t ∈ (["NoneType", "bool", "int", "str", "tuple", "list", "dict"] : List String), PySem.W.kitOne K (.type t) (.type T) = some (isiB t T)
  own : ∀ c C, G.cls c = some C → SlX.SCls K C ∧ SlX.SIsi K C ∧ PySem.W.kitOne K (.ref C) (.type T) = some false
def rIsiU (K : PySem.W.Frag) (T : String) : List V → Hp → VK → Prop := fun xs H Q => rIsi K xs H Q ∨ SlX.rIsiSl K (.type T) xs H Q
theorem tyD_mem {A : AH} {d : D} {t : String} (e : tyD A d = some t) : t ∈ (["NoneType", "bool", "int", "str", "tuple", "list", "dict"] : List String) := by
  unfold tyD at e
  split at e <;> first
    | (cases e; simp; done)
    | (split at e <;> first | (cases e; simp; done) | cases e)
    | cases e
def sIsiB (T : String) (f : Ev → AH → Res D) : Ev → AH → Res D := sUn (gIsiB T) f
theorem je_isiB (o : XO X G W k) {T : String} {x y : Str} {p p2 pos : Pos} {e : Expr} {f : Ev → AH → Res D} (B : IsB G X.K T) (he : JE X G W e f) (hg : Gl X x) (hm : X.mg x = none) (hv : bootBuiltins x = some (.builtin "isinstance")) (hn : x ≠ "__name__") (hdb : (x == ("__debug__" : Str)) = false)
    (hg2 : Gl X y) (hm2 : X.mg y = none) (hv2 : bootBuiltins y = some (.type T)) (hn2 : y ≠ "__name__") (hdb2 : (y == ("__debug__" : Str)) = false)
    (hs : starEach [e, .Name y p2] X.env = (false, eval e X.env) :: starEach [.Name y p2] X.env := by rfl) (hs2 : starEach [.Name y p2] X.env = (false, eval (.Name y p2) X.env) :: starEach [] X.env := by rfl) (hpl : (backTo pos (starEach [.Name y p2] X.env)).any (·.1) = false := by rfl) :
    JE X G W (.Call (.Name x p) [e, .Name y p2] [] pos) (sIsiB T f) := by
  refine ⟨PE.imp (pe_callB (CallR.or call_isi (SlX.call_isiSl (.type T))) hg hm hv (pa_cons he.run (pa_cons (pe_bltn (v := .ty T) hg2 hm2 hv2 rfl hn2 hdb2) pa_nil hs2) hs) hn hdb hs hpl) fun σ H Q h => ?_⟩
  obtain ⟨γ, A, env, S, h⟩ := h
  refine ⟨γ, A, env, S, Post.bind h fun d A1 γ1 H1 e1 R1 h1 v r1 => ?_⟩
  have one : ∀ w, RelV (.ty T) w → w = Value.type T := fun w z => z
  have bti : ∀ t, tyD A1 d = some t → Q (.bl (isiB t T)) H1 → rIsi X.K [v, .ty T] H1 Q ∨ SlX.rIsiSl X.K (.type T) [v, .ty T] H1 Q := fun t q z =>
    .inl ⟨v, .ty T, .type t, .type T, _, rfl, .ty T, o.gk ▸ tyD_at R1 r1 q, B.bt t (tyD_mem q), z⟩
  have insi : ∀ a C dx vs, v = .ref a → SlX.Slt H1 a C dx vs → (∃ c, G.cls c = some C) → Q (.bl false) H1 → rIsi X.K [v, .ty T] H1 Q ∨ SlX.rIsiSl X.K (.type T) [v, .ty T] H1 Q := fun a C dx vs ev hsl hc z => by
    obtain ⟨c, hc⟩ := hc
    obtain ⟨q1, q2, q3⟩ := B.own c C hc
    exact .inr ⟨a, C, dx, vs, .ty T, false, by rw [ev], rfl, one, hsl, q1, q2, q3, z⟩
  unfold gIsiB at h1
  split at h1
  · unfold VR at r1
    obtain ⟨a, C, dx, vs, rfl, n1, n2, hc, k1, k2, _⟩ := r1
    exact insi a C dx _ rfl (.inr ⟨k1, k2⟩) ⟨_, hc⟩ (ok_here R1 (by unfold VR; rfl) h1)
  · split at h1
    · rename_i r c fs q
      unfold VR at r1
      obtain ⟨a, rfl, h0⟩ := r1
      obtain ⟨a', k1, k2, C, dx, vs, hC, hsl, _⟩ := R1.at_ _ _ q
      rw [h0] at k1; cases k1
      exact insi a C dx vs rfl hsl ⟨_, hC⟩ (ok_here R1 (by unfold VR; rfl) h1)
    · split at h1
      · rename_i t q
        exact bti t q (ok_here R1 (by unfold VR; rfl) h1)
      · exact h1.elim
  · split at h1
    · rename_i t q
      exact bti t q (ok_here R1 (by unfold VR; rfl) h1)
    · exact h1.elim
/-- isinstance with an own class -/
def gIsiO (c : Nat) (d : D) (A : AH) : Res D := match d with
  | .ins c' _ => .ok (.bl (c' == c)) A
  | .ref r => match A[r]? with
    | some (.ins c' _) => .ok (.bl (c' == c)) A
    | _ => match tyD A (.ref r) with
      | some _ => .ok (.bl false) A
      | none => .stuck
  | d => match tyD A d with
    | some _ => .ok (.bl false) A
    | none => .stuck
structure IsO (G : Gc) (K : PySem.W.Frag) (c : Nat) (C : Addr) : Prop where
  bt : ∀ t ∈ (["NoneType", "bool", "int", "str", "tuple", "list", "dict"] : List String), PySem.W.kitOne K (.type t) (.ref C) = some false
  own : ∀ c' C', G.cls c' = some C' → SlX.SCls K C' ∧ SlX.SIsi K C' ∧ PySem.W.kitOne K (.ref C') (.ref C) = some (c' == c)
def sIsiO (c : Nat) (f : Ev → AH → Res D) : Ev → AH → Res D := sUn (gIsiO c) f
theorem je_isiO (o : XO X G W k) {c : Nat} {C : Addr} {x y : Str} {p p2 pos : Pos} {e : Expr} {f : Ev → AH → Res D} (B : IsO G X.K c C) (he : JE X G W e f) (hg : Gl X x) (hm : X.mg x = none) (hv : bootBuiltins x = some (.builtin "isinstance")) (hn : x ≠ "__name__") (hdb : (x == ("__debug__" : Str)) = false)
    (hg2 : Gl X y) (hm2 : X.mg y = some (.ref C)) (hdb2 : (y == ("__debug__" : Str)) = false)
    (hs : starEach [e, .Name y p2] X.env = (false, eval e X.env) :: starEach [.Name y p2] X.env := by rfl) (hs2 : starEach [.Name y p2] X.env = (false, eval (.Name y p2) X.env) :: starEach [] X.env := by rfl) (hpl : (backTo pos (starEach [.Name y p2] X.env)).any (·.1) = false := by rfl) :
    JE X G W (.Call (.Name x p) [e, .Name y p2] [] pos) (sIsiO c f) := by
  refine ⟨PE.imp (pe_callB (CallR.or call_isi (SlX.call_isiSl (.ref C))) hg hm hv (pa_cons he.run (pa_cons (pe_glob (v := .ref C) hg2 hm2 rfl hdb2) pa_nil hs2) hs) hn hdb hs hpl) fun σ H Q h => ?_⟩
  obtain ⟨γ, A, env, S, h⟩ := h
  refine ⟨γ, A, env, S, Post.bind h fun d A1 γ1 H1 e1 R1 h1 v r1 => ?_⟩
  have one : ∀ w, RelV (.ref C) w → w = Value.ref C := fun w z => z
  have bti : ∀ t, tyD A1 d = some t → Q (.bl false) H1 → rIsi X.K [v, .ref C] H1 Q ∨ SlX.rIsiSl X.K (.ref C) [v, .ref C] H1 Q := fun t q z =>
    .inl ⟨v, .ref C, .type t, .ref C, _, rfl, .own C, o.gk ▸ tyD_at R1 r1 q, B.bt t (tyD_mem q), z⟩
  have insi : ∀ a C' dx vs c', v = .ref a → SlX.Slt H1 a C' dx vs → G.cls c' = some C' → Q (.bl (c' == c)) H1 → rIsi X.K [v, .ref C] H1 Q ∨ SlX.rIsiSl X.K (.ref C) [v, .ref C] H1 Q := fun a C' dx vs c' ev hsl hc z => by
    obtain ⟨q1, q2, q3⟩ := B.own c' C' hc
    exact .inr ⟨a, C', dx, vs, .ref C, _, by rw [ev], rfl, one, hsl, q1, q2, q3, z⟩
  unfold gIsiO at h1
  split at h1
  · unfold VR at r1
    obtain ⟨a, C', dx, vs, rfl, n1, n2, hc, k1, k2, _⟩ := r1
    exact insi a C' dx _ _ rfl (.inr ⟨k1, k2⟩) hc (ok_here R1 (by unfold VR; rfl) h1)
  · split at h1
    · rename_i r c' fs q
      unfold VR at r1
      obtain ⟨a, rfl, h0⟩ := r1
      obtain ⟨a', k1, k2, C', dx, vs, hC, hsl, _⟩ := R1.at_ _ _ q
      rw [h0] at k1; cases k1
      exact insi a C' dx vs _ rfl hsl hC (ok_here R1 (by unfold VR; rfl) h1)
    · split at h1
      · rename_i t q
        exact bti t q (ok_here R1 (by unfold VR; rfl) h1)
      · exact h1.elim
  · split at h1
    · rename_i t q
      exact bti t q (ok_here R1 (by unfold VR; rfl) h1)
    · exact h1.elim
end
end F3
namespace F3
open PySem PySem.Spec
open PyProof.Rows L2
/-! ### an instance is made -/
section
variable {G : Gc} {γ : Gh} {H : Hp} {A : AH} {n : Nat} {p dx : Addr} {ob od : HO}
/-- a changed thing in two places -/
def Gh.more2 (γ : Gh) (n : Nat) (p dx : Addr) : Gh := ⟨γ.ρ ++ [p], fun a => if a = p ∨ a = dx then some (some n) else γ.o a⟩
theorem Gh.more2_in {a : Addr} (h : a = p ∨ a = dx) : (γ.more2 n p dx).o a = some (some n) := if_pos h
theorem Gh.more2_out {a : Addr} (h : a ≠ p) (h' : a ≠ dx) : (γ.more2 n p dx).o a = γ.o a := if_neg fun z => z.elim h h'
theorem Ext.more2 (h : H p = none) (hd : H dx = none) : Ext γ H (γ.more2 n p dx) (upd (upd H dx od) p ob) := by
  have off : ∀ b o, H b = some o → upd (upd H dx od) p ob b = some o ∧ (γ.more2 n p dx).o b = γ.o b := fun b o e => by
    have b1 := ne_of_none e h
    have b2 := ne_of_none e hd
    exact ⟨by rw [upd_ne b1, upd_ne b2]; exact e, Gh.more2_out b1 b2⟩
  refine ⟨⟨fun i a e => ?_, fun b o e z _ => ?_⟩, fun b o e z => ?_⟩
  · show (γ.ρ ++ [p])[i]? = some a
    rw [List.getElem?_append_left (List.getElem?_eq_some_iff.mp e).1]; exact e
  · obtain ⟨q1, q2⟩ := off b o e; exact ⟨q1, by rw [q2]; exact z⟩
  · obtain ⟨q1, q2⟩ := off b o e; exact ⟨q1, by rw [q2]; exact z⟩
theorem Rel.more2 {ao : AO} (R : Rel G γ A H) (h : H p = none) (hd : H dx = none) (new : OR G (γ.more2 A.length p dx) (upd (upd H dx od) p ob) A.length ao p) : Rel G (γ.more2 A.length p dx) (A ++ [ao]) (upd (upd H dx od) p ob) := by
  have E : Ext γ H (γ.more2 A.length p dx) (upd (upd H dx od) p ob) := Ext.more2 h hd
  have np : ∀ b, H b ≠ none → b ≠ p := fun b q z => q (by rw [z]; exact h)
  have nd : ∀ b, H b ≠ none → b ≠ dx := fun b q z => q (by rw [z]; exact hd)
  have off : ∀ b, H b ≠ none → upd (upd H dx od) p ob b = H b := fun b q => by rw [upd_ne (np b q), upd_ne (nd b q)]
  have oof : ∀ b, H b ≠ none → (γ.more2 A.length p dx).o b = γ.o b := fun b q => Gh.more2_out (np b q) (nd b q)
  refine ⟨by show (γ.ρ ++ [p]).length = _; rw [List.length_append, List.length_append, R.len]; rfl, fun i o e => ?_, fun a x e => ?_, fun q hq => ?_⟩
  · by_cases hi : i < A.length
    · rw [List.getElem?_append_left hi] at e
      obtain ⟨a, e1, e2, r⟩ := R.at_ i o e
      have na := (R.dom a _ e2).1
      exact ⟨a, E.ρ i a e1, by rw [oof a na]; exact e2, r.ext (j := i) E.toExt0 (off a na) fun y q => ⟨off y (R.dom y _ q).1, by rw [oof y (R.dom y _ q).1]; exact q⟩⟩
    · rw [List.getElem?_append_right (by omega)] at e
      have hi2 : i = A.length := by
        have := (List.getElem?_eq_some_iff.mp e).1
        simp at this; omega
      subst hi2
      rw [Nat.sub_self] at e
      cases e
      refine ⟨p, ?_, Gh.more2_in (.inl rfl), new⟩
      show (γ.ρ ++ [p])[A.length]? = some p
      rw [← R.len]; simp
  · by_cases z : a = p ∨ a = dx
    · rw [Gh.more2_in z] at e; cases e
      refine ⟨?_, fun i q => by cases q; rw [List.length_append]; simp⟩
      by_cases z1 : a = p
      · subst z1; rw [upd_same]; exact fun q => nomatch q
      · have z2 := z.resolve_left z1
        subst z2; rw [upd_ne z1, upd_same]; exact fun q => nomatch q
    · rw [Gh.more2_out (fun w => z (.inl w)) fun w => z (.inr w)] at e
      obtain ⟨d1, d2⟩ := R.dom a x e
      exact ⟨by rw [off a d1]; exact d1, fun i q => by have := d2 i q; rw [List.length_append]; omega⟩
  · obtain ⟨n, ps, h1, h2, h3⟩ := R.tab q hq
    have nq : H q.1 ≠ none := by rw [h1]; exact fun z => nomatch z
    refine ⟨by rw [oof _ nq]; exact n, ps, by rw [off _ nq]; exact h1, h2, fun pos cv hc => ?_⟩
    obtain ⟨c, c1, c2, c3⟩ := h3 pos cv hc
    have nc : H c ≠ none := by rw [c2]; exact fun z => nomatch z
    exact ⟨c, c1, by rw [off _ nc]; exact c2, by rw [oof _ nc]; exact c3⟩
end
/-- C(..): m is what __init__ does -/
def mMake (c : Nat) (m : List D → AH → Res D) (ds : List D) (A : AH) : Res D := match m (.ref A.length :: ds) (A ++ [.ins c []]) with
  | .ok .non A1 => clean A.length (.ref A.length) A1
  | .ex x A1 => cleanX A.length x A1
  | _ => .stuck
section
variable {X : Cx} {G : Gc} {W : WX} {k j c : Nat} {f C : Addr} {m : List D → AH → Res D}
theorem guards_make {A : Around} {us : List Value} : (A.under (.builtin "type.__call__" ⟨.ref C :: us, []⟩)).guards = A.guards := by
  first | rfl | simp [Around.under, Code.guards, pushGuards, Code.isGuard, guardIds]
theorem run_mk {pins : List (Addr × Obj)} {σ : L2.St} {H : Hp} {s : Shared} {Q : VK} {us : List Value} {vs : List V} {ds : List D} {γ : Gh} {Ah : AH} (o : XO X G W k) (M : Mk X.K C f) (hC : G.cls c = some C) (F : FnG X.prog X.w X.K X.mg X.base G j f m) (hj : j + 1 ≤ k) (I : Inv X pins σ H s)
    (r : Vals vs us) (R : Rel G γ Ah H) (rv : VRs G γ H ds vs) (h : Post G γ H (mMake c m ds Ah) (fun γ' _ H' d => ∀ v, VR G γ' H' d v → Q v H') (fun c a H' => W c a σ H')) : wpAny (model X.prog X.w) X.A (call (.ref C) us) (EP X pins σ Q) X.xe s := by
  have n1 : H (s.heap.objs.size + 1) = none := I.hok.fresh (Nat.le_succ _)
  have n0 : H s.heap.objs.size = none := I.hok.fresh (Nat.le_refl _)
  have ne : s.heap.objs.size ≠ s.heap.objs.size + 1 := Nat.ne_of_lt (Nat.lt_succ_self _)
  have I2 := Inv.made (C := C) I
  have E2 : Ext γ H (γ.more2 Ah.length (s.heap.objs.size + 1) s.heap.objs.size) (upd (upd H s.heap.objs.size (.own (s.heap.objs.size + 1))) (s.heap.objs.size + 1) (.ins C s.heap.objs.size [])) := Ext.more2 n1 n0
  have R2 : Rel G _ (Ah ++ [.ins c []]) _ := R.more2 (od := .own (s.heap.objs.size + 1)) (ob := .ins C s.heap.objs.size []) n1 n0 ⟨C, s.heap.objs.size, [], hC, .inl ⟨upd_same, rfl⟩, Gh.more2_in (.inr rfl), ne, rfl⟩
  have hself : ∀ H', VR G (γ.more2 Ah.length (s.heap.objs.size + 1) s.heap.objs.size) H' (.ref Ah.length) (.ref (s.heap.objs.size + 1)) := fun H' => by
    unfold VR
    refine ⟨_, rfl, ?_⟩
    show (γ.ρ ++ [s.heap.objs.size + 1])[Ah.length]? = _
    rw [← R.len]; simp
  have r2 : Vals (V.ref (s.heap.objs.size + 1) :: vs) (Value.ref (s.heap.objs.size + 1) :: us) := .cons rfl r
  have rv2 : VRs G (γ.more2 Ah.length (s.heap.objs.size + 1) s.heap.objs.size) (upd (upd H s.heap.objs.size (.own (s.heap.objs.size + 1))) (s.heap.objs.size + 1) (.ins C s.heap.objs.size [])) (.ref Ah.length :: ds) (V.ref (s.heap.objs.size + 1) :: vs) := VRs.cons (hself _) (VRs.ext E2 _ _ rv)
  refine wpAny_call (make_map (f := f) I.kIn M.makes M.init (beq_iff_eq.mp M.fn) (codeAny_mono (F _ X.stack _ _ _ _ _ _ _ (fun v H' => v = .non ∧ Q (.ref (s.heap.objs.size + 1)) H') (WE W σ) ((o.room.mono hj).make C us []) (by rw [guards_make]; exact o.gd) (I2.env0.make C us []) r2 R2 rv2 ?_) fun z s' hq => ?_))
  · unfold mMake at h
    split at h
    · rename_i A1 q
      rw [q]
      intro γ' H' e R' v rn
      unfold VR at rn
      exact ⟨rn, Post.clean R h γ' H' _ (E2.trans e) R' (VR.ext e _ _ (hself _))⟩
    · rename_i x A1 q
      rw [q]
      exact fun γ' H' cls ad e R' xr => Post.cleanX R h γ' H' cls ad (E2.trans e) R' xr
    · exact h.elim
  · cases z with
    | error e => exact passAt o.tk σ _ _ _ _ _ I2 hq
    | ok fl =>
      cases fl with
      | ret u =>
        obtain ⟨v, H', I3, rx, ev, q3⟩ := I2.after hq
        subst ev
        exact ⟨rx, ⟨V.ref (s.heap.objs.size + 1), H', I3, rfl, q3⟩⟩
      | _ => exact False.elim hq
theorem je_mk (o : XO X G W k) {x : Str} {p pos : Pos} {e : Expr} {es : List Expr} {fa : Ev → AH → Res (List D)} (M : Mk X.K C f) (hC : G.cls c = some C) (F : FnG X.prog X.w X.K X.mg X.base G j f m) (hj : j + 1 ≤ k) (hg : Gl X x) (hm : X.mg x = some (.ref C))
    (ha : JA X G W (e :: es) fa) (hdb : (x == ("__debug__" : Str)) = false) (he : starEach (e :: es) X.env = (false, eval e X.env) :: starEach es X.env := by rfl) (hpl : (backTo pos (starEach es X.env)).any (·.1) = false := by rfl) : JE X G W (.Call (.Name x p) (e :: es) [] pos) (sCall (mMake c m) fa) := by
  refine ⟨⟨fun pins s σ H Q I h => ?_⟩⟩
  obtain ⟨γ, A, env, S, h⟩ := h
  refine wpAny_Call_Name_kw (ld_glob I hg hm ?_ hdb)
  refine PySem.W.callWith_K (h₀ := X.base) I.ok.mod.kin M.kp (thn (ha.run.run pos pins s σ H (fun vs H1 => ∃ γ1 A1 ds, Rel G γ1 A1 H1 ∧ VRs G γ1 H1 ds vs ∧ Post G γ1 H1 (mMake c m ds A1) (fun γ' _ H' d => ∀ v, VR G γ' H' d v → Q v H') (fun c a H' => W c a σ H')) I
    ⟨γ, A, env, S, Post.bind h fun ds A1 γ1 H1 e1 R1 h1 vs r1 => ⟨γ1, A1, ds, R1, r1, h1⟩⟩) fun us s1 ⟨vs, H1, I1, r, γ1, A1, ds, R1, r1, h1⟩ => ⟨I1.kIn, ?_⟩) he hpl
  exact run_mk o M hC F hj I1 r R1 r1 h1
/-! ### a property -/
/-- whose instance a value is -/
def insC (A : AH) : D → Option Nat
  | .ins c _ => some c
  | .ref r => match A[r]? with
    | some (.ins c _) => some c
    | _ => none
  | _ => none
theorem insC_at {γ : Gh} {A : AH} {H : Hp} {d : D} {v : V} (R : Rel G γ A H) (h : VR G γ H d v) (e : insC A d = some c) (hC : G.cls c = some C) : ∃ a dx vs, v = .ref a ∧ SlX.Slt H a C dx vs := by
  cases d with
  | ins c' ds =>
    cases e
    unfold VR at h
    obtain ⟨a, C', dx, vs, rfl, n1, n2, hC', k1, k2, _⟩ := h
    rw [hC] at hC'; cases hC'
    exact ⟨a, dx, vs.map some, rfl, .inr ⟨k1, k2⟩⟩
  | ref r =>
    unfold VR at h
    obtain ⟨a, rfl, h0⟩ := h
    unfold insC at e
    simp only at e
    split at e
    · rename_i c' fs q
      cases e
      obtain ⟨a', k1, k2, C', dx, vs, hC', hsl, _⟩ := R.at_ _ _ q
      rw [h0] at k1; cases k1
      rw [hC] at hC'; cases hC'
      exact ⟨a, dx, vs, rfl, hsl⟩
    · cases e
  | _ => cases e
/-- what a property of the class C asks -/
structure PropAt (K : PySem.W.Frag) (C : Addr) (f : Str) (p g : Addr) : Prop where
  sc : SlX.SCls K C
  at_ : PySem.W.findIn K (.ref C) f = some (some (.ref p))
  get : PySem.W.specialIn K (.ref p) "__get__" = some (some (.builtin "property.__get__"))
  tk : PySem.W.takesIn K (.ref p) = some true
  rc : ∃ rest, PySem.W.recIn K p "property" = some (.ref g :: rest)
def gProp (c : Nat) (m : List D → AH → Res D) (x : D) (A : AH) : Res D := if insC A x = some c then match m [x] A with
  | .ok d A1 => .ok d A1
  | _ => .stuck
  else .stuck
theorem je_prop (o : XO X G W k) {fn : Str} {e : Expr} {pos : Pos} {fa : Ev → AH → Res D} {p g : Addr} (P : PropAt X.K C fn p g) (hC : G.cls c = some C) (F : FnG X.prog X.w X.K X.mg X.base G j g m) (hj : j + 1 ≤ k) (he : JE X G W e fa) (hb : attributeBase e fn X.env (eval e X.env) = eval e X.env := by rfl) :
    JE X G W (.Attribute e fn pos) (sUn (gProp c m) fa) := by
  refine ⟨⟨fun pins s σ H Q I h => ?_⟩⟩
  obtain ⟨γ, A, env, S, h⟩ := h
  refine attr_of hb (thn (he.run.run pins s σ H (fun v H1 => ∃ γ1 A1 d, Rel G γ1 A1 H1 ∧ VR G γ1 H1 d v ∧ Post G γ1 H1 (gProp c m d A1) (fun γ' _ H' d => ∀ v, VR G γ' H' d v → Q v H') (fun c a H' => W c a σ H')) I
    ⟨γ, A, env, S, Post.bind h fun d A1 γ1 H1 e1 R1 h1 v r1 => ⟨γ1, A1, d, R1, r1, h1⟩⟩) fun u s1 ⟨v, H1, I1, ru, γ1, A1, d, R1, r1, h1⟩ => ?_)
  unfold gProp at h1
  split at h1
  · rename_i hi
    obtain ⟨a, dx, vs, rfl, hsl⟩ := insC_at R1 r1 hi hC
    obtain rfl : u = Value.ref a := ru
    obtain ⟨sl, od, _, J, _⟩ := SlX.slt_inst I1 hsl
    obtain ⟨rest, hrec⟩ := P.rc
    have I2 : Inv X pins σ H1 { s1 with toks := s1.toks + 1 } := I1.tok (s1.toks + 1)
    refine PySem.W.get_bind I1.kIn J (PySem.W.plainGet_of (P.sc.get fn)).1 (PySem.W.findObj_data P.sc.ic P.at_ P.get P.tk) (PySem.W.plainGet_of (P.sc.get fn)).2 (wpAny_call (PySem.W.prop_get (s := { s1 with toks := s1.toks + 1 }) I1.kIn hrec ?_))
    refine codeAny_mono (F X.A.in1 X.stack { s1 with toks := s1.toks + 1 } H1 [.ref a] [.ref a] [d] γ1 A1 Q (fun _ _ _ => False) (o.room.mono hj).in1 o.gd I2.env0.in1 (.cons rfl .nil) R1 (VRs.cons r1 VRs.nil) ?_) fun z s' hq => ?_
    · cases q : m [d] A1 with
      | ok d2 A2 => rw [q] at h1; exact h1
      | ex x A2 => rw [q] at h1; exact h1.elim
      | stuck => rw [q] at h1; exact h1.elim
    · cases z with
      | error e =>
        obtain ⟨a, B, H', cls, d, _, _, _, _, _, _, _, z⟩ := hq
        exact z.elim
      | ok fl =>
        cases fl with
        | ret u =>
          obtain ⟨v, H', I3, rv, q⟩ := I2.after hq
          exact wpAny_of_eq (PySem.W.handedOut_of (handed_of rv)) ⟨v, H', I3, rv, q⟩
        | _ => exact False.elim hq
  · exact h1.elim
end
end F3
namespace F3
open PySem PySem.Spec
open PyProof.Rows L2
/-! ### == and != of a class with its own __eq__ -/
section
variable {M : Model} {A : Around} {E : Value → Shared → Prop} {s : Shared} {K : PySem.W.Frag} {x C g : Addr} {y : Value} {ox : Obj} {od : Option Obj}
theorem ne_slot (X : K.In s.heap) (I : PySem.W.InstAt s.heap x ox C od) (hs : PySem.W.findIn K (.ref C) "__eq__" = some (some (.ref g))) (hf : PySem.W.isFn K (.ref g) = true) (hu : A.units < cLine) {Q : Fin → Shared → Prop}
    (hcall : wpAny M A (call (.ref g) [.ref x, y]) (fun v s' => ∃ b, v = .bool b ∧ Q (.done (.ret (.bool (!b)))) s') E s) : wpAny M A (Builtin.«object.__ne__» ⟨[.ref x, y], []⟩) Q E s := by
  unfold Builtin.«object.__ne__»
  repeat (first
    | with_reducible refine wpAny_cRoomFor hu ?_
    | (refine wpAny_bind (m := callSpecialIfBound? (.ref x) (Str.ofString "__eq__") [y])
        (PySem.W.ifBound_K X I hs hf (wpAny_mono hcall (fun r s' hr => by
          obtain ⟨b, rfl, hq⟩ := hr
          repeat (first | exact hq | exact wpAny_pure hq | exact wpAny_truthy_bool hq | (refine wpAny_bind (m := truthy (.bool _)) (wpAny_truthy_bool ?_)) | wp_step)) fun _ _ e => e)))
    | wp_step)
theorem ne_check (X : K.In s.heap) (I : PySem.W.InstAt s.heap x ox C od) (hb : PySem.W.subIn K (.ref C) (.type "object") = some true) {Q : Unit → Shared → Prop} (hq : Q () s) :
    wpAny M A (checkBuiltinCall "object.__ne__" ⟨[.ref x, y], []⟩) Q E s := by
  simp only [checkBuiltinCall, PySem.F.cmpKind_ne, PySem.F.cmpSplit_ne]
  refine wpAny_bind ?_
  unfold isInstance
  refine wpAny_bind (I.type.here ((PySem.W.looks_subIn X hb).here ?_))
  show wpAny M A _ _ E s
  repeat (first
    | (simp only [if_true]; fail_if_success trivial)
    | wp_step)
  exact hq
theorem ne_try {prog : Program} {w : World} (X : K.In s.heap) (I : PySem.W.InstAt s.heap x ox C od) (hb : PySem.W.subIn K (.ref C) (.type "object") = some true) (hs : PySem.W.findIn K (.ref C) "__eq__" = some (some (.ref g))) (hf : PySem.W.isFn K (.ref g) = true)
    (hn : PySem.W.findIn K (.ref C) "__ne__" = some (some (.builtin "object.__ne__"))) (hu : A.units + 1 < cLine) {Q : Option Value → Shared → Prop}
    (hcall : wpAny (model prog w) A.in1 (call (.ref g) [.ref x, y]) (fun v s' => ∃ b, v = .bool b ∧ Q (some (.bool (!b))) s') E s) : wpAny (model prog w) A (tryCompare (.ref x) "__ne__" y) Q E s := by
  have body : wpAny (model prog w) A (call (.builtin "object.__ne__") [.ref x, y]) (fun v s' => ∃ b, v = .bool b ∧ Q (some (.bool b)) s') E s := by
    refine wpAny_call (codeAny_call_builtin PySem.F.cmp_object.ne.plain PySem.F.cmpEntry_ne (ne_check X I hb (ne_slot (A := A.in1) X I hs hf hu (wpAny_mono hcall (fun v s' hv => ?_) fun _ _ e => e))))
    obtain ⟨b, rfl, hq⟩ := hv
    exact ⟨b, rfl, ⟨!b, rfl, hq⟩⟩
  unfold tryCompare
  refine wpAny_bind (m := callSpecialIfBound? (.ref x) "__ne__" [y]) ?_
  refine wpAny_mono (Q := fun r s' => ∃ b, r = some (.bool b) ∧ Q (some (.bool b)) s') ?_ (fun r s' ⟨b, e, q⟩ => by subst e; exact wpAny_pure q) fun _ _ e => e
  simp only [callSpecialIfBound?, bindSpecialIfBound?]
  refine wpAny_holding (wpAny_bind (wpAny_bind (wpAny_bind (I.type.here ((PySem.W.looks_findIn X hn).here ?_)))))
  refine wpAny_bind (wpAny_askSetting (wpAny_ite ?_))
  simp only [PySem.F.cmp_object.ne.bind]
  have fin : wpAny (model prog w) A (call (.builtin "object.__ne__") ([.ref x] ++ [y]) >>= fun v => pure (some v)) (fun r s' => ∃ b, r = some (.bool b) ∧ Q (some (.bool b)) s') E s :=
    wpAny_bind (wpAny_mono body (fun v s' ⟨b, e, q⟩ => wpAny_pure ⟨b, by rw [e], q⟩) fun _ _ e => e)
  split
  · exact wpAny_bind (wpAny_pure (wpAny_pure fin))
  · exact wpAny_tryCatch (wpAny_bind (wpAny_pure (wpAny_pure fin)))
theorem ne_rich {prog : Program} {w : World} {tb : Value} (X : K.In s.heap) (I : PySem.W.InstAt s.heap x ox C od) (hy : PySem.W.Looks (model prog w) s.heap (typeOf y) tb) (ht : PySem.W.notFirst K C tb = true) (hb : PySem.W.subIn K (.ref C) (.type "object") = some true) (hs : PySem.W.findIn K (.ref C) "__eq__" = some (some (.ref g))) (hf : PySem.W.isFn K (.ref g) = true)
    (hn : PySem.W.findIn K (.ref C) "__ne__" = some (some (.builtin "object.__ne__"))) (hu : A.units + 1 < cLine) {Q : Value → Shared → Prop}
    (hcall : wpAny (model prog w) A.in1 (call (.ref g) [.ref x, y]) (fun v s' => ∃ b, v = .bool b ∧ Q (.bool (!b)) s') E s) : wpAny (model prog w) A (richCompare .NotEq (.ref x) y) Q E s := by
  have one : wpAny (model prog w) A (tryCompare (.ref x) "__ne__" y) (fun r s' => ∃ b, r = some (.bool b) ∧ Q (.bool b) s') E s :=
    ne_try X I hb hs hf hn hu (wpAny_mono hcall (fun v s' ⟨b, e, q⟩ => ⟨b, e, !b, rfl, q⟩) fun _ _ e => e)
  unfold richCompare
  simp only [oneThing_ref]
  refine wpAny_holding (wpAny_bind (wpAny_cRoomFor (Nat.lt_of_succ_lt hu) ?_))
  rw [cmpInfo_NotEq]
  dsimp only
  refine wpAny_bind (I.type.here (wpAny_bind (hy.here ?_)))
  split
  · rename_i q
    have e : PySem.W.subIn K tb (.ref C) = some false := by
      rcases Bool.or_eq_true_iff.mp ht with e | e
      · rw [beq_iff_eq.mp e] at q; simp at q
      · exact beq_iff_eq.mp e
    refine wpAny_bind ((PySem.W.looks_subIn X e).here ?_)
    simp only [Bool.false_eq_true, if_false]
    refine wpAny_bind (wpAny_mono one (fun r s' ⟨b, e, q⟩ => ?_) fun _ _ e => e)
    subst e
    exact wpAny_pure q
  · refine wpAny_bind (wpAny_pure ?_)
    simp only [Bool.false_eq_true, if_false]
    refine wpAny_bind (wpAny_mono one (fun r s' ⟨b, e, q⟩ => ?_) fun _ _ e => e)
    subst e
    exact wpAny_pure q
end
/-! ### .. as rules -/
/-- what the class at C has of ==: its own def at g -/
structure EqAt (K : PySem.W.Frag) (C g : Addr) : Prop where
  eq : PySem.W.findIn K (.ref C) "__eq__" = some (some (.ref g))
  ne : PySem.W.findIn K (.ref C) "__ne__" = some (some (.builtin "object.__ne__"))
  fn : PySem.W.isFn K (.ref g) = true
  ob : PySem.W.subIn K (.ref C) (.type "object") = some true
/-- the def's answer; n: turned about -/
def gOwnEq (c : Nat) (m : List D → AH → Res D) (n : Bool) (x y : D) (A : AH) : Res D := if insC A x = some c then (if insC A y = some c then (match m [x, y] A with
  | .ok (.bl b) A1 => .ok (.bl (n ^^ b)) A1
  | _ => .stuck) else .stuck) else .stuck
def rOwnG (G : Gc) (c : Nat) (m : List D → AH → Res D) (n : Bool) : R2 := fun x y H Q => ∃ γ A a b, Rel G γ A H ∧ VR G γ H a x ∧ VR G γ H b y ∧ Post G γ H (gOwnEq c m n a b A) (fun γ' _ H' d => ∀ v, VR G γ' H' d v → Q v H') (fun _ _ _ => False)
section
variable {X : Cx} {G : Gc} {W : WX} {k j c : Nat} {g C : Addr} {m : List D → AH → Res D}
theorem own_call {A : Around} {pins : List (Addr × Obj)} {σ : L2.St} {H : Hp} {s : Shared} {n : Bool} {a b : Addr} {x y : D} {γ : Gh} {Ah : AH} {Q : VK} (F : FnG X.prog X.w X.K X.mg X.base G j g m) (hr : Room j A) (hg : A.guards = some []) (e0 : Env0 X.prog X.w X.K X.mg X.base A X.stack s H) (I : Inv X pins σ H s)
    (R : Rel G γ Ah H) (r1 : VR G γ H x (.ref a)) (r2 : VR G γ H y (.ref b)) (h : Post G γ H (gOwnEq c m n x y Ah) (fun γ' _ H' d => ∀ v, VR G γ' H' d v → Q v H') (fun _ _ _ => False)) {Ex : Value → Shared → Prop} :
    wpAny (model X.prog X.w) A (call (.ref g) [.ref a, .ref b]) (fun v s' => ∃ z, v = .bool z ∧ EP X pins σ Q (.bool (n ^^ z)) s') Ex s := by
  refine wpAny_call (codeAny_mono (F A X.stack s H [.ref a, .ref b] [.ref a, .ref b] [x, y] γ Ah (fun v H' => ∃ z, v = .bl z ∧ Q (.bl (n ^^ z)) H') (fun _ _ _ => False) hr hg e0 (.cons rfl (.cons rfl .nil)) R (VRs.cons r1 (VRs.cons r2 VRs.nil)) ?_) fun z s' hq => ?_)
  · unfold gOwnEq at h
    split at h
    · split at h
      · split at h
        · rename_i z A1 q
          rw [q]
          intro γ' H' e R' v rv
          unfold VR at rv
          exact ⟨z, rv, h γ' H' e R' _ (by unfold VR; rfl)⟩
        · exact h.elim
      · exact h.elim
    · exact h.elim
  · cases z with
    | error e =>
      obtain ⟨a, B, H', cls, d, _, _, _, _, _, _, _, z⟩ := hq
      exact z.elim
    | ok fl =>
      cases fl with
      | ret u =>
        obtain ⟨v, H', I3, rv, z, ez, q⟩ := I.after hq
        subst ez
        exact ⟨z, rv, .bl (n ^^ z), H', I3, rfl, q⟩
      | _ => exact False.elim hq
theorem op_ownG (o : XO X G W k) {op : CmpOp} {n : Bool} (T : EqAt X.K C g) (hC : G.cls c = some C) (F : FnG X.prog X.w X.K X.mg X.base G j g m) (hj : j + 1 ≤ k) (hop : (op = .Eq ∧ n = false) ∨ (op = .NotEq ∧ n = true)) : OpR X (compareOp op) (rOwnG G c m n) := by
  intro pins s σ H x y v u Q I rx ry h
  obtain ⟨γ, A, a, b, R, r1, r2, h⟩ := h
  have h0 := h
  unfold gOwnEq at h
  split at h
  · rename_i h1
    split at h
    · rename_i h2
      obtain ⟨p, dx, vs, rfl, s1⟩ := insC_at R r1 h1 hC
      obtain ⟨q, dy, ws, rfl, s2⟩ := insC_at R r2 h2 hC
      cases (show v = Value.ref p from rx)
      cases (show u = Value.ref q from ry)
      obtain ⟨sl, od, _, J, _⟩ := SlX.slt_inst I s1
      obtain ⟨sl', od', _, J', _⟩ := SlX.slt_inst I s2
      obtain ⟨mF, hF⟩ := I.fr
      have nf : PySem.W.notFirst X.K C (.ref C) = true := by simp [PySem.W.notFirst]
      rcases hop with ⟨rfl, rfl⟩ | ⟨rfl, rfl⟩
      · show wpAny _ _ (richCompare .Eq _ _) _ _ _
        refine PySem.W.cmp_K (op := .Eq) (tb := .ref C) o.u0 hF I.ok.mod.kin J J'.type nf T.eq T.fn ?_
        refine wpAny_mono (own_call F (o.room.mono (by omega)) o.gd I.env0 I R r1 r2 h0) (fun w s' z => ?_) fun _ _ e => e
        obtain ⟨z, rfl, q⟩ := z
        rw [Bool.false_xor] at q
        exact q
      · show wpAny _ _ (richCompare .NotEq _ _) _ _ _
        refine ne_rich I.kIn J J'.type nf T.ob T.eq T.fn T.ne (by have := o.u64; omega) ?_
        refine wpAny_mono (own_call F (o.room.mono hj).in1 o.gd I.env0.in1 I R r1 r2 h0) (fun w s' z => ?_) fun _ _ e => e
        obtain ⟨z, rfl, q⟩ := z
        rw [Bool.true_xor] at q
        exact ⟨z, rfl, q⟩
    · exact h.elim
  · exact h.elim
/-- == of data, or by the class's own def -/
def gEqO (c : Nat) (m : List D → AH → Res D) (x y : D) (A : AH) : Res D := if insC A x = some c then gOwnEq c m false x y A else gEq x y A
def gNeO (c : Nat) (m : List D → AH → Res D) (x y : D) (A : AH) : Res D := if insC A x = some c then gOwnEq c m true x y A else gNe x y A
theorem post_noex {γ : Gh} {H : Hp} {A : AH} {n : Bool} {x y : D} {Q : Gh → AH → Hp → D → Prop} {Wx : WXe} (h : Post G γ H (gOwnEq c m n x y A) Q Wx) : Post G γ H (gOwnEq c m n x y A) Q (fun _ _ _ => False) := by
  unfold gOwnEq at h ⊢
  split at h
  · rename_i h1
    rw [if_pos h1]
    split at h
    · rename_i h2
      rw [if_pos h2]
      split at h
      · rename_i z A1 q
        exact h
      · exact h.elim
    · exact h.elim
  · exact h.elim
theorem XO.eqO (o : XO X G W k) (T : EqAt X.K C g) (hC : G.cls c = some C) (F : FnG X.prog X.w X.K X.mg X.base G j g m) (hj : j + 1 ≤ k) : CO X G .Eq (gEqO c m) := by
  refine ⟨_, OpR.or (op_ownG o (n := false) T hC F hj (.inl ⟨rfl, rfl⟩)) (op_eqD o.u64), fun γ A H a b x y Q Wx R r1 r2 h => ?_⟩
  unfold gEqO at h
  split at h
  · exact .inl ⟨γ, A, a, b, R, r1, r2, post_noex h⟩
  · exact .inr (ok_eq o.gk γ A H a b x y Q Wx R r1 r2 h)
theorem XO.neO (o : XO X G W k) (T : EqAt X.K C g) (hC : G.cls c = some C) (F : FnG X.prog X.w X.K X.mg X.base G j g m) (hj : j + 1 ≤ k) : CO X G .NotEq (gNeO c m) := by
  refine ⟨_, OpR.or (op_ownG o (n := true) T hC F hj (.inr ⟨rfl, rfl⟩)) (op_neD o.u64), fun γ A H a b x y Q Wx R r1 r2 h => ?_⟩
  unfold gNeO at h
  split at h
  · exact .inl ⟨γ, A, a, b, R, r1, r2, post_noex h⟩
  · exact .inr (ok_ne o.gk γ A H a b x y Q Wx R r1 r2 h)
end
end F3
namespace F3
open PySem PySem.Spec
open PyProof.Rows L2
/-! ### sorted -/
section
variable {α : Type}
def insB (lt : α → α → Bool) (x : α) : List α → List α
  | [] => [x]
  | y :: l => if lt y x then y :: insB lt x l else x :: y :: l
def isortB (lt : α → α → Bool) : List α → List α
  | [] => []
  | x :: l => insB lt x (isortB lt l)
theorem insB_perm (lt : α → α → Bool) (x : α) : ∀ l : List α, (insB lt x l).Perm (x :: l)
  | [] => .refl _
  | y :: l => by
    unfold insB
    split
    · exact ((insB_perm lt x l).cons y).trans (.swap x y l)
    · exact .refl _
theorem isortB_perm (lt : α → α → Bool) : ∀ l : List α, (isortB lt l).Perm l
  | [] => .refl _
  | x :: l => (insB_perm lt x _).trans ((isortB_perm lt l).cons x)
/-- a strict order that tells all things apart -/
structure Lin (lt : α → α → Bool) : Prop where
  tr : ∀ a b c, lt b a = false → lt c b = false → lt c a = false
  asym : ∀ a b, lt a b = true → lt b a = false
  eq : ∀ a b, lt a b = false → lt b a = false → a = b
theorem insB_sorted {lt : α → α → Bool} (L : Lin lt) (x : α) : ∀ l : List α, l.Pairwise (fun a b => lt b a = false) → (insB lt x l).Pairwise (fun a b => lt b a = false)
  | [], _ => .cons (fun _ h => nomatch h) .nil
  | y :: l, h => by
    obtain ⟨h1, h2⟩ := List.pairwise_cons.mp h
    unfold insB
    split
    · rename_i q
      refine .cons (fun z hz => ?_) (insB_sorted L x l h2)
      rcases List.mem_cons.mp ((insB_perm lt x l).mem_iff.mp hz) with e | e
      · subst e; exact L.asym _ _ q
      · exact h1 z e
    · rename_i q
      have q : lt y x = false := by simpa using q
      refine .cons (fun z hz => ?_) h
      rcases List.mem_cons.mp hz with e | e
      · subst e; exact q
      · exact L.tr _ _ _ q (h1 z e)
theorem isortB_sorted {lt : α → α → Bool} (L : Lin lt) : ∀ l : List α, (isortB lt l).Pairwise (fun a b => lt b a = false)
  | [] => .nil
  | x :: l => insB_sorted L x _ (isortB_sorted L l)
theorem sorted_one {lt : α → α → Bool} (L : Lin lt) : ∀ {l m : List α}, l.Pairwise (fun a b => lt b a = false) → m.Pairwise (fun a b => lt b a = false) → l.Perm m → l = m
  | [], m, _, _, h => (List.Perm.eq_nil h.symm).symm
  | x :: l, [], _, _, h => absurd h.length_eq (by simp)
  | x :: l, y :: m, hl, hm, h => by
    obtain ⟨l1, l2⟩ := List.pairwise_cons.mp hl
    obtain ⟨m1, m2⟩ := List.pairwise_cons.mp hm
    have e : x = y := by
      rcases List.mem_cons.mp (h.mem_iff.mp List.mem_cons_self) with e | hx
      · exact e
      · rcases List.mem_cons.mp (h.mem_iff.mpr List.mem_cons_self) with e | hy
        · exact e.symm
        · exact L.eq _ _ (m1 x hx) (l1 y hy)
    subst e
    rw [sorted_one L l2 m2 h.cons_inv]
end
def ltI (a b : Int) : Bool := decide (a < b)
theorem lin_int : Lin ltI := ⟨fun a b c h1 h2 => by unfold ltI at *; simp at *; omega, fun a b h => by unfold ltI at *; simp at *; omega, fun a b h1 h2 => by unfold ltI at *; simp at *; omega⟩
theorem lin_lex : Lin SrtO.lexB := ⟨fun a b c h1 h2 => by rw [SrtO.lexB_no] at *; omega, fun a b h => by rw [SrtO.lexB_no]; rw [SrtO.lexB_iff] at h; omega, fun a b h1 h2 => by
  rw [SrtO.lexB_no] at *
  obtain ⟨a1, a2⟩ := a
  obtain ⟨b1, b2⟩ := b
  simp only at *
  have e1 : a1 = b1 := by omega
  have e2 : a2 = b2 := by omega
  rw [e1, e2]⟩
def dpairs : List D → Option (List (Int × Int))
  | [] => some []
  | .tup [.int i, .int j] :: r => (dpairs r).map ((i, j) :: ·)
  | _ => none
def pD (p : Int × Int) : D := .tup [.int p.1, .int p.2]
theorem dpairs_map : ∀ {ds : List D} {ns : List (Int × Int)}, dpairs ds = some ns → ds = ns.map pD
  | [], ns, h => by unfold dpairs at h; cases h; rfl
  | d :: ds, ns, h => by
    unfold dpairs at h
    split at h
    · rename_i e; cases e
    · rename_i i j r e
      cases e
      obtain ⟨ms, e1, rfl⟩ := Option.map_eq_some_iff.mp h
      rw [dpairs_map e1]; rfl
    · cases h
def sortP (ds : List D) : Option (List D) := match dints ds with
  | some ns => some ((isortB ltI ns).map .int)
  | none => (dpairs ds).map fun ps => (isortB SrtO.lexB ps).map pD
def gSorted (ds : List D) (A : AH) : Res D := match ds with
  | [d] => match (asQ A d).bind sortP with
    | some xs => .ok (.lst xs) A
    | none => .stuck
  | _ => .stuck
def kH (H : Hp) (v : V) : Int × Int := match v with
  | .ref t => match H t with
    | some (.tup [.int i, .int j]) => (i, j)
    | _ => (0, 0)
  | _ => (0, 0)
section
variable {X : Cx} {G : Gc} {W : WX} {k : Nat}
theorem vr_pair {γ : Gh} {H : Hp} {p : Int × Int} {v : V} (h : VR G γ H (pD p) v) : ∃ t, v = .ref t ∧ H t = some (.tup [.int p.1, .int p.2]) ∧ γ.o t = none := by
  unfold pD at h
  unfold VR at h
  obtain ⟨a, vs, rfl, f, r⟩ := h
  obtain ⟨v1, v2, rfl, r1, r2⟩ := VRs.two r
  unfold VR at r1 r2
  subst r1 r2
  exact ⟨a, rfl, f.1, f.2⟩
theorem kH_of {γ : Gh} {H : Hp} {p : Int × Int} {v : V} (h : VR G γ H (pD p) v) : kH H v = p := by
  obtain ⟨t, rfl, e, _⟩ := vr_pair h
  unfold kH
  simp only [e]
theorem VRs.mem {γ : Gh} {H : Hp} : ∀ {ds : List D} {vs : List V} {v : V}, VRs G γ H ds vs → v ∈ vs → ∃ d ∈ ds, VR G γ H d v
  | [], vs, v, h, m => by unfold VRs at h; subst h; cases m
  | d :: ds, vs, v, h, m => by
    unfold VRs at h
    obtain ⟨u, r, rfl, h1, h2⟩ := h
    rcases List.mem_cons.mp m with e | e
    · subst e; exact ⟨d, List.mem_cons_self, h1⟩
    · obtain ⟨d', m', h'⟩ := VRs.mem h2 e
      exact ⟨d', List.mem_cons_of_mem _ m', h'⟩
theorem kH_map {γ : Gh} {H : Hp} : ∀ {ps : List (Int × Int)} {vs : List V}, VRs G γ H (ps.map pD) vs → vs.map (kH H) = ps
  | [], vs, h => by unfold VRs at h; subst h; rfl
  | p :: ps, vs, h => by
    simp only [List.map_cons] at h
    unfold VRs at h
    obtain ⟨u, r, rfl, h1, h2⟩ := h
    rw [List.map_cons, kH_of h1, kH_map h2]
theorem pairs_back {γ : Gh} {H : Hp} : ∀ {ys : List V}, (∀ y ∈ ys, ∃ p, VR G γ H (pD p) y) → VRs G γ H ((ys.map (kH H)).map pD) ys
  | [], _ => VRs.nil
  | y :: ys, h => by
    obtain ⟨p, hp⟩ := h y List.mem_cons_self
    refine VRs.cons ?_ (pairs_back fun z hz => h z (List.mem_cons_of_mem _ hz))
    rw [kH_of hp]; exact hp
theorem XO.sorted (o : XO X G W k) : CB X G (.builtin "sorted") gSorted := by
  refine ⟨_, CallR.or cr_sortedI cr_sortedPO, fun γ A H ds vs Q Wx R rv h => ?_⟩
  unfold gSorted at h
  split at h
  · rename_i d
    obtain ⟨v, rfl, r⟩ := VRs.one rv
    split at h
    · rename_i xs q
      obtain ⟨ds, q1, q2⟩ := Option.bind_eq_some_iff.mp q
      obtain ⟨a, ws, rfl, r2, hq⟩ := asQ_at R r q1
      rw [o.gk] at hq
      unfold sortP at q2
      split at q2
      · rename_i ns e
        cases q2
        rw [ints_map e] at r2
        obtain rfl := r2.intsV
        refine .inl ⟨a, ns, rfl, hq, fun ns' p hp hs hn => ?_⟩
        have e2 : ns' = isortB ltI ns := sorted_one lin_int (hs.imp fun {x y} z => by unfold ltI; simp; omega) (isortB_sorted lin_int _) (hp.trans (isortB_perm _ _).symm)
        subst e2
        exact Post.new (ob := .lst _) R hn h _ (VR.newL R hn (VRs.ints _))
      · obtain ⟨ps, e, rfl⟩ := Option.map_eq_some_iff.mp q2
        rw [dpairs_map e] at r2
        refine .inr ⟨a, ws, kH H, rfl, hq, fun x hx => ?_, fun ys p hs hb hn => ?_⟩
        · obtain ⟨d, hd, hv⟩ := r2.mem hx
          obtain ⟨p, _, rfl⟩ := List.mem_map.mp hd
          obtain ⟨t, rfl, e, _⟩ := vr_pair hv
          rw [kH_of hv]
          exact ⟨t, rfl, e⟩
        · have e2 : ys.map (kH H) = isortB SrtO.lexB ps := by
            refine sorted_one lin_lex (List.pairwise_map.mpr hs) (isortB_sorted lin_lex _) ?_
            refine (hb.perm.map _).trans ?_
            rw [kH_map r2]
            exact (isortB_perm _ _).symm
          have rb : VRs G γ H ((ys.map (kH H)).map pD) ys := pairs_back fun y hy => by
            obtain ⟨d, hd, hv⟩ := r2.mem (hb.perm.mem_iff.mp hy)
            obtain ⟨p, _, rfl⟩ := List.mem_map.mp hd
            exact ⟨p, hv⟩
          rw [e2] at rb
          exact Post.new (ob := .lst ys) R hn h _ (VR.newL R hn rb)
    · exact h.elim
  · exact h.elim
/-! ### list -/
theorem XO.list (o : XO X G W k) : CB X G (.type "list") gList := by
  refine ⟨_, call_list_of, fun γ A H ds vs Q Wx R rv h => ?_⟩
  unfold gList at h
  split at h
  · obtain ⟨v, rfl, r⟩ := VRs.one rv
    split at h
    · rename_i xs q
      obtain ⟨a, ws, rfl, r2, hq⟩ := asL_at R r q
      rw [o.gk] at hq
      exact ⟨a, ws, rfl, hq, fun p hp => Post.new (ob := .lst ws) R hp h _ (VR.newL R hp r2)⟩
    · exact h.elim
  · exact h.elim
/-! ### a def that hands back a thing that is changed -/
def runN (n p : Nat) (g : Ev → AH → SR) (ds : List D) (A : AH) : Res D :=
  if ds.length = p then
    match g (ds.map some ++ List.replicate (n - p) none) A with
    | .nx _ A1 => .ok .non A1
    | .rt d A1 => .ok d A1
    | .ex x _ A1 => .ex x A1
    | _ => .stuck
  else .stuck
theorem fnN_of {P : Program} {w : World} {K : PySem.W.Frag} {mg : Str → Option Value} {base : Heap} {x qual : Str} {st : Stmt} {f : Addr} {fd : FuncData} {N ps : List Str} {g : Ev → AH → SR} (F : Fun K x qual st f fd) (Sc : FnScope N ps (defScope st)) (hK : G.K = K)
    (hb : ∀ (kV doc pm : Value) (an : Option Addr) (cdv ct : Value) (us : List Value), us.length = ps.length → bindArgs (PySem.W.fnOf x qual (defArgs st) (defBody st) (defScope st) .none kV doc pm an cdv ct) ⟨us, []⟩ = pure (ps.zip us))
    (body : ∀ (cdv : Value) (A : Around) (outer : List Env) (s : Shared) (H : Hp) (E : XK), XO (cxOf (L2.CX P w) P w K mg base N qual (defScope st) f cdv A outer s H E) G (fun c d _ H => E c d H) k →
      JB (cxOf (L2.CX P w) P w K mg base N qual (defScope st) f cdv A outer s H E) G (fun c d _ H => E c d H) (defBody st) g) :
    FnG P w K mg base G (k + 1) f (runN N.length ps.length g) := by
  intro A outer s H us vs ds γ Ah Q E hr hg e0 r R rv h
  obtain ⟨oc, od, kV, doc, pm, an, cdv, ct, osl, rfl, lk, hcd⟩ := F.ex
  unfold runN at h
  by_cases hl : ds.length = ps.length
  · rw [if_pos hl] at h
    have hlv : vs.length = ps.length := by rw [← rv.length]; exact hl
    have hNp : ps.length ≤ N.length := by have := congrArg List.length Sc.pre; rw [List.length_take] at this; omega
    refine LamX.run_ofS (N := N) (us := us) (vs := vs) lk hcd Sc hr e0 (.of_eq (hb _ _ _ _ _ _ us (by rw [← r.length]; exact hlv))) r hlv fun hr' => ?_
    have o : XO (cxOf (L2.CX P w) P w K mg base N qual (defScope st) f cdv A outer s H E) G (fun c d _ H => E c d H) k :=
      ⟨takes_of rfl rfl rfl rfl, passes_of rfl, rfl, hr', hg, hK⟩
    refine ⟨_, (body cdv A outer s H E o).run, γ, Ah, ds.map some ++ List.replicate (N.length - ps.length) none, ⟨R, ?_, er_start rv N (by rw [hlv])⟩, ?_⟩
    · unfold L2.start
      simp only [List.length_append, List.length_map, List.length_replicate]
      omega
    · cases q : g (ds.map some ++ List.replicate (N.length - ps.length) none) Ah with
      | nx env1 A1 =>
        rw [q] at h
        exact fun γ' H' σ' e S => h γ' H' e S.rel .non (by unfold VR; rfl)
      | rt d A1 =>
        rw [q] at h
        exact fun γ' H' v e R' r' => h γ' H' e R' v r'
      | ex x env1 A1 =>
        rw [q] at h
        exact fun γ' H' σ' cls ad e S xr => h γ' H' cls ad e S.rel xr
      | bk env1 A1 => rw [q] at h; exact h.elim
      | ct env1 A1 => rw [q] at h; exact h.elim
      | stuck => rw [q] at h; exact h.elim
  · rw [if_neg hl] at h; exact h.elim
end
end F3
namespace F3
open PySem PySem.Spec
open PyProof.Rows L2
/-! ### the law's own end -/
section
variable {P : Program} {w : World} {K : PySem.W.Frag} {mg mb : Str → Option Value} {k : Nat} {fa a : Addr} {st : Shared} {vals : List Value} {ns : List Int}
/-- what stands at the start of the law's def -/
structure Begin (K : PySem.W.Frag) (mg mb : Str → Option Value) (st : Shared) (a : Addr) (vals : List Value) (ns : List Int) : Prop where
  kin : K.In st.heap
  glo : st.heap.Ns mainGlobals mg
  bl : st.heap.Ns builtinsNs mb
  bb : ∀ x : Str, x ≠ "__name__" → mb x = bootBuiltins x
  lim : st.heap.NoLimit
  gens : st.gens = #[]
  at_ : st.heap.get? a = some { cls := .type "list", data := .seq vals.toArray }
  nums : IntsAre vals ns
  len : ns.length ≤ sizeLine
def Gh0 : Gh := ⟨[], fun _ => none⟩
theorem rel0 {G : Gc} {H : Hp} (hT : G.T = []) : Rel G Gh0 [] H := by
  refine ⟨rfl, fun i o e => by simp at e, fun b x e => ?_, fun q hq => ?_⟩
  · cases e
  · rw [hT] at hq; cases hq
theorem begin_run {G : Gc} {m : List D → AH → Res D} (B : Begin K mg mb st a vals ns) (hr : Room k callerA) (hT : G.T = []) (hK : G.K = K) (F : ∀ base : Heap, K.In base → base.Ns mainGlobals mg → FnG P w K mg base G k fa m) (hm : ∃ A, m [.scr (ns.map .int)] [] = .ok (.bl true) A)
    (H : Hp) (hO : Only H) (hS : SqL K H a (ns.map V.int)) (hok : HOk P w H st.heap) (hA : ∀ b, H b ≠ none → b = a) (hL : H a ≠ none → K.lookup a = none) :
    codeAny (model P w) callerA (.call (.ref fa) ⟨[.ref a], []⟩) (fun r s' => r = .ok (.ret (.bool true)) ∧ OldK st.heap s'.heap ∧ s'.os = st.os ∧ AllBare s'.gens) st := by
  -- all but the script lies in the ground
  have low : ∀ {b : Addr} {o : Obj}, st.heap.get? b = some o → H b = none → (hidT st.heap H).get? b = some o := fun z z' => hidT_get z z'
  have dictFree : ∀ {b : Addr} {o : Obj} {es : Array DictEntry} {ep : Nat}, st.heap.get? b = some o → o.data = .dict es ep → H b = none := fun {b o es ep} z zd => by
    rcases hO b with q | ⟨oo, xs, q⟩
    · exact q
    · have hb : b = a := hA b (by rw [q]; exact fun z => nomatch z)
      subst hb
      have oe := B.at_.symm.trans z
      cases oe
      have dd : Data.seq vals.toArray _ = Data.dict es ep := zd
      cases dd
  have lowNs : ∀ {b : Addr} {mm : Str → Option Value}, st.heap.Ns b mm → (hidT st.heap H).Ns b mm := fun {b mm} z => by
    obtain ⟨o, es, ep, z1, z2, z3⟩ := z
    exact ⟨o, es, ep, low z1 (dictFree z1 z2), z2, z3⟩
  have lowK : K.In (hidT st.heap H) := fun b o z => by
    refine low (B.kin b o z) ?_
    rcases hO b with q | ⟨oo, xs, q⟩
    · exact q
    · have hb : b = a := hA b (by rw [q]; exact fun z => nomatch z)
      subst hb
      rw [hL (by rw [q]; exact fun z => nomatch z)] at z
      cases z
  obtain ⟨mc, l1, l2⟩ := B.lim
  have md : Mod K mg (hidT st.heap H) := ⟨lowK, lowNs B.glo, ⟨mb, lowNs B.bl, B.bb⟩, ⟨mc, lowNs l1, l2⟩⟩
  have start : Env0 P w K mg (hidT st.heap H) callerA [] st H := ⟨rfl, md, fun b o z => of_hidT z, Nat.le_of_eq (hidT_size _ _), trivial, fun b hb => (List.not_mem_nil (show b ∈ ([] : List Addr) from hb)).elim, hok, .of_eq B.gens⟩
  have script : VR G Gh0 H (.scr (ns.map .int)) (.ref a) := by
    unfold VR
    refine ⟨a, ns.map V.int, rfl, ?_, VRs.ints ns⟩
    rcases hS with hS | hS
    · exact .inl ⟨hS, rfl⟩
    · right; rw [hK]; exact .inr hS
  obtain ⟨A1, hm⟩ := hm
  refine codeAny_mono (F _ lowK (lowNs B.glo) callerA [] st H [.ref a] [.ref a] [.scr (ns.map .int)] Gh0 [] (fun v _ => v = .bl true) (fun _ _ _ => False) hr rfl start (.cons rfl .nil) (rel0 hT) (VRs.cons script VRs.nil) ?_) fun r s' z => ?_
  · rw [hm]
    intro γ' H' e R v rv
    unfold VR at rv
    exact rv
  · match r, z with
    | .error _, z =>
      obtain ⟨_, _, _, _, _, _, _, _, _, _, _, _, no⟩ := z
      exact no.elim
    | .ok .next, z => exact False.elim z
    | .ok .brk, z => exact False.elim z
    | .ok .cont, z => exact False.elim z
    | .ok (.ret u), z =>
      obtain ⟨v, H', os, bare, un, hok', ru, rfl⟩ := z
      obtain rfl : u = Value.bool true := ru
      refine ⟨rfl, OldK.of_keep fun b o z => ?_, os, bare⟩
      rcases hO b with q | ⟨oo, xs, q⟩
      · exact un.keep b o z q (fun y => (List.not_mem_nil (show b ∈ ([] : List Addr) from y)).elim) (by simp)
      · obtain ⟨y1, _⟩ := hok b _ q
        obtain ⟨y2, _⟩ := hok' b _ (un.frzs b oo _ q)
        rw [z] at y1; cases y1
        exact y2
theorem begin_all {G : Gc} {m : List D → AH → Res D} (B : Begin K mg mb st a vals ns) (hr : Room k callerA) (hT : G.T = []) (hK : G.K = K) (F : ∀ base : Heap, K.In base → base.Ns mainGlobals mg → FnG P w K mg base G k fa m) (hm : ∃ A, m [.scr (ns.map .int)] [] = .ok (.bl true) A) :
    codeAny (model P w) callerA (.call (.ref fa) ⟨[.ref a], []⟩) (fun r s' => r = .ok (.ret (.bool true)) ∧ OldK st.heap s'.heap ∧ s'.os = st.os ∧ AllBare s'.gens) st := by
  have rv := vals_ints B.nums
  have lv := B.nums.length
  rcases q : K.lookup a with _ | o
  · let ob : Obj := { cls := .type "list", data := .seq vals.toArray }
    let H : Hp := fun b => if b = a then some (.frz ob (.lst (ns.map V.int))) else none
    have atA : H a = some (.frz ob (.lst (ns.map V.int))) := if_pos rfl
    have off : ∀ b, b ≠ a → H b = none := fun b z => if_neg z
    refine begin_run B hr hT hK F hm H (fun b => ?_) (.inl (.inr ⟨ob, atA⟩)) (fun b u z => ?_) (fun b z => ?_) fun _ => q
    · by_cases z : b = a
      · subst z; exact .inr ⟨_, _, atA⟩
      · exact .inl (off b z)
    · by_cases y : b = a
      · subst y
        rw [atA] at z; cases z
        exact ⟨B.at_, by rw [List.length_map]; exact B.len, vals, _, rv, B.at_⟩
      · rw [off b y] at z; cases z
    · by_cases y : b = a
      · exact y
      · exact (z (off b y)).elim
  · have z := (B.kin a o q).symm.trans B.at_
    cases z
    refine begin_run B hr hT hK F hm (fun _ => none) (fun _ => .inl rfl) (.inr ⟨_, vals.toArray, _, q, rfl, rfl, rfl, ?_, by simpa using rv⟩) (fun b u z => nomatch z) (fun b z => (z rfl).elim) fun z => (z rfl).elim
    rw [List.size_toArray, lv]; exact B.len
end
/-- a law, from what its def reckons -/
theorem walkG {l : PySem.W.OpenLaw} {n k : Nat} {q : Program} {loose : List Str} {XP : (Str → Option Value) → Heap → Prop} {YP : World → Heap → Prop} {d : DefRec} {K : Params → PySem.W.Frag}
    (hn : l.most = some n) (hn2 : n ≤ sizeLine) (hdf : d.params.defaults = []) (hr : Room k callerA) (hY : ∀ (w : World) (h : Heap), YP w h → (K w.params).In h)
    (F : ∀ (w : World) (mg : Str → Option Value) (fa : Addr) (h : Heap), (K w.params).In h → h.Ns mainGlobals mg → mg d.name = some (.ref fa) →
      ∃ (G : Gc) (m : List D → AH → Res D), G.T = [] ∧ G.K = K w.params ∧ (∀ ns : List Int, ns.length ≤ n → ∃ A, m [.scr (ns.map .int)] [] = .ok (.bl true) A) ∧
        ∀ base : Heap, (K w.params).In base → base.Ns mainGlobals mg → FnG l.prog w (K w.params) mg base G k fa m) :
    PySem.W.WalkO q loose XP YP l.row.toRowW d [] (fun f vs => PySem.call f vs) := by
  refine Att.attach_call hn hdf fun w s₀ st mg mb fa o pm cd doc a vals ns GG Y ho hd hcd hmg hobj hints hlen hg => ?_
  have hk := hY w _ Y
  obtain ⟨G, m, hT, hK, hm, hF⟩ := F w mg fa _ hk GG.T.g hmg
  exact begin_all ⟨hk, GG.T.g, GG.T.b, GG.T.builtins, GG.T.nolimit, hg, hobj, hints, Nat.le_trans hlen hn2⟩ hr hT hK hF (hm ns hlen)
theorem room_caller {k : Nat} (h : callerA.depth + 3 * k + 5 < recursionLimit) (h' : callerA.units + 16 * k + 200 < cLine) : Room k callerA := ⟨rfl, h, h'⟩
end F3
namespace F3
open PySem PySem.Spec
open PyProof.Rows L2
/-! ### facts about names, asked of the written scopes alone -/
section
variable {X : Cx} {G : Gc} {W : WX} {k : Nat}
theorem XO.blk (o : XO X G W k) {s : Shared} {H : Hp} {scope : Scope} {cenv : Env} {fp : List Addr} : XO (X.blk s H scope cenv fp) G W0 k := by
  refine ⟨fun u s' x => ?_, PassesOwn.never, o.calm, o.room, o.gd, o.gk⟩
  obtain ⟨a, B, sI, pins, σ, H, cls, d, _, _, _, _, _, _, _, _, no⟩ := x
  exact no.elim
section
variable {CX : CXT} {P : Program} {w : World} {K : PySem.W.Frag} {mg : Str → Option Value} {base : Heap} {N : List Str} {qual : Str} {sc : Scope} {f : Addr} {cd : Value} {A : Around} {outer : List Env} {s : Shared} {H : Hp} {E : XK} {x : Str}
theorem vf (h : sc.names.lookup x = some .local) : Vis (cxOf CX P w K mg base N qual sc f cd A outer s H E).env.scope x := .inl h
theorem vfc (h : sc.names.lookup x = some .cell) : Vis (cxOf CX P w K mg base N qual sc f cd A outer s H E).env.scope x := .inr (.inl h)
theorem gf (h : sc.names.lookup x = some .globalImplicit) : Gl (cxOf CX P w K mg base N qual sc f cd A outer s H E) x := h
theorem lf (h : sc.names.lookup x = some .local) : Loc (cxOf CX P w K mg base N qual sc f cd A outer s H E).env.scope x := .inl h
theorem lfc (h : sc.names.lookup x = some .cell) : Loc (cxOf CX P w K mg base N qual sc f cd A outer s H E).env.scope x := .inr h
theorem ff : (cxOf CX P w K mg base N qual sc f cd A outer s H E).fn x = true ∨ (cxOf CX P w K mg base N qual sc f cd A outer s H E).env.scope.names.lookup x = some .local := .inl rfl
theorem qf (h : sc.names.lookup x = some .local) : (cxOf CX P w K mg base N qual sc f cd A outer s H E).env.scope.names.lookup x = some .local := h
theorem bf {scope : Scope} {own : List (Str × Nat)} (h : blkC N sc scope own = true) : BlkOk (cxOf CX P w K mg base N qual sc f cd A outer s H E).N (cxOf CX P w K mg base N qual sc f cd A outer s H E).env.scope scope own := blkOk_by h
end
theorem rel_other {env : Env} {x : Str} {kd : NameKind} (nf : kd ≠ .free) : ∀ {names : List (Str × NameKind)}, names.lookup x = some kd →
    (names.map fun (n, k) => if (k == NameKind.free && env.scope.kind == .function && env.kindOf n == some .cell) then (n, NameKind.cell) else (n, k)).lookup x = some kd
  | [], h => by cases h
  | (n, q) :: r, h => by
    have ih := rel_other (env := env) (x := x) nf (names := r)
    simp only [List.map_cons]
    cases hx : x == n with
    | true =>
      simp only [List.lookup_cons, hx, Option.some.injEq] at h
      subst h
      have : (q == NameKind.free) = false := by simpa using nf
      simp [this, List.lookup_cons, hx]
    | false =>
      simp only [List.lookup_cons, hx] at h
      split <;> simp only [List.lookup_cons, hx] <;> exact ih h
theorem rel_free {env : Env} {x : Str} : ∀ {names : List (Str × NameKind)}, names.lookup x = some .free →
    (names.map fun (n, k) => if (k == NameKind.free && env.scope.kind == .function && env.kindOf n == some .cell) then (n, NameKind.cell) else (n, k)).lookup x = some .cell ∨
    (names.map fun (n, k) => if (k == NameKind.free && env.scope.kind == .function && env.kindOf n == some .cell) then (n, NameKind.cell) else (n, k)).lookup x = some .free
  | [], h => by cases h
  | (n, q) :: r, h => by
    have ih := rel_free (env := env) (x := x) (names := r)
    simp only [List.map_cons]
    cases hx : x == n with
    | true =>
      simp only [List.lookup_cons, hx, Option.some.injEq] at h
      subst h
      split <;> simp [List.lookup_cons, hx]
    | false =>
      simp only [List.lookup_cons, hx] at h
      split <;> simp only [List.lookup_cons, hx] <;> exact ih h
variable {s : Shared} {H : Hp} {scope : Scope} {cl : List (Str × Addr)} {C : Addr} {fp : List Addr} {x : Str}
theorem vb (h : scope.names.lookup x = some .local) : Vis (X.blk s H scope (compEnvC scope cl C X.env) fp).env.scope x := .inl (rel_other (by decide) h)
theorem vbc (h : scope.names.lookup x = some .cell) : Vis (X.blk s H scope (compEnvC scope cl C X.env) fp).env.scope x := .inr (.inl (rel_other (by decide) h))
theorem vbf (h : scope.names.lookup x = some .free) : Vis (X.blk s H scope (compEnvC scope cl C X.env) fp).env.scope x := .inr (rel_free h)
theorem gb (h : scope.names.lookup x = some .globalImplicit) : Gl (X.blk s H scope (compEnvC scope cl C X.env) fp) x := rel_other (names := scope.names) (by decide) h
theorem lb (h : scope.names.lookup x = some .local) : Loc (X.blk s H scope (compEnvC scope cl C X.env) fp).env.scope x := .inl (rel_other (by decide) h)
theorem lbc (h : scope.names.lookup x = some .cell) : Loc (X.blk s H scope (compEnvC scope cl C X.env) fp).env.scope x := .inr (rel_other (by decide) h)
theorem fb (h : scope.names.lookup x = some .local) : (X.blk s H scope (compEnvC scope cl C X.env) fp).fn x = true ∨ (X.blk s H scope (compEnvC scope cl C X.env) fp).env.scope.names.lookup x = some .local := .inr (rel_other (by decide) h)
theorem fbc (h : scope.names.lookup x = some .cell) : (X.blk s H scope (compEnvC scope cl C X.env) fp).fn x = true ∨ (X.blk s H scope (compEnvC scope cl C X.env) fp).env.scope.names.lookup x = some .local := .inl (by show (scope.names.lookup x == some .cell) = true; rw [h]; rfl)
/-- a block in a block -/
theorem bb {outer : Scope} {N : List Str} {inner : Scope} {own : List (Str × Nat)} (h : blkC X.N (relabel scope X.env) inner own = true) : BlkOk (X.blk s H scope (compEnvC scope cl C X.env) fp).N (X.blk s H scope (compEnvC scope cl C X.env) fp).env.scope inner own := blkOk_by h
/-- the module's constants -/
theorem je_gi {i : Int} {pos : Pos} (hg : Gl X x) (hd : (x == ("__debug__" : Str)) = false) (hm : ∃ t, X.mg x = some (.int i t)) : JE X G W (.Name x pos) (sC (.int i)) := let ⟨_, h⟩ := hm; je_globI hg hd h
theorem je_gs {y : Str} {pos : Pos} (hg : Gl X x) (hd : (x == ("__debug__" : Str)) = false) (hm : ∃ t, X.mg x = some (.str y t)) : JE X G W (.Name x pos) (sC (.str y)) := let ⟨_, h⟩ := hm; je_globS hg hd h
end
theorem bt_len : bootBuiltins "len" = some (.builtin "len") := by decide +kernel
theorem bt_all : bootBuiltins "all" = some (.builtin "all") := by decide +kernel
theorem bt_any : bootBuiltins "any" = some (.builtin "any") := by decide +kernel
theorem bt_max : bootBuiltins "max" = some (.builtin "max") := by decide +kernel
theorem bt_min : bootBuiltins "min" = some (.builtin "min") := by decide +kernel
theorem bt_abs : bootBuiltins "abs" = some (.builtin "abs") := by decide +kernel
theorem bt_repr : bootBuiltins "repr" = some (.builtin "repr") := by decide +kernel
theorem bt_sorted : bootBuiltins "sorted" = some (.builtin "sorted") := by decide +kernel
theorem bt_isinstance : bootBuiltins "isinstance" = some (.builtin "isinstance") := by decide +kernel
theorem bt_int : bootBuiltins "int" = some (.type "int") := by decide +kernel
theorem bt_str : bootBuiltins "str" = some (.type "str") := by decide +kernel
theorem bt_bool : bootBuiltins "bool" = some (.type "bool") := by decide +kernel
theorem bt_tuple : bootBuiltins "tuple" = some (.type "tuple") := by decide +kernel
theorem bt_list : bootBuiltins "list" = some (.type "list") := by decide +kernel
theorem bt_dict : bootBuiltins "dict" = some (.type "dict") := by decide +kernel
theorem isB_int (K : PySem.W.Frag) : ∀ t ∈ (["NoneType", "bool", "int", "str", "tuple", "list", "dict"] : List String), PySem.W.kitOne K (.type t) (.type "int") = some (isiB t "int") := by
  intro t ht
  simp only [List.mem_cons, List.not_mem_nil, or_false] at ht
  rcases ht with rfl | rfl | rfl | rfl | rfl | rfl | rfl <;> kernel_rfl
theorem isB_bool (K : PySem.W.Frag) : ∀ t ∈ (["NoneType", "bool", "int", "str", "tuple", "list", "dict"] : List String), PySem.W.kitOne K (.type t) (.type "bool") = some (isiB t "bool") := by
  intro t ht
  simp only [List.mem_cons, List.not_mem_nil, or_false] at ht
  rcases ht with rfl | rfl | rfl | rfl | rfl | rfl | rfl <;> kernel_rfl
theorem isB_str (K : PySem.W.Frag) : ∀ t ∈ (["NoneType", "bool", "int", "str", "tuple", "list", "dict"] : List String), PySem.W.kitOne K (.type t) (.type "str") = some (isiB t "str") := by
  intro t ht
  simp only [List.mem_cons, List.not_mem_nil, or_false] at ht
  rcases ht with rfl | rfl | rfl | rfl | rfl | rfl | rfl <;> kernel_rfl
theorem isB_tuple (K : PySem.W.Frag) : ∀ t ∈ (["NoneType", "bool", "int", "str", "tuple", "list", "dict"] : List String), PySem.W.kitOne K (.type t) (.type "tuple") = some (isiB t "tuple") := by
  intro t ht
  simp only [List.mem_cons, List.not_mem_nil, or_false] at ht
  rcases ht with rfl | rfl | rfl | rfl | rfl | rfl | rfl <;> kernel_rfl
theorem isB_list (K : PySem.W.Frag) : ∀ t ∈ (["NoneType", "bool", "int", "str", "tuple", "list", "dict"] : List String), PySem.W.kitOne K (.type t) (.type "list") = some (isiB t "list") := by
  intro t ht
  simp only [List.mem_cons, List.not_mem_nil, or_false] at ht
  rcases ht with rfl | rfl | rfl | rfl | rfl | rfl | rfl <;> kernel_rfl
theorem isB_dict (K : PySem.W.Frag) : ∀ t ∈ (["NoneType", "bool", "int", "str", "tuple", "list", "dict"] : List String), PySem.W.kitOne K (.type t) (.type "dict") = some (isiB t "dict") := by
  intro t ht
  simp only [List.mem_cons, List.not_mem_nil, or_false] at ht
  rcases ht with rfl | rfl | rfl | rfl | rfl | rfl | rfl <;> kernel_rfl
theorem kits {K : PySem.W.Frag} {C : Addr} (h1 : PySem.W.kitOne K (.type "NoneType") (.ref C) = some false) (h2 : PySem.W.kitOne K (.type "bool") (.ref C) = some false) (h3 : PySem.W.kitOne K (.type "int") (.ref C) = some false) (h4 : PySem.W.kitOne K (.type "str") (.ref C) = some false)
    (h5 : PySem.W.kitOne K (.type "tuple") (.ref C) = some false) (h6 : PySem.W.kitOne K (.type "list") (.ref C) = some false) (h7 : PySem.W.kitOne K (.type "dict") (.ref C) = some false) :
    ∀ t ∈ (["NoneType", "bool", "int", "str", "tuple", "list", "dict"] : List String), PySem.W.kitOne K (.type t) (.ref C) = some false := by
  intro t ht
  simp only [List.mem_cons, List.not_mem_nil, or_false] at ht
  rcases ht with rfl | rfl | rfl | rfl | rfl | rfl | rfl <;> assumption
theorem strEq {mg : Str → Option Value} {x y z : Str} {t : Tok} (h : mg x = some (.str y t)) (e : y = z) : mg x = some (.str z t) := e ▸ h
end F3
namespace F3
open PySem PySem.Spec
open PyProof.Rows L2
/-! ### reckoning by simp: only what stands first is looked at -/
section
variable {α β : Type} {env : Ev} {A : AH}
/-- what hangs on k: simp leaves k as it stands -/
structure Dep {α : Type} (k : α) : Type where
/-- as bind; simp reads it word by word -/
def Res.bd {α β : Type} (r : Res α) (k : α → AH → Res β) (_ : Dep k := ⟨⟩) : Res β := r.bind k
/-- as lft -/
def lfv {α : Type} (r : Res α) (env : Ev) (k : α → AH → SR) (_ : Dep k := ⟨⟩) : SR := lft r env k
@[simp] theorem bind_ok (a : α) (A : AH) (k : α → AH → Res β) (u : Dep k) : Res.bd (.ok a A) k u = k a A := rfl
@[simp] theorem bind_ex (x : Xn) (A : AH) (k : α → AH → Res β) (u : Dep k) : Res.bd (.ex x A) k u = .ex x A := rfl
@[simp] theorem bind_stuck (k : α → AH → Res β) (u : Dep k) : Res.bd (.stuck : Res α) k u = .stuck := rfl
@[simp] theorem lft_ok (a : α) (A : AH) (k : α → AH → SR) (u : Dep k) : lfv (.ok a A) env k u = k a A := rfl
@[simp] theorem lft_ex (x : Xn) (A : AH) (k : α → AH → SR) (u : Dep k) : lfv (.ex x A) env k u = .ex x env A := rfl
@[simp] theorem lft_stuck (k : α → AH → SR) (u : Dep k) : lfv (.stuck : Res α) env k u = .stuck := rfl
def SR.seq (r : SR) (g : Ev → AH → SR) (_ : Dep g := ⟨⟩) : SR := match r with
  | .nx env A => g env A
  | r => r
@[simp] theorem seq_nx (g : Ev → AH → SR) (u : Dep g) : SR.seq (.nx env A) g u = g env A := rfl
@[simp] theorem seq_rt (d : D) (g : Ev → AH → SR) (u : Dep g) : SR.seq (.rt d A) g u = .rt d A := rfl
@[simp] theorem seq_bk (g : Ev → AH → SR) (u : Dep g) : SR.seq (.bk env A) g u = .bk env A := rfl
@[simp] theorem seq_ct (g : Ev → AH → SR) (u : Dep g) : SR.seq (.ct env A) g u = .ct env A := rfl
@[simp] theorem seq_ex (x : Xn) (g : Ev → AH → SR) (u : Dep g) : SR.seq (.ex x env A) g u = .ex x env A := rfl
@[simp] theorem seq_stuck (g : Ev → AH → SR) (u : Dep g) : SR.seq .stuck g u = .stuck := rfl
@[simp] theorem e_bSeq (f g : Ev → AH → SR) : bSeq f g env A = SR.seq (f env A) g := by
  unfold bSeq SR.seq; cases f env A <;> rfl
/-- a def's end -/
def SR.fin (n : Nat) (r : SR) : Res D := match r with
  | .nx _ A1 => clean n .non A1
  | .rt d A1 => clean n d A1
  | .ex x _ A1 => cleanX n x A1
  | _ => .stuck
@[simp] theorem fin_nx (n : Nat) : SR.fin n (.nx env A) = clean n .non A := rfl
@[simp] theorem fin_rt (n : Nat) (d : D) : SR.fin n (.rt d A) = clean n d A := rfl
@[simp] theorem fin_ex (n : Nat) (x : Xn) : SR.fin n (.ex x env A) = cleanX n x A := rfl
theorem e_runF (n p : Nat) (g : Ev → AH → SR) (ds : List D) (h : ds.length = p) : runF n p g ds A = SR.fin A.length (g (ds.map some ++ List.replicate (n - p) none) A) := by
  unfold runF SR.fin; rw [if_pos h] <;> try rfl
def SR.finN (r : SR) : Res D := match r with
  | .nx _ A1 => .ok .non A1
  | .rt d A1 => .ok d A1
  | .ex x _ A1 => .ex x A1
  | _ => .stuck
@[simp] theorem finN_rt (d : D) : SR.finN (.rt d A) = .ok d A := rfl
theorem e_runN (n p : Nat) (g : Ev → AH → SR) (ds : List D) (h : ds.length = p) : runN n p g ds A = SR.finN (g (ds.map some ++ List.replicate (n - p) none) A) := by
  unfold runN SR.finN; rw [if_pos h] <;> try rfl
@[simp] theorem clean_same (d : D) : clean A.length d A = .ok d A := if_pos rfl
@[simp] theorem cleanX_same (x : Xn) : cleanX A.length x A = .ex x A := if_pos rfl
/-! the words -/
@[simp] theorem e_sVar (i : Nat) : sVar i env A = (match env[i]? with
  | some (some d) => .ok d A
  | _ => .stuck) := rfl
@[simp] theorem e_sC (d : D) : sC d env A = .ok d A := rfl
@[simp] theorem e_sBin (g : D → D → AH → Res D) (fa fb : Ev → AH → Res D) : sBin g fa fb env A = (fa env A).bd fun x A1 => (fb env A1).bd fun y A2 => g x y A2 := rfl
@[simp] theorem e_sUn (g : D → AH → Res D) (fa : Ev → AH → Res D) : sUn g fa env A = (fa env A).bd fun x A1 => g x A1 := rfl
def tst (d : D) (A : AH) : Res Bool := match d with
  | .bl b => .ok b A
  | _ => .stuck
@[simp] theorem tst_bl (b : Bool) : tst (.bl b) A = .ok b A := rfl
@[simp] theorem e_sTest (f : Ev → AH → Res D) : sTest f env A = (f env A).bd tst := by
  rfl
def chn (g' : D → D → AH → Res D) (fc : Ev → AH → Res D) (env : Ev) (y z : D) (A : AH) : Res D := match z with
  | .bl true => (fc env A).bd fun w A4 => g' y w A4
  | .bl false => .ok (.bl false) A
  | _ => .stuck
@[simp] theorem chn_t (g' : D → D → AH → Res D) (fc : Ev → AH → Res D) (y : D) : chn g' fc env y (.bl true) A = (fc env A).bd fun w A4 => g' y w A4 := rfl
@[simp] theorem chn_f (g' : D → D → AH → Res D) (fc : Ev → AH → Res D) (y : D) : chn g' fc env y (.bl false) A = .ok (.bl false) A := rfl
@[simp] theorem e_sChain (g g' : D → D → AH → Res D) (fa fb fc : Ev → AH → Res D) : sChain g g' fa fb fc env A = (fa env A).bd fun x A1 => (fb env A1).bd fun y A2 => (g x y A2).bd fun z A3 => chn g' fc env y z A3 := rfl
def cnd {β : Type} (k1 k2 : AH → β) (b : Bool) (A : AH) : β := match b with
  | true => k1 A
  | false => k2 A
@[simp] theorem cnd_t {β : Type} (k1 k2 : AH → β) : cnd k1 k2 true A = k1 A := rfl
@[simp] theorem cnd_f {β : Type} (k1 k2 : AH → β) : cnd k1 k2 false A = k2 A := rfl
@[simp] theorem e_sAndT (f g : Ev → AH → Res Bool) : sAndT f g env A = (f env A).bd (cnd (g env) (.ok false)) := by
  unfold sAndT; congr 1
@[simp] theorem e_sOrT (f g : Ev → AH → Res Bool) : sOrT f g env A = (f env A).bd (cnd (.ok true) (g env)) := by
  unfold sOrT; congr 1
@[simp] theorem e_sNotT (f : Ev → AH → Res Bool) : sNotT f env A = (f env A).bd fun c A1 => .ok (!c) A1 := rfl
def vcn (k1 k2 : AH → Res D) (d : D) (A : AH) : Res D := match d with
  | .bl true => k1 A
  | .bl false => k2 A
  | _ => .stuck
@[simp] theorem vcn_t (k1 k2 : AH → Res D) : vcn k1 k2 (.bl true) A = k1 A := rfl
@[simp] theorem vcn_f (k1 k2 : AH → Res D) : vcn k1 k2 (.bl false) A = k2 A := rfl
@[simp] theorem e_sAndV (f g : Ev → AH → Res D) : sAndV f g env A = (f env A).bd (vcn (g env) (.ok (.bl false))) := by
  rfl
@[simp] theorem e_sOrV (f g : Ev → AH → Res D) : sOrV f g env A = (f env A).bd (vcn (.ok (.bl true)) (g env)) := by
  rfl
@[simp] theorem e_sNotV (f : Ev → AH → Res D) : sNotV f env A = (f env A).bd fun c A1 => match c with
  | .bl b => .ok (.bl (!b)) A1
  | _ => .stuck := rfl
@[simp] theorem e_sIf (c : Ev → AH → Res Bool) (f g : Ev → AH → Res D) : sIf c f g env A = (c env A).bd (cnd (f env) (g env)) := by
  unfold sIf; congr 1
@[simp] theorem e_sNil : sNil env A = .ok [] A := rfl
@[simp] theorem e_sCons (f : Ev → AH → Res D) (g : Ev → AH → Res (List D)) : sCons f g env A = (f env A).bd fun d A1 => (g env A1).bd fun ds A2 => .ok (d :: ds) A2 := rfl
@[simp] theorem e_sStar (f : Ev → AH → Res D) (g : Ev → AH → Res (List D)) : sStar f g env A = (f env A).bd fun d A1 => match asL A1 d with
  | some xs => (g env A1).bd fun ds A2 => .ok (xs ++ ds) A2
  | none => .stuck := rfl
@[simp] theorem e_sTup (f : Ev → AH → Res (List D)) : sTup f env A = (f env A).bd fun ds A1 => if ds.length ≤ sizeLine then .ok (.tup ds) A1 else .stuck := rfl
@[simp] theorem e_sLst (f : Ev → AH → Res (List D)) : sLst f env A = (f env A).bd fun ds A1 => if ds.length ≤ sizeLine then .ok (.lst ds) A1 else .stuck := rfl
@[simp] theorem e_sLstM (f : Ev → AH → Res (List D)) : sLstM f env A = (f env A).bd fun ds A1 => if ds.length ≤ sizeLine then .ok (.ref A1.length) (A1 ++ [.lst ds]) else .stuck := rfl
@[simp] theorem e_sCall (g : List D → AH → Res D) (f : Ev → AH → Res (List D)) : sCall g f env A = (f env A).bd fun ds A1 => g ds A1 := rfl
@[simp] theorem e_oNone : oNone env A = .ok none A := rfl
@[simp] theorem e_oSome (f : Ev → AH → Res D) : oSome f env A = (f env A).bd fun d A1 => match d with
  | .int i => .ok (some i) A1
  | _ => .stuck := rfl
@[simp] theorem e_sSlice (fa : Ev → AH → Res D) (fl fh : Ev → AH → Res (Option Int)) : sSlice fa fl fh env A = (fa env A).bd fun x A1 => (fl env A1).bd fun lo A2 => (fh env A2).bd fun hi A3 => gSl lo hi x A3 := rfl
@[simp] theorem e_sM1 (g : Str → D → AH → Res D) (fa fb : Ev → AH → Res D) : sM1 g fa fb env A = (fa env A).bd fun x A1 => match x with
  | .str a => (fb env A1).bd fun y A2 => g a y A2
  | _ => .stuck := rfl
@[simp] theorem e_sFmt (f : Ev → AH → Res D) : sFmt f env A = (f env A).bd fun d A1 => match d with
  | .str y => if y.length ≤ sizeLine then .ok (.str y) A1 else .stuck
  | .int i => if i.natAbs.log2 < 1920 then .ok (.str (toString i)) A1 else .stuck
  | _ => .stuck := rfl
@[simp] theorem e_fsNil (acc : Str) : fsL [] acc env A = .ok (.str acc) A := rfl
@[simp] theorem e_fsL (f : Ev → AH → Res D) (fs : List (Ev → AH → Res D)) (acc : Str) : fsL (f :: fs) acc env A = (f env A).bd fun d A1 => match d with
  | .str y => if (acc ++ y).length ≤ sizeLine then fsL fs (acc ++ y) env A1 else .stuck
  | _ => .stuck := rfl
@[simp] theorem e_sIsiB (T : String) (f : Ev → AH → Res D) : sIsiB T f env A = (f env A).bd fun x A1 => gIsiB T x A1 := rfl
@[simp] theorem e_sIsiO (c : Nat) (f : Ev → AH → Res D) : sIsiO c f env A = (f env A).bd fun x A1 => gIsiO c x A1 := rfl
@[simp] theorem e_sLC (vs : List Nat) (fi : Ev → AH → Res (List D)) (st : Ev → D → Option Ev) (t : Ev → AH → Res Bool) (f : Ev → AH → Res D) : sLC vs fi st t f env A = (fi env A).bd fun ds A1 => if ds.length ≤ sizeLine then (compL st t f ds (wip vs env) A1).bd fun ds A1 => .ok (.lst ds) A1 else .stuck := by
  unfold sLC sComp
  cases fi env A with
  | ok ds A1 =>
    show (if ds.length ≤ sizeLine then compL st t f ds (wip vs env) A1 else .stuck).bind _ = if ds.length ≤ sizeLine then (compL st t f ds (wip vs env) A1).bind _ else .stuck
    split <;> rfl
  | ex x A1 => rfl
  | stuck => rfl
@[simp] theorem e_sAppend (fa fb : Ev → AH → Res D) : sAppend fa fb env A = (fa env A).bd fun x A1 => match x with
  | .ref i => match A1[i]? with
    | some (.lst _) => (fb env A1).bd fun d A2 => match A2[i]? with
      | some (.lst ds) => if ds.length < sizeLine then .ok .non (A2.set i (.lst (ds ++ [d]))) else .stuck
      | _ => .stuck
    | _ => .stuck
  | _ => .stuck := rfl
@[simp] theorem e_iOf (f : Ev → AH → Res D) : iOf f env A = (f env A).bd fun d A1 => match d with
  | .tup ds => .ok ds A1
  | .lst ds => .ok ds A1
  | .str z => .ok (z.cps.toList.map fun c => .str ⟨#[c]⟩) A1
  | _ => .stuck := by
  rfl
theorem e_iRange1 (f : Ev → AH → Res (List D)) : iRange1 f env A = (f env A).bd fun ds A1 => match ds with
  | [.int j] => if j.natAbs < 2 ^ 62 then .ok (rngL 0 1 j.toNat) A1 else .stuck
  | _ => .stuck := rfl
theorem e_iRange2 (f : Ev → AH → Res (List D)) : iRange2 f env A = (f env A).bd fun ds A1 => match ds with
  | [.int i, .int j] => if i.natAbs < 2 ^ 62 ∧ j.natAbs < 2 ^ 62 then .ok (rngL i 1 (j - i).toNat) A1 else .stuck
  | _ => .stuck := rfl
@[simp] theorem e_iZip2 (f : Ev → AH → Res (List D)) : iZip2 f env A = (f env A).bd fun ds A1 => match ds with
  | [.tup xs, .tup ys] => .ok (zipD xs ys) A1
  | [.lst xs, .lst ys] => .ok (zipD xs ys) A1
  | _ => .stuck := rfl
@[simp] theorem e_iEnum1 (f : Ev → AH → Res (List D)) : iEnum1 f env A = (f env A).bd fun ds A1 => match ds with
  | [.lst xs] => .ok (enumD 0 xs) A1
  | _ => .stuck := rfl
@[simp] theorem e_tTrue : tTrue env A = .ok true A := rfl
@[simp] theorem e_gNm (i : Nat) (d : D) : gNm i env d = some (env.set i (some d)) := rfl
@[simp] theorem e_gEnd : gEnd env [] = some env := rfl
@[simp] theorem e_gMore (g : Ev → D → Option Ev) (gs : Ev → List D → Option Ev) (d : D) (r : List D) : gMore g gs env (d :: r) = (g env d).bind fun env1 => gs env1 r := rfl
@[simp] theorem e_gTp (gs : Ev → List D → Option Ev) (ds : List D) : gTp gs env (.tup ds) = gs env ds := rfl
@[simp] theorem e_bNil : bNil env A = .nx env A := rfl
@[simp] theorem e_bRet (f : Ev → AH → Res D) : bRet f env A = lfv (f env A) env fun d A1 => .rt d A1 := rfl
@[simp] theorem e_bExpr (f : Ev → AH → Res D) : bExpr f env A = lfv (f env A) env fun _ A1 => .nx env A1 := rfl
@[simp] theorem e_bIf (c : Ev → AH → Res Bool) (f g : Ev → AH → SR) : bIf c f g env A = lfv (c env A) env (cnd (f env) (g env)) := by
  unfold bIf; congr 1
def stTo (o : Option Ev) (A : AH) : SR := match o with
  | some env1 => .nx env1 A
  | none => .stuck
@[simp] theorem stTo_some : stTo (some env) A = .nx env A := rfl
@[simp] theorem e_bSet (st : Ev → D → Option Ev) (f : Ev → AH → Res D) : bSet st f env A = lfv (f env A) env fun d A1 => stTo (st env d) A1 := by
  rfl
@[simp] theorem e_bPar (i j : Nat) (f : Ev → AH → Res (List D)) : bPar i j f env A = lfv (f env A) env fun ds A1 => match ds with
  | [x, y] => .nx ((env.set i (some x)).set j (some y)) A1
  | _ => .stuck := rfl
@[simp] theorem e_bFor (fi : Ev → AH → Res (List D)) (st : Ev → D → Option Ev) (body : Ev → AH → SR) : bFor fi st body env A = lfv (fi env A) env fun ds A1 => forL st body ds env A1 := rfl
@[simp] theorem e_bStore (fo fi fe : Ev → AH → Res D) : bStore fo fi fe env A = lfv (fe env A) env fun d A1 => lfv (fo env A1) env fun x A2 => lfv (fi env A2) env fun y A3 => match x, y with
  | .ref r, .int n => match A3[r]? with
    | some (.lst ds) => match ixN ds.length n with
      | some j => .nx env (A3.set r (.lst (ds.set j d)))
      | none => .stuck
    | _ => .stuck
  | _, _ => .stuck := rfl
@[simp] theorem e_bFld (c i : Nat) (fo fe : Ev → AH → Res D) : bFld c i fo fe env A = lfv (fe env A) env fun d A1 => lfv (fo env A1) env fun x A2 => match x with
  | .ref r => match A2[r]? with
    | some (.ins c' fs) => if c' = c then .nx env (A2.set r (.ins c (putD i d fs))) else .stuck
    | _ => .stuck
  | _ => .stuck := rfl
def flds (gs : Ev → AH → List D → Option AH) (env : Ev) (d : D) (A : AH) : SR := match d with
  | .tup ds => match gs env A ds with
    | some A2 => .nx env A2
    | none => .stuck
  | _ => .stuck
@[simp] theorem e_bFlds (gs : Ev → AH → List D → Option AH) (f : Ev → AH → Res D) : bFlds gs f env A = lfv (f env A) env (flds gs env) := by
  rfl
@[simp] theorem e_aFld (c i : Nat) (fo : Ev → AH → Res D) (d : D) : aFld c i fo env A d = (match fo env A with
  | .ok (.ref r) A1 => match A1[r]? with
    | some (.ins c' fs) => if c' = c then some (A1.set r (.ins c (putD i d fs))) else none
    | _ => none
  | _ => none) := rfl
@[simp] theorem e_aEnd : aEnd env A [] = some A := rfl
@[simp] theorem e_aMore (g : Ev → AH → D → Option AH) (gs : Ev → AH → List D → Option AH) (d : D) (r : List D) : aMore g gs env A (d :: r) = (g env A d).bind fun A1 => gs env A1 r := rfl
@[simp] theorem e_bStuck : bStuck env A = .stuck := rfl
theorem range1_ok {f : Ev → AH → Res (List D)} {A1 : AH} {k : Nat} (h : f env A = .ok [.int k] A1) (hk : k < 1000000) : iRange1 f env A = .ok (rngL 0 1 k) A1 := by
  have h1 : (k : Int).natAbs < 2 ^ 62 := by rw [Int.natAbs_natCast]; omega
  unfold iRange1
  rw [h]
  simp only [Res.bind]
  rw [if_pos h1, Int.toNat_natCast]
/-! loops over lists, by what one turn does -/
/-- item by item -/
inductive All2 {α β : Type} (P : α → β → Prop) : List α → List β → Prop where
  | nil : All2 P [] []
  | cons {a : α} {b : β} {as : List α} {bs : List β} (h : P a b) (t : All2 P as bs) : All2 P (a :: as) (b :: bs)
theorem compL_map {st : Ev → D → Option Ev} {t : Ev → AH → Res Bool} {f : Ev → AH → Res D} {g : D → D} : ∀ (ds : List D), (∀ d ∈ ds, ∃ env1, st env d = some env1 ∧ t env1 A = .ok true A ∧ f env1 A = .ok (g d) A) → compL st t f ds env A = .ok (ds.map g) A
  | [], _ => rfl
  | d :: ds, h => by
    obtain ⟨env1, h1, h2, h3⟩ := h d List.mem_cons_self
    unfold compL
    rw [h1]; simp only; rw [h2]; simp only; rw [h3]; simp only
    rw [compL_map ds fun e he => h e (List.mem_cons_of_mem _ he)]
    rfl
/-- .. where the things that are changed are changed -/
theorem compL_inv {st : Ev → D → Option Ev} {t : Ev → AH → Res Bool} {f : Ev → AH → Res D} (I : AH → Prop) (P : D → D → Prop) : ∀ (ds : List D) (A : AH), I A → (∀ d ∈ ds, ∀ A, I A → ∃ env1 x A', st env d = some env1 ∧ t env1 A = .ok true A ∧ f env1 A = .ok x A' ∧ I A' ∧ P d x) →
    ∃ xs A', compL st t f ds env A = .ok xs A' ∧ I A' ∧ All2 P ds xs
  | [], A, hA, _ => ⟨[], A, rfl, hA, .nil⟩
  | d :: ds, A, hA, h => by
    obtain ⟨env1, x, A1, h1, h2, h3, h4, h5⟩ := h d List.mem_cons_self A hA
    obtain ⟨xs, A2, k1, k2, k3⟩ := compL_inv I P ds A1 h4 fun e he => h e (List.mem_cons_of_mem _ he)
    refine ⟨x :: xs, A2, ?_, k2, .cons h5 k3⟩
    unfold compL
    rw [h1]; simp only; rw [h2]; simp only; rw [h3]; simp only
    rw [k1]
theorem forL_inv {st : Ev → D → Option Ev} {body : Ev → AH → SR} (I : List D → Ev → AH → Prop) : ∀ (ds done : List D) (env : Ev) (A : AH), I done env A → (∀ (pre : List D) (d : D) (post : List D), done ++ ds = pre ++ d :: post → ∀ env A, I pre env A → ∃ env1 env2 A2, st env d = some env1 ∧ body env1 A = .nx env2 A2 ∧ I (pre ++ [d]) env2 A2) →
    ∃ env' A', forL st body ds env A = .nx env' A' ∧ I (done ++ ds) env' A'
  | [], done, env, A, h0, _ => ⟨env, A, rfl, by rw [List.append_nil]; exact h0⟩
  | d :: ds, done, env, A, h0, h => by
    obtain ⟨env1, env2, A2, h1, h2, h3⟩ := h done d ds rfl env A h0
    obtain ⟨env', A', k1, k2⟩ := forL_inv I ds (done ++ [d]) env2 A2 h3 fun pre e post q => h pre e post (by simpa using q)
    refine ⟨env', A', ?_, by simpa using k2⟩
    unfold forL
    rw [h1]; simp only; rw [h2]
    exact k1
end
/-! == by data -/
theorem gEq_of {A : AH} {x y : D} {d e : PyData} (h1 : toP (topD A x) = some d) (h2 : toP (topD A y) = some e) (s1 : SeqAt.shaped d = true) (s2 : SeqAt.shaped e = true) : gEq x y A = .ok (.bl (PyData.eqv d e)) A := by
  unfold gEq eqP; rw [h1, h2]; simp only [s1, s2]; rfl
theorem gNe_of {A : AH} {x y : D} {d e : PyData} (h1 : toP (topD A x) = some d) (h2 : toP (topD A y) = some e) (s1 : SeqAt.shaped d = true) (s2 : SeqAt.shaped e = true) : gNe x y A = .ok (.bl (!PyData.eqv d e)) A := by
  unfold gNe eqP; rw [h1, h2]; simp only [s1, s2]; rfl
theorem shaped_str {x : Str} (h : PyData.strOk x = true) : SeqAt.shaped (.str x) = true := by
  unfold SeqAt.shaped PyData.canLay0 PyData.depth; rw [h]; rfl
@[simp] theorem gEq_int (i j : Int) (A : AH) : gEq (.int i) (.int j) A = .ok (.bl (i == j)) A := gEq_of (d := .int i) (e := .int j) rfl rfl rfl rfl
@[simp] theorem gNe_int (i j : Int) (A : AH) : gNe (.int i) (.int j) A = .ok (.bl (!(i == j))) A := gNe_of (d := .int i) (e := .int j) rfl rfl rfl rfl
theorem gEq_str {x y : Str} (hx : PyData.strOk x = true) (hy : PyData.strOk y = true) (A : AH) : gEq (.str x) (.str y) A = .ok (.bl (x == y)) A := gEq_of (d := .str x) (e := .str y) rfl rfl (shaped_str hx) (shaped_str hy)
theorem gNe_str {x y : Str} (hx : PyData.strOk x = true) (hy : PyData.strOk y = true) (A : AH) : gNe (.str x) (.str y) A = .ok (.bl (!(x == y))) A := gNe_of (d := .str x) (e := .str y) rfl rfl (shaped_str hx) (shaped_str hy)
theorem toPs_strs : ∀ ls : List Str, toPs (ls.map .str) = some (ls.map .str)
  | [] => rfl
  | l :: ls => by
    show (match toP (.str l), toPs (ls.map .str) with | some p, some ps => some (p :: ps) | _, _ => none) = _
    rw [toPs_strs ls]; rfl
theorem toPs_ints : ∀ ls : List Int, toPs (ls.map .int) = some (ls.map .int)
  | [] => rfl
  | l :: ls => by
    show (match toP (.int l), toPs (ls.map .int) with | some p, some ps => some (p :: ps) | _, _ => none) = _
    rw [toPs_ints ls]; rfl
theorem lay_strs : ∀ ls : List Str, (∀ l ∈ ls, PyData.strOk l = true) → PyData.canLayAll0 (ls.map .str) = true ∧ PyData.depthAll (ls.map .str) = 0
  | [], _ => ⟨rfl, rfl⟩
  | l :: ls, h => by
    obtain ⟨h1, h2⟩ := lay_strs ls fun x hx => h x (List.mem_cons_of_mem _ hx)
    constructor
    · show (PyData.strOk l && PyData.canLayAll0 (ls.map .str)) = true
      rw [h l List.mem_cons_self, h1]; rfl
    · show max 0 (PyData.depthAll (ls.map .str)) = 0
      rw [h2]; rfl
theorem lay_ints : ∀ ls : List Int, PyData.canLayAll0 (ls.map .int) = true ∧ PyData.depthAll (ls.map .int) = 0
  | [] => ⟨rfl, rfl⟩
  | l :: ls => by
    obtain ⟨h1, h2⟩ := lay_ints ls
    exact ⟨by show (true && PyData.canLayAll0 (ls.map .int)) = true; rw [h1]; rfl, by show max 0 (PyData.depthAll (ls.map .int)) = 0; rw [h2]; rfl⟩
theorem shaped_list {ps : List PyData} (h : PyData.canLayAll0 ps = true) (h' : PyData.depthAll ps ≤ 60) : SeqAt.shaped (.list ps) = true := by
  unfold SeqAt.shaped PyData.canLay0 PyData.depth; rw [h]; simp; omega
theorem shaped_tuple {ps : List PyData} (h : PyData.canLayAll0 ps = true) (h' : PyData.depthAll ps ≤ 60) : SeqAt.shaped (.tuple ps) = true := by
  unfold SeqAt.shaped PyData.canLay0 PyData.depth; rw [h]; simp; omega
theorem eqv_lists {ps qs : List PyData} (h : PyData.canLayAll0 ps = true) (e : ps = qs) : PyData.eqvAll ps qs = true := by
  subst e; exact SeqAt.eqvAll_refl ps h
end F3
namespace F3
open PySem PySem.Spec
open PyProof.Rows L2
/-! ### try with many clauses, each with or without a name -/
/-- a clause: its class, its name's slot, its suite -/
structure Cls3 where
  c : Value
  i : Option Nat
  ts : Addr → Value → Option Addr → TS
/-- the ends behind a suite: its name is gone -/
def endsBehind (i : Option Nat) (D : Ends) : Ends := match i with
  | none => D
  | some i => { nx := fun σ H => D.nx (σ.set i none) H, rt := D.rt, bk := fun σ H => D.bk (σ.set i none) H, ct := fun σ H => D.ct (σ.set i none) H }
def slotsIn (i : Option Nat) (a : Addr) (σ : L2.St) : L2.St := match i with
  | none => σ
  | some i => σ.set i (some (.ref a))
def wMix (K : PySem.W.Frag) (Wout : WX) (D : Ends) : List Cls3 → WX
  | [] => Wout
  | k :: r => fun cls d σ H => ∃ b, PySem.W.exmOne K cls k.c = some b ∧ (b = true → ∀ a, H a = none → k.ts a cls d (endsBehind k.i D) (slotsIn k.i a σ) H) ∧ (b = false → wMix K Wout D r cls d σ H)
/-- the clauses as written -/
inductive HdMix (X : Cx) : List ExceptHandler → List Cls3 → Prop where
  | nil : HdMix X [] []
  | bare {x : Str} {c : Value} {ts : Addr → Value → Option Addr → TS} {st : Stmt} {suite : List Stmt} {np hp : Pos} {hds : List ExceptHandler} {l : List Cls3} (hc : Names X x c)
      (run : ∀ (a : Addr) (oe : Obj) (cls : Value) (d : Option Addr) (pn : List (Addr × Obj)), Zc cls d oe → (∃ vs, oe.data = .fields vs) → PSs (X.suite a ((a, oe) :: pn)) (st :: suite) (ts a cls d)) (r : HdMix X hds l) :
      HdMix X (.ExceptHandler (some (.Name x np)) none (st :: suite) hp :: hds) (⟨c, none, ts⟩ :: l)
  | named {x n : Str} {c : Value} {i : Nat} {ts : Addr → Value → Option Addr → TS} {st : Stmt} {suite : List Stmt} {np hp : Pos} {hds : List ExceptHandler} {l : List Cls3} (hc : Names X x c) (hi : X.N[i]? = some n) (hl : X.env.kindOf n = some .local)
      (run : ∀ (a : Addr) (oe : Obj) (cls : Value) (d : Option Addr) (pn : List (Addr × Obj)), Zc cls d oe → (∃ vs, oe.data = .fields vs) → PSs (X.suite a ((a, oe) :: pn)) (st :: suite) (ts a cls d)) (r : HdMix X hds l) :
      HdMix X (.ExceptHandler (some (.Name x np)) (some n) (st :: suite) hp :: hds) (⟨c, some i, ts⟩ :: l)
section
variable {X : Cx} {pins : List (Addr × Obj)} {σ : L2.St} {H : Hp} {sI s : Shared} {B : Heap} {a : Addr} {cls : Value} {d : Option Addr} {D : Ends} {Wout : WX}
/-- an exception that was caught: J the state without it, held at the frame -/
structure Held3 (X : Cx) (pins : List (Addr × Obj)) (σ : L2.St) (H : Hp) (B : Heap) (a : Addr) (cls : Value) (d : Option Addr) (sI s : Shared) : Prop where
  ok : X.Ok
  stk : X.stack = X.env :: X.outer
  fr : X.env.frame = some X.env.locals
  inv : Inv X pins σ H sI
  low : ∀ b o, sI.heap.get? b = some o → b ∉ frs X.stack → B.get? b = some o
  up : sI.heap.UpToSlots s.heap
  fl : HandSPX.FlyingZ B (X.env :: X.outer) a (Zc cls d) s.heap
  na : H a = none
  os : s.os = sI.os
  ag : AllBare s.gens
theorem Held3.here (h : Held3 X pins σ H B a cls d sI s) : Inv X pins σ H s := by
  obtain ⟨hh, g, dr, t, os⟩ := s
  exact h.inv.landed h.low h.fl.1 h.up h.os h.ag
theorem Held3.moved {h' : Heap} (h : Held3 X pins σ H B a cls d sI s) (f : HandSPX.FlyingZ B (X.env :: X.outer) a (Zc cls d) h') (u : s.heap.UpToSlots h') : Held3 X pins σ H B a cls d sI { s with heap := h' } :=
  ⟨h.ok, h.stk, h.fr, h.inv, h.low, h.up.trans u, f, h.na, h.os, h.ag⟩
/-- its object; it is no frame -/
theorem Held3.obj (h : Held3 X pins σ H B a cls d sI s) : ∃ oe vs, s.heap.get? a = some oe ∧ Zc cls d oe ∧ oe.data = .fields vs ∧ a ≠ X.env.locals ∧ a ∉ X.fs := by
  obtain ⟨oe, vs, e1, e2, e3⟩ := h.fl.there
  have off : a ∉ frs (X.env :: X.outer) := fun m => by
    obtain ⟨_, o', z, nf⟩ := h.fl.2.2.1.mem m
    rw [e1] at z
    cases z
    exact nf vs e3
  refine ⟨oe, vs, e1, e2, e3, fun z => off ?_, fun z => off ?_⟩
  · exact List.mem_filterMap.mpr ⟨X.env, .head _, by rw [h.fr, z]⟩
  · obtain ⟨e, m, q⟩ := List.mem_filterMap.mp z
    exact List.mem_filterMap.mpr ⟨e, .tail _ m, q⟩
theorem Held3.suite (h : Held3 X pins σ H B a cls d sI s) : ∃ oe, Zc cls d oe ∧ (∃ vs, oe.data = .fields vs) ∧ Inv (X.suite a ((a, oe) :: (X.pn ++ pins))) [] σ H s := by
  obtain ⟨oe, vs, e1, e2, e3, n1, n2⟩ := h.obj
  exact ⟨oe, e2, ⟨vs, e3⟩, h.here.suite e1 e3 h.na n1 n2⟩
/-- no clause takes it -/
theorem Held3.out (h : Held3 X pins σ H B a cls d sI s) (tk : Takes X Wout) (w : Wout cls d σ H) : wpAny (model X.prog X.w) X.A (handleBy (.ref a) X.env []) (SP X pins D) X.xe s := by
  refine wpAny_handleBy_nil ?_
  obtain ⟨_, _, _, oe, vs, T, oT, ts, e1, e2, e3, e4, _⟩ := id h.fl
  unfold PySem.passOn
  refine wpAny_bind (wpAny_field e1 e3 e4 ?_)
  have nn : ¬ ((Value.ref T == Value.none) = true) := by simp
  rw [if_neg nn]
  have on : wpAny (model X.prog X.w) X.A (setFlight (.ref a) X.env.frame) (fun _ s4 => wpAny (model X.prog X.w) X.A (throw (.ref a) : Sem Flow) (SP X pins D) X.xe s4) X.xe s := by
    rw [h.fr]
    obtain ⟨hh, g, dr, t, os⟩ := s
    exact HandSPX.setFlight_upZ h.fl fun h4 f4 u4 => wpAny_throw (tk _ _ ⟨a, B, sI, pins, σ, H, cls, d, rfl, h.inv, h.low, h.up.trans u4, .inr (.inr (by rw [h.stk]; exact f4)), h.na, h.os, h.ag, w⟩)
  first
    | exact wpAny_bind (wpAny_pure (wpAny_bind on))
    | exact wpAny_bind on
/-- the class a clause names is asked -/
theorem Held3.ask (h : Held3 X pins σ H B a cls d sI s) {x : Str} {c : Value} {np : Pos} {b : Bool} {Q : Bool → Shared → Prop} {E : Value → Shared → Prop} (hc : Names X x c) (e : PySem.W.exmOne X.K cls c = some b) (q : Q b s) :
    wpAny (model X.prog X.w) (X.A.mark (some (.ref a))) (eval (.Name x np) X.env) (fun v s₁ => wpAny (model X.prog X.w) (X.A.mark (some (.ref a))) (excMatches (.ref a) v) Q E s₁) E s := by
  obtain ⟨oe, vs, e1, e2, e3, n1, n2⟩ := h.obj
  have S := h.here.suite e1 e3 h.na n1 n2
  have ty : PySem.W.Looks (model X.prog X.w) s.heap (typeOf (.ref a)) cls := fun A Q E s k z => wpAny_typeOf_ref (k _ _ e1) (by rw [e2.1]; exact z)
  have mt : PySem.W.Looks (model X.prog X.w) s.heap (excMatches (.ref a) c) b := PySem.W.exm_one h.here.kIn ty e
  obtain ⟨hg, hdb, hm | ⟨hm, hv, hn⟩⟩ := hc
  · exact ld_glob (X := X.suite a ((a, oe) :: (X.pn ++ pins))) S hg hm (mt.here q) hdb
  · exact ld_blt (X := X.suite a ((a, oe) :: (X.pn ++ pins))) S hg hm hv (mt.here q) hn hdb
/-- the clauses, one after the other -/
theorem Held3.go (hN : X.N.Nodup) (tk : Takes X Wout) {hds : List ExceptHandler} {l : List Cls3} (k : HdMix X hds l) : ∀ {s : Shared}, Held3 X pins σ H B a cls d sI s → wMix X.K Wout D l cls d σ H → wpAny (model X.prog X.w) X.A (handleBy (.ref a) X.env hds) (SP X pins D) X.xe s := by
  induction k with
  | nil => exact fun h w => h.out tk w
  | bare hc run r ih =>
    intro s h w
    obtain ⟨b, e, yes, no⟩ := w
    refine wpAny_handleBy_cons (codeAny_handlers_test (h.ask hc e ?_)) (by intro q; cases q)
    cases b with
    | false => exact ih h (no rfl)
    | true =>
      refine codeAny_handlers_suite ?_
      obtain ⟨hh, g, dr, t, os⟩ := s
      refine HandSPX.lands_againZ h.fl fun h4 f4 u4 => ?_
      have h4' := h.moved f4 u4
      obtain ⟨oe, z1, z2, S⟩ := h4'.suite
      refine wpAny_mono ((run a oe cls d (X.pn ++ pins) z1 z2).run [] _ _ H _ S (yes rfl a h.na)) (fun f s6 z => ?_) (fun _ _ z => False.elim z)
      cases f with
      | ret u => obtain ⟨v, σ6, H6, S6, r6, q⟩ := z; exact ⟨v, σ6, H6, S6.unsuite h.ok, r6, q⟩
      | next => obtain ⟨σ6, H6, S6, q⟩ := z; exact ⟨σ6, H6, S6.unsuite h.ok, q⟩
      | brk => obtain ⟨σ6, H6, S6, q⟩ := z; exact ⟨σ6, H6, S6.unsuite h.ok, q⟩
      | cont => obtain ⟨σ6, H6, S6, q⟩ := z; exact ⟨σ6, H6, S6.unsuite h.ok, q⟩
  | @named x n c i ts st suite np hp hds l hc hi hl run r ih =>
    intro s h w
    obtain ⟨b, e, yes, no⟩ := w
    refine wpAny_handleBy_cons (codeAny_handlers_test (h.ask hc e ?_)) (by intro q; cases q)
    cases b with
    | false => exact ih h (no rfl)
    | true =>
      refine codeAny_handlers_suite_as ?_
      obtain ⟨hh, g, dr, t, os⟩ := s
      refine HandSPX.lands_againZ h.fl fun h4 f4 u4 => ?_
      have h4' := h.moved f4 u4
      obtain ⟨oe, z1, z2, S⟩ := h4'.suite
      refine store_ok (X := X.suite a ((a, oe) :: (X.pn ++ pins))) (v := .ref a) S hN hi (.inl hl) rfl (fun s5 S5 => ?_) (.inr hl)
      refine wpAny_mono ((run a oe cls d (X.pn ++ pins) z1 z2).run [] s5 _ H _ S5 (yes rfl a h.na)) (fun f s6 z => ?_) (fun _ _ z => False.elim z)
      have gone : ∀ {σ6 : L2.St} {H6 : Hp} {P : Shared → Prop}, Inv (X.suite a ((a, oe) :: (X.pn ++ pins))) [] σ6 H6 s6 → (∀ s7, Inv X pins (σ6.set i none) H6 s7 → P s7) → wpAny (model X.prog X.w) X.A (do bindName X.env n .none; unbindBehindTheSuite X.env n hp) (fun _ s7 => P s7) X.xe s6 :=
        fun {σ6 H6 P} S6 q => gone_ok (S6.unsuite h.ok) hN hi hl q
      cases f with
      | ret u => obtain ⟨v, σ6, H6, S6, r6, q⟩ := z; exact gone S6 fun s7 J => ⟨v, _, H6, J, r6, q⟩
      | next => obtain ⟨σ6, H6, S6, q⟩ := z; exact gone S6 fun s7 J => ⟨_, H6, J, q⟩
      | brk => obtain ⟨σ6, H6, S6, q⟩ := z; exact gone S6 fun s7 J => ⟨_, H6, J, q⟩
      | cont => obtain ⟨σ6, H6, S6, q⟩ := z; exact gone S6 fun s7 J => ⟨_, H6, J, q⟩
theorem ps_try_mix {body : List Stmt} {k₀ : ExceptHandler} {hds : List ExceptHandler} {l : List Cls3} {pos : Pos} {tb : WX → TS} (hs : X.stack = X.env :: X.outer) (hf : X.env.frame = some X.env.locals) (hN : X.N.Nodup) (tk : Takes X Wout)
    (run : ∀ (W : WX) (pn : List (Addr × Obj)) (xe : Value → Shared → Prop), Takes (X.tr pn xe) W → PassesOwn (model X.prog X.w) X.A X.env xe → PSs (X.tr pn xe) body (tb W))
    (hh : HdMix X (k₀ :: hds) l) : PS X (.Try body (k₀ :: hds) [] [] pos) (fun D σ H => tb (wMix X.K Wout D l) D σ H) := by
  refine ⟨fun pins s σ H D I h => ?_⟩
  have ok := I.ok
  have hfr : X.A.frames = some (X.env :: X.outer) := by rw [ok.frames, hs]
  let xe' : Value → Shared → Prop := fun e s₁ => wpAny (model X.prog X.w) X.A (noteFrame e X.env) (fun _ s₂ => wpAny (model X.prog X.w) X.A (setFlight e none) (fun _ s₃ => wpAny (model X.prog X.w) X.A (handleBy e X.env (k₀ :: hds)) (SP X pins D) X.xe s₃) X.xe s₂) X.xe s₁
  have caught : Takes (X.tr (X.pn ++ pins) xe') (wMix X.K Wout D l) := by
    intro u s' xx
    obtain ⟨a, B, sI, pins', σ', H', cls, d, rfl, J', nb, up, sky, na, os, ag, w⟩ := xx
    have sky' : Sky B (X.env :: X.outer) a (Zc cls d) X.env.locals s'.heap := by rw [← hs]; exact sky
    show wpAny (model X.prog X.w) X.A (noteFrame (.ref a) X.env) _ _ _
    exact Sky.land Zc.steady hfr hf sky' fun h3 f3 u3 => Held3.go hN tk hh ⟨ok, hs, hf, J'.ofTry ok, nb, up.trans u3, f3, na, os, ag⟩ w
  refine wpAny_Try_except (wpAny_mono ((run (wMix X.K Wout D l) (X.pn ++ pins) xe' caught PassesOwn.looking).run [] s σ H D (I.toTry _) h) (fun f s1 z => ?_) (fun e s1 he => he))
  cases f with
  | next => obtain ⟨σ', H', J', q⟩ := z; exact wpAny_execs_nil ⟨σ', H', J'.ofTry ok, q⟩
  | ret u => obtain ⟨v, σ', H', J', r, q⟩ := z; exact ⟨v, σ', H', J'.ofTry ok, r, q⟩
  | brk => obtain ⟨σ', H', J', q⟩ := z; exact ⟨σ', H', J'.ofTry ok, q⟩
  | cont => obtain ⟨σ', H', J', q⟩ := z; exact ⟨σ', H', J'.ofTry ok, q⟩
end
end F3
namespace F3
open PySem PySem.Spec
open PyProof.Rows L2
/-! ### C(e), where C's __init__ says super().__init__(x); self.f = x -/
/-- the built-in class below an own class of errors -/
structure BaseOf (B newId initId : String) (bmB : List Value) : Prop where
  fb : ExcBaseFacts B newId initId bmB
  kf : PySem.W.KxsFacts B initId
  sf : StoreFacts B bmB "object.__setattr__" "object"
theorem base_ValueError : BaseOf "ValueError" "ValueError.__new__" "ValueError.__init__" [.type "ValueError", .type "Exception", .type "BaseException", .type "object"] := ⟨PySem.F.excBase_ValueError, PySem.W.kxs_ValueError, PySem.F.store_ValueError⟩
theorem base_IndexError : BaseOf "IndexError" "IndexError.__new__" "IndexError.__init__" [.type "IndexError", .type "LookupError", .type "Exception", .type "BaseException", .type "object"] := ⟨PySem.F.excBase_IndexError, PySem.W.kxs_IndexError, PySem.F.store_IndexError⟩
theorem base_LookupError : BaseOf "LookupError" "LookupError.__new__" "LookupError.__init__" [.type "LookupError", .type "Exception", .type "BaseException", .type "object"] := ⟨PySem.F.excBase_LookupError, PySem.W.kxs_LookupError, PySem.F.store_LookupError⟩
theorem base_OverflowError : BaseOf "OverflowError" "OverflowError.__new__" "OverflowError.__init__" [.type "OverflowError", .type "ArithmeticError", .type "Exception", .type "BaseException", .type "object"] := ⟨PySem.F.excBase_OverflowError, PySem.W.kxs_OverflowError, PySem.F.store_OverflowError⟩
theorem base_ArithmeticError : BaseOf "ArithmeticError" "ArithmeticError.__new__" "ArithmeticError.__init__" [.type "ArithmeticError", .type "Exception", .type "BaseException", .type "object"] := ⟨PySem.F.excBase_ArithmeticError, PySem.W.kxs_ArithmeticError, PySem.F.store_ArithmeticError⟩
/-- what the written part says of the class at C, its __init__ at fI: self, x; self.f = x -/
structure SupI (prog : Program) (K : PySem.W.Frag) (C fI : Addr) (slf x f : Str) (B newId initId : String) (bmB : List Value) (body : List Stmt) (scope : Scope) : Prop where
  base : BaseOf B newId initId bmB
  exi : PySem.W.excInitIn K C bmB newId = true
  exo : PySem.W.excOver K C bmB = true
  kC : PySem.W.keepIn K (.ref C) = true
  iC : PySem.W.findIn K (.ref C) "__init__" = some (some (.ref fI))
  tI : PySem.W.typeIn K (.ref fI) = some (.type "function")
  fn : ∃ (oc : Value) (od : Option Addr) (name qual : Str) (params : Arguments) (kV doc pm : Value) (an : Option Addr) (cda cc : Addr) (ct : Value) (osl : Array (Option Value)) (ccl cl : Value) (cdd cld : Option Addr) (vs : Array Value) (ccs csl : Array (Option Value)) (file : Str) (tf : Tok) (ar : Arg),
    K.lookup fI = some ⟨oc, od, .func (PySem.W.ksFn name qual params body scope .none kV doc pm an (.ref cda) ct cc), osl⟩ ∧ PySem.W.codeIn K (.ref cda) qual = true ∧
    K.lookup cda = some ⟨ccl, cdd, .fields vs, ccs⟩ ∧ vs[2]? = some (.str file tf) ∧ ((prog.main.file : Str) == file) = true ∧
    K.lookup cc = some ⟨cl, cld, .cell (some (.ref C)), csl⟩ ∧ (params.posonlyargs ++ params.args).head? = some ar ∧ ar.arg = slf ∧
    (∀ a b, bindArgs (PySem.W.ksFn name qual params body scope .none kV doc pm an (.ref cda) ct cc) ⟨[a, b], []⟩ = pure [(slf, a), (x, b)]) ∧
    scope.names.lookup slf = some .local ∧ scope.names.lookup x = some .local ∧ scope.names.lookup ("super" : Str) = some .globalImplicit ∧ scope.names.lookup ("__class__" : Str) = some .free ∧
    (∀ y ∈ scope.names, y.2 ≠ .cell) ∧ scope.isCoroutine = false ∧ scope.isGenerator = false ∧ scope.kind = .function
  body : ∃ p0 p1 p2 p3 p4 p5 p6 p7 p8 p9, body = [.Expr (.Call (.Attribute (.Call (.Name "super" p0) [] [] p1) "__init__" p2) [.Name x p3] [] p4) p5, .Assign [.Attribute (.Name slf p6) f p7] (.Name x p8) p9] ∧
    ∀ (q : Str) (L a : Addr) (cd : Value) (cc : Addr), (∃ pl, eval (.Call (.Attribute (.Call (.Name "super" p0) [] [] p1) "__init__" p2) [.Name x p3] [] p4) (PySem.W.ksEnv q scope L a cd cc) = (do
      let ov ← attributeBase (.Call (.Name "super" p0) [] [] p1) "__init__" (PySem.W.ksEnv q scope L a cd cc) (eval (.Call (.Name "super" p0) [] [] p1) (PySem.W.ksEnv q scope L a cd cc))
      standAt p2.atName
      let (f, first) ← holding [ov] (getMethod ov "__init__" pl)
      callWith p4 f first (backTo p4 (starEach [.Name x p3] (PySem.W.ksEnv q scope L a cd cc))) [])) ∧
      interactive (PySem.W.ksEnv q scope L a cd cc) = false ∧ swapsWith (.Call (.Attribute (.Call (.Name "super" p0) [] [] p1) "__init__" p2) [.Name x p3] [] p4) none p5.line (PySem.W.ksEnv q scope L a cd cc) = pure false ∧
      swapsWith (.Name x p8) (some (.Attribute (.Name slf p6) f p7)) p9.line (PySem.W.ksEnv q scope L a cd cc) = pure false ∧ starEach [.Name x p3] (PySem.W.ksEnv q scope L a cd cc) = (false, eval (.Name x p3) (PySem.W.ksEnv q scope L a cd cc)) :: starEach [] (PySem.W.ksEnv q scope L a cd cc)
  ne : slf ≠ x
  dbg : (slf == ("__debug__" : Str)) = false ∧ (x == ("__debug__" : Str)) = false
  nosup : PySem.W.nsIn K mainGlobals "super" = some none
  topsup : (prog.main.scope.names.lookup ("super" : Str)).isSome = false
  cls : (PySem.W.clsIn K C).isSome = true
  sub : PySem.W.mroIn K C (.ref C) = some true
  sup : PySem.W.ks_superIn K C C "__init__" = some (some (.builtin initId))
  subB : PySem.W.subIn K (.ref C) (.type B) = some true
  opq : PySem.W.nsIn K cStatics "thirdparty.any" = some none
  sa : PySem.W.findIn K (.ref C) "__setattr__" = some (some (.builtin "object.__setattr__"))
  tak : PySem.W.takerIn K C f = some none
  hd : PySem.W.hasDictIn K C = true
  exC : PySem.W.subIn K (.ref C) (.type "BaseException") = some true
  tyC : PySem.W.typeIn K (.ref C) = some (.type "type")
section
variable {prog : Program} {w : World} {A : Around} {E : Value → Shared → Prop} {h : Heap} {g : Array GenState} {d : Drawn} {t : Nat} {os : OsState}
open PySem.W in
theorem bw_call {u e C t0 : Addr} {K : PySem.W.Frag} {B newId initId : String} {bmB : List Value} {rest : List Value} {Q : Value → Shared → Prop} (FB : ExcBaseFacts B newId initId bmB) (q : PySem.W.excInitIn K C bmB newId = true) (X : K.In h) (he : h.get? e = some (PySem.HandSPX.excO C t0)) (hu : h.get? u = some (PySem.W.kxs_mw initId e))
    (hz : rest.length ≤ sizeLine) (hq : ∀ h' t1, (∀ b o, b ≠ e → h.get? b = some o → h'.get? b = some o) → h'.get? e = some (PySem.HandSPX.excO C t1) → Q .none ⟨h', g, d, t, os⟩) : wpAny (model prog w) A (call (.ref u) rest) Q E ⟨h, g, d, t, os⟩ := by
  obtain ⟨nm, N', qn, bs, bm, hdct, sn, sub, ab, col, dd, k0, k1, k2, k3, k5, hC, hT⟩ := PySem.W.excInit_of X q
  refine wpAny_call (codeAny_of_tree ?_)
  show wpAny _ A.in1 (callAny (.ref u) ⟨rest, []⟩) _ _ _
  simp only [callAny]
  refine wpAny_bind (wpAny_load hu ?_)
  simp only [PySem.W.kxs_mw, show (Value.type "method-wrapper" == Value.type "method" || Value.type "method-wrapper" == Value.type "builtin_function_or_method" || Value.type "method-wrapper" == Value.type "method-wrapper") = true by decide, if_true]
  refine KFB.if_so (by decide) ?_
  refine wpAny_bind (PySem.W.check_bound_init FB.toExcCallFacts hC he rfl ?_)
  refine wpAny_bind (wpAny_pure (wpAny_pure ?_))
  refine ⟨plainId_quiet FB.init.plain _, codeAny_builtin FB.initEntry ?_⟩
  exact PySem.W.exc_init_tree (cls := .ref C) (t0 := t0) (dv := none) (c2 := .none) (c3 := .none) (b4 := .bool false) he hz fun h' k e' _ => hq h' _ k e'
end
section
open Builtin Builtin.ObjectAttr
variable {prog : Program} {w : World} {A : Around} {E : Value → Shared → Prop} {R : Result → Shared → Prop} {hp : Heap} {g : Array GenState} {d : Drawn} {t : Nat} {os : OsState}
open PySem.W PySem.HandSPX in
theorem exc_osaX {K : PySem.W.Frag} {B : String} {bmB : List Value} {name : Str} {tk : Tok} {v : Value} {x C : Addr} {fv : Array Value} (SF : StoreFacts B bmB "object.__setattr__" "object")
    (X : K.In hp) (hx : hp.get? x = some { cls := .ref C, data := .fields fv }) (ho : PySem.W.excOver K C bmB = true) (hd : PySem.W.hasDictIn K C = true) (ha : PySem.W.takerIn K C name = some none)
    (hq : ∀ h' tk' dx, (∀ b o, b ≠ x → hp.get? b = some o → h'.get? b = some o) → hp.objs.size ≤ dx → dx ≠ x → h'.get? x = some { cls := .ref C, dict := some dx, data := .fields fv } →
      h'.Ns1 dx (fun y => if y = name then some v else none) → R (.ok (.ret .none)) ⟨h', g, d, tk', os⟩) :
    codeAny (model prog w) A (.call (.builtin "object.__setattr__") ⟨[.ref x, .str name tk, v], []⟩) R ⟨hp, g, d, t, os⟩ := by
  have I : PySem.W.InstAt hp x { cls := .ref C, data := .fields fv } C none := ⟨hx, rfl, rfl, trivial⟩
  have hxs : x ≠ hp.objs.size := Nat.ne_of_lt (Heap.lt_size hx)
  refine PySem.W.osa_openX (s := ⟨hp, g, d, t, os⟩) SF X I ho ha fun b => ?_
  show wpAny _ _ (storeInOwnDict (.ref x) (.ref C) (.str name tk) name v b) _ _ _
  obtain ⟨cd, hcd, hh⟩ := any_some hd
  have hcls : PySem.W.Looks (model prog w) hp (classData C) cd := PySem.W.looks_clsIn X hcd
  obtain ⟨nm, bs, mro, ns, qn, hd, sn, sb, ab, col, del⟩ := cd
  dsimp only at hh
  subst hh
  cases b <;> unfold storeInOwnDict ownDictForStores <;> repeat (first | with_reducible refine PySem.HandSPX.store_in_new ?_ ?_ | with_reducible refine wpAny_loadPart_at hx ?_ | with_reducible refine hcls.at ?_ | wp_step)
  all_goals first
    | exact ⟨_, #[], _, (Heap.get?_update_ne _ _ _ _ hxs.symm).trans (Heap.get?_push_at rfl rfl), rfl, fun e he => absurd he (by simp), fun _ => rfl⟩
    | (intro h' tk' hn' hs
       have hx₁ : (hp.push { cls := .type "dict", data := .dict #[] }).get? x = some { cls := .ref C, data := .fields fv } := Heap.get?_push_of_some _ hx
       refine hq h' tk' hp.objs.size (fun b o hb ho => ?_) (Nat.le_refl _) hxs.symm ?_ hn'
       · exact (hs.2 b (Nat.ne_of_lt (Heap.lt_size ho))).trans ((Heap.get?_update_ne _ _ _ _ hb).trans (Heap.get?_push_of_some _ ho))
       · exact (hs.2 x hxs).trans (Heap.get?_update_self _ hx₁ rfl))
end
open PySem.W PySem.Calls in
theorem cw1 {M : Model} {A : Around} {E : Value → Shared → Prop} {s : Shared} {i : String} {x u : Addr} {pos : Pos} {env : Env} {e : Expr} {rest : List Expr} {Q : Value → Shared → Prop}
    (h : wpAny M A (spliced (backTo pos (starEach (e :: rest) env))) (fun vs s₁ => KxsAt i u x s₁.heap ∧ wpAny M A (call (.ref u) vs) Q E s₁) E s)
    (he : starEach (e :: rest) env = (false, eval e env) :: starEach rest env) (hplain : (backTo pos (starEach rest env)).any (·.1) = false) :
    wpAny M A (callWith pos (.ref u) [] (backTo pos (starEach (e :: rest) env)) []) Q E s := by
  rw [he] at h ⊢
  refine kxs_callWith (i := i) (x := x) (by show (false || (backTo pos (starEach rest env)).any (·.1)) = false; rw [hplain]; rfl) ?_
  exact evalArgs_plain h
section
variable {prog : Program} {w : World} {A : Around} {K : PySem.W.Frag} {C fI e t0 : Addr} {slf x f : Str} {B newId initId : String} {bmB : List Value} {body : List Stmt} {scope : Scope} {R : Result → Shared → Prop} {v : Value} {mg : Str → Option Value} {base : Heap}
theorem sup_run (T : SupI prog K C fI slf x f B newId initId bmB body scope) (M : Mod K mg base) {s : Shared} (hb : ∀ b o, base.get? b = some o → s.heap.get? b = some o) (hbe : base.get? e = none) (hr : A.depth < recursionLimit) (he : s.heap.get? e = some (PySem.HandSPX.excO C t0))
    (hq : ∀ h' dx tk t1, (∀ b o, b ≠ e → s.heap.get? b = some o → h'.get? b = some o) → s.heap.objs.size ≤ dx → h'.get? e = some ({ cls := .ref C, dict := some dx, data := .fields #[.ref t1, .none, .none, .none, .bool false, .none] } : Obj) →
      h'.Ns1 dx (fun y => if y = f then some v else none) → R (.ok (.ret .none)) { s with heap := h', toks := tk }) :
    codeAny (model prog w) A (.call (.ref fI) ⟨[.ref e, v], []⟩) R s := by
  obtain ⟨oc, od, name, qual, params, kV, doc, pm, an, cda, cc, ct, osl, ccl, cl, cdd, cld, vs, ccs, csl, file, tf, ar, lk, hcd, lc, hvs, hfile, lcell, har, hars, hbind, l1, l2, l3, l4, hcell, hco, hgen, hk⟩ := T.fn
  obtain ⟨p0, p1, p2, p3, p4, p5, p6, p7, p8, p9, hbody, hfacts⟩ := T.body
  have XK : K.In s.heap := M.kin.keeps hb
  refine PySem.ks_codeAny_call_defAt (fd := PySem.W.ksFn name qual params body scope .none kV doc pm an (.ref cda) ct cc) (body := body) (binds := [(slf, .ref e), (x, v)]) hr (XK _ _ lk) rfl (M.nolimit.keeps hb) (PySem.W.codeRec_of XK hcd) rfl
    (.of_eq (hbind _ _)) hcell (fun y hy => ?_) (fun h₁ hns hk₁ => ?_) hco hgen hk
  · rcases List.mem_cons.mp hy with rfl | hy
    · exact l1
    · rcases List.mem_cons.mp hy with rfl | hy
      · exact l2
      · cases hy
  have kk : ∀ b o, base.get? b = some o → h₁.get? b = some o := fun b o q => hk₁ b o (hb b o q)
  have XK1 : K.In h₁ := M.kin.keeps kk
  have he1 := hk₁ _ _ he
  obtain ⟨cd, hcd2⟩ := Option.isSome_iff_exists.mp T.cls
  obtain ⟨oC, hC1, hC2⟩ : ∃ oC, h₁.get? C = some oC ∧ oC.data = .cls cd := by
    unfold PySem.W.clsIn at hcd2
    split at hcd2
    · rename_i c d cd' sl ho
      cases hcd2
      exact ⟨_, XK1 _ _ ho, rfl⟩
    · cases hcd2
  have n1 : (slf == x) = false := by simpa using T.ne
  have hv1 : ([(slf, Value.ref e), (x, v)].reverse).lookup slf = some (.ref e) := by
    show List.lookup slf [(x, v), (slf, Value.ref e)] = _
    rw [List.lookup_cons, n1]
    simp [List.lookup]
  have hv2 : ([(slf, Value.ref e), (x, v)].reverse).lookup x = some v := by
    show List.lookup x [(x, v), (slf, Value.ref e)] = _
    simp [List.lookup]
  subst hbody
  subst hars
  have hso : ∀ {h : Heap} {b : Addr} {o : Obj}, h.get? b = some o → b ≠ h.objs.size := fun e => Nat.ne_of_lt (Heap.lt_size e)
  obtain ⟨mb, hmb, hmb2⟩ := M.blt
  have nsup : mg "super" = none := PySem.W.mg_none_of M.kin M.glob T.nosup
  obtain ⟨⟨pl, hev⟩, hin, hsw1, hsw2, hstar⟩ := hfacts qual s.heap.objs.size fI (.ref cda) cc
  refine ks_wpAt_execs_cons (ks_wpAt_Expr_any (ks_wpAt_MethodCall (pl := pl) ?_ hev) hin hsw1)
  refine ks_wpAt_super_base (env := PySem.W.ksEnv qual scope s.heap.objs.size fI (.ref cda) cc) l3 l4 (by decide) rfl (XK1 _ _ lk) rfl har rfl (XK1 _ _ lc) rfl hvs hfile T.topsup ?_
  refine PySem.W.ks_loadName_global hk l3 (Calls.loadGlobal_builtin (env := PySem.W.ksEnv qual scope s.heap.objs.size fI (.ref cda) cc) (M.glob.keeps kk) nsup (hmb.keeps kk) ((hmb2 _ (by decide +kernel)).trans PyProof.Rows.Boot.«super») ⟨rfl, ?_⟩)
  refine wpAny_loadName_free hk l4 rfl ⟨_, XK1 _ _ lcell, rfl⟩ ?_
  refine wpAny_loadName_local hk l1 hns hv1 ?_
  obtain ⟨hh, g, d, t, os⟩ := s
  refine ks_wpAny_isType_cls hC1 hC2 ⟨rfl, ?_⟩
  refine ks_wpAny_call_super hC1 hC2 he1 rfl (fun c z => by cases z) (PySem.W.looks_mroIn XK1 T.sub) fun h2 so1 k2 => ?_
  have XK2 : K.In h2 := XK1.keeps k2
  have he2 := k2 _ _ he1
  have I2 : PySem.W.InstAt h2 e (PySem.HandSPX.excO C t0) C none := ⟨he2, rfl, rfl, trivial⟩
  obtain ⟨cd', hcd', hsup'⟩ := Option.bind_eq_some_iff.mp (show (PySem.W.clsIn K C).bind _ = some _ from T.sup)
  rw [hcd2] at hcd'
  cases hcd'
  refine PySem.W.kxs_getMethod T.base.kf so1 (PySem.W.looks_opaque XK2 T.opq) (l₀ := cd.mro) (fun A Q E s k q => wpAny_bind ((PySem.W.looks_clsIn XK2 hcd2) A _ E s k (wpAny_pure q))) rfl XK2 hsup' (I2.type.andThen (PySem.W.looks_subIn XK2 T.subB)) (PySem.W.ks_ne XK2 I2 hcd2) (by decide) ?_
  have k3 : ∀ b o, h2.get? b = some o → (h2.push (PySem.W.kxs_mw initId e)).get? b = some o := fun b o q => Heap.get?_push_of_some _ q
  have hns3 := (hns.keeps k2).keeps k3
  have he3 := k3 _ _ he2
  have XK3 : K.In (h2.push (PySem.W.kxs_mw initId e)) := XK2.keeps k3
  have hu3 : (h2.push (PySem.W.kxs_mw initId e)).get? h2.objs.size = some (PySem.W.kxs_mw initId e) := Heap.get?_push_at rfl rfl
  refine cw1 (i := initId) (x := e) (wpAny_items_cons (wpAny_Name (wpAny_loadName_local (m := fun y => List.lookup y [(ar.arg, Value.ref e), (x, v)].reverse) hk l2 hns3 hv2 (wpAny_items_nil ⟨hu3, ?_⟩)) T.dbg.2) hstar) hstar rfl
  refine bw_call T.base.fb T.exi XK3 he3 hu3 (by show 1 ≤ sizeLine; rw [sizeLine_eq]; omega) fun h4 t1 k4 he4 => ?_
  have eL : hh.objs.size ≠ e := fun z => by
    have q := Heap.lt_size he
    rw [← z] at q
    exact absurd q (Nat.lt_irrefl _)
  have ks : ∀ b o, b ≠ e → hh.get? b = some o → h4.get? b = some o := fun b o z q => k4 b o z (k3 b o (k2 b o (hk₁ b o q)))
  have kb4 : ∀ b o, base.get? b = some o → h4.get? b = some o := fun b o q => ks b o (fun z => by rw [z, hbe] at q; cases q) (hb b o q)
  have XK4 : K.In h4 := M.kin.keeps kb4
  have hns4 : h4.Ns hh.objs.size fun y => List.lookup y [(ar.arg, Value.ref e), (x, v)].reverse := by
    obtain ⟨oL, es, ep, q1, q2⟩ := hns3
    exact ⟨oL, es, ep, k4 _ _ eL q1, q2⟩
  show _root_.PySem.wpAt _ _ _ (execs [.Assign [.Attribute (.Name ar.arg p6) f p7] (.Name x p8) p9] (PySem.W.ksEnv qual scope hh.objs.size fI (.ref cda) cc)) _ _ _
  refine ks_wpAt_execs_cons (ks_wpAt_Assign_Attr (wpAt_of_wpAny (wpAny_Name (wpAny_loadName_local (m := fun y => List.lookup y [(ar.arg, Value.ref e), (x, v)].reverse) hk l2 hns4 hv2 (wpAny_Name (wpAny_loadName_local (m := fun y => List.lookup y [(ar.arg, Value.ref e), (x, v)].reverse) hk l1 hns4 hv1 ?_) T.dbg.1)) T.dbg.2)) hsw2)
  refine PySem.W.set_plain XK4 (ox := PySem.HandSPX.excO C t1) (od := none) ⟨he4, rfl, rfl, trivial⟩ T.sa ?_
  refine exc_osaX T.base.sf XK4 he4 T.exo T.hd T.tak fun h5 tk5 dx k5 hdx ndx he5 hns5 => ?_
  have sz : hh.objs.size ≤ h4.objs.size := by
    obtain ⟨oL, es, ep, q1, q2⟩ := hns4
    exact Nat.le_of_lt (Heap.lt_size q1)
  exact wpAt_of_wpAny (wpAny_execs_nil (hq h5 dx tk5 t1 (fun b o z q => k5 b o z (ks b o z q)) (Nat.le_trans sz hdx) he5 hns5))
end
section
variable {X : Cx} {C fI : Addr} {slf x f cn : Str} {B newId initId : String} {bmB : List Value} {body : List Stmt} {scope : Scope} {e : Expr} {te : TA} {p pos : Pos}
/-- C(e): a new error, its dict {f: e's value} -/
theorem pmk_sup {k : Nat} (T : SupI X.prog X.K C fI slf x f B newId initId bmB body scope) (hr : Room (k + 2) X.A) (hg : Gl X cn) (hm : X.mg cn = some (.ref C)) (ha : PA X [e] te) (hdb : (cn == ("__debug__" : Str)) = false)
    (he : starEach [e] X.env = (false, eval e X.env) :: starEach [] X.env := by rfl) :
    PMk X (.Call (.Name cn p) [e] [] pos) (fun σ H Q => te σ H fun vs H1 => ∃ v, vs = [v] ∧ ∀ d, H1 d = none → Q (.ref C) (some d) (upd H1 d (.xd [(f, v)]))) := by
  intro pins s σ H Q I h
  refine wpAny_Call_Name_kw (ld_glob I hg hm ?_ hdb)
  refine PySem.W.callWith_K (h₀ := X.base) I.ok.mod.kin T.kC (thn (ha.run pos pins s σ H _ I h) fun us s1 ⟨vs, H1, I1, r1, v, ev, q1⟩ => ⟨I1.kIn, ?_⟩) he rfl
  subst ev
  cases r1 with
  | @cons _ u _ _ ru rn =>
  cases rn
  show wpAny _ _ (call (.ref C) [u]) _ _ _
  obtain ⟨hp, g, dr, tk, os⟩ := s1
  obtain ⟨nm, N', qn, bs, bm, hdct, sn, sub, ab, col, dd, k0, k1, k2, k3, k5, hC, hT⟩ := PySem.W.excInit_of I1.kIn T.exi
  have hget : ((hp.push (PySem.W.kdv_tup [u])).push (PySem.HandSPX.excO C hp.objs.size)).get? (hp.objs.size + 1) = some (PySem.HandSPX.excO C hp.objs.size) := by heap_get
  have kk : ∀ b o, hp.get? b = some o → ((hp.push (PySem.W.kdv_tup [u])).push (PySem.HandSPX.excO C hp.objs.size)).get? b = some o := fun b o e => Heap.get?_push_of_some _ (Heap.get?_push_of_some _ e)
  have bb : ∀ b o, X.base.get? b = some o → hp.get? b = some o := fun b o q => I1.bk b o q
  have hbe : X.base.get? (hp.objs.size + 1) = none := by
    cases z : X.base.get? (hp.objs.size + 1) with
    | none => rfl
    | some o => exact absurd (Heap.lt_size (bb _ _ z)) (by show ¬ hp.objs.size + 1 < hp.objs.size; omega)
  have hroom : (X.A.under (.builtin "type.__call__" ⟨.ref C :: [u], []⟩)).depth < recursionLimit := (hr.make C [u] []).depth
  refine wpAny_call (PySem.HandSPX.call_own T.base.fb hT hC (PySem.W.looks_findIn I1.kIn T.iC) (fun self => PySem.W.bind_fn I1.kIn self T.tI) (by show 1 ≤ sizeLine; rw [sizeLine_eq]; omega) (sup_run T I1.ok.mod (fun b o q => kk b o (bb b o q)) hbe hroom hget fun h' dx tk' t1 kz hdx he' hn' => ?_))
  have na : H1 (hp.objs.size + 1) = none := I1.hok.fresh (Nat.le_succ _)
  have hdx : ((hp.push (PySem.W.kdv_tup [u])).push (PySem.HandSPX.excO C hp.objs.size)).objs.size ≤ dx := hdx
  rw [Heap.size_push, Heap.size_push] at hdx
  have hdx' : hp.objs.size ≤ dx := by omega
  have nd : H1 dx = none := I1.hok.fresh hdx'
  have nde : dx ≠ hp.objs.size + 1 := fun z => by omega
  have kh : ∀ b o, hp.get? b = some o → h'.get? b = some o := fun b o q => kz b o (Nat.ne_of_lt (Nat.lt_succ_of_lt (Heap.lt_size q))) (kk b o q)
  obtain ⟨G, g1, g2⟩ := restrict h' fun b => decide (b ≠ hp.objs.size + 1)
  have gk : ∀ b, b ≠ hp.objs.size + 1 → G.get? b = h'.get? b := fun b hb => g1 b (decide_eq_true hb)
  have ge : G.get? (hp.objs.size + 1) = none := g2 _ (by simp)
  have kG : ∀ b o, G.get? b = some o → h'.get? b = some o := fun b o z => by
    by_cases hba : b = hp.objs.size + 1
    · rw [hba, ge] at z
      cases z
    · exact (gk b hba).symm.trans z
  have hG : ∀ b o, hp.get? b = some o → G.get? b = some o := fun b o q => by
    rw [gk b (Nat.ne_of_lt (Nat.lt_succ_of_lt (Heap.lt_size q)))]
    exact kh b o q
  have J : Inv X pins σ (upd H1 dx (.xd [(f, v)])) ⟨G, g, dr, tk', os⟩ := I1.laid (t' := tk') (a := dx) (o := .xd [(f, v)]) (h' := G) hG hdx' ⟨_, hn'.at fun o y => (gk dx nde).trans y, relO_put (fs := []) ru fun g => True.intro⟩
  exact ⟨rfl, hp.objs.size + 1, _, _, ⟨G, g, dr, tk', os⟩, _, .ref C, some dx, rfl, J, kG, ge, he', ⟨rfl, rfl⟩, rfl, rfl, by rw [upd_ne (Ne.symm nde)]; exact na, rfl, I1.bare, raises_own T.exC T.tyC, q1 dx nd⟩
end
end F3
namespace F3
open PySem PySem.Spec
open PyProof.Rows L2
/-! ### raise -/
/-- an error being made: c its class's number -/
structure JM (X : Cx) (G : Gc) (W : WX) (e : Expr) (f : Ev → AH → Res Xn) : Prop where
  run : PMk X e (fun σ H Q => ∃ γ A env, St3 G γ A env H σ ∧ Post G γ H (f env A) (fun γ' A' H' x => ∀ γ2 H2 cls ad, Ext γ' H' γ2 H2 → Rel G γ2 A' H2 → XR G γ2 H2 x cls ad → Q cls ad H2) (fun c a H' => W c a σ H'))
section
variable {X : Cx} {G : Gc} {W : WX} {k : Nat}
theorem PMk.imp {X : Cx} {e : Expr} {t t' : L2.St → Hp → XK → Prop} (h : PMk X e t) (q : ∀ σ H Q, t' σ H Q → t σ H Q) : PMk X e t' := fun pins s σ H Q I z => h pins s σ H Q I (q σ H Q z)
/-- X('text'), X own without an own __init__ -/
structure XcP (G : Gc) (K : PySem.W.Frag) (c : Nat) (C : Addr) (B newId initId : String) (bmB : List Value) : Prop where
  at_ : G.xcl c = some C
  fb : ExcBaseFacts B newId initId bmB
  ex : PySem.W.excIn K C bmB newId = true
  kC : PySem.W.keepIn K (.ref C) = true
  exC : PySem.W.subIn K (.ref C) (.type "BaseException") = some true
  tyC : PySem.W.typeIn K (.ref C) = some (.type "type")
def sMk0 (c : Nat) : Ev → AH → Res Xn := fun _ A => .ok ⟨c, []⟩ A
theorem jm_own {c : Nat} {C : Addr} {B newId initId : String} {bmB : List Value} {x m : Str} {j : Nat} {p p2 pos : Pos} (T : XcP G X.K c C B newId initId bmB) (gC : X.mg x = some (.ref C)) (hg : Gl X x) (hdb : (x == ("__debug__" : Str)) = false) :
    JM X G W (.Call (.Name x p) [.Constant (.str m) j p2] [] pos) (sMk0 c) := by
  refine ⟨PMk.imp (pmk_own T.fb T.ex gC T.kC (raises_own T.exC T.tyC) hg hdb) fun σ H Q h => ?_⟩
  obtain ⟨γ, A, env, S, h⟩ := h
  exact h γ H (Ext.refl _ _) S.rel γ H _ none (Ext.refl _ _) S.rel ⟨C, T.at_, rfl, .inl ⟨rfl, rfl⟩⟩
/-- C(e), its __init__ says super().__init__(x); self.f = x -/
def sMk1 (c : Nat) (fa : Ev → AH → Res (List D)) : Ev → AH → Res Xn := fun env A => (fa env A).bind fun ds A1 => match ds with
  | [d] => .ok ⟨c, [d]⟩ A1
  | _ => .stuck
theorem jm_sup (o : XO X G W (k + 2)) {c : Nat} {C fI : Addr} {slf x f cn : Str} {B newId initId : String} {bmB : List Value} {body : List Stmt} {scope : Scope} {e : Expr} {fa : Ev → AH → Res (List D)} {p pos : Pos} (T : SupI X.prog X.K C fI slf x f B newId initId bmB body scope)
    (hC : G.xcl c = some C) (hf : G.xfl c = f) (hg : Gl X cn) (hm : X.mg cn = some (.ref C)) (ha : JA X G W [e] fa) (hdb : (cn == ("__debug__" : Str)) = false) (he : starEach [e] X.env = (false, eval e X.env) :: starEach [] X.env := by rfl) :
    JM X G W (.Call (.Name cn p) [e] [] pos) (sMk1 c fa) := by
  refine ⟨PMk.imp (pmk_sup T o.room hg hm ha.run hdb he) fun σ H Q h => ?_⟩
  obtain ⟨γ, A, env, S, h⟩ := h
  refine ⟨γ, A, env, S, Post.bind h fun ds A1 γ1 H1 e1 R1 h1 vs r1 => ?_⟩
  match ds, h1, r1 with
  | [d], h1, r1 =>
    unfold VRs at r1
    obtain ⟨v, rs, rfl, q1, r2⟩ := r1
    unfold VRs at r2
    subst r2
    refine ⟨v, rfl, fun dd hn => ?_⟩
    have E2 : Ext γ1 H1 γ1 (upd H1 dd (.xd [(f, v)])) := Ext.laid hn
    exact h1 γ1 H1 (Ext.refl _ _) R1 γ1 _ _ (some dd) E2 (R1.laid hn) ⟨C, hC, rfl, .inr ⟨d, dd, v, rfl, rfl, by rw [hf]; exact upd_same, R1.o_none hn, VR.ext E2 _ _ q1⟩⟩
  | [], h1, _ => exact h1.elim
  | _ :: _ :: _, h1, _ => exact h1.elim
def bRaise (f : Ev → AH → Res Xn) : Ev → AH → SR := fun env A => lft (f env A) env fun x A1 => .ex x env A1
theorem js_raise (o : XO X G W k) {e : Expr} {pos : Pos} {f : Ev → AH → Res Xn} (h : JM X G W e f) : JS X G W (.Raise (some e) none pos) (bRaise f) := by
  refine ⟨PS.imp (ps_raise o.calm o.tk h.run) fun E σ H z => ?_⟩
  obtain ⟨γ, A, env, S, z⟩ := z
  exact ⟨γ, A, env, S, PostS.lft S z fun x A1 γ1 H1 e1 R1 h1 γ2 H2 cls ad e2 R2 xr => h1 γ2 H2 σ cls ad e2 (S.to (e1.trans e2) R2) xr⟩
end
end F3
namespace F3
open PySem PySem.Spec
open PyProof.Rows L2
/-! ### try: body, except C [as n]: suite, .. -/
structure Hd3 where
  m : Nat → Bool
  i : Option Nat
  g : Xn → Ev → AH → SR
def hideE (i : Option Nat) (env : Ev) : Ev := match i with
  | none => env
  | some i => env.set i none
def behindR (i : Option Nat) (r : SR) : SR := match r with
  | .nx env A => .nx (hideE i env) A
  | .rt d A => .rt d A
  | .bk env A => .bk (hideE i env) A
  | .ct env A => .ct (hideE i env) A
  | _ => .stuck
def inE (i : Option Nat) (env : Ev) : Bool := match i with
  | none => true
  | some i => decide (i < env.length)
def runH : List Hd3 → Xn → Ev → AH → SR
  | [], x, env, A => .ex x env A
  | h :: r, x, env, A => match h.m x.c with
    | true => match inE h.i env with
      | true => behindR h.i (h.g x (hideE h.i env) A)
      | false => .stuck
    | false => runH r x env A
def bTry (f : Ev → AH → SR) (hs : List Hd3) : Ev → AH → SR := fun env A => match f env A with
  | .ex x env1 A1 => runH hs x env1 A1
  | r => r
theorem ER.hide {G : Gc} {γ : Gh} {H : Hp} {env : Ev} {σ : L2.St} {i : Nat} (o : Option V) (h : ER G γ H env σ) : ER G γ H (env.set i none) (σ.set i o) := fun j d q => by
  by_cases z : i = j
  · subst z
    by_cases hi : i < env.length
    · rw [List.getElem?_set_self hi] at q; cases q
    · rw [List.getElem?_eq_none (by simpa using hi)] at q; cases q
  · rw [List.getElem?_set_ne z] at q ⊢
    exact h j d q
theorem St3.hide {G : Gc} {γ : Gh} {A : AH} {env : Ev} {H : Hp} {σ : L2.St} {i : Nat} (o : Option V) (S : St3 G γ A env H σ) : St3 G γ A (env.set i none) H (σ.set i o) := ⟨S.rel, by simp [S.len], S.er.hide o⟩
/-- what a suite finds: the error, its name -/
def tX3 (G : Gc) (i : Option Nat) (g : Xn → Ev → AH → SR) (a : Addr) (cls : Value) (d : Option Addr) : TS := fun E σ H => ∃ γ A env x, St3 G γ A env H σ ∧ XR G γ H x cls d ∧ (∀ j, i = some j → σ[j]? = some (some (.ref a))) ∧ PostS G γ H (g x env A) E (fun _ _ _ _ => False)
/-- a suite -/
structure JX (X : Cx) (G : Gc) (i : Option Nat) (st : List Stmt) (g : Xn → Ev → AH → SR) : Prop where
  run : ∀ (a : Addr) (oe : Obj) (cls : Value) (d : Option Addr) (pn : List (Addr × Obj)), Zc cls d oe → (∃ vs, oe.data = .fields vs) → PSs (X.suite a ((a, oe) :: pn)) st (tX3 G i g a cls d)
/-- whom the class at c takes -/
def Tks (G : Gc) (K : PySem.W.Frag) (c : Value) (m : Nat → Bool) : Prop := ∀ (n : Nat) (C : Addr), G.xcl n = some C → PySem.W.exmOne K (.ref C) c = some (m n)
inductive HdJ (X : Cx) (G : Gc) : List ExceptHandler → List Hd3 → List Cls3 → Prop where
  | nil : HdJ X G [] [] []
  | bare {x : Str} {c : Value} {m : Nat → Bool} {g : Xn → Ev → AH → SR} {st : Stmt} {suite : List Stmt} {np hp : Pos} {hds : List ExceptHandler} {hl : List Hd3} {l : List Cls3} (hc : Names X x c) (hm : Tks G X.K c m) (run : JX X G none (st :: suite) g) (r : HdJ X G hds hl l) :
      HdJ X G (.ExceptHandler (some (.Name x np)) none (st :: suite) hp :: hds) (⟨m, none, g⟩ :: hl) (⟨c, none, tX3 G none g⟩ :: l)
  | named {x n : Str} {c : Value} {i : Nat} {m : Nat → Bool} {g : Xn → Ev → AH → SR} {st : Stmt} {suite : List Stmt} {np hp : Pos} {hds : List ExceptHandler} {hl : List Hd3} {l : List Cls3} (hc : Names X x c) (hm : Tks G X.K c m) (hi : X.N[i]? = some n) (hln : X.env.kindOf n = some .local)
      (run : JX X G (some i) (st :: suite) g) (r : HdJ X G hds hl l) :
      HdJ X G (.ExceptHandler (some (.Name x np)) (some n) (st :: suite) hp :: hds) (⟨m, some i, g⟩ :: hl) (⟨c, some i, tX3 G (some i) g⟩ :: l)
section
variable {X : Cx} {G : Gc} {W : WX} {k : Nat} {hds : List ExceptHandler} {hl : List Hd3} {l : List Cls3}
theorem HdJ.mix (h : HdJ X G hds hl l) : HdMix X hds l := by
  induction h with
  | nil => exact .nil
  | bare hc hm run r ih => exact .bare hc run.run ih
  | named hc hm hi hln run r ih => exact .named hc hi hln run.run ih
theorem behind_ok {γ : Gh} {H : Hp} {i : Option Nat} {r : SR} {E : Ends} (h : PostS G γ H (behindR i r) E W) : PostS G γ H r (endsBehind i E) (fun _ _ _ _ => False) := by
  cases i with
  | none =>
    cases r with
    | nx env A => exact h
    | rt d A => exact h
    | bk env A => exact h
    | ct env A => exact h
    | ex x env A => exact h.elim
    | stuck => exact h
  | some i =>
    cases r with
    | nx env A => exact fun γ2 H2 σ2 e2 S2 => h γ2 H2 _ e2 (S2.hide none)
    | rt d A => exact h
    | bk env A => exact fun γ2 H2 σ2 e2 S2 => h γ2 H2 _ e2 (S2.hide none)
    | ct env A => exact fun γ2 H2 σ2 e2 S2 => h γ2 H2 _ e2 (S2.hide none)
    | ex x env A => exact h.elim
    | stuck => exact h
theorem HdJ.wish (hh : HdJ X G hds hl l) {γ : Gh} {A : AH} {env : Ev} {H : Hp} {σ : L2.St} {x : Xn} {cls : Value} {ad : Option Addr} {E : Ends} (S : St3 G γ A env H σ) (xr : XR G γ H x cls ad) (h : PostS G γ H (runH hl x env A) E W) : wMix X.K W E l cls ad σ H := by
  induction hh with
  | nil => exact h γ H σ cls ad (Ext.refl _ _) S xr
  | @bare x' c m g st suite np hp hds hl l hc hm run r ih =>
    obtain ⟨C, h1, h2, h3⟩ := id xr
    refine ⟨m x.c, by rw [h2]; exact hm _ _ h1, fun hb a na => ?_, fun hb => ih ?_⟩
    · unfold runH at h
      dsimp only at h
      rw [hb] at h
      dsimp only at h
      exact ⟨γ, A, env, x, S, xr, fun j z => (by cases z), behind_ok (i := none) h⟩
    · unfold runH at h
      dsimp only at h
      rw [hb] at h
      dsimp only at h
      exact h
  | @named x' n c i m g st suite np hp hds hl l hc hm hi hln run r ih =>
    obtain ⟨C, h1, h2, h3⟩ := id xr
    refine ⟨m x.c, by rw [h2]; exact hm _ _ h1, fun hb a na => ?_, fun hb => ih ?_⟩
    · unfold runH at h
      dsimp only at h
      rw [hb] at h
      dsimp only at h
      cases q : inE (some i) env with
      | false => rw [q] at h; exact h.elim
      | true =>
        rw [q] at h
        have hlt : i < env.length := of_decide_eq_true q
        exact ⟨γ, A, env.set i none, x, S.hide _, xr, fun j z => by cases z; exact List.getElem?_set_self (by rw [← S.len]; exact hlt), behind_ok (i := some i) h⟩
    · unfold runH at h
      dsimp only at h
      rw [hb] at h
      dsimp only at h
      exact h
theorem js_try (o : XO X G W k) {body : List Stmt} {k₀ : ExceptHandler} {hds : List ExceptHandler} {pos : Pos} {f : Ev → AH → SR} (hN : X.N.Nodup) (hs : X.stack = X.env :: X.outer) (hf : X.env.frame = some X.env.locals)
    (run : ∀ (pn : List (Addr × Obj)) (xe : Value → Shared → Prop) (W' : WX), XO (X.tr pn xe) G W' k → JB (X.tr pn xe) G W' body f) (hh : HdJ X G (k₀ :: hds) hl l) : JS X G W (.Try body (k₀ :: hds) [] [] pos) (bTry f hl) := by
  refine ⟨PS.imp (ps_try_mix (tb := fun W' => tS3 G W' f) hs hf hN o.tk (fun W' pn xe tk po => (run pn xe W' ⟨tk, po, o.calm, o.room, o.gd, o.gk⟩).run) hh.mix) fun E σ H h => ?_⟩
  obtain ⟨γ, A, env, S, h⟩ := h
  refine ⟨γ, A, env, S, ?_⟩
  unfold bTry at h
  cases q : f env A with
  | ex x env1 A1 =>
    rw [q] at h
    exact fun γ1 H1 σ1 cls ad e1 S1 xr => hh.wish S1 xr (PostS.ext e1 h)
  | nx env1 A1 => rw [q] at h; exact h
  | rt d A1 => rw [q] at h; exact h
  | bk env1 A1 => rw [q] at h; exact h
  | ct env1 A1 => rw [q] at h; exact h
  | stuck => rw [q] at h; exact h
end
end F3
namespace F3
open PySem PySem.Spec
open PyProof.Rows L2
/-! ### within an except suite -/
def tEx (G : Gc) (i : Option Nat) (f : Xn → Ev → AH → Res D) (a : Addr) (cls : Value) (d : Option Addr) : TE := fun σ H Q => ∃ γ A env x, St3 G γ A env H σ ∧ XR G γ H x cls d ∧ (∀ j, i = some j → σ[j]? = some (some (.ref a))) ∧ Post G γ H (f x env A) (fun γ' _ H' d => ∀ v, VR G γ' H' d v → Q v H') (fun _ _ _ => False)
def tAx (G : Gc) (i : Option Nat) (f : Xn → Ev → AH → Res (List D)) (a : Addr) (cls : Value) (d : Option Addr) : TA := fun σ H Q => ∃ γ A env x, St3 G γ A env H σ ∧ XR G γ H x cls d ∧ (∀ j, i = some j → σ[j]? = some (some (.ref a))) ∧ Post G γ H (f x env A) (fun γ' _ H' ds => ∀ vs, VRs G γ' H' ds vs → Q vs H') (fun _ _ _ => False)
structure JXE (X : Cx) (G : Gc) (i : Option Nat) (e : Expr) (f : Xn → Ev → AH → Res D) : Prop where
  run : ∀ (a : Addr) (oe : Obj) (cls : Value) (d : Option Addr) (pn : List (Addr × Obj)), Zc cls d oe → (∃ vs, oe.data = .fields vs) → PE (X.suite a ((a, oe) :: pn)) e (tEx G i f a cls d)
structure JXA (X : Cx) (G : Gc) (i : Option Nat) (es : List Expr) (f : Xn → Ev → AH → Res (List D)) : Prop where
  run : ∀ (a : Addr) (oe : Obj) (cls : Value) (d : Option Addr) (pn : List (Addr × Obj)), Zc cls d oe → (∃ vs, oe.data = .fields vs) → PA (X.suite a ((a, oe) :: pn)) es (tAx G i f a cls d)
section
variable {X : Cx} {G : Gc} {i : Option Nat}
theorem jxe_je {e : Expr} {f : Ev → AH → Res D} (h : ∀ (a : Addr) (pn : List (Addr × Obj)), JE (X.suite a pn) G (fun _ _ _ _ => False) e f) : JXE X G i e (fun _ => f) := by
  refine ⟨fun a oe cls d pn hz hf => PE.imp (h a _).run fun σ H Q z => ?_⟩
  obtain ⟨γ, A, env, x, S, xr, hi, z⟩ := z
  exact ⟨γ, A, env, S, z⟩
theorem jx_ret {e : Expr} {pos : Pos} {f : Xn → Ev → AH → Res D} (h : JXE X G i e f) : JX X G i [.Return (some e) pos] (fun x => bRet (f x)) := by
  refine ⟨fun a oe cls d pn hz hf => pss_one (PS.imp (ps_ret (h.run a oe cls d pn hz hf)) fun E σ H z => ?_)⟩
  obtain ⟨γ, A, env, x, S, xr, hi, z⟩ := z
  exact ⟨γ, A, env, x, S, xr, hi, PostS.lft (W := fun _ _ _ _ => False) S z fun d A1 γ1 H1 e R h1 v r => h1 γ1 H1 v (Ext.refl _ _) R r⟩
theorem jxa_nil : JXA X G i [] (fun _ => sNil) := by
  refine ⟨fun a oe cls d pn hz hf => PA.imp pa_nil fun σ H Q z => ?_⟩
  obtain ⟨γ, A, env, x, S, xr, hi, z⟩ := z
  exact z γ H (Ext.refl _ _) S.rel [] VRs.nil
theorem jxa_cons {e : Expr} {es : List Expr} {f : Xn → Ev → AH → Res D} {g : Xn → Ev → AH → Res (List D)} (ha : JXE X G i e f) (hb : JXA X G i es g) (hs : starEach (e :: es) X.env = (false, eval e X.env) :: starEach es X.env := by rfl) : JXA X G i (e :: es) (fun x => sCons (f x) (g x)) := by
  refine ⟨fun a oe cls d pn hz hf => PA.imp (pa_cons (ha.run a oe cls d pn hz hf) (hb.run a oe cls d pn hz hf) hs) fun σ H Q z => ?_⟩
  obtain ⟨γ, A, env, x, S, xr, hi, z⟩ := z
  refine ⟨γ, A, env, x, S, xr, hi, Post.bind z fun c A1 γ1 H1 e1 R1 h1 v r1 => ?_⟩
  refine ⟨γ1, A1, env, x, S.to e1 R1, xr.ext e1, hi, Post.bind h1 fun y A2 γ2 H2 e2 R2 h2 vs r2 => ?_⟩
  exact h2 γ2 H2 (Ext.refl _ _) R2 _ (VRs.cons (VR.ext e2 _ _ r1) r2)
theorem jxe_tup {es : List Expr} {x1} {pos : Pos} {f : Xn → Ev → AH → Res (List D)} (h : JXA X G i es f) : JXE X G i (.Tuple es x1 pos) (fun x => sTup (f x)) := by
  refine ⟨fun a oe cls d pn hz hf => PE.imp (pe_tup (h.run a oe cls d pn hz hf)) fun σ H Q z => ?_⟩
  obtain ⟨γ, A, env, x, S, xr, hi, z⟩ := z
  refine ⟨γ, A, env, x, S, xr, hi, Post.bind z fun ds A1 γ1 H1 e1 R1 h1 vs r1 => ?_⟩
  split at h1
  · rename_i hz
    exact ⟨by rw [← r1.length]; exact hz, fun p hp => Post.new (ob := .tup vs) R1 hp h1 _ (VR.newT R1 hp r1)⟩
  · exact h1.elim
theorem tOpX_of {r : R2} {g : D → D → AH → Res D} {fa fb : Xn → Ev → AH → Res D} (hv : OkV2 G r g) {a : Addr} {cls : Value} {d : Option Addr} {σ : L2.St} {H : Hp} {Q : VK} (h : tEx G i (fun x => sBin g (fa x) (fb x)) a cls d σ H Q) : tOp r (tEx G i fa a cls d) (tEx G i fb a cls d) σ H Q := by
  obtain ⟨γ, A, env, x, S, xr, hi, h⟩ := h
  refine ⟨γ, A, env, x, S, xr, hi, Post.bind h fun y A1 γ1 H1 e1 R1 h1 v r1 => ?_⟩
  refine ⟨γ1, A1, env, x, S.to e1 R1, xr.ext e1, hi, Post.bind h1 fun z A2 γ2 H2 e2 R2 h2 u r2 => ?_⟩
  exact hv γ2 A2 H2 y z v u Q _ R2 (VR.ext e2 _ _ r1) r2 h2
theorem jxe_bin {op : Operator} {a b : Expr} {pos : Pos} {r : R2} {g : D → D → AH → Res D} {fa fb : Xn → Ev → AH → Res D} (ho : ∀ (a : Addr) (pn : List (Addr × Obj)), OpR (X.suite a pn) (binaryOp op) r) (hv : OkV2 G r g) (ha : JXE X G i a fa) (hb : JXE X G i b fb) : JXE X G i (.BinOp a op b pos) (fun x => sBin g (fa x) (fb x)) :=
  ⟨fun ad oe cls d pn hz hf => PE.imp (pe_op (ho ad _) (ha.run ad oe cls d pn hz hf) (hb.run ad oe cls d pn hz hf)) fun σ H Q h => tOpX_of hv h⟩
theorem jxe_add {a b : Expr} {pos : Pos} {fa fb : Xn → Ev → AH → Res D} (gk : G.K = X.K) (ha : JXE X G i a fa) (hb : JXE X G i b fb) : JXE X G i (.BinOp a .Add b pos) (fun x => sBin gAdd (fa x) (fb x)) :=
  jxe_bin (r := rAddU X.K) (fun a pn => op_addU (X := X.suite a pn)) (ok_add gk) ha hb
theorem jxe_ix {a b : Expr} {pos : Pos} {fa fb : Xn → Ev → AH → Res D} (gk : G.K = X.K) (ha : JXE X G i a fa) (hb : JXE X G i b fb) (hp : PlainIx b) : JXE X G i (.Subscript a b pos) (fun x => sBin gIx (fa x) (fb x)) := by
  refine ⟨fun ad oe cls d pn hz hf => ?_⟩
  obtain ⟨r, h1, h2⟩ := ix_all (X := X.suite ad ((ad, oe) :: pn)) (G := G) gk
  exact PE.imp (pe_ix h1 (ha.run ad oe cls d pn hz hf) (hb.run ad oe cls d pn hz hf) hp) fun σ H Q h => tOpX_of h2 h
theorem tCBX_of {r : List V → Hp → VK → Prop} {g : List D → AH → Res D} {f : Xn → Ev → AH → Res (List D)} (hv : OkC G r g) {a : Addr} {cls : Value} {d : Option Addr} {σ : L2.St} {H : Hp} {Q : VK} (h : tEx G i (fun x => sCall g (f x)) a cls d σ H Q) : tCB r (tAx G i f a cls d) σ H Q := by
  obtain ⟨γ, A, env, x, S, xr, hi, h⟩ := h
  exact ⟨γ, A, env, x, S, xr, hi, Post.bind h fun ds A1 γ1 H1 e1 R1 h1 vs r1 => hv γ1 A1 H1 ds vs Q _ R1 r1 h1⟩
theorem jxe_callB {id : String} {x : Str} {p pos : Pos} {e : Expr} {es : List Expr} {g : List D → AH → Res D} {f : Xn → Ev → AH → Res (List D)} (c : ∀ (a : Addr) (pn : List (Addr × Obj)), CB (X.suite a pn) G (.builtin id) g) (hg : Gl X x) (hm : X.mg x = none) (hv : bootBuiltins x = some (.builtin id)) (ha : JXA X G i (e :: es) f)
    (hn : x ≠ "__name__") (hdb : (x == ("__debug__" : Str)) = false) (he : starEach (e :: es) X.env = (false, eval e X.env) :: starEach es X.env := by rfl) (hpl : (backTo pos (starEach es X.env)).any (·.1) = false := by rfl) : JXE X G i (.Call (.Name x p) (e :: es) [] pos) (fun x => sCall g (f x)) := by
  refine ⟨fun a oe cls d pn hz hf => ?_⟩
  obtain ⟨r, h1, h2⟩ := (c a ((a, oe) :: pn)).ex
  exact PE.imp (pe_callB (X := X.suite a ((a, oe) :: pn)) h1 hg hm hv (ha.run a oe cls d pn hz hf) hn hdb he hpl) fun σ H Q h => tCBX_of h2 h
theorem jxe_callTy {T : String} {x : Str} {p pos : Pos} {e : Expr} {es : List Expr} {g : List D → AH → Res D} {f : Xn → Ev → AH → Res (List D)} (c : ∀ (a : Addr) (pn : List (Addr × Obj)), CB (X.suite a pn) G (.type T) g) (hg : Gl X x) (hm : X.mg x = none) (hv : bootBuiltins x = some (.type T)) (ha : JXA X G i (e :: es) f)
    (hn : x ≠ "__name__") (hdb : (x == ("__debug__" : Str)) = false) (he : starEach (e :: es) X.env = (false, eval e X.env) :: starEach es X.env := by rfl) (hpl : (backTo pos (starEach es X.env)).any (·.1) = false := by rfl) : JXE X G i (.Call (.Name x p) (e :: es) [] pos) (fun x => sCall g (f x)) := by
  refine ⟨fun a oe cls d pn hz hf => ?_⟩
  obtain ⟨r, h1, h2⟩ := (c a ((a, oe) :: pn)).ex
  exact PE.imp (pe_callTy (X := X.suite a ((a, oe) :: pn)) h1 hg hm hv (ha.run a oe cls d pn hz hf) hn hdb he hpl) fun σ H Q h => tCBX_of h2 h
/-- error.f, the error's class numbered c -/
def fX (c : Nat) (x : Xn) : Ev → AH → Res D := fun _ A => match x.args with
  | [d] => if x.c = c then .ok d A else .stuck
  | _ => .stuck
theorem jxe_fld {c j : Nat} {C : Addr} {n f : Str} {p pos : Pos} (hC : G.xcl c = some C) (hf : G.xfl c = f) (T : XfC X.K C) (hno : PySem.W.findIn X.K (.ref C) f = some none) (hN : X.N[j]? = some n) (hv : Vis X.env.scope n) (hd : (n == ("__debug__" : Str)) = false) (hcd : (n == ("__classdict__" : Str)) = false)
    (hb : attributeBase (.Name n p) f X.env (eval (.Name n p) X.env) = eval (.Name n p) X.env := by rfl) : JXE X G (some j) (.Attribute (.Name n p) f pos) (fX c) := by
  refine ⟨fun a oe cls d pn hz hfs => PE.imp (pe_xf (X := X) T hno hz hfs (pe_var (X := X.suite a ((a, oe) :: pn)) hN hv hd hcd) hb) fun σ H Q z => ?_⟩
  obtain ⟨γ, A, env, x, S, xr, hi, z⟩ := z
  refine ⟨.ref a, hi j rfl, rfl, ?_⟩
  unfold fX at z
  split at z
  · rename_i d1 ea
    split at z
    · rename_i ec
      obtain ⟨C', h1, h2, h3 | ⟨d2, dd, v, h3, h4, h5, h6, h7⟩⟩ := xr
      · rw [ea] at h3; cases h3.1
      · rw [ea] at h3
        cases h3
        rw [ec, hC] at h1
        cases h1
        refine ⟨h2, dd, [(G.xfl x.c, v)], v, h4, h5, by rw [ec, hf]; simp [List.lookup], z γ H (Ext.refl _ _) S.rel v h7⟩
    · exact z.elim
  · exact z.elim
end
end F3
namespace F3
open PySem PySem.Spec
open PyProof.Rows L2
/-! ### expressions beside a fact of the state -/
abbrev Fct := Gh → Hp → L2.St → Prop
def StayF (Φ : Fct) : Prop := ∀ γ H γ' H' σ, Ext γ H γ' H' → Φ γ H σ → Φ γ' H' σ
def tP (G : Gc) (W : WX) (Φ : Fct) (f : Ev → AH → Res D) : TE := fun σ H Q => ∃ γ A env, St3 G γ A env H σ ∧ Φ γ H σ ∧ Post G γ H (f env A) (fun γ' _ H' d => ∀ v, VR G γ' H' d v → Q v H') (fun c a H' => W c a σ H')
def tPA (G : Gc) (W : WX) (Φ : Fct) (f : Ev → AH → Res (List D)) : TA := fun σ H Q => ∃ γ A env, St3 G γ A env H σ ∧ Φ γ H σ ∧ Post G γ H (f env A) (fun γ' _ H' ds => ∀ vs, VRs G γ' H' ds vs → Q vs H') (fun c a H' => W c a σ H')
structure JP (X : Cx) (G : Gc) (W : WX) (Φ : Fct) (e : Expr) (f : Ev → AH → Res D) : Prop where
  run : PE X e (tP G W Φ f)
structure JPA (X : Cx) (G : Gc) (W : WX) (Φ : Fct) (es : List Expr) (f : Ev → AH → Res (List D)) : Prop where
  run : PA X es (tPA G W Φ f)
section
variable {X : Cx} {G : Gc} {W : WX} {Φ : Fct}
theorem jp_je {e : Expr} {f : Ev → AH → Res D} (h : JE X G W e f) : JP X G W Φ e f := ⟨PE.imp h.run fun σ H Q ⟨γ, A, env, S, _, z⟩ => ⟨γ, A, env, S, z⟩⟩
theorem jpa_nil : JPA X G W Φ [] sNil := ⟨PA.imp pa_nil fun σ H Q ⟨γ, A, env, S, _, z⟩ => z γ H (Ext.refl _ _) S.rel [] VRs.nil⟩
theorem jpa_cons (hΦ : StayF Φ) {e : Expr} {es : List Expr} {f : Ev → AH → Res D} {g : Ev → AH → Res (List D)} (ha : JP X G W Φ e f) (hb : JPA X G W Φ es g) (hs : starEach (e :: es) X.env = (false, eval e X.env) :: starEach es X.env := by rfl) : JPA X G W Φ (e :: es) (sCons f g) := by
  refine ⟨PA.imp (pa_cons ha.run hb.run hs) fun σ H Q z => ?_⟩
  obtain ⟨γ, A, env, S, p, z⟩ := z
  refine ⟨γ, A, env, S, p, Post.bind z fun c A1 γ1 H1 e1 R1 h1 v r1 => ?_⟩
  refine ⟨γ1, A1, env, S.to e1 R1, hΦ _ _ _ _ _ e1 p, Post.bind h1 fun y A2 γ2 H2 e2 R2 h2 vs r2 => ?_⟩
  exact h2 γ2 H2 (Ext.refl _ _) R2 _ (VRs.cons (VR.ext e2 _ _ r1) r2)
theorem jp_tup {es : List Expr} {x1} {pos : Pos} {f : Ev → AH → Res (List D)} (h : JPA X G W Φ es f) : JP X G W Φ (.Tuple es x1 pos) (sTup f) := by
  refine ⟨PE.imp (pe_tup h.run) fun σ H Q z => ?_⟩
  obtain ⟨γ, A, env, S, p, z⟩ := z
  refine ⟨γ, A, env, S, p, Post.bind z fun ds A1 γ1 H1 e1 R1 h1 vs r1 => ?_⟩
  split at h1
  · rename_i hz
    exact ⟨by rw [← r1.length]; exact hz, fun p hp => Post.new (ob := .tup vs) R1 hp h1 _ (VR.newT R1 hp r1)⟩
  · exact h1.elim
end
end F3
namespace F3
open PySem PySem.Spec
open PyProof.Rows L2
/-! ### values without a lambda -/
mutual
def nf : D → Bool
  | .fn => false
  | .tup ds => nfs ds
  | .lst ds => nfs ds
  | .scr ds => nfs ds
  | .ins _ ds => nfs ds
  | .dct _ _ ds => nfs ds
  | _ => true
def nfs : List D → Bool
  | [] => true
  | d :: ds => nf d && nfs ds
end
def nfF : List (Option D) → Bool
  | [] => true
  | some d :: r => nf d && nfF r
  | none :: r => nfF r
def nfO : AO → Bool
  | .lst ds => nfs ds
  | .ins _ fs => nfF fs
  | .dct _ _ ds => nfs ds
  | .fdct _ _ ds => nfs ds
  | .dead => true
def nfA : List AO → Bool
  | [] => true
  | o :: r => nfO o && nfA r
def Gc.wl (G : Gc) (l : Option Lm) : Gc := { G with lam := l }
section
variable {G : Gc} {γ : Gh} {H : Hp} {A : AH} {l : Option Lm}
theorem wl_and {a b : Bool} {q : Prop} (h : (a && b) = true ∨ q) : (a = true ∨ q) ∧ (b = true ∨ q) := by
  rcases h with h | h
  · rw [Bool.and_eq_true] at h
    exact ⟨.inl h.1, .inl h.2⟩
  · exact ⟨.inr h, .inr h⟩
mutual
theorem VR.wl : ∀ (d : D) (v : V), (nf d = true ∨ G.lam = none) → VR G γ H d v → VR (G.wl l) γ H d v
  | .non, v, _, h => by unfold VR at h ⊢; exact h
  | .bl b, v, _, h => by unfold VR at h ⊢; exact h
  | .int b, v, _, h => by unfold VR at h ⊢; exact h
  | .str b, v, _, h => by unfold VR at h ⊢; exact h
  | .tup ds, v, n, h => by
    unfold VR at h ⊢; unfold nf at n
    obtain ⟨a, vs, e1, f, r⟩ := h
    exact ⟨a, vs, e1, f, VRs.wl ds vs n r⟩
  | .lst ds, v, n, h => by
    unfold VR at h ⊢; unfold nf at n
    obtain ⟨a, vs, e1, f, n0, r⟩ := h
    exact ⟨a, vs, e1, f, n0, VRs.wl ds vs n r⟩
  | .scr ds, v, n, h => by
    unfold VR at h ⊢; unfold nf at n
    obtain ⟨a, vs, e1, f, r⟩ := h
    exact ⟨a, vs, e1, f, VRs.wl ds vs n r⟩
  | .ins c ds, v, n, h => by
    unfold VR at h ⊢; unfold nf at n
    obtain ⟨a, C, dx, vs, e1, n1, n2, hc, h1, h2, r⟩ := h
    exact ⟨a, C, dx, vs, e1, n1, n2, hc, h1, h2, VRs.wl ds vs n r⟩
  | .dct t ks ds, v, n, h => by
    unfold VR at h ⊢; unfold nf at n
    obtain ⟨a, o, u, vs, e1, n1, h1, hk, r⟩ := h
    exact ⟨a, o, u, vs, e1, n1, h1, hk, VRs.wl ds _ n r⟩
  | .ref i, v, _, h => by unfold VR at h ⊢; exact h
  | .fn, v, n, h => by
    unfold VR at h
    obtain ⟨L, e, _⟩ := h
    rcases n with n | n
    · cases n
    · rw [n] at e; cases e
theorem VRs.wl : ∀ (ds : List D) (vs : List V), (nfs ds = true ∨ G.lam = none) → VRs G γ H ds vs → VRs (G.wl l) γ H ds vs
  | [], vs, _, h => by unfold VRs at h ⊢; exact h
  | d :: ds, vs, n, h => by
    unfold VRs at h ⊢; unfold nfs at n
    obtain ⟨n1, n2⟩ := wl_and n
    obtain ⟨v, r, e1, h1, h2⟩ := h
    exact ⟨v, r, e1, VR.wl d v n1 h1, VRs.wl ds r n2 h2⟩
end
theorem FRs.wl : ∀ {fs : List (Option D)} {vs : List (Option V)}, (nfF fs = true ∨ G.lam = none) → FRs G γ H fs vs → FRs (G.wl l) γ H fs vs
  | [], vs, _, h => h
  | none :: fs, vs, n, h => by
    obtain ⟨vo, r, rfl, h1, h2⟩ := h
    exact ⟨vo, r, rfl, by cases vo <;> exact h1, FRs.wl n h2⟩
  | some d :: fs, vs, n, h => by
    obtain ⟨vo, r, rfl, h1, h2⟩ := h
    unfold nfF at n
    obtain ⟨n1, n2⟩ := wl_and n
    refine ⟨vo, r, rfl, ?_, FRs.wl n2 h2⟩
    cases vo with
    | none => exact h1
    | some v => exact VR.wl d v n1 h1
theorem nfA_at : ∀ {A : List AO} {i : Nat} {o : AO}, nfA A = true → A[i]? = some o → nfO o = true
  | [], i, o, _, e => by simp at e
  | x :: l, 0, o, b, e => by
    unfold nfA at b; rw [Bool.and_eq_true] at b
    simp at e; subst e; exact b.1
  | x :: l, i + 1, o, b, e => by
    unfold nfA at b; rw [Bool.and_eq_true] at b
    exact nfA_at b.2 (by simpa using e)
theorem Rel.wl (n : nfA A = true ∨ G.lam = none) (R : Rel G γ A H) : Rel (G.wl l) γ A H := by
  refine ⟨R.len, fun i o e => ?_, R.dom, R.tab⟩
  obtain ⟨a, e1, e2, r⟩ := R.at_ i o e
  have no : nfO o = true ∨ G.lam = none := n.elim (fun n => .inl (nfA_at n e)) .inr
  refine ⟨a, e1, e2, ?_⟩
  cases o with
  | lst ds => obtain ⟨vs, h1, r⟩ := r; exact ⟨vs, h1, VRs.wl _ _ no r⟩
  | ins c fs =>
    obtain ⟨C, dx, vs, hc, hs, h1, hn, r⟩ := r
    exact ⟨C, dx, vs, hc, hs, h1, hn, FRs.wl no r⟩
  | dct t ks ds => obtain ⟨u, vs, h1, h2, r⟩ := r; exact ⟨u, vs, h1, h2, VRs.wl _ _ no r⟩
  | fdct t ks ds => obtain ⟨o, u, vs, h1, h2, r⟩ := r; exact ⟨o, u, vs, h1, h2, VRs.wl _ _ no r⟩
  | dead => trivial
theorem XR.wl {x : Xn} {cls : Value} {ad : Option Addr} (n : nfs x.args = true ∨ G.lam = none) (h : XR G γ H x cls ad) : XR (G.wl l) γ H x cls ad := by
  obtain ⟨C, h1, h2, h3 | ⟨d, a, v, h3, h4, h5, h6, h7⟩⟩ := h
  · exact ⟨C, h1, h2, .inl h3⟩
  · rw [h3] at n
    unfold nfs at n
    exact ⟨C, h1, h2, .inr ⟨d, a, v, h3, h4, h5, h6, VR.wl _ _ (wl_and n).1 h7⟩⟩
/-- what comes back bears no lambda -/
def chk (r : Res D) : Res D := match r with
  | .ok d A => if nf d && nfA A then .ok d A else .stuck
  | .ex x A => if nfs x.args && nfA A then .ex x A else .stuck
  | .stuck => .stuck
theorem Post.ofL {r : Res D} {Q : VK} {Wx : WXe} (h : Post G γ H (chk r) (fun γ' _ H' d => ∀ v, VR G γ' H' d v → Q v H') Wx) : Post (G.wl l) γ H r (fun γ' _ H' d => ∀ v, VR (G.wl l) γ' H' d v → Q v H') Wx := by
  cases r with
  | ok d A1 =>
    intro γ1 H1 e R v r1
    unfold chk at h
    dsimp only at h
    split at h
    · rename_i n
      rw [Bool.and_eq_true] at n
      exact h γ1 H1 e (Rel.wl (G := G.wl l) (l := G.lam) (.inl n.2) R) v (VR.wl (G := G.wl l) (l := G.lam) d v (.inl n.1) r1)
    · exact h.elim
  | ex x A1 =>
    intro γ1 H1 cls ad e R r1
    unfold chk at h
    dsimp only at h
    split at h
    · rename_i n
      rw [Bool.and_eq_true] at n
      exact h γ1 H1 cls ad e (Rel.wl (G := G.wl l) (l := G.lam) (.inl n.2) R) (XR.wl (G := G.wl l) (l := G.lam) (.inl n.1) r1)
    · exact h.elim
  | stuck => exact h
theorem Post.toL (hl : G.lam = none) {r : Res D} {Q : VK} {Wx : WXe} (h : Post (G.wl l) γ H r (fun γ' _ H' d => ∀ v, VR (G.wl l) γ' H' d v → Q v H') Wx) : Post G γ H r (fun γ' _ H' d => ∀ v, VR G γ' H' d v → Q v H') Wx := by
  cases r with
  | ok d A1 => exact fun γ1 H1 e R v r1 => h γ1 H1 e (R.wl (.inr hl)) v (VR.wl d v (.inr hl) r1)
  | ex x A1 => exact fun γ1 H1 cls ad e R r1 => h γ1 H1 cls ad e (R.wl (.inr hl)) (r1.wl (.inr hl))
  | stuck => exact h
end
/-! ### a lambda acts; a def that takes one -/
/-- the closure L.f, made in (s0, L.H) below the frames stk, acts as φ -/
structure ActF (P : Program) (w : World) (K : PySem.W.Frag) (mg : Str → Option Value) (base : Heap) (G : Gc) (kk : Nat) (stk : List Env) (s0 : Shared) (L : Lm) (φ : List D → AH → Res D) : Prop where
  fn : ∀ (H1 : Hp) (h1 : Heap), Un (frs stk) [] L.H H1 s0.heap h1 → PySem.W.FnAt L.f h1
  run : ∀ (A : Around) (outer : List Env) (s1 : Shared) (H1 : Hp) (us : List Value) (vs : List V) (ds : List D) (γ : Gh) (Ah : AH) (Q : VK) (E : XK), Room kk A → A.guards = some [] → Env0 P w K mg base A outer s1 H1 → Un (frs stk) [] L.H H1 s0.heap s1.heap → H1 L.c = some (LamX.CodeO L.c L.q) → Ext0 L.γ L.H γ H1 → Vals vs us → Rel G γ Ah H1 → VRs G γ H1 ds vs →
    Post G γ H1 (φ ds Ah) (fun γ' _ H' d => ∀ v, VR G γ' H' d v → Q v H') E → codeAny (model P w) A (.call (.ref L.f) ⟨us, []⟩) (CR (L2.CX P w) outer P w H1 s1 Q E) s1
/-- a def that takes a lambda last -/
def FnL (P : Program) (w : World) (K : PySem.W.Frag) (mg : Str → Option Value) (base : Heap) (G : Gc) (k : Nat) (g : Addr) (m : (List D → AH → Res D) → List D → AH → Res D) : Prop :=
  ∀ (kk : Nat) (A : Around) (outer : List Env) (s : Shared) (H : Hp) (us : List Value) (vs : List V) (ds : List D) (γ : Gh) (Ah : AH) (Q : VK) (E : XK) (f c : Addr) (q : Str) (φ : List D → AH → Res D), Room (kk + k) A → A.guards = some [] → Env0 P w K mg base A outer s H → Vals vs us → Rel G γ Ah H → VRs G γ H ds vs →
    H c = some (LamX.CodeO c q) → γ.o c = none → ActF P w K mg base G kk outer s ⟨f, c, q, γ, H⟩ φ → Post G γ H (m φ ds Ah) (fun γ' _ H' d => ∀ v, VR G γ' H' d v → Q v H') E → codeAny (model P w) A (.call (.ref g) ⟨us ++ [.ref f], []⟩) (CR (L2.CX P w) outer P w H s Q E) s
def sAct (i : Nat) (φ : List D → AH → Res D) (fa : Ev → AH → Res (List D)) : Ev → AH → Res D := fun env A => match env[i]? with
  | some (some .fn) => (fa env A).bind fun ds A1 => if nfs ds && nfA A1 then φ ds A1 else .stuck
  | _ => .stuck
section
variable {X : Cx} {G : Gc} {W : WX} {k kk : Nat} {L : Lm} {φ : List D → AH → Res D}
/-- behind the arguments: the closure is called -/
theorem run_act {pins : List (Addr × Obj)} {σ : L2.St} {H : Hp} {s : Shared} {Q : VK} {us : List Value} {vs : List V} {ds : List D} {γ : Gh} {A : AH} (o : XO X (G.wl (some L)) W k) (hk : kk ≤ k) (hl : G.lam = none) (act : ActF X.prog X.w X.K X.mg X.base G kk X.outer X.s_0 L φ) (hL : L.H = X.H_0) (hex : X.ex = [])
    (I : Inv X pins σ H s) (hc : H L.c = some (LamX.CodeO L.c L.q)) (hx : Ext0 L.γ L.H γ H) (r : Vals vs us) (R : Rel (G.wl (some L)) γ A H) (rv : VRs (G.wl (some L)) γ H ds vs) (hn : (nfs ds && nfA A) = true)
    (h : Post (G.wl (some L)) γ H (φ ds A) (fun γ' _ H' d => ∀ v, VR (G.wl (some L)) γ' H' d v → Q v H') (fun c a H' => W c a σ H')) : wpAny (model X.prog X.w) X.A (call (.ref L.f) us) (EP X pins σ Q) X.xe s := by
  rw [Bool.and_eq_true] at hn
  have un : Un (frs X.outer) [] L.H H X.s_0.heap s.heap := hL ▸ hex ▸ I.base
  refine wpAny_call (codeAny_mono (act.run X.A X.stack s H us vs ds γ A Q (WE W σ) (o.room.mono hk) o.gd I.env0 un hc hx r (Rel.wl (G := G.wl (some L)) (l := G.lam) (.inl hn.2) R) (VRs.wl (G := G.wl (some L)) (l := G.lam) _ _ (.inl hn.1) rv) (Post.toL hl h)) fun z s' hq => ?_)
  cases z with
  | error e => exact passAt o.tk σ _ _ _ _ _ I hq
  | ok fl =>
    cases fl with
    | ret u => exact I.after hq
    | _ => exact False.elim hq
theorem je_act0 (o : XO X (G.wl (some L)) W k) (hk : kk ≤ k) (hl : G.lam = none) (act : ActF X.prog X.w X.K X.mg X.base G kk X.outer X.s_0 L φ) (hL : L.H = X.H_0) (hex : X.ex = []) {i : Nat} {a : Str} {p1 p2 : Pos} (hN : X.N[i]? = some a) (hv : Vis X.env.scope a) (hd : (a == ("__debug__" : Str)) = false) (hcd : (a == ("__classdict__" : Str)) = false) :
    JE X (G.wl (some L)) W (.Call (.Name a p1) [] [] p2) (sAct i φ sNil) := by
  refine ⟨⟨fun pins s σ H Q I h => ?_⟩⟩
  obtain ⟨γ, A, env, S, h⟩ := h
  unfold sAct at h
  split at h
  · rename_i e
    obtain ⟨v, e1, r⟩ := S.er i _ e
    unfold VR at r
    obtain ⟨L', e2, rfl, hc, nc, hx⟩ := r
    cases e2
    refine wpAny_Call_Name_kw (thn ((pe_var (pos := p1) (i := i) hN hv hd hcd).run pins s σ H (fun v H1 => v = .ref L.f ∧ H1 = H) I ⟨.ref L.f, e1, rfl, rfl⟩) fun u s1 ⟨v, H1, I1, r1, q1⟩ => ?_)
    obtain ⟨ev, eH⟩ := q1
    subst ev
    subst eH
    obtain rfl : u = Value.ref L.f := r1
    have un : Un (frs X.outer) [] L.H H1 X.s_0.heap s1.heap := hL ▸ hex ▸ I1.base
    refine PySem.W.callWith_F0 (act.fn H1 _ un) ?_
    unfold sNil Res.bind at h
    dsimp only at h
    split at h
    · rename_i hn
      exact run_act o hk hl act hL hex I1 hc hx .nil S.rel VRs.nil hn h
    · exact h.elim
  · exact h.elim
theorem je_act (o : XO X (G.wl (some L)) W k) (hk : kk ≤ k) (hl : G.lam = none) (act : ActF X.prog X.w X.K X.mg X.base G kk X.outer X.s_0 L φ) (hL : L.H = X.H_0) (hex : X.ex = []) {i : Nat} {a : Str} {p1 p2 : Pos} {e : Expr} {es : List Expr} {fa : Ev → AH → Res (List D)} (hN : X.N[i]? = some a) (hv : Vis X.env.scope a) (hd : (a == ("__debug__" : Str)) = false) (hcd : (a == ("__classdict__" : Str)) = false)
    (ha : JA X (G.wl (some L)) W (e :: es) fa) (he : starEach (e :: es) X.env = (false, eval e X.env) :: starEach es X.env := by rfl) (hpl : (backTo p2 (starEach es X.env)).any (·.1) = false := by rfl) :
    JE X (G.wl (some L)) W (.Call (.Name a p1) (e :: es) [] p2) (sAct i φ fa) := by
  refine ⟨⟨fun pins s σ H Q I h => ?_⟩⟩
  obtain ⟨γ, A, env, S, h⟩ := h
  unfold sAct at h
  split at h
  · rename_i e'
    obtain ⟨v, e1, r⟩ := S.er i _ e'
    unfold VR at r
    obtain ⟨L', e2, rfl, hc, nc, hx⟩ := r
    cases e2
    refine wpAny_Call_Name_kw (thn ((pe_var (pos := p1) (i := i) hN hv hd hcd).run pins s σ H (fun v H1 => v = .ref L.f ∧ H1 = H) I ⟨.ref L.f, e1, rfl, rfl⟩) fun u s1 ⟨v, H1, I1, r1, q1⟩ => ?_)
    obtain ⟨ev, eH⟩ := q1
    subst ev
    subst eH
    obtain rfl : u = Value.ref L.f := r1
    have un : Un (frs X.outer) [] L.H H1 X.s_0.heap s1.heap := hL ▸ hex ▸ I1.base
    refine PySem.W.callWith_F (act.fn H1 _ un) (thn (ha.run.run p2 pins s1 σ H1 (fun vs H2 => ∃ γ2 A2 ds, Rel (G.wl (some L)) γ2 A2 H2 ∧ VRs (G.wl (some L)) γ2 H2 ds vs ∧ H2 L.c = some (LamX.CodeO L.c L.q) ∧ Ext0 L.γ L.H γ2 H2 ∧ (nfs ds && nfA A2) = true ∧ Post (G.wl (some L)) γ2 H2 (φ ds A2) (fun γ' _ H' d => ∀ v, VR (G.wl (some L)) γ' H' d v → Q v H') (fun c a H' => W c a σ H')) I1
      ⟨γ, A, env, S, Post.bind h fun ds A2 γ2 H2 e2 R2 h2 vs r2 => ?_⟩) fun us s2 ⟨vs, H2, I2, r2, γ2, A2, ds, R2, rv, hc2, hx2, hn, h2⟩ => ⟨act.fn H2 _ (hL ▸ hex ▸ I2.base), run_act o hk hl act hL hex I2 hc2 hx2 r2 R2 rv hn h2⟩) he hpl
    split at h2
    · rename_i hn
      exact ⟨γ2, A2, ds, R2, r2, (e2.keep _ _ hc nc LamX.codeO_ne).1, hx.trans e2.toExt0, hn, h2⟩
    · exact h2.elim
  · exact h.elim
end
end F3
namespace F3
open PySem PySem.Spec
open PyProof.Rows L2
section
variable {P : Program} {w : World} {K : PySem.W.Frag} {mg : Str → Option Value} {base : Heap} {G : Gc}
theorem post_runF {n p : Nat} {g : Ev → AH → SR} {ds : List D} {A : AH} {γ : Gh} {H : Hp} {Q : VK} {E : XK} (R : Rel G γ A H) (h : Post G γ H (runF n p g ds A) (fun γ' _ H' d => ∀ v, VR G γ' H' d v → Q v H') E) :
    ds.length = p ∧ PostS G γ H (g (ds.map some ++ List.replicate (n - p) none) A) { nx := fun _ H' => Q .non H', rt := Q } (fun c d _ H => E c d H) := by
  unfold runF at h
  split at h
  · rename_i hl
    refine ⟨hl, ?_⟩
    cases q : g (ds.map some ++ List.replicate (n - p) none) A with
    | nx env1 A1 =>
      rw [q] at h
      exact fun γ' H' σ' e S => Post.clean R h γ' H' .non e S.rel (by unfold VR; rfl)
    | rt d A1 =>
      rw [q] at h
      exact fun γ' H' v e R' r' => Post.clean R h γ' H' v e R' r'
    | ex x env1 A1 =>
      rw [q] at h
      exact fun γ' H' σ' cls ad e S xr => Post.cleanX R h γ' H' cls ad e S.rel xr
    | bk env1 A1 => rw [q] at h; exact h.elim
    | ct env1 A1 => rw [q] at h; exact h.elim
    | stuck => rw [q] at h; exact h.elim
  · exact h.elim
/-- a def that takes a lambda last: φ, what the lambda does -/
def runL (n p : Nat) (g : (List D → AH → Res D) → Ev → AH → SR) (φ : List D → AH → Res D) (ds : List D) (A : AH) : Res D := chk (runF n p (g φ) (ds ++ [.fn]) A)
theorem Vals.app1 {vs : List V} {us : List Value} {v : V} {u : Value} (h : Vals vs us) (r : L2.RelV v u) : Vals (vs ++ [v]) (us ++ [u]) := by
  induction h with
  | nil => exact .cons r .nil
  | cons a b ih => exact .cons a ih
theorem fnL_of {x qual : Str} {st : Stmt} {g : Addr} {fd : FuncData} {N ps : List Str} {k : Nat} {b : (List D → AH → Res D) → Ev → AH → SR} (F : Fun K x qual st g fd) (Sc : FnScope N ps (defScope st)) (hK : G.K = K) (hG : G.lam = none)
    (hb : ∀ (kV doc pm : Value) (an : Option Addr) (cdv ct : Value) (us : List Value), us.length = ps.length → bindArgs (PySem.W.fnOf x qual (defArgs st) (defBody st) (defScope st) .none kV doc pm an cdv ct) ⟨us, []⟩ = pure (ps.zip us))
    (body : ∀ (kk : Nat) (cdv : Value) (A : Around) (outer : List Env) (s : Shared) (E : XK) (L : Lm) (φ : List D → AH → Res D), ActF P w K mg base G kk outer s L φ → XO (cxOf (L2.CX P w) P w K mg base N qual (defScope st) g cdv A outer s L.H E) (G.wl (some L)) (fun c d _ H => E c d H) (kk + k) →
      JB (cxOf (L2.CX P w) P w K mg base N qual (defScope st) g cdv A outer s L.H E) (G.wl (some L)) (fun c d _ H => E c d H) (defBody st) (b φ)) :
    FnL P w K mg base G (k + 1) g (runL N.length ps.length b) := by
  intro kk A outer s H us vs ds γ Ah Q E f c q φ hr hg e0 r R rv hc nc act h
  obtain ⟨oc, od, kV, doc, pm, an, cdv, ct, osl, rfl, lk, hcd⟩ := F.ex
  unfold runL at h
  have R' : Rel (G.wl (some ⟨f, c, q, γ, H⟩)) γ Ah H := R.wl (.inr hG)
  have rf : VR (G.wl (some ⟨f, c, q, γ, H⟩)) γ H .fn (.ref f) := by unfold VR; exact ⟨_, rfl, rfl, hc, nc, (Ext.refl γ H).toExt0⟩
  have rv' : VRs (G.wl (some ⟨f, c, q, γ, H⟩)) γ H (ds ++ [D.fn]) (vs ++ [.ref f]) := (VRs.wl _ _ (.inr hG) rv).append (VRs.cons rf VRs.nil)
  obtain ⟨hl, h'⟩ := post_runF R' (Post.ofL (l := some ⟨f, c, q, γ, H⟩) h)
  have hlv : (vs ++ [V.ref f]).length = ps.length := by rw [← rv'.length]; exact hl
  have hNp : ps.length ≤ N.length := by have := congrArg List.length Sc.pre; rw [List.length_take] at this; omega
  have r' : Vals (vs ++ [V.ref f]) (us ++ [Value.ref f]) := Vals.app1 r rfl
  refine LamX.run_ofS (N := N) (us := us ++ [.ref f]) (vs := vs ++ [.ref f]) lk hcd Sc hr e0 (.of_eq (hb _ _ _ _ _ _ _ (by rw [← r'.length]; exact hlv))) r' hlv fun hr' => ?_
  have o : XO (cxOf (L2.CX P w) P w K mg base N qual (defScope st) g cdv A outer s H E) (G.wl (some ⟨f, c, q, γ, H⟩)) (fun c d _ H => E c d H) (kk + k) :=
    ⟨takes_of rfl rfl rfl rfl, passes_of rfl, rfl, hr', hg, hK⟩
  refine ⟨_, (body kk cdv A outer s E ⟨f, c, q, γ, H⟩ φ act o).run, γ, Ah, (ds ++ [D.fn]).map some ++ List.replicate (N.length - ps.length) none, ⟨R', ?_, er_start rv' N (by rw [hlv])⟩, h'⟩
  unfold L2.start
  simp only [List.length_append, List.length_map, List.length_replicate, List.length_cons, List.length_nil] at hl hlv ⊢
  omega
/-- the code of the def at f -/
def fnCode (K : PySem.W.Frag) (f : Addr) : Option Value := match K.lookup f with
  | some ⟨_, _, .func fd, _⟩ => some fd.code
  | _ => none
/-- a def whose code object is known (it makes lambdas) -/
theorem fnK_of {x qual : Str} {st : Stmt} {f c : Addr} {fd : FuncData} {N ps : List Str} {k : Nat} {g : Ev → AH → SR} (F : Fun K x qual st f fd) (hc : fnCode K f = some (.ref c)) (Sc : FnScope N ps (defScope st)) (hK : G.K = K)
    (hb : ∀ (kV doc pm : Value) (an : Option Addr) (cdv ct : Value) (us : List Value), us.length = ps.length → bindArgs (PySem.W.fnOf x qual (defArgs st) (defBody st) (defScope st) .none kV doc pm an cdv ct) ⟨us, []⟩ = pure (ps.zip us))
    (body : ∀ (A : Around) (outer : List Env) (s : Shared) (H : Hp) (E : XK), XO (cxOf (L2.CX P w) P w K mg base N qual (defScope st) f (.ref c) A outer s H E) G (fun c d _ H => E c d H) k →
      JB (cxOf (L2.CX P w) P w K mg base N qual (defScope st) f (.ref c) A outer s H E) G (fun c d _ H => E c d H) (defBody st) g) :
    FnG P w K mg base G (k + 1) f (runF N.length ps.length g) := by
  intro A outer s H us vs ds γ Ah Q E hr hg e0 r R rv h
  obtain ⟨oc, od, kV, doc, pm, an, cdv, ct, osl, rfl, lk, hcd⟩ := F.ex
  obtain rfl : cdv = .ref c := by
    unfold fnCode at hc
    rw [lk] at hc
    exact Option.some.inj hc
  obtain ⟨hl, h'⟩ := post_runF R h
  have hlv : vs.length = ps.length := by rw [← rv.length]; exact hl
  have hNp : ps.length ≤ N.length := by have := congrArg List.length Sc.pre; rw [List.length_take] at this; omega
  refine LamX.run_ofS (N := N) (us := us) (vs := vs) lk hcd Sc hr e0 (.of_eq (hb _ _ _ _ _ _ us (by rw [← r.length]; exact hlv))) r hlv fun hr' => ?_
  have o : XO (cxOf (L2.CX P w) P w K mg base N qual (defScope st) f (.ref c) A outer s H E) G (fun c d _ H => E c d H) k :=
    ⟨takes_of rfl rfl rfl rfl, passes_of rfl, rfl, hr', hg, hK⟩
  refine ⟨_, (body A outer s H E o).run, γ, Ah, ds.map some ++ List.replicate (N.length - ps.length) none, ⟨R, ?_, er_start rv N (by rw [hlv])⟩, h'⟩
  unfold L2.start
  simp only [List.length_append, List.length_map, List.length_replicate]
  omega
end
end F3
namespace F3
open PySem PySem.Spec
open PyProof.Rows L2
/-! ### a lambda made -/
abbrev lamObj (q : Str) (params : Arguments) (body : Expr) (scope : Scope) (cl : List (Str × Addr)) (dV doc pm : Value) (c' : Addr) (ctv : Value) : Obj := PySem.W.kdv_obj "<lambda>" q params (.expr body) scope cl dV doc pm c' ctv
section
variable {X : Cx} {G : Gc} {γ : Gh} {A : AH} {pins : List (Addr × Obj)} {σ : L2.St} {H : Hp} {s : Shared}
/-- a code object joins its table -/
theorem table_more {P c' : Addr} {q : Str} {ps : Array Value} {pos : Pos} (R : Rel G γ A H) (hm : (P, q) ∈ G.T) (hu : ∀ p ∈ G.T, p.1 = P → p.2 = q) (hP : H P = some (.tbl ps)) (ht : TriplesOk ps.toList) (nC : H c' = none) :
    Ext γ H γ (upd (upd H P (.tbl (ps ++ #[rawInt pos.line, rawInt pos.col, .ref c']))) c' (LamX.CodeO c' q)) ∧ Rel G γ A (upd (upd H P (.tbl (ps ++ #[rawInt pos.line, rawInt pos.col, .ref c']))) c' (LamX.CodeO c' q)) := by
  obtain ⟨nP, ps', hP', _, hold⟩ := R.tab _ hm
  have eq1 : ps' = ps := by
    rw [hP] at hP'
    cases hP'
    rfl
  subst eq1
  have nC' : γ.o c' = none := R.o_none nC
  have nPc : P ≠ c' := ne_of_none hP nC
  have off : ∀ b, b ≠ P → b ≠ c' → upd (upd H P (.tbl (ps' ++ #[rawInt pos.line, rawInt pos.col, .ref c']))) c' (LamX.CodeO c' q) b = H b := fun b h1 h2 => by rw [upd_ne h2, upd_ne h1]
  have own : ∀ b x, γ.o b = some x → b ≠ P ∧ b ≠ c' := fun b x e => ⟨fun z => (by rw [z, nP] at e; cases e), fun z => (by rw [z, nC'] at e; cases e)⟩
  have keep : ∀ b ob, H b = some ob → γ.o b = none → (∀ ps, ob ≠ .tbl ps) → upd (upd H P (.tbl (ps' ++ #[rawInt pos.line, rawInt pos.col, .ref c']))) c' (LamX.CodeO c' q) b = some ob ∧ γ.o b = none := fun b ob e n t => by
    refine ⟨?_, n⟩
    rw [off b (fun z => ?_) (ne_of_none e nC)]
    · exact e
    · subst z
      rw [hP] at e
      cases e
      exact t _ rfl
  have E0 : Ext0 γ H γ (upd (upd H P (.tbl (ps' ++ #[rawInt pos.line, rawInt pos.col, .ref c']))) c' (LamX.CodeO c' q)) := ⟨fun _ _ e => e, keep⟩
  refine ⟨⟨E0, fun b ob e n => ⟨?_, n⟩⟩, ⟨R.len, fun i o e => ?_, fun b x e => ?_, fun p hp => ?_⟩⟩
  · obtain ⟨h1, h2⟩ := own b _ n
    rw [off b h1 h2]; exact e
  · obtain ⟨a, e1, e2, r⟩ := R.at_ i o e
    obtain ⟨h1, h2⟩ := own a _ e2
    exact ⟨a, e1, e2, r.ext (j := i) E0 (off a h1 h2) fun dx q => let ⟨k1, k2⟩ := own dx _ q; ⟨off dx k1 k2, q⟩⟩
  · obtain ⟨h1, h2⟩ := own b _ e
    rw [off b h1 h2]
    exact R.dom b x e
  · by_cases hb : p.1 = P
    · refine ⟨by rw [hb]; exact nP, _, by rw [hb, upd_ne nPc, upd_same], ?_, fun p' cv hcv => ?_⟩
      · have eL : (ps' ++ #[rawInt pos.line, rawInt pos.col, .ref c']).toList = ps'.toList ++ [rawInt pos.line, rawInt pos.col, .ref c'] := by simp
        rw [eL]; exact PySem.TriplesOk_snoc _ _ _ _ ht
      · have eL : (ps' ++ #[rawInt pos.line, rawInt pos.col, .ref c']).toList = ps'.toList ++ [rawInt pos.line, rawInt pos.col, .ref c'] := by simp
        rw [eL] at hcv
        rw [hu p hp hb]
        rcases LamX.among_app _ ht hcv with z | z
        · obtain ⟨c0, e1, e2, e3⟩ := hold p' cv z
          obtain ⟨k1, k2⟩ := keep _ _ e2 e3 LamX.codeO_ne
          exact ⟨c0, e1, k1, k2⟩
        · exact ⟨c', z, upd_same, nC'⟩
    · obtain ⟨n, ps2, a1, a2, a3⟩ := R.tab p hp
      refine ⟨n, ps2, by rw [off _ hb (ne_of_none a1 nC)]; exact a1, a2, fun p' cv hcv => ?_⟩
      obtain ⟨c0, e1, e2, e3⟩ := a3 p' cv hcv
      obtain ⟨k1, k2⟩ := keep _ _ e2 e3 LamX.codeO_ne
      exact ⟨c0, e1, k1, k2⟩
theorem lam_tail {c P : Addr} {params : Arguments} {body : Expr} {scope : Scope} {pos : Pos} {fl : Nat} {dV : Value} {E : Value → Shared → Prop} {Q : Value → Shared → Prop} (I : Inv X pins σ H s) (TB : LamX.TabB X.base X.mg c P) (hcode : X.env.code = .ref c) (R : Rel G γ A H)
    (hm : (P, X.env.qual ++ "<lambda>") ∈ G.T) (hu : ∀ p ∈ G.T, p.1 = P → p.2 = X.env.qual ++ "<lambda>") (hfree : ∀ y ∈ scope.names, y.2 = .free → ∃ c, X.env.cells.lookup y.1 = some c)
    (h : ∀ (f c' : Addr) (doc pm ctv : Value) (H1 : Hp) (s' : Shared), Inv X pins σ H1 s' → Ext γ H γ H1 → Rel G γ A H1 → s'.heap.get? f = some (lamObj (X.env.qual ++ "<lambda>") params body scope (cloFrom X.env.cells scope.names []) dV doc pm c' ctv) → H1 f = none → f ∉ frs X.stack →
      H1 c' = some (LamX.CodeO c' (X.env.qual ++ "<lambda>")) → γ.o c' = none → (∀ b o, s.heap.get? b = some o → H b = none → s'.heap.get? b = some o ∧ H1 b = none) → Q (.ref f) s') :
    wpAny (model X.prog X.w) X.A (makeTail "<lambda>" (X.env.qual ++ "<lambda>") params (.expr body) scope X.env dV .none none pos fl) Q E s := by
  obtain ⟨nP, ps, hP, ht, ha⟩ := R.tab _ hm
  have bP : s.heap.BuiltinsAt X.mg P := TB.bm.keeps I.bk
  have hP' : s.heap.get? P = some { cls := .none, data := .fields ps } := I.hok P _ hP
  have nofr : ∀ f, s.heap.objs.size ≤ f → f ∉ frs X.stack := fun f hf z => by
    rcases List.mem_cons.mp (I.stkSub _ z) with e | e
    · have h1 := I.lt
      rw [← e] at h1
      exact Nat.lt_irrefl _ (Nat.lt_of_lt_of_le h1 hf)
    · exact I.nofs hf e
  cases hc : codeAmong pos ps.toList with
  | none =>
    refine PySem.W.kdv_makeTail (mg := X.mg) (c := c) (P := P) (ps := ps) (closure_ok hfree) I.ok.glob (I.mod.glob.keeps I.bk) hcode (TB.code.keeps I.bk) hP' ht hc TB.gP bP fun c' ctv doc h' tk hx hge hlt hrec htb => ?_
    obtain ⟨c2, oc, vs, t, e2, hoc, hd, hv⟩ := hrec
    cases e2
    have hsz : s.heap.objs.size ≤ h'.objs.size := Nat.le_trans hge (Nat.le_of_lt hlt)
    have nC : H c' = none := I.hok.fresh hge
    have I1 := LamX.inv_table (t' := tk) (more := #[rawInt pos.line, rawInt pos.col, .ref c']) (h' := h'.push (lamObj (X.env.qual ++ "<lambda>") params body scope (cloFrom X.env.cells scope.names []) dV doc ((X.mg "__name__").getD .none) c' ctv)) I hP
      (fun b o hb e => Heap.get?_push_of_some _ (hx b o hb e)) (Heap.get?_push_of_some _ htb) hge ⟨oc, vs, t, Heap.get?_push_of_some _ hoc, hd, hv⟩
    obtain ⟨E1, R1⟩ := table_more (pos := pos) R hm hu hP ht nC
    refine h h'.objs.size c' doc ((X.mg "__name__").getD .none) ctv _ _ I1 E1 R1 (Heap.get?_push_size _ rfl) ?_ (nofr _ hsz) upd_same (R.o_none nC) fun b o e n => ?_
    · have n1 : h'.objs.size ≠ c' := Nat.ne_of_gt hlt
      have n2 : h'.objs.size ≠ P := Nat.ne_of_gt (Nat.lt_of_lt_of_le (Heap.lt_size hP') hsz)
      rw [upd_ne n1, upd_ne n2]
      exact I.hok.fresh hsz
    · have b1 : b ≠ P := fun z => by rw [z, hP] at n; cases n
      have b2 : b ≠ c' := fun z => by
        rw [z] at e
        exact Nat.lt_irrefl _ (Nat.lt_of_lt_of_le (Heap.lt_size e) hge)
      exact ⟨Heap.get?_push_of_some _ (hx b o b1 e), by rw [upd_ne b2, upd_ne b1]; exact n⟩
  | some cv =>
    obtain ⟨c', e, hco, nco⟩ := ha pos cv hc
    subst e
    refine PySem.W.kdv_makeTailHit (mg := X.mg) (c := c) (P := P) (ps := ps) (closure_ok hfree) I.ok.glob (I.mod.glob.keeps I.bk) hcode (TB.code.keeps I.bk) hP' ht hc bP fun ctv doc h' tk hx hsz => ?_
    have I1 : Inv X pins σ H { s with heap := h'.push (lamObj (X.env.qual ++ "<lambda>") params body scope (cloFrom X.env.cells scope.names []) dV doc ((X.mg "__name__").getD .none) c' ctv), toks := tk } := I.kept fun b o e => Heap.get?_push_of_some _ (hx b o e)
    exact h h'.objs.size c' doc ((X.mg "__name__").getD .none) ctv H _ I1 (Ext.refl _ _) R (Heap.get?_push_size _ rfl) (I.hok.fresh hsz) (nofr _ hsz) hco nco fun b o e n => ⟨Heap.get?_push_of_some _ (hx b o e), n⟩
/-! ### the lambda's names -/
structure LamT (sc scope : Scope) (ps : List Str) : Prop where
  kind : scope.kind = .function
  co : scope.isCoroutine = false
  gen : scope.isGenerator = false
  cell : ∀ y ∈ scope.names, y.2 ≠ .cell
  own : ∀ y ∈ scope.names, y.2 = .local → y.1 ∈ ps
  par : ∀ p ∈ ps, scope.names.lookup p = some .local
  free : ∀ y ∈ scope.names, y.2 = .free → sc.names.lookup y.1 = some .cell ∨ sc.names.lookup y.1 = some .free
def lamTB (sc scope : Scope) (ps : List Str) : Bool :=
  decide (scope.kind = .function) && !scope.isCoroutine && !scope.isGenerator && (scope.names.all fun y => !decide (y.2 = .cell) && (!decide (y.2 = .local) || ps.contains y.1) && (!decide (y.2 = .free) || decide (sc.names.lookup y.1 = some .cell) || decide (sc.names.lookup y.1 = some .free))) && ps.all fun p => decide (scope.names.lookup p = some .local)
theorem lamT_by {sc scope : Scope} {ps : List Str} (h : lamTB sc scope ps = true) : LamT sc scope ps := by
  unfold lamTB at h
  simp only [Bool.and_eq_true, Bool.or_eq_true, Bool.not_eq_true', decide_eq_true_eq, decide_eq_false_iff_not, List.all_eq_true, List.contains_iff_mem] at h
  obtain ⟨⟨⟨⟨h1, h2⟩, h3⟩, h4⟩, h5⟩ := h
  refine ⟨h1, h2, h3, fun y hy => (h4 y hy).1.1, fun y hy e => ?_, h5, fun y hy e => ?_⟩
  · rcases (h4 y hy).1.2 with z | z
    · exact absurd e z
    · exact z
  · rcases (h4 y hy).2 with (z | z) | z
    · exact absurd e z
    · exact .inl z
    · exact .inr z
theorem LamT.has {X : Cx} {scope : Scope} {ps : List Str} (L : LamT X.env.scope scope ps) (ok : X.Ok) : ∀ y ∈ scope.names, y.2 = .free → ∃ c, X.env.cells.lookup y.1 = some c := fun y hy e => by
  rcases L.free y hy e with k | k
  · exact ok.has _ (.inl k)
  · exact ok.has _ (.inr k)
end
section
variable {X : Cx} {pins : List (Addr × Obj)} {σ σ' : L2.St} {H HZ : Hp} {s s1 : Shared}
theorem lam_startT {A : Around} {outer : List Env} {E : XK} {scope : Scope} {ps : List Str} {f c' : Addr} {h₁ : Heap} {tk : Nat} {binds : List (Str × Value)} (I : Inv X pins σ H s) (L : LamT X.env.scope scope ps) (e0 : Env0 X.prog X.w X.K X.mg X.base A outer s1 HZ) (hd : A.handled = none)
    (un : Un (frs X.stack) [] H HZ s.heap s1.heap) (hns : h₁.Ns s1.heap.objs.size fun y => binds.reverse.lookup y) (kp : ∀ b o, s1.heap.get? b = some o → h₁.get? b = some o) (hlen : σ'.length = σ.length)
    (hσ : ∀ (i : Nat) (y : Str) (v : V), X.N[i]? = some y → σ'[i]? = some (some v) → Vis scope y → (scope.names.lookup y = some .local ∧ ∃ u, L2.RelV v u ∧ binds.reverse.lookup y = some u) ∨ (scope.names.lookup y = some .free ∧ σ[i]? = some (some v))) :
    Inv (LamX.lamCx X A outer s1 HZ E scope f c') [] σ' HZ { s1 with heap := h₁, toks := tk } := by
  have hfree := L.has I.ok
  have cm : ∀ {y c}, (cloFrom X.env.cells scope.names []).lookup y = some c → X.env.cells.lookup y = some c := fun {y c} e => by
    rcases cloFrom_mem (PySem.mem_of_lookup e) with hm | ⟨h1, h2⟩
    · cases hm
    · obtain ⟨c1, hc⟩ := hfree _ h1 rfl
      have hc : X.env.cells.lookup y = some c1 := hc
      have e2 : c = c1 := by
        rw [h2, hc] <;> rfl
      rw [e2]
      exact hc
  have look : ∀ {y}, scope.names.lookup y = some .free → ∃ c, (cloFrom X.env.cells scope.names []).lookup y = some c := fun {y} hl => by
    have hy : (y, NameKind.free) ∈ scope.names := PySem.mem_of_lookup hl
    exact mem_lookup (cloFrom_has (cells := X.env.cells) (acc := []) hy)
  have cellK : ∀ {c : Addr} {v : Option Value}, H c = none → s.heap.IsCell c v → h₁.IsCell c v := fun {c v} n ⟨o, ho, hd⟩ => by
    obtain ⟨sl, q⟩ := un.any ho n (by simp)
    exact ⟨_, kp _ _ q, hd⟩
  have noA : ∀ b : Addr, b ∉ (LamX.lamCx X A outer s1 HZ E scope f c').ex := fun b z => absurd (show b ∈ ([] : List Addr) from z) (by simp)
  refine ⟨⟨e0.mod, L.kind, rfl, rfl, Nat.le_refl _, fun y z c e1 e2 => I.ok.inj y z c (cm e1) (cm e2), fun y hy => ?_, fun y c z _ => ?_, fun _ => hd, Around.frames_deeper e0.frames, .inr ⟨rfl, rfl⟩, fun b z => absurd z (noA b), e0.bs, e0.bsz, fun b _ _ => noA b,
      fun b z => absurd z (noA b), e0.funs, e0.frf⟩,
    rfl, e0.bare, Un.kept kp, ⟨_, hns, fun i y v e1 e2 e3 => ?_⟩, fun y c e => ?_, e0.hok.fresh (Nat.le_refl _), fun y c e => ?_, fun q hq => absurd (show q ∈ ([] : List (Addr × Obj)) ++ [] from hq) (by simp), e0.hok.kept kp, by rw [hlen]; exact I.len⟩
  · have hy : scope.names.lookup y = some .cell ∨ scope.names.lookup y = some .free := hy
    rcases hy with hy | hy
    · exact absurd rfl (L.cell _ (PySem.mem_of_lookup hy))
    · exact look hy
  · have z : false = true := z
    cases z
  · have e3 : Vis scope y := e3
    rcases hσ i y v e1 e2 e3 with ⟨k, u, ru, hu⟩ | ⟨k, e2'⟩
    · exact ⟨u, ru, .inl ⟨k, hu⟩⟩
    · obtain ⟨m, hn, hl⟩ := I.loc
      have hvis : Vis X.env.scope y := (L.free _ (PySem.mem_of_lookup k) rfl).elim (fun k => .inr (.inl k)) (fun k => .inr (.inr k))
      obtain ⟨w', r, q⟩ := hl i y v e1 e2' hvis
      obtain ⟨c2, h2⟩ := look k
      refine ⟨w', r, .inr ⟨.inr k, c2, h2, ?_⟩⟩
      have c1 := cm h2
      rcases q with ⟨k', _⟩ | ⟨_, c3, e', z⟩
      · have k' : X.env.scope.names.lookup y = some .local := k'
        rcases L.free _ (PySem.mem_of_lookup k) rfl with k2 | k2 <;> rw [show X.env.scope.names.lookup y = _ from k2] at k' <;> cases k'
      · rw [c1] at e'
        cases e'
        exact cellK (I.freeC y _ c1) z
  · obtain ⟨w', z⟩ := I.cell y c (cm e)
    exact ⟨w', cellK (I.freeC y c (cm e)) z⟩
  · obtain ⟨v, o, ho, hd⟩ := I.cell y c (cm e)
    exact un.free c o ho (I.freeC y c (cm e)) (by simp)
end
end F3
namespace F3
open PySem PySem.Spec
open PyProof.Rows L2
/-- a lambda's run: bd binds its parameters -/
def sLam (bd : List D → Ev → Option Ev) (fb : Ev → AH → Res D) (env : Ev) (ds : List D) (A : AH) : Res D := match bd ds env with
  | some e => fb e A
  | none => .stuck
def bd0 (ds : List D) (env : Ev) : Option Ev := match ds with
  | [] => some env
  | _ => none
def bd1 (j : Nat) (ds : List D) (env : Ev) : Option Ev := match ds with
  | [d] => some (env.set j (some d))
  | _ => none
def bdD (j : Nat) (d : D) (ds : List D) (env : Ev) : Option Ev := match ds with
  | [] => some (env.set j (some d))
  | _ => none
/-- the binding at the machine -/
def LamBd (X : Cx) (G : Gc) (scope : Scope) (fd : FuncData) (s : Shared) (H : Hp) (σ : L2.St) (bd : List D → Ev → Option Ev) : Prop :=
  ∀ (s1 : Shared) (H1 : Hp) (γ1 : Gh) (us : List Value) (vs : List V) (ds : List D) (env env' : Ev), Un (frs X.stack) [] H H1 s.heap s1.heap → Vals vs us → VRs G γ1 H1 ds vs → ER G γ1 H1 env σ → env.length = σ.length → bd ds env = some env' →
    ∃ (binds : List (Str × Value)) (σ' : L2.St), BindsTo s1 fd ⟨us, []⟩ binds ∧ (∀ y ∈ binds, scope.names.lookup y.1 = some .local) ∧ σ'.length = σ.length ∧
      (∀ (i : Nat) (y : Str) (v : V), X.N[i]? = some y → σ'[i]? = some (some v) → Vis scope y → (scope.names.lookup y = some .local ∧ ∃ u, L2.RelV v u ∧ binds.reverse.lookup y = some u) ∨ (scope.names.lookup y = some .free ∧ σ[i]? = some (some v))) ∧ ER G γ1 H1 env' σ' ∧ env'.length = σ'.length
section
variable {X : Cx} {G : Gc} {W : WX} {γ : Gh} {A : AH} {env : Ev} {pins : List (Addr × Obj)} {σ : L2.St} {H : Hp} {s : Shared} {kk : Nat}
theorem act_of {params : Arguments} {body : Expr} {scope : Scope} {ps : List Str} {f c' : Addr} {dV doc pm ctv : Value} {bd : List D → Ev → Option Ev} {fb : Ev → AH → Res D} (I : Inv X pins σ H s) (S : St3 G γ A env H σ) (L : LamT X.env.scope scope ps) (gk : G.K = X.K)
    (hf : s.heap.get? f = some (lamObj (X.env.qual ++ "<lambda>") params body scope (cloFrom X.env.cells scope.names []) dV doc pm c' ctv)) (hfn : H f = none) (hfr : f ∉ frs X.stack)
    (hbd : LamBd X G scope (PySem.W.kdv_fn "<lambda>" (X.env.qual ++ "<lambda>") params (.expr body) scope (cloFrom X.env.cells scope.names []) dV doc pm (.ref c') ctv) s H σ bd)
    (hbody : ∀ (A : Around) (outer : List Env) (s : Shared) (H : Hp) (E : XK), XO (LamX.lamCx X A outer s H E scope f c') G (fun c d _ H => E c d H) kk → JE (LamX.lamCx X A outer s H E scope f c') G (fun c d _ H => E c d H) body fb) :
    ActF X.prog X.w X.K X.mg X.base G (kk + 1) X.stack s ⟨f, c', X.env.qual ++ "<lambda>", γ, H⟩ (sLam bd fb env) := by
  have of1 : ∀ (H1 : Hp) (h1 : Heap), Un (frs X.stack) [] H H1 s.heap h1 → h1.get? f = some (lamObj (X.env.qual ++ "<lambda>") params body scope (cloFrom X.env.cells scope.names []) dV doc pm c' ctv) := fun H1 h1 un => un.keep f _ hf hfn hfr (fun z => nomatch (show f ∈ ([] : List Addr) from z))
  refine ⟨fun H1 h1 un => ⟨_, _, _, _, of1 H1 h1 un⟩, ?_⟩
  intro A1 outer s1 H1 us vs ds γ1 Ah Q E hr hg e0 un hc hx r R rv h
  unfold sLam at h
  split at h
  · rename_i env' eb
    have er1 : ER G γ1 H1 env σ := fun i d q => by
      obtain ⟨v, e1, rr⟩ := S.er i d q
      exact ⟨v, e1, VR.ext0 hx d v rr⟩
    obtain ⟨binds, σ', b1, b2, b3, b4, b5, b6⟩ := hbd s1 H1 γ1 us vs ds env env' un r rv er1 S.len eb
    obtain ⟨⟨oc, cvs, t, hoc, hdc, hvc⟩, _, _⟩ := e0.hok c' _ hc
    have nolim : s1.heap.NoLimit := e0.mod.nolimit.keeps fun b o e => (e0.bs b o e).1
    refine PySem.W.kla_callFunE hr.depth (of1 H1 _ un) rfl L.co L.gen rfl ⟨c', oc, cvs, t, rfl, hoc, hdc, hvc⟩ ?_
    refine b1 _ _ _ _ (wpAny_newFunctionEnv (fun y hy => L.cell y hy) b2 (fun h₁ hns hsb => ⟨nolim.fresh _ hsb, ?_⟩) L.kind)
    show codeAny _ _ (.expr body (LamX.lamEnv X scope s1.heap.objs.size f c')) _ _
    have kp : ∀ b o, s1.heap.get? b = some o → h₁.get? b = some o := fun b o e => hsb.extBut b o (Nat.ne_of_lt (Heap.lt_size e)) (Heap.get?_push_of_some _ e)
    have J : Inv (LamX.lamCx X A1 outer s1 H1 E scope f c') [] σ' H1 { s1 with heap := h₁, toks := s1.toks + binds.length } :=
      lam_startT I L e0 hr.hd un hns kp b3 b4
    have o : XO (LamX.lamCx X A1 outer s1 H1 E scope f c') G (fun c d _ H => E c d H) kk :=
      ⟨takes_of rfl rfl rfl rfl, passes_of rfl, rfl, hr.deeper _, hg, gk⟩
    refine PySem.W.kla_codeExpr (wpAny_mono ((hbody A1 outer s1 H1 E o).run.run [] _ σ' H1 Q J ⟨γ1, Ah, env', ⟨R, b6, b5⟩, h⟩) (fun v s' hq => ?_) fun e s' hq => hq)
    obtain ⟨w', H', J', rv', q⟩ := hq
    exact ⟨w', H', J'.os, J'.bare, J'.base, J'.hok, rv', q⟩
  · exact h.elim
/-- a lambda as an argument -/
def LamE (X : Cx) (G : Gc) (kk : Nat) (e : Expr) (lam : Ev → List D → AH → Res D) : Prop :=
  ∀ (pins : List (Addr × Obj)) (σ : L2.St) (H : Hp) (s : Shared) (γ : Gh) (A : AH) (env : Ev) (Q : Value → Shared → Prop), Inv X pins σ H s → St3 G γ A env H σ →
    (∀ (f c' : Addr) (q : Str) (H1 : Hp) (s' : Shared), Inv X pins σ H1 s' → Ext γ H γ H1 → Rel G γ A H1 → H1 c' = some (LamX.CodeO c' q) → γ.o c' = none → ActF X.prog X.w X.K X.mg X.base G kk X.stack s' ⟨f, c', q, γ, H1⟩ (lam env) → Q (.ref f) s') →
    wpAny (model X.prog X.w) X.A (eval e X.env) Q X.xe s
/-- what the making asks of the text -/
structure LamQ (X : Cx) (G : Gc) (c P : Addr) : Prop where
  tb : LamX.TabB X.base X.mg c P
  code : X.env.code = .ref c
  mem : (P, X.env.qual ++ "<lambda>") ∈ G.T
  only : ∀ p ∈ G.T, p.1 = P → p.2 = X.env.qual ++ "<lambda>"
theorem lamE0 {c P : Addr} {params : Arguments} {body : Expr} {scope : Scope} {lpos : Pos} {fb : Ev → AH → Res D} (gk : G.K = X.K) (T : LamQ X G c P) (L : LamT X.env.scope scope []) (hdef : defaultsOf params X.env = ([], []))
    (hb : ∀ (q : Str) (cl : List (Str × Addr)) (doc pm cv ctv : Value), bindArgs (PySem.W.kdv_fn "<lambda>" q params (.expr body) scope cl .none doc pm cv ctv) ⟨[], []⟩ = pure [])
    (hbody : ∀ (A : Around) (outer : List Env) (s : Shared) (H : Hp) (E : XK) (f c' : Addr), XO (LamX.lamCx X A outer s H E scope f c') G (fun c d _ H => E c d H) kk → JE (LamX.lamCx X A outer s H E scope f c') G (fun c d _ H => E c d H) body fb) :
    LamE X G (kk + 1) (.Lambda params body scope lpos) (sLam bd0 fb) := by
  intro pins σ H s γ A env Q I S h
  refine PySem.W.kla_eval hdef ?_
  rw [makeFunction_eq]
  simp only [List.zip_nil_right, List.filterMap_nil, List.isEmpty_nil, if_true, pure_bind]
  refine lam_tail I T.tb T.code S.rel T.mem T.only (L.has I.ok) fun f c' doc pm ctv H1 s' I1 E1 R1 hf hfn hfr hc nc kp => ?_
  refine h f c' _ H1 s' I1 E1 R1 hc nc (act_of I1 (S.to E1 R1) L gk hf hfn hfr ?_ fun A outer s H E o => hbody A outer s H E f c' o)
  intro s1 H2 γ1 us vs ds env1 env' un r rv er hl eb
  unfold bd0 at eb
  split at eb
  · cases eb
    unfold VRs at rv
    subst rv
    cases r
    refine ⟨[], σ, .of_eq (hb _ _ _ _ _ _), (fun y hy => (by cases hy)), rfl, fun i y v e1 e2 e3 => ?_, er, hl⟩
    rcases e3 with k | k | k
    · exact absurd (L.own _ (PySem.mem_of_lookup k) rfl) (by simp)
    · exact absurd rfl (L.cell _ (PySem.mem_of_lookup k))
    · exact .inr ⟨k, e2⟩
  · cases eb
theorem set_vis {scope sc : Scope} {p : Str} {j i : Nat} {y : Str} {v v0 : V} {u0 : Value} {N : List Str} {σ : L2.St} (L : LamT sc scope [p]) (hN : N.Nodup) (hj : N[j]? = some p) (hlen : σ.length = N.length) (ru : L2.RelV v0 u0) (e1 : N[i]? = some y) (e2 : (σ.set j (some v0))[i]? = some (some v)) (e3 : Vis scope y) :
    (scope.names.lookup y = some .local ∧ ∃ u, L2.RelV v u ∧ [(p, u0)].reverse.lookup y = some u) ∨ (scope.names.lookup y = some .free ∧ σ[i]? = some (some v)) := by
  by_cases z : j = i
  · subst z
    rw [hj] at e1; cases e1
    have hlt : j < σ.length := by rw [hlen]; exact (List.getElem?_eq_some_iff.mp hj).1
    rw [List.getElem?_set_self hlt] at e2
    cases e2
    exact .inl ⟨L.par _ (by simp), u0, ru, by simp [List.lookup]⟩
  · rw [List.getElem?_set_ne z] at e2
    have ne : y ≠ p := fun q => z (by
      subst q
      have h1 := (List.getElem?_eq_some_iff.mp hj)
      have h2 := (List.getElem?_eq_some_iff.mp e1)
      obtain ⟨l1, q1⟩ := h1
      obtain ⟨l2, q2⟩ := h2
      exact (List.getElem_inj hN).mp (q1.trans q2.symm))
    rcases e3 with k | k | k
    · have := L.own _ (PySem.mem_of_lookup k) rfl
      simp at this
      exact absurd this ne
    · exact absurd rfl (L.cell _ (PySem.mem_of_lookup k))
    · exact .inr ⟨k, e2⟩
theorem lamE1 {c P : Addr} {params : Arguments} {body : Expr} {scope : Scope} {lpos : Pos} {p : Str} (j : Nat) {fb : Ev → AH → Res D} (gk : G.K = X.K) (T : LamQ X G c P) (L : LamT X.env.scope scope [p]) (hN : X.N.Nodup) (hj : X.N[j]? = some p) (hdef : defaultsOf params X.env = ([], []))
    (hb : ∀ (q : Str) (cl : List (Str × Addr)) (doc pm cv ctv : Value) (u : Value), bindArgs (PySem.W.kdv_fn "<lambda>" q params (.expr body) scope cl .none doc pm cv ctv) ⟨[u], []⟩ = pure [(p, u)])
    (hbody : ∀ (A : Around) (outer : List Env) (s : Shared) (H : Hp) (E : XK) (f c' : Addr), XO (LamX.lamCx X A outer s H E scope f c') G (fun c d _ H => E c d H) kk → JE (LamX.lamCx X A outer s H E scope f c') G (fun c d _ H => E c d H) body fb) :
    LamE X G (kk + 1) (.Lambda params body scope lpos) (sLam (bd1 j) fb) := by
  intro pins σ H s γ A env Q I S h
  refine PySem.W.kla_eval hdef ?_
  rw [makeFunction_eq]
  simp only [List.zip_nil_right, List.filterMap_nil, List.isEmpty_nil, if_true, pure_bind]
  refine lam_tail I T.tb T.code S.rel T.mem T.only (L.has I.ok) fun f c' doc pm ctv H1 s' I1 E1 R1 hf hfn hfr hc nc kp => ?_
  refine h f c' _ H1 s' I1 E1 R1 hc nc (act_of I1 (S.to E1 R1) L gk hf hfn hfr ?_ fun A outer s H E o => hbody A outer s H E f c' o)
  intro s1 H2 γ1 us vs ds env1 env' un r rv er hl eb
  unfold bd1 at eb
  split at eb
  · rename_i d
    cases eb
    obtain ⟨v, rfl, rd⟩ := rv.one
    cases r with
    | cons ru r0 =>
      cases r0
      rename_i u0
      refine ⟨[(p, u0)], σ.set j (some v), .of_eq (hb _ _ _ _ _ _ u0), fun y hy => ?_, by simp, fun i y v' e1 e2 e3 => set_vis L hN hj I.len ru e1 e2 e3, er.set hl rd, by simp [hl]⟩
      simp at hy
      subst hy
      exact L.par _ (by simp)
  · cases eb
theorem lamED {c P : Addr} {params : Arguments} {body : Expr} {scope : Scope} {lpos : Pos} {p : Str} (j : Nat) {i0 : Int} {jj} {pp : Pos} {fb : Ev → AH → Res D} (gk : G.K = X.K) (T : LamQ X G c P) (L : LamT X.env.scope scope [p]) (hN : X.N.Nodup) (hj : X.N[j]? = some p) (hd : params.defaults = [.Constant (.int i0) jj pp]) (hk0 : params.kw_defaults = [])
    (hb : ∀ (q : Str) (cl : List (Str × Addr)) (t : Addr) (doc pm cv ctv : Value) (u : Value), ∃ k : Option (Array Value) → Sem (List (Str × Value)), bindArgs (PySem.W.kdv_fn "<lambda>" q params (.expr body) scope cl (.ref t) doc pm cv ctv) ⟨[], []⟩ = seqItems? (.ref t) >>= k ∧ k (some #[u]) = pure [(p, u)])
    (hbody : ∀ (A : Around) (outer : List Env) (s : Shared) (H : Hp) (E : XK) (f c' : Addr), XO (LamX.lamCx X A outer s H E scope f c') G (fun c d _ H => E c d H) kk → JE (LamX.lamCx X A outer s H E scope f c') G (fun c d _ H => E c d H) body fb) :
    LamE X G (kk + 1) (.Lambda params body scope lpos) (sLam (bdD j (.int i0)) fb) := by
  intro pins σ H s γ A env Q I S h
  refine PySem.W.kdv_lam (by rw [hd]; rfl) hk0 ?_
  rw [hd]
  refine PySem.W.kdv_all1 (thn (pe_int.run pins s σ H (fun v H' => v = .int i0 ∧ H' = H) I ⟨rfl, rfl⟩) fun u s1 ⟨v, H1, I1, r1, q1⟩ => PySem.W.kdv_all0 ?_)
  obtain ⟨ev, eH⟩ := q1
  subst ev
  subst eH
  rw [makeFunction_eq]
  simp only [List.zip_nil_right, List.filterMap_nil, List.isEmpty_nil, if_true, pure_bind, List.isEmpty_cons, Bool.false_eq_true, if_false]
  refine wpAny_bind (wpAny_newTextTuple ?_)
  have I2 : Inv X pins σ H1 { s1 with heap := s1.heap.push (PySem.W.kdv_tup [u]) } := I1.kept (t' := s1.toks) fun b o e => Heap.get?_push_of_some _ e
  have nt : H1 s1.heap.objs.size = none := I1.hok.fresh (Nat.le_refl _)
  have ot : (s1.heap.push (PySem.W.kdv_tup [u])).get? s1.heap.objs.size = some (PySem.W.kdv_tup [u]) := Heap.get?_push_size _ rfl
  have nofr : s1.heap.objs.size ∉ frs X.stack := fun z => by
    rcases List.mem_cons.mp (I1.stkSub _ z) with e | e
    · have h1 := I1.lt
      rw [← e] at h1
      exact Nat.lt_irrefl _ h1
    · exact I1.nofs (Nat.le_refl _) e
  refine lam_tail I2 T.tb T.code S.rel T.mem T.only (L.has I2.ok) fun f c' doc pm ctv H2 s' I3 E1 R1 hf hfn hfr hc nc kp => ?_
  obtain ⟨ot', nt'⟩ := kp _ _ ot nt
  refine h f c' _ H2 s' I3 E1 R1 hc nc (act_of I3 (S.to E1 R1) L gk hf hfn hfr ?_ fun A outer s H E o => hbody A outer s H E f c' o)
  intro s3 H3 γ1 us vs ds env1 env' un r rv er hl eb
  unfold bdD at eb
  split at eb
  · cases eb
    unfold VRs at rv
    subst rv
    cases r
    obtain ⟨kq, k1, k2⟩ := hb (X.env.qual ++ "<lambda>") (cloFrom X.env.cells scope.names []) s1.heap.objs.size doc pm (.ref c') ctv u
    have ot3 : s3.heap.get? s1.heap.objs.size = some (PySem.W.kdv_tup [u]) := un.keep _ _ ot' nt' nofr (by simp)
    refine ⟨[(p, u)], σ.set j (some (.int i0)), BindsTo.of_defaults rfl ot3 rfl k1 k2, (fun y hy => ?_), by simp, fun i y v' e1 e2 e3 => set_vis L hN hj I3.len r1 e1 e2 e3, er.set hl (by unfold VR; rfl), by simp [hl]⟩
    simp at hy
    subst hy
    exact L.par _ (by simp)
  · cases eb
end
end F3
namespace F3
open PySem PySem.Spec
open PyProof.Rows L2
/-! ### a lambda handed to a def -/
def sCallL (m : (List D → AH → Res D) → List D → AH → Res D) (lam : Ev → List D → AH → Res D) (fa : Ev → AH → Res (List D)) : Ev → AH → Res D := fun env A => (fa env A).bind fun ds A1 => m (lam env) ds A1
section
variable {X : Cx} {G : Gc} {W : WX} {k j kk : Nat}
theorem run_fl {pins : List (Addr × Obj)} {σ : L2.St} {H : Hp} {s : Shared} {Q : VK} {g f c : Addr} {q : Str} {us : List Value} {vs : List V} {ds : List D} {γ : Gh} {Ah : AH} {m : (List D → AH → Res D) → List D → AH → Res D} {φ : List D → AH → Res D} (o : XO X G W k) (F : FnL X.prog X.w X.K X.mg X.base G j g m) (hj : kk + j ≤ k)
    (I : Inv X pins σ H s) (r : Vals vs us) (R : Rel G γ Ah H) (rv : VRs G γ H ds vs) (hc : H c = some (LamX.CodeO c q)) (nc : γ.o c = none) (act : ActF X.prog X.w X.K X.mg X.base G kk X.stack s ⟨f, c, q, γ, H⟩ φ)
    (h : Post G γ H (m φ ds Ah) (fun γ' _ H' d => ∀ v, VR G γ' H' d v → Q v H') (fun c a H' => W c a σ H')) : wpAny (model X.prog X.w) X.A (call (.ref g) (us ++ [.ref f])) (EP X pins σ Q) X.xe s := by
  refine wpAny_call (codeAny_mono (F kk X.A X.stack s H us vs ds γ Ah Q (WE W σ) f c q φ (o.room.mono hj) o.gd I.env0 r R rv hc nc act h) fun z s' hq => ?_)
  cases z with
  | error e => exact passAt o.tk σ _ _ _ _ _ I hq
  | ok fl =>
    cases fl with
    | ret u => exact I.after hq
    | _ => exact False.elim hq
theorem je_callL0 (o : XO X G W k) {g : Addr} {x : Str} {p pos : Pos} {e : Expr} {m : (List D → AH → Res D) → List D → AH → Res D} {lam : Ev → List D → AH → Res D} (F : FnL X.prog X.w X.K X.mg X.base G j g m) (hj : kk + j ≤ k) (hg : Gl X x) (hm : X.mg x = some (.ref g)) (hk : PySem.W.keepIn X.K (.ref g) = true)
    (hl : LamE X G kk e lam) (hdb : (x == ("__debug__" : Str)) = false) (he : starEach [e] X.env = (false, eval e X.env) :: starEach [] X.env := by rfl) : JE X G W (.Call (.Name x p) [e] [] pos) (sCallL m lam sNil) := by
  refine ⟨⟨fun pins s σ H Q I h => ?_⟩⟩
  obtain ⟨γ, A, env, S, h⟩ := h
  refine wpAny_Call_Name_kw (ld_glob I hg hm ?_ hdb)
  refine PySem.W.callWith_K (h₀ := X.base) I.ok.mod.kin hk ?_ he (by rfl)
  rw [he]
  show wpAny _ _ (spliced ((false, eval e X.env) :: backTo pos (starEach [] X.env))) _ _ s
  refine Calls.spliced_cons (hl pins σ H s γ A env _ I S fun f c' q H1 s' I1 E1 R1 hc nc act => ?_)
  refine Calls.spliced_nil ⟨I1.kIn, ?_⟩
  exact run_fl (us := []) o F hj I1 .nil R1 VRs.nil hc nc act (Post.ext E1 h)
theorem je_callL1 (o : XO X G W k) {g : Addr} {x : Str} {p pos : Pos} {e1 e : Expr} {f1 : Ev → AH → Res D} {m : (List D → AH → Res D) → List D → AH → Res D} {lam : Ev → List D → AH → Res D} (F : FnL X.prog X.w X.K X.mg X.base G j g m) (hj : kk + j ≤ k) (hg : Gl X x) (hm : X.mg x = some (.ref g)) (hk : PySem.W.keepIn X.K (.ref g) = true)
    (ha : JE X G W e1 f1) (hl : LamE X G kk e lam) (hdb : (x == ("__debug__" : Str)) = false) (he : starEach [e1, e] X.env = (false, eval e1 X.env) :: (false, eval e X.env) :: starEach [] X.env := by rfl) (he2 : starEach [e] X.env = (false, eval e X.env) :: starEach [] X.env := by rfl) :
    JE X G W (.Call (.Name x p) [e1, e] [] pos) (sCallL m lam (sCons f1 sNil)) := by
  refine ⟨⟨fun pins s σ H Q I h => ?_⟩⟩
  obtain ⟨γ, A, env, S, h⟩ := h
  refine wpAny_Call_Name_kw (ld_glob I hg hm ?_ hdb)
  refine PySem.W.callWith_K (h₀ := X.base) I.ok.mod.kin hk ?_ (by rw [he, he2]) (by rw [he2]; rfl)
  rw [he]
  show wpAny _ _ (spliced ((false, eval e1 X.env) :: (false, eval e X.env) :: backTo pos (starEach [] X.env))) _ _ s
  unfold sCallL sCons sNil at h
  refine Calls.spliced_cons (thn (ha.run.run pins s σ H (fun v H1 => ∃ γ1 A1 d, Ext γ H γ1 H1 ∧ Rel G γ1 A1 H1 ∧ VR G γ1 H1 d v ∧ Post G γ1 H1 (m (lam env) [d] A1) (fun γ' _ H' d => ∀ v, VR G γ' H' d v → Q v H') (fun c a H' => W c a σ H')) I ⟨γ, A, env, S, ?_⟩) fun u s1 ⟨v, H1, I1, r1, γ1, A1, d, E1, R1, rd, h1⟩ => ?_)
  · cases q : f1 env A with
    | ok d A1 =>
      rw [q] at h
      exact fun γ1 H1 E1 R1 v rd => ⟨γ1, A1, d, E1, R1, rd, Post.ext E1 h⟩
    | ex x1 A1 => rw [q] at h; exact h
    | stuck => rw [q] at h; exact h
  · refine Calls.spliced_cons (hl pins σ H1 s1 γ1 A1 env _ I1 (S.to E1 R1) fun f c' q H2 s' I2 E2 R2 hc nc act => ?_)
    refine Calls.spliced_nil ⟨I2.kIn, ?_⟩
    exact run_fl (us := [u]) (vs := [v]) o F hj I2 (.cons r1 .nil) R2 (VRs.cons (VR.ext E2 _ _ rd) VRs.nil) hc nc act (Post.ext E2 h1)
end
end F3
namespace F3
open PySem PySem.Spec
open PyProof.Rows L2
/-! ### the law's own end, with tables of code objects -/
section
variable {P : Program} {w : World} {K : PySem.W.Frag} {mg mb : Str → Option Value} {k : Nat} {fa a : Addr} {st : Shared} {vals : List Value} {ns : List Int} {cs : List (Addr × Addr)}
def tab0 : Obj := { cls := .none, data := .fields #[] }
/-- the tables at the start -/
structure Tabs0 (K : PySem.W.Frag) (mg : Str → Option Value) (h : Heap) (cs : List (Addr × Addr)) : Prop where
  tab : ∀ p ∈ cs, h.get? p.2 = some tab0
  out : ∀ p ∈ cs, K.lookup p.2 = none
  code : ∀ p ∈ cs, PySem.W.CodeHd h p.1 p.2
  bm : ∃ (bm : Addr) (ob : Obj), mg "__builtins__" = some (.ref bm) ∧ bm ≠ builtinsNs ∧ h.get? bm = some ob ∧ ob.cls = .type "module" ∧ ob.dict = some builtinsNs ∧ ob.data = .plain
theorem rel0T {G : Gc} {H : Hp} (hT : ∀ p ∈ G.T, H p.1 = some (.tbl #[])) : Rel G Gh0 [] H := by
  refine ⟨rfl, fun i o e => by simp at e, fun b x e => ?_, fun q hq => ⟨rfl, #[], hT q hq, True.intro, fun pos cv hc => ?_⟩⟩
  · cases e
  · have z : codeAmong pos [] = some cv := hc
    simp [codeAmong] at z
/-- the heap at the start, told: the tables, perhaps the script -/
def startH (cs : List (Addr × Addr)) (a : Addr) (o : Option HO) : Hp := fun b => if b = a then o else if (cs.map (·.2)).contains b then some (.tbl #[]) else none
theorem begin_T {G : Gc} {m : List D → AH → Res D} (B : Begin K mg mb st a vals ns) (TT : Tabs0 K mg st.heap cs) (hr : Room k callerA) (hGT : ∀ p ∈ G.T, p.1 ∈ cs.map (·.2)) (hK : G.K = K)
    (F : ∀ base : Heap, K.In base → base.Ns mainGlobals mg → (∀ p ∈ cs, LamX.TabB base mg p.1 p.2) → FnG P w K mg base G k fa m) (hm : ∃ A, m [.scr (ns.map .int)] [] = .ok (.bl true) A)
    (oa : Option HO) (ho : oa = none ∨ ∃ ob : Obj, ob = { cls := .type "list", data := .seq vals.toArray } ∧ oa = some (.frz ob (.lst (ns.map V.int)))) (hS : SqL K (startH cs a oa) a (ns.map V.int)) (hL : oa ≠ none → K.lookup a = none) :
    codeAny (model P w) callerA (.call (.ref fa) ⟨[.ref a], []⟩) (fun r s' => r = .ok (.ret (.bool true)) ∧ OldK st.heap s'.heap ∧ s'.os = st.os ∧ AllBare s'.gens) st := by
  have memP : ∀ {b : Addr}, (cs.map (·.2)).contains b = true → ∃ p ∈ cs, p.2 = b := fun {b} z => by
    rw [List.contains_iff_mem] at z
    obtain ⟨p, hp, e⟩ := List.mem_map.mp z
    exact ⟨p, hp, e⟩
  have tabAt : ∀ {b : Addr}, (cs.map (·.2)).contains b = true → st.heap.get? b = some tab0 := fun {b} z => by
    obtain ⟨p, hp, rfl⟩ := memP z
    exact TT.tab p hp
  have aN : (cs.map (·.2)).contains a = false := by
    cases z : (cs.map (·.2)).contains a with
    | false => rfl
    | true =>
      have q := (tabAt z).symm.trans B.at_
      cases q
  -- the told heap, place by place
  have atA : startH cs a oa a = oa := if_pos rfl
  have atT : ∀ {b : Addr}, (cs.map (·.2)).contains b = true → startH cs a oa b = some (.tbl #[]) := fun {b} z => by
    unfold startH
    rw [if_neg (fun e => by rw [e, aN] at z; cases z), if_pos z]
  have atO : ∀ {b : Addr}, b ≠ a → (cs.map (·.2)).contains b = false → startH cs a oa b = none := fun {b} h z => by
    unfold startH
    rw [if_neg h, z]; rfl
  have told : ∀ {b : Addr}, startH cs a oa b ≠ none → (b = a ∧ oa ≠ none) ∨ (cs.map (·.2)).contains b = true := fun {b} z => by
    by_cases e : b = a
    · subst e; exact .inl ⟨rfl, by rw [← atA]; exact z⟩
    · cases q : (cs.map (·.2)).contains b with
      | true => exact .inr rfl
      | false => exact (z (atO e q)).elim
  have rv := vals_ints B.nums
  have hok : HOk P w (startH cs a oa) st.heap := fun b u z => by
    by_cases e : b = a
    · subst e
      rw [atA] at z
      rcases ho with h0 | ⟨ob, h1, h2⟩
      · rw [h0] at z; cases z
      · rw [h2] at z
        cases z
        subst h1
        exact ⟨B.at_, by rw [List.length_map]; exact B.len, vals, _, rv, B.at_⟩
    · cases q : (cs.map (·.2)).contains b with
      | true => rw [atT q] at z; cases z; exact tabAt q
      | false => rw [atO e q] at z; cases z
  -- all else lies in the ground
  have plainObj : ∀ {b : Addr} {o : Obj}, st.heap.get? b = some o → (∀ vs n, o.data ≠ .seq vs n) → o.data ≠ .fields #[] → startH cs a oa b = none := fun {b o} z z1 z2 => by
    by_cases e : b = a
    · subst e
      have oe := B.at_.symm.trans z
      cases oe
      exact (z1 _ _ rfl).elim
    · cases q : (cs.map (·.2)).contains b with
      | true =>
        have oe := (tabAt q).symm.trans z
        cases oe
        exact (z2 rfl).elim
      | false => exact atO e q
  have low : ∀ {b : Addr} {o : Obj}, st.heap.get? b = some o → startH cs a oa b = none → (hidT st.heap (startH cs a oa)).get? b = some o := fun z z' => hidT_get z z'
  have lowNs : ∀ {b : Addr} {mm : Str → Option Value}, st.heap.Ns b mm → (hidT st.heap (startH cs a oa)).Ns b mm := fun {b mm} z => by
    obtain ⟨o, es, ep, z1, z2, z3⟩ := z
    exact ⟨o, es, ep, low z1 (plainObj z1 (fun vs n y => by rw [z2] at y; cases y) (fun y => by rw [z2] at y; cases y)), z2, z3⟩
  have lowK : K.In (hidT st.heap (startH cs a oa)) := fun b o z => by
    refine low (B.kin b o z) ?_
    cases q : startH cs a oa b with
    | none => rfl
    | some u =>
      exfalso
      rcases told (b := b) (by rw [q]; exact fun z => nomatch z) with ⟨e1, e2⟩ | e
      · subst e1
        rw [hL e2] at z; cases z
      · obtain ⟨p, hp, e2⟩ := memP e
        have := TT.out p hp
        rw [e2, z] at this; cases this
  obtain ⟨mc, l1, l2⟩ := B.lim
  have md : Mod K mg (hidT st.heap (startH cs a oa)) := ⟨lowK, lowNs B.glo, ⟨mb, lowNs B.bl, B.bb⟩, ⟨mc, lowNs l1, l2⟩⟩
  have TB : ∀ p ∈ cs, LamX.TabB (hidT st.heap (startH cs a oa)) mg p.1 p.2 := fun p hp => by
    have tp := TT.tab p hp
    refine ⟨?_, ?_, fun z => ?_⟩
    · obtain ⟨o, us, file, tf, flags, tg, inF, text, tt, e1, r1, r2, r3, r4⟩ := TT.code p hp
      refine ⟨o, us, file, tf, flags, tg, inF, text, tt, low e1 (plainObj e1 (fun vs n z => by rw [r2] at z; cases z) fun z => ?_), r1, r2, r3, r4⟩
      rw [r2] at z; cases z; simp at r3
    · obtain ⟨bm, ob, b1, b2, b3, b4, b5, b6⟩ := TT.bm
      have n1 : bm ≠ mainGlobals := fun q => by
        obtain ⟨o, es, ep, e, hd, _⟩ := B.glo
        rw [q, e] at b3; cases b3; rw [hd] at b6; cases b6
      have n2 : bm ≠ p.2 := fun q => by
        rw [q, tp] at b3; cases b3; cases b6
      exact ⟨bm, ob, b1, b2, n1, n2, low b3 (plainObj b3 (fun vs n z => by rw [b6] at z; cases z) fun z => by rw [b6] at z; cases z), b4, b5, b6⟩
    · obtain ⟨o, es, ep, e, hd, _⟩ := B.glo
      rw [z, tp] at e; cases e; cases hd
  have start : Env0 P w K mg (hidT st.heap (startH cs a oa)) callerA [] st (startH cs a oa) := ⟨rfl, md, fun b o z => of_hidT z, Nat.le_of_eq (hidT_size _ _), trivial, fun b hb => (List.not_mem_nil (show b ∈ ([] : List Addr) from hb)).elim, hok, .of_eq B.gens⟩
  have script : VR G Gh0 (startH cs a oa) (.scr (ns.map .int)) (.ref a) := by
    unfold VR
    refine ⟨a, ns.map V.int, rfl, ?_, VRs.ints ns⟩
    rcases hS with hS | hS
    · exact .inl ⟨hS, rfl⟩
    · right; rw [hK]; exact .inr hS
  obtain ⟨A1, hm⟩ := hm
  refine codeAny_mono (F _ lowK (lowNs B.glo) TB callerA [] st (startH cs a oa) [.ref a] [.ref a] [.scr (ns.map .int)] Gh0 [] (fun v _ => v = .bl true) (fun _ _ _ => False) hr rfl start (.cons rfl .nil) (rel0T fun p hp => atT (by rw [List.contains_iff_mem]; exact hGT p hp)) (VRs.cons script VRs.nil) ?_) fun r s' z => ?_
  · rw [hm]
    intro γ' H' e R v rv
    unfold VR at rv
    exact rv
  · match r, z with
    | .error _, z =>
      obtain ⟨_, _, _, _, _, _, _, _, _, _, _, _, no⟩ := z
      exact no.elim
    | .ok .next, z => exact False.elim z
    | .ok .brk, z => exact False.elim z
    | .ok .cont, z => exact False.elim z
    | .ok (.ret u), z =>
      obtain ⟨v, H', os, bare, un, hok', ru, rfl⟩ := z
      obtain rfl : u = Value.bool true := ru
      have stay : ∀ b o, (cs.map (·.2)).contains b = false → st.heap.get? b = some o → s'.heap.get? b = some o := fun b o nb zo => by
        by_cases e : b = a
        · subst e
          rcases ho with h0 | ⟨ob, h1, h2⟩
          · exact un.keep b o zo (by rw [atA]; exact h0) (fun y => (List.not_mem_nil (show b ∈ ([] : List Addr) from y)).elim) (by simp)
          · obtain ⟨y2, _⟩ := hok' b _ (un.frzs b ob _ (by rw [atA]; exact h2))
            have y1 := B.at_
            rw [zo] at y1; cases y1
            rw [h1] at y2
            exact y2
        · exact un.keep b o zo (atO e nb) (fun y => (List.not_mem_nil (show b ∈ ([] : List Addr) from y)).elim) (by simp)
      have grown : ∀ b, (cs.map (·.2)).contains b = true → ∃ more : Array Value, s'.heap.get? b = some { cls := .none, data := .fields more } := fun b hb => by
        obtain ⟨more, z⟩ := un.tbls b #[] (atT hb)
        exact ⟨_, hok' b _ z⟩
      refine ⟨rfl, ⟨fun b o e => ?_, fun b o e => ?_⟩, os, bare⟩
      · cases q : (cs.map (·.2)).contains b with
        | true =>
          obtain ⟨more, hmore⟩ := grown b q
          have e' := (tabAt q).symm.trans e
          cases e'
          obtain ⟨p, hp, ep⟩ := memP q
          refine .inr (.inl ⟨ep ▸ ((TT.code p hp).tab (TT.tab p hp)).isCodeTable, rfl, #[], more, rfl, by rw [Array.empty_append]; exact hmore⟩)
        | false => exact .inl (stay b o q e)
      · cases q : (cs.map (·.2)).contains b with
        | true =>
          obtain ⟨more, hmore⟩ := grown b q
          exact ⟨_, hmore⟩
        | false => exact ⟨o, stay b o q e⟩
theorem begin_allT {G : Gc} {m : List D → AH → Res D} (B : Begin K mg mb st a vals ns) (TT : Tabs0 K mg st.heap cs) (hr : Room k callerA) (hGT : ∀ p ∈ G.T, p.1 ∈ cs.map (·.2)) (hK : G.K = K)
    (F : ∀ base : Heap, K.In base → base.Ns mainGlobals mg → (∀ p ∈ cs, LamX.TabB base mg p.1 p.2) → FnG P w K mg base G k fa m) (hm : ∃ A, m [.scr (ns.map .int)] [] = .ok (.bl true) A) :
    codeAny (model P w) callerA (.call (.ref fa) ⟨[.ref a], []⟩) (fun r s' => r = .ok (.ret (.bool true)) ∧ OldK st.heap s'.heap ∧ s'.os = st.os ∧ AllBare s'.gens) st := by
  have rv := vals_ints B.nums
  have lv := B.nums.length
  rcases q : K.lookup a with _ | o
  · exact begin_T B TT hr hGT hK F hm (some (.frz _ (.lst (ns.map V.int)))) (.inr ⟨_, rfl, rfl⟩) (.inl (.inr ⟨_, if_pos rfl⟩)) fun _ => q
  · have z := (B.kin a o q).symm.trans B.at_
    cases z
    refine begin_T B TT hr hGT hK F hm none (.inl rfl) (.inr ⟨_, vals.toArray, _, q, rfl, rfl, rfl, ?_, by simpa using rv⟩) fun z => (z rfl).elim
    rw [List.size_toArray, lv]; exact B.len
end
/-- a law, from what its def reckons -/
theorem walkT {l : PySem.W.OpenLaw} {n k : Nat} {q : Program} {loose : List Str} {XP : (Str → Option Value) → Heap → Prop} {YP : World → Heap → Prop} {d : DefRec} {K : Params → PySem.W.Frag}
    (hn : l.most = some n) (hn2 : n ≤ sizeLine) (hdf : d.params.defaults = []) (hr : Room k callerA) (hY : ∀ (w : World) (h : Heap), YP w h → (K w.params).In h)
    (F : ∀ (w : World) (mg : Str → Option Value) (fa : Addr) (h : Heap), YP w h → (K w.params).In h → h.Ns mainGlobals mg → mg d.name = some (.ref fa) →
      ∃ (G : Gc) (m : List D → AH → Res D) (cs : List (Addr × Addr)), (∀ p ∈ cs, h.get? p.2 = some tab0) ∧ (∀ p ∈ cs, (K w.params).lookup p.2 = none) ∧ (∀ p ∈ cs, PySem.W.CodeHd h p.1 p.2) ∧ (∀ p ∈ G.T, p.1 ∈ cs.map (·.2)) ∧ G.K = K w.params ∧ (∀ ns : List Int, ns.length ≤ n → ∃ A, m [.scr (ns.map .int)] [] = .ok (.bl true) A) ∧
        ∀ base : Heap, (K w.params).In base → base.Ns mainGlobals mg → (∀ p ∈ cs, LamX.TabB base mg p.1 p.2) → FnG l.prog w (K w.params) mg base G k fa m) :
    PySem.W.WalkO q loose XP YP l.row.toRowW d [] (fun f vs => PySem.call f vs) := by
  refine Att.attach_call hn hdf fun w s₀ st mg mb fa o pm cd doc a vals ns GG Y ho hd hcd hmg hobj hints hlen hg => ?_
  have hk := hY w _ Y
  obtain ⟨G, m, cs, c1, c2, c3, hGT, hK, hm, hF⟩ := F w mg fa _ Y hk GG.T.g hmg
  exact begin_allT ⟨hk, GG.T.g, GG.T.b, GG.T.builtins, GG.T.nolimit, hg, hobj, hints, Nat.le_trans hlen hn2⟩ ⟨c1, c2, c3, GG.T.bmain⟩ hr hGT hK hF (hm ns hlen)
end F3
namespace F3
open PySem PySem.Spec
open PyProof.Rows L2
section
variable {X : Cx} {G : Gc} {W : WX} {k : Nat}
/-! ### xs[::-1] -/
def gRev (x : D) (A : AH) : Res D := match asQ A x with
  | some ds => .ok (.lst ds.reverse) A
  | none => .stuck
theorem VRs.rev {γ : Gh} {H : Hp} : ∀ {ds : List D} {vs : List V}, VRs G γ H ds vs → VRs G γ H ds.reverse vs.reverse
  | [], vs, h => by unfold VRs at h; subst h; exact VRs.nil
  | d :: ds, vs, h => by
    unfold VRs at h
    obtain ⟨v, r, rfl, h1, h2⟩ := h
    rw [List.reverse_cons, List.reverse_cons]
    exact (VRs.rev h2).append (VRs.cons h1 VRs.nil)
theorem je_rev (gk : G.K = X.K) {e : Expr} {f : Ev → AH → Res D} {j : Nat} {p1 p2 p3 pos : Pos} (he : JE X G W e f) : JE X G W (.Subscript e (.Slice none none (some (.UnaryOp .USub (.Constant (.int 1) j p1) p2)) p3) pos) (sUn gRev f) := by
  refine ⟨PE.imp (pe_revL he.run) fun σ H Q h => ?_⟩
  obtain ⟨γ, A, env, S, h⟩ := h
  refine ⟨γ, A, env, S, Post.bind h fun x A1 γ1 H1 e1 R1 h1 v r1 => ?_⟩
  unfold gRev at h1
  split at h1
  · rename_i ds q
    obtain ⟨a, vs, rfl, rv, hq⟩ := asQ_at R1 r1 q
    exact ⟨a, vs, rfl, gk ▸ hq, fun p hp => Post.new (ob := .lst vs.reverse) R1 hp h1 _ (VR.newL R1 hp rv.rev)⟩
  · exact h1.elim
/-! ### text * int -/
def mulS (x : Str) (n : Nat) : Str := ⟨((List.replicate n x.cps.toList).flatten).toArray⟩
theorem foldl_app : ∀ (n : Nat) (a z : Array Nat), ((List.replicate n a).foldl (· ++ ·) z).toList = z.toList ++ (List.replicate n a.toList).flatten
  | 0, a, z => by simp
  | n + 1, a, z => by
    rw [List.replicate_succ, List.foldl_cons, foldl_app n a (z ++ a), List.replicate_succ, List.flatten_cons, Array.toList_append, List.append_assoc]
theorem mulS_eq (x : Str) (n : Nat) : Txt.mul x (n : Int) = mulS x n := by
  unfold Txt.mul mulS
  have ext : ∀ {a b : Str}, a.cps.toList = b.cps.toList → a = b := fun {a b} h => by
    cases a; cases b
    congr 1
    exact Array.toList_inj.mp h
  by_cases h0 : (n : Int) < 1
  · rw [if_pos h0]
    have : n = 0 := by omega
    subst this
    exact ext (by simp [Str.empty])
  · rw [if_neg h0]
    split
    · rename_i h1
      rw [Bool.or_eq_true] at h1
      refine ext ?_
      rcases h1 with h1 | h1
      · have : n = 1 := by have := beq_iff_eq.mp h1; omega
        subst this; simp
      · have e : x.cps.toList = [] := by
          have := beq_iff_eq.mp h1
          exact List.eq_nil_of_length_eq_zero this
        rw [e]; simp
    · refine ext ?_
      show ((List.replicate (n : Int).toNat x.cps).foldl (· ++ ·) #[]).toList = _
      rw [foldl_app]
      simp
def gMulS (x y : D) (A : AH) : Res D := match x with
  | .str a => match y with
    | .int n => if 0 ≤ n ∧ n ≤ 16777216 ∧ a.length * n.toNat ≤ 16777216 then .ok (.str (mulS a n.toNat)) A else .stuck
    | _ => .stuck
  | _ => gMul x y A
def rMulStr : R2 := fun x y H Q => ∃ a n, x = .str a ∧ y = .int n ∧ MulOk a n ∧ Q (.str (Txt.mul a n)) H
theorem op_mulStr : OpR X (binaryOp .Mult) rMulStr := by
  intro pins s σ H x y v u Q I rx ry h
  obtain ⟨a, n, rfl, rfl, hok, q⟩ := h
  obtain ⟨t, rfl⟩ := rx
  obtain ⟨t', rfl⟩ := ry
  exact SB.mul hok fun t2 k => ⟨.str (Txt.mul a n), H, I.tok _, ⟨_, rfl⟩, q⟩
theorem mulOk_of {a : Str} {n : Int} (h0 : 0 ≤ n) (h1 : n ≤ 16777216) (h2 : a.length * n.toNat ≤ 16777216) : MulOk a n := by
  refine ⟨by simp; omega, fun hn hb => ?_, fun hn hb => ?_⟩
  · have hn1 : 1 ≤ n := by omega
    have hl : a.length ≤ 16777216 := by
      have : a.length * 1 ≤ a.length * n.toNat := Nat.mul_le_mul_left _ (by omega)
      omega
    have hq : (16777216 : Int) ≤ (2 ^ 63 - 1) / n := by
      rw [Int.le_ediv_iff_mul_le (by omega)]
      have : 16777216 * n ≤ 16777216 * 16777216 := by omega
      omega
    omega
  · unfold Builtin.Str.tooLong
    simp only [decide_eq_false_iff_not, Nat.not_lt]
    exact h2
theorem je_mulS (o : XO X G W k) {a b : Expr} {pos : Pos} {fa fb : Ev → AH → Res D} (ha : JE X G W a fa) (hb : JE X G W b fb) : JE X G W (.BinOp a .Mult b pos) (sBin gMulS fa fb) := by
  refine je_bin (r := fun x y H Q => rMulU X.K x y H Q ∨ rMulStr x y H Q) (OpR.or op_mulU op_mulStr) (fun γ A H d e x y Q Wx R r1 r2 h => ?_) ha hb
  unfold gMulS at h
  split at h
  · rename_i a
    split at h
    · rename_i n
      split at h
      · rename_i hc
        unfold VR at r1 r2
        subst r1; subst r2
        have e : Txt.mul a n = mulS a n.toNat := by
          rw [← mulS_eq, Int.toNat_of_nonneg hc.1]
        exact .inr ⟨a, n, rfl, rfl, mulOk_of hc.1 hc.2.1 hc.2.2, ok_here R (by unfold VR; rw [e]) h⟩
      · exact h.elim
    · exact h.elim
  · exact .inl (ok_mul o.gk γ A H _ _ x y Q Wx R r1 r2 h)
/-! ### list(text) -/
def gListS (ds : List D) (A : AH) : Res D := match ds with
  | [.str x] => if x.length ≤ sizeLine then .ok (.lst (x.cps.toList.map fun c => .str ⟨#[c]⟩)) A else .stuck
  | _ => gList ds A
theorem signs_vals {x : Str} : ∀ (cs : List Nat) (us : List Value) (i : Nat), (∀ j, x.cps[i + j]? = cs[j]?) → us.length = cs.length → (∀ j v, us[j]? = some v → SignAt x (i + j) v) → Vals (cs.map fun c => V.str ⟨#[c]⟩) us
  | [], [], _, _, _, _ => .nil
  | [], _ :: _, _, _, hl, _ => by simp at hl
  | _ :: _, [], _, _, hl, _ => by simp at hl
  | c :: cs, u :: us, i, hc, hl, hs => by
    refine .cons ?_ (signs_vals (x := x) cs us (i + 1) (fun j => ?_) (by simpa using hl) fun j v e => ?_)
    · obtain ⟨c', t, e1, e2⟩ := hs 0 u rfl
      have := hc 0
      rw [e1] at this
      cases this
      exact ⟨t, e2⟩
    · rw [show i + 1 + j = i + (j + 1) by omega, hc (j + 1)]; simp
    · rw [show i + 1 + j = i + (j + 1) by omega]
      exact hs (j + 1) v (by simpa using e)
theorem call_listS (hh : X.A.handled = none) : CallR X (.type "list") (fun xs H Q => ∃ x, xs = [.str x] ∧ x.length ≤ sizeLine ∧ ∀ l, H l = none → Q (.ref l) (upd H l (.lst (x.cps.toList.map fun c => V.str ⟨#[c]⟩)))) := by
  intro pins s σ H xs us Q I r h
  obtain ⟨x, rfl, hz, q⟩ := h
  obtain ⟨u, rfl, rx⟩ := vals1 r
  obtain ⟨t, rfl⟩ := rx
  refine call_list_str hh x t (fun h' tk acc c' kp e it => ?_) hz
  have rv : Vals (x.cps.toList.map fun c => V.str ⟨#[c]⟩) acc.toList := signs_vals (x := x) x.cps.toList acc.toList 0 (fun j => by rw [Nat.zero_add]; simp) (by rw [Array.length_toList, it.1]; simp) fun j v e => by
    rw [Nat.zero_add]
    exact it.2 j v (by simpa using e)
  exact ⟨.ref s.heap.objs.size, _, I.laid (t' := tk) kp (Nat.le_refl _) (show ObjOk X.prog X.w _ h' _ (.lst (x.cps.toList.map fun c => V.str ⟨#[c]⟩)) from ⟨by rw [List.length_map]; exact hz, acc.toList, c', rv, by simpa using e⟩), rfl, q _ (I.hok.fresh (Nat.le_refl _))⟩
theorem VRs.signs {γ : Gh} {H : Hp} : ∀ (cs : List Nat), VRs G γ H (cs.map fun c => D.str ⟨#[c]⟩) (cs.map fun c => V.str ⟨#[c]⟩)
  | [] => VRs.nil
  | c :: cs => VRs.cons (by unfold VR; rfl) (VRs.signs cs)
theorem XO.listS (o : XO X G W k) : CB X G (.type "list") gListS := by
  refine ⟨_, CallR.or (call_listS o.room.hd) call_list_of, fun γ A H ds vs Q Wx R rv h => ?_⟩
  unfold gListS at h
  split at h
  · rename_i x
    obtain ⟨v, rfl, r⟩ := VRs.one rv
    split at h
    · rename_i hz
      unfold VR at r; subst r
      exact .inl ⟨x, rfl, hz, fun p hp => Post.new (ob := .lst _) R hp h _ (VR.newL R hp (VRs.signs _))⟩
    · exact h.elim
  · right
    unfold gList at h
    split at h
    · obtain ⟨v, rfl, r⟩ := VRs.one rv
      split at h
      · rename_i xs q
        obtain ⟨a, ws, rfl, r2, hq⟩ := asL_at R r q
        rw [o.gk] at hq
        exact ⟨a, ws, rfl, hq, fun p hp => Post.new (ob := .lst ws) R hp h _ (VR.newL R hp r2)⟩
      · exact h.elim
    · exact h.elim
end
end F3
namespace F3
open PySem PySem.Spec
open PyProof.Rows L2
/-! ### short words for the walks -/
def mIn (l : List Nat) (n : Nat) : Bool := l.contains n
theorem exm_by {K : PySem.W.Frag} {R S : Addr} {b : Bool} (h1 : PySem.W.subIn K (.ref S) (.type "BaseException") = some true) (h2 : PySem.W.isClsIn K S = true) (h3 : PySem.W.typeIn K (.ref S) = some (.type "type")) (h4 : PySem.W.subIn K (.ref R) (.ref S) = some b) : PySem.W.exmOne K (.ref R) (.ref S) = some b := by
  have hc : (PySem.W.clsIn K S).isSome = true := h2
  unfold PySem.W.exmOne PySem.W.kitCls
  dsimp only
  rw [h1, h3, hc]
  simpa using h4
theorem xcp_mk {G : Gc} {K : PySem.W.Frag} {c : Nat} {C : Addr} {B newId initId : String} {bmB : List Value} (at_ : G.xcl c = some C) (fb : BaseOf B newId initId bmB) (ex : PySem.W.excIn K C bmB newId = true) (kC : PySem.W.keepIn K (.ref C) = true) (exC : PySem.W.subIn K (.ref C) (.type "BaseException") = some true) (tyC : PySem.W.typeIn K (.ref C) = some (.type "type")) : XcP G K c C B newId initId bmB := ⟨at_, fb.fb, ex, kC, exC, tyC⟩
theorem SC.wl {G : Gc} {K : PySem.W.Frag} {c : Nat} {C : Addr} {l : Option Lm} (h : SC G K c C) : SC (G.wl l) K c C := ⟨h.cls, h.sc⟩
theorem IsO.wl {G : Gc} {K : PySem.W.Frag} {c : Nat} {C : Addr} {l : Option Lm} (h : IsO G K c C) : IsO (G.wl l) K c C := ⟨h.1, h.2⟩
theorem IsB.wl {G : Gc} {K : PySem.W.Frag} {T : String} {l : Option Lm} (h : IsB G K T) : IsB (G.wl l) K T := ⟨h.1, h.2⟩
theorem XcP.wl {G : Gc} {K : PySem.W.Frag} {c : Nat} {C : Addr} {B newId initId : String} {bmB : List Value} {l : Option Lm} (h : XcP G K c C B newId initId bmB) : XcP (G.wl l) K c C B newId initId bmB := ⟨h.at_, h.fb, h.ex, h.kC, h.exC, h.tyC⟩
theorem Tks.wl {G : Gc} {K : PySem.W.Frag} {c : Value} {m : Nat → Bool} {l : Option Lm} (h : Tks G K c m) : Tks (G.wl l) K c m := h
theorem lamQ {X : Cx} {G : Gc} {c P : Addr} {q : Str} (tb : LamX.TabB X.base X.mg c P) (mem : (P, q) ∈ G.T) (only : ∀ p ∈ G.T, p.1 = P → p.2 = q) (hq : X.env.qual ++ "<lambda>" = q := by rfl) (hc : X.env.code = .ref c := by rfl) : LamQ X G c P := by
  subst hq
  exact ⟨tb, hc, mem, only⟩
theorem only_by {T : List (Addr × Str)} {t : Addr} {q : Str} (h : (T.all fun p => p.1 != t || p.2 == q) = true) : ∀ p ∈ T, p.1 = t → p.2 = q := fun p hp e => by
  have := List.all_eq_true.mp h p hp
  simpa [e] using this
section
variable {X : Cx} {A : Around} {outer : List Env} {s : Shared} {H : Hp} {E : XK} {scope : Scope} {f c' : Addr} {x : Str}
theorem vl (h : scope.names.lookup x = some .local) : Vis (LamX.lamCx X A outer s H E scope f c').env.scope x := .inl h
theorem vlf (h : scope.names.lookup x = some .free) : Vis (LamX.lamCx X A outer s H E scope f c').env.scope x := .inr (.inr h)
theorem gl (h : scope.names.lookup x = some .globalImplicit) : Gl (LamX.lamCx X A outer s H E scope f c') x := h
end
section
variable {CX : CXT} {P : Program} {w : World} {K : PySem.W.Frag} {mg : Str → Option Value} {base : Heap} {N : List Str} {qual : Str} {sc : Scope} {f : Addr} {cd : Value} {A : Around} {outer : List Env} {s : Shared} {H : Hp} {E : XK} {x : Str} {pn : List (Addr × Obj)} {xe : Value → Shared → Prop} {a : Addr}
theorem vft (h : sc.names.lookup x = some .local) : Vis ((cxOf CX P w K mg base N qual sc f cd A outer s H E).tr pn xe).env.scope x := .inl h
theorem vfct (h : sc.names.lookup x = some .cell) : Vis ((cxOf CX P w K mg base N qual sc f cd A outer s H E).tr pn xe).env.scope x := .inr (.inl h)
theorem gft (h : sc.names.lookup x = some .globalImplicit) : Gl ((cxOf CX P w K mg base N qual sc f cd A outer s H E).tr pn xe) x := h
theorem lft' (h : sc.names.lookup x = some .local) : Loc ((cxOf CX P w K mg base N qual sc f cd A outer s H E).tr pn xe).env.scope x := .inl h
theorem lfct (h : sc.names.lookup x = some .cell) : Loc ((cxOf CX P w K mg base N qual sc f cd A outer s H E).tr pn xe).env.scope x := .inr h
theorem fft : ((cxOf CX P w K mg base N qual sc f cd A outer s H E).tr pn xe).fn x = true ∨ ((cxOf CX P w K mg base N qual sc f cd A outer s H E).tr pn xe).env.scope.names.lookup x = some .local := .inl rfl
theorem qft (h : sc.names.lookup x = some .local) : ((cxOf CX P w K mg base N qual sc f cd A outer s H E).tr pn xe).env.scope.names.lookup x = some .local := h
theorem bft {scope : Scope} {own : List (Str × Nat)} (h : blkC N sc scope own = true) : BlkOk ((cxOf CX P w K mg base N qual sc f cd A outer s H E).tr pn xe).N ((cxOf CX P w K mg base N qual sc f cd A outer s H E).tr pn xe).env.scope scope own := blkOk_by h
theorem vfs (h : sc.names.lookup x = some .local) : Vis ((cxOf CX P w K mg base N qual sc f cd A outer s H E).suite a pn).env.scope x := .inl h
theorem vfcs (h : sc.names.lookup x = some .cell) : Vis ((cxOf CX P w K mg base N qual sc f cd A outer s H E).suite a pn).env.scope x := .inr (.inl h)
theorem gfs (h : sc.names.lookup x = some .globalImplicit) : Gl ((cxOf CX P w K mg base N qual sc f cd A outer s H E).suite a pn) x := h
theorem ltf {ps : List Str} {scope : Scope} (h : lamTB sc scope ps = true) : LamT (cxOf CX P w K mg base N qual sc f cd A outer s H E).env.scope scope ps := lamT_by h
end
end F3
namespace F3
open PySem PySem.Spec
open PyProof.Rows L2
section
variable {X : Cx} {G : Gc} {W : WX} {k : Nat}
/-- y = [..], y a local name: the store lies within the block -/
theorem js_setLc (o : XO X G W k) {i : Nat} {y : Str} {py : Pos} {elt tg iter : Expr} {ifs : List Expr} {scope : Scope} {own : List (Str × Nat)} {pos spos : Pos} {js : List Nat} {fi : Ev → AH → Res (List D)} {st : Ev → D → Option Ev} {t : Ev → AH → Res Bool} {f : Ev → AH → Res D}
    (hN : X.N.Nodup) (hy : X.N[i]? = some y) (hyl : X.env.scope.names.lookup y = some .local) (hsw : swapsWith (.ListComp elt [⟨tg, iter, ifs, 0⟩] scope pos) (some (.Name y py)) spos.line X.env = pure true) (hi : JI X G W tg iter fi) (ok : BlkOk X.N X.env.scope scope own)
    (hg : ∀ (s : Shared) (H : Hp) (C : Addr) (cl : List (Str × Addr)) (fp : List Addr), JG (X.blk s H scope (compEnvC scope cl C X.env) fp) G tg js st)
    (ht : ∀ (s : Shared) (H : Hp) (C : Addr) (cl : List (Str × Addr)) (fp : List Addr), JTs (X.blk s H scope (compEnvC scope cl C X.env) fp) G W0 ifs t)
    (he : ∀ (s : Shared) (H : Hp) (C : Addr) (cl : List (Str × Addr)) (fp : List Addr), JE (X.blk s H scope (compEnvC scope cl C X.env) fp) G W0 elt f)
    (hj : (js.all fun j => (own.map (·.2)).contains j) = true)
    (hfs : ∀ x, foldedSetIterable iter X.env x = pure x := by intro _; rfl) :
    JS X G W (.Assign [.Name y py] (.ListComp elt [⟨tg, iter, ifs, 0⟩] scope pos) spos) (bSet (gNm i) (sLC (own.map (·.2)) fi st t f)) := by
  refine ⟨PS.imp (ps_setLc o.calm hN hy hyl hsw hi.run ok (fun s H C cl fp => (hg s H C cl fp).run) (fun s H C cl fp => (ht s H C cl fp).run) (fun s H C cl fp => (he s H C cl fp).run) hfs) fun E σ H h => ?_⟩
  obtain ⟨γ, A, env, S, h⟩ := h
  have hj' : ∀ j ∈ js, j ∈ own.map (·.2) := fun j q => by simpa using List.all_eq_true.mp hj j q
  have h0 : Post G γ H (sLC (own.map (·.2)) fi st t f env A) (fun γ' _ H' d => ∀ v, VR G γ' H' d v → gName i v σ H' E.nx) (fun c a H' => W c a σ H') := PostS.lft S h fun d A1 γ1 H1 e1 R1 h1 v r1 => by
    have S1 := S.to e1 R1
    exact h1 γ1 H1 _ (Ext.refl _ _) ⟨R1, by simp [S.len], S1.er.set S.len r1⟩
  refine ⟨γ, A, env, S, ?_⟩
  have h' : Post G γ H ((fi env A).bind fun ds A1 => (if ds.length ≤ sizeLine then compL st t f ds (wip (own.map (·.2)) env) A1 else .stuck).bind fun ds A1 => .ok (D.lst ds) A1) (fun γ' _ H' d => ∀ v, VR G γ' H' d v → gName i v σ H' E.nx) (fun c a H' => W c a σ H') := by
    unfold sLC sComp at h0
    cases q : fi env A with
    | ok ds A1 => rw [q] at h0; exact h0
    | ex x A1 => rw [q] at h0; exact h0
    | stuck => rw [q] at h0; exact h0
  refine Post.bind h' fun ds A1 γ1 H1 e1 R1 h1 J hJ => ?_
  by_cases hz : ds.length ≤ sizeLine
  · rw [if_pos hz] at h1
    refine comp_core (js := js) (st := st) (t := t) (f := f) (Q := fun v H' => gName i v σ H' E.nx) (Wx := fun c a H' => W c a σ H') (fun v σ H Q h => h) (fun σ H Q h => h) (fun σ H Q h => h) hj' (S.to e1 R1) hJ hz ?_
    cases q : compL st t f ds (wip (own.map (·.2)) env) A1 with
    | ok xs A3 => rw [q] at h1; exact h1
    | ex x A3 => rw [q] at h1; exact h1
    | stuck => rw [q] at h1; exact h1
  · rw [if_neg hz] at h1; exact h1.elim
theorem lamT_blk {s : Shared} {H : Hp} {scope inner : Scope} {cl : List (Str × Addr)} {C : Addr} {fp : List Addr} {ps : List Str} (h : lamTB scope inner ps = true) : LamT (X.blk s H scope (compEnvC scope cl C X.env) fp).env.scope inner ps := by
  obtain ⟨h1, h2, h3, h4, h5, h6, h7⟩ := lamT_by h
  refine ⟨h1, h2, h3, h4, h5, h6, fun y hy e => ?_⟩
  rcases h7 y hy e with z | z
  · exact .inl (rel_other (by decide) z)
  · exact rel_free z
end
end F3
namespace Lw
open PySem PySem.Spec
open PyProof.Rows L2 F3
/-- 0 script, 1 at, 2 cell, 3 great, 4 blend -/
def b_law_bag : Ev → AH → SR := bSeq (bSet (gNm 2) (sIf (sTest (sBin gLt (sVar 1) (sCall gLen (sCons (sVar 0) (sNil))))) (sCall gInt (sCons (sBin gIx (sVar 0) (sVar 1)) (sNil))) (sBin gAdd (sBin gMulS (sC (.int 89)) (sVar 1)) (sC (.int 41))))) (bSeq (bSet (gNm 3) (sBin gMod (sCall gMax2 (sCons (sC (.int 0)) (sCons (sBin gSub (sCall gAbs (sCons (sVar 2) (sNil))) (sBin gPow (sC (.int 10)) (sC (.int 18)))) (sNil)))) (sBin gMulS (sBin gPow (sC (.int 10)) (sC (.int 60))) (sBin gPow (sC (.int 10)) (sC (.int 60)))))) (bSeq (bSet (gNm 4) (sBin gAdd (sBin gAdd (sBin gAdd (sBin gMulS (sBin gMod (sCall gInt (sCons (sCall gAbs (sCons (sVar 2) (sNil))) (sNil))) (sBin gAdd (sBin gPow (sC (.int 10)) (sC (.int 12))) (sC (.int 39)))) (sC (.int 10007))) (sBin gMulS (sC (.int 509)) (sVar 1))) (sBin gMulS (sC (.int 17)) (sCall gInt (sCons (sBin gLt (sVar 2) (sC (.int 0))) (sNil))))) (sC (.int 1)))) (bRet (sLstM (sCons (sVar 3) (sCons (sBin gMod (sCall gInt (sCons (sVar 4) (sNil))) (sBin gSub (sBin gPow (sC (.int 2)) (sC (.int 61))) (sC (.int 1)))) (sNil)))))))
def m_law_bag : List D → AH → Res D := runN 5 2 b_law_bag
theorem u_law_bag (x0 x1 : D) (A : AH) : m_law_bag [x0, x1] A = SR.finN (b_law_bag [some x0, some x1, none, none, none] A) := e_runN 5 2 _ _ rfl
/-- 0 bag, 1 many, 2 found -/
def b_law_draw : Ev → AH → SR := bSeq (bIf (sTest (sBin gGt (sBin gIx (sVar 0) (sC (.int 0))) (sC (.int 0)))) (bSeq (bSet (gNm 2) (sBin gMod (sCall gInt (sCons (sBin gIx (sVar 0) (sC (.int 0))) (sNil))) (sVar 1))) (bSeq (bStore (sVar 0) (sC (.int 0)) (sBin gFdiv (sBin gIx (sVar 0) (sC (.int 0))) (sVar 1))) (bRet (sVar 2)))) (bNil)) (bSeq (bStore (sVar 0) (sC (.int 1)) (sBin gMod (sCall gInt (sCons (sBin gAdd (sBin gMulS (sBin gIx (sVar 0) (sC (.int 1))) (sC (.int 6364136223))) (sC (.int 1442695041))) (sNil))) (sBin gSub (sBin gPow (sC (.int 2)) (sC (.int 61))) (sC (.int 1))))) (bRet (sBin gMod (sCall gInt (sCons (sBin gFdiv (sBin gIx (sVar 0) (sC (.int 1))) (sC (.int 65537))) (sNil))) (sVar 1))))
def m_law_draw : List D → AH → Res D := runF 3 2 b_law_draw
theorem u_law_draw (x0 x1 : D) (A : AH) : m_law_draw [x0, x1] A = SR.fin A.length (b_law_draw [some x0, some x1, none] A) := e_runF 3 2 _ _ rfl
/-- 0 bag, 1 items -/
def b_law_one_of : Ev → AH → SR := bRet (sBin gIx (sVar 1) (sCall m_law_draw (sCons (sVar 0) (sCons (sCall gLen (sCons (sVar 1) (sNil))) (sNil)))))
def m_law_one_of : List D → AH → Res D := runF 2 2 b_law_one_of
theorem u_law_one_of (x0 x1 : D) (A : AH) : m_law_one_of [x0, x1] A = SR.fin A.length (b_law_one_of [some x0, some x1] A) := e_runF 2 2 _ _ rfl
/-- 0 bag, 1 size, 2 most, 3 found, 4 loops, 5 turn, 6 one, 7 other -/
def b_law_ties : Ev → AH → SR := bSeq (bPar 3 4 (sCons (sLstM (sNil)) (sCons (sCall m_law_one_of (sCons (sVar 0) (sCons (sLst (sCons (sC (.int 0)) (sCons (sC (.int 0)) (sCons (sC (.int 6)) (sCons (sC (.int 3)) (sNil)))))) (sNil)))) sNil))) (bSeq (bFor (iRange1 (sCons (sCall m_law_draw (sCons (sVar 0) (sCons (sBin gAdd (sVar 2) (sC (.int 1))) (sNil)))) (sNil))) (gNm 5) (bSeq (bPar 6 7 (sCons (sCall m_law_draw (sCons (sVar 0) (sCons (sVar 1) (sNil)))) (sCons (sCall m_law_draw (sCons (sVar 0) (sCons (sVar 1) (sNil)))) sNil))) (bSeq (bIf (sAndT (sTest (sBin gEq (sVar 6) (sVar 7))) (sAndT (sTest (sBin gGt (sVar 1) (sC (.int 1)))) (sOrT (sTest (sBin gEq (sVar 4) (sC (.int 0)))) (sTest (sBin gGt (sCall m_law_draw (sCons (sVar 0) (sCons (sVar 4) (sNil)))) (sC (.int 0))))))) (bSet (gNm 7) (sBin gMod (sCall gInt (sCons (sBin gAdd (sBin gAdd (sVar 6) (sC (.int 1))) (sCall m_law_draw (sCons (sVar 0) (sCons (sBin gSub (sVar 1) (sC (.int 1))) (sNil))))) (sNil))) (sVar 1))) (bNil)) (bExpr (sAppend (sVar 3) (sTup (sCons (sCall gMin2 (sCons (sVar 6) (sCons (sVar 7) (sNil)))) (sCons (sCall gMax2 (sCons (sVar 6) (sCons (sVar 7) (sNil)))) (sNil))))))))) (bRet (sCall gTuple (sCons (sCall gSorted (sCons (sVar 3) (sNil))) (sNil)))))
def m_law_ties : List D → AH → Res D := runF 8 3 b_law_ties
theorem u_law_ties (x0 x1 x2 : D) (A : AH) : m_law_ties [x0, x1, x2] A = SR.fin A.length (b_law_ties [some x0, some x1, some x2, none, none, none, none, none] A) := e_runF 8 3 _ _ rfl
/-- 0 value -/
def b_is_int : Ev → AH → SR := bRet (sAndV (sIsiB "int" (sVar 0)) (sNotV (sIsiB "bool" (sVar 0))))
def m_is_int : List D → AH → Res D := runF 1 1 b_is_int
theorem u_is_int (x0 : D) (A : AH) : m_is_int [x0] A = SR.fin A.length (b_is_int [some x0] A) := e_runF 1 1 _ _ rfl
/-- 0 value -/
def b_is_whole : Ev → AH → SR := bRet (sAndV (sCall m_is_int (sCons (sVar 0) (sNil))) (sChain gLt gLt (sUn gNeg (sC (.int 1000000000000000000000000000000000000000000000000000000000000))) (sVar 0) (sC (.int 1000000000000000000000000000000000000000000000000000000000000))))
def m_is_whole : List D → AH → Res D := runF 1 1 b_is_whole
theorem u_is_whole (x0 : D) (A : AH) : m_is_whole [x0] A = SR.fin A.length (b_is_whole [some x0] A) := e_runF 1 1 _ _ rfl
/-- 0 value, 1 low, 2 high -/
def b_is_within : Ev → AH → SR := bRet (sAndV (sCall m_is_whole (sCons (sVar 0) (sNil))) (sChain gLe gLe (sVar 1) (sVar 0) (sVar 2)))
def m_is_within : List D → AH → Res D := runF 3 3 b_is_within
theorem u_is_within (x0 x1 x2 : D) (A : AH) : m_is_within [x0, x1, x2] A = SR.fin A.length (b_is_within [some x0, some x1, some x2] A) := e_runF 3 3 _ _ rfl
/-- 0 size -/
def b_require_size : Ev → AH → SR := bIf (sNotT (sTest (sCall m_is_within (sCons (sVar 0) (sCons (sC (.int 1)) (sCons (sC (.int 7)) (sNil))))))) (bRaise (sMk1 4 (sCons (sVar 0) (sNil)))) (bNil)
def m_require_size : List D → AH → Res D := runF 1 1 b_require_size
theorem u_require_size (x0 : D) (A : AH) : m_require_size [x0] A = SR.fin A.length (b_require_size [some x0] A) := e_runF 1 1 _ _ rfl
/-- 0 size, 1 value, 2 tie, 3 one, 4 other -/
def b_are_ties : Ev → AH → SR := bSeq (bIf (sOrT (sNotT (sTest (sIsiB "tuple" (sVar 1)))) (sTest (sBin gGt (sCall gLen (sCons (sVar 1) (sNil))) (sC (.int 14))))) (bRet (sC (.bl false))) (bNil)) (bSeq (bIf (sNotT (sTest (sCall gAll (sCons (sLC [2] (iOf (sVar 1)) (gNm 2) (tTrue) (sAndV (sIsiB "tuple" (sVar 2)) (sBin gEq (sCall gLen (sCons (sVar 2) (sNil))) (sC (.int 2))))) (sNil))))) (bRet (sC (.bl false))) (bNil)) (bSeq (bIf (sNotT (sTest (sCall gAll (sCons (sLC [3, 4] (iOf (sVar 1)) (gTp (gMore (gNm 3) (gMore (gNm 4) (gEnd)))) (tTrue) (sAndV (sCall m_is_within (sCons (sVar 3) (sCons (sC (.int 0)) (sCons (sBin gSub (sVar 0) (sC (.int 1))) (sNil))))) (sCall m_is_within (sCons (sVar 4) (sCons (sVar 3) (sCons (sBin gSub (sVar 0) (sC (.int 1))) (sNil))))))) (sNil))))) (bRet (sC (.bl false))) (bNil)) (bRet (sCall gAll (sCons (sLC [3, 4] (iZip2 (sCons (sVar 1) (sCons (sSlice (sVar 1) (oSome (sC (.int 1))) (oNone)) (sNil)))) (gTp (gMore (gNm 3) (gMore (gNm 4) (gEnd)))) (tTrue) (sBin gLe (sVar 3) (sVar 4))) (sNil))))))
def m_are_ties : List D → AH → Res D := runF 5 2 b_are_ties
theorem u_are_ties (x0 x1 : D) (A : AH) : m_are_ties [x0, x1] A = SR.fin A.length (b_are_ties [some x0, some x1, none, none, none] A) := e_runF 5 2 _ _ rfl
/-- 0 self, 1 size, 2 ties -/
def b_Web_init : Ev → AH → SR := bSeq (bExpr (sCall m_require_size (sCons (sVar 1) (sNil)))) (bSeq (bIf (sNotT (sTest (sCall m_are_ties (sCons (sVar 1) (sCons (sVar 2) (sNil)))))) (bRaise (sMk0 1)) (bNil)) (bFlds (aMore (aFld 0 0 (sVar 0)) (aMore (aFld 0 1 (sVar 0)) (aEnd))) (sTup (sCons (sVar 1) (sCons (sVar 2) (sNil))))))
def m_Web_init : List D → AH → Res D := runF 3 3 b_Web_init
theorem u_Web_init (x0 x1 x2 : D) (A : AH) : m_Web_init [x0, x1, x2] A = SR.fin A.length (b_Web_init [some x0, some x1, some x2] A) := e_runF 3 3 _ _ rfl
/-- 0 bag, 1 text, 2 at, 3 lines, 4 line, 5 sign, 6 some -/
def b_law_bent : Ev → AH → SR := bSeq (bPar 2 3 (sCons (sCall m_law_draw (sCons (sVar 0) (sCons (sBin gAdd (sCall gLen (sCons (sVar 1) (sNil))) (sC (.int 1))) (sNil)))) (sCons (sM1 mSplit (sVar 1) (sC (.str ⟨#[10]⟩))) sNil))) (bSeq (bSet (gNm 4) (sCall m_law_draw (sCons (sVar 0) (sCons (sCall gLen (sCons (sVar 3) (sNil))) (sNil))))) (bSeq (bSet (gNm 5) (sCall m_law_one_of (sCons (sVar 0) (sCons (sBin gAdd (sCall gListS (sCons (sC (.str ⟨#[48, 49, 50, 51, 52, 53, 54, 55, 56, 57, 62, 32, 45, 60, 120]⟩)) (sNil))) (sLst (sCons (sC (.str ⟨#[10]⟩)) (sCons (sC (.str ⟨#[10]⟩)) (sCons (sC (.str ⟨#[112, 108, 97, 99, 101, 115, 32, 51]⟩)) (sCons (sC (.str ⟨#[104, 117, 101, 115, 32]⟩)) (sCons (sC (.str ⟨#[49, 48, 48, 48, 48, 48, 48, 48, 48, 48]⟩)) (sCons (sC (.str ⟨#[48, 48]⟩)) (sCons (sC (.str ⟨#[32, 32]⟩)) (sCons (sC (.str ⟨#[45, 45]⟩)) (sCons (sC (.str ⟨#[43, 49]⟩)) (sNil)))))))))))) (sNil))))) (bSeq (bSet (gNm 6) (sLst (sCons (sVar 1) (sCons (sSlice (sVar 1) (oNone) (oSome (sVar 2))) (sCons (sSlice (sVar 1) (oSome (sVar 2)) (oNone)) (sCons (sBin gAdd (sBin gAdd (sSlice (sVar 1) (oNone) (oSome (sVar 2))) (sVar 5)) (sSlice (sVar 1) (oSome (sVar 2)) (oNone))) (sCons (sBin gAdd (sBin gAdd (sSlice (sVar 1) (oNone) (oSome (sVar 2))) (sVar 5)) (sSlice (sVar 1) (oSome (sBin gAdd (sVar 2) (sC (.int 1)))) (oNone))) (sCons (sBin gAdd (sSlice (sVar 1) (oNone) (oSome (sVar 2))) (sSlice (sVar 1) (oSome (sBin gAdd (sVar 2) (sC (.int 1)))) (oNone))) (sCons (sBin gAdd (sVar 1) (sVar 5)) (sNil)))))))))) (bSeq (bSet (gNm 6) (sBin gAdd (sVar 6) (sLst (sCons (sM1 mJoin (sC (.str ⟨#[10]⟩)) (sBin gAdd (sSlice (sVar 3) (oNone) (oSome (sVar 4))) (sSlice (sVar 3) (oSome (sBin gAdd (sVar 4) (sC (.int 1)))) (oNone)))) (sCons (sM1 mJoin (sC (.str ⟨#[10]⟩)) (sBin gAdd (sBin gAdd (sSlice (sVar 3) (oNone) (oSome (sVar 4))) (sBin gMulS (sSlice (sVar 3) (oSome (sVar 4)) (oSome (sBin gAdd (sVar 4) (sC (.int 1))))) (sC (.int 2)))) (sSlice (sVar 3) (oSome (sBin gAdd (sVar 4) (sC (.int 1)))) (oNone)))) (sNil)))))) (bRet (sCall m_law_one_of (sCons (sVar 0) (sCons (sBin gAdd (sVar 6) (sLst (sCons (sM1 mJoin (sC (.str ⟨#[10]⟩)) (sUn gRev (sVar 3))) (sCons (sM1 mJoin (sC (.str ⟨#[10]⟩)) (sBin gAdd (sBin gAdd (sSlice (sVar 3) (oNone) (oSome (sVar 4))) (sLst (sCons (sVar 5) (sNil)))) (sSlice (sVar 3) (oSome (sVar 4)) (oNone)))) (sNil))))) (sNil)))))))))
def m_law_bent : List D → AH → Res D := runF 7 2 b_law_bent
theorem u_law_bent (x0 x1 : D) (A : AH) : m_law_bent [x0, x1] A = SR.fin A.length (b_law_bent [some x0, some x1, none, none, none, none, none] A) := e_runF 7 2 _ _ rfl
/-- 0 call, 1 error -/
def b_law_read (φ : List D → AH → Res D) : Ev → AH → SR := bTry (bRet (sTup (sCons (sC .non) (sCons (sAct 0 φ sNil) (sNil))))) [⟨(mIn [3]), some 1, (fun x => bRet ((fun x => sTup ((fun x => sCons ((fX 3) x) ((fun x => sCons ((fun _ => sC .non) x) ((fun _ => sNil) x)) x)) x)) x))⟩]
def m_law_read : (List D → AH → Res D) → List D → AH → Res D := runL 2 1 b_law_read
/-- 0 text -/
def b_require_text : Ev → AH → SR := bIf (sOrT (sNotT (sTest (sIsiB "str" (sVar 0)))) (sTest (sBin gGt (sCall gLen (sCons (sVar 0) (sNil))) (sC (.int 20000))))) (bRaise (sMk0 2)) (bNil)
def m_require_text : List D → AH → Res D := runF 1 1 b_require_text
theorem u_require_text (x0 : D) (A : AH) : m_require_text [x0] A = SR.fin A.length (b_require_text [some x0] A) := e_runF 1 1 _ _ rfl
/-- 0 text, 1 lines -/
def b_whole_lines : Ev → AH → SR := bSeq (bSet (gNm 1) (sM1 mSplit (sVar 0) (sC (.str ⟨#[10]⟩)))) (bRet (sTup (sCons (sSlice (sVar 1) (oNone) (oSome (sUn gNeg (sC (.int 1))))) (sCons (sBin gIx (sVar 1) (sUn gNeg (sC (.int 1)))) (sNil)))))
def m_whole_lines : List D → AH → Res D := runF 2 1 b_whole_lines
theorem u_whole_lines (x0 : D) (A : AH) : m_whole_lines [x0] A = SR.fin A.length (b_whole_lines [some x0, none] A) := e_runF 2 1 _ _ rfl
/-- 0 part, 1 sign -/
def b_number_of : Ev → AH → SR := bSeq (bIf (sOrT (sNotT (sTest (sChain gLe gLe (sC (.int 1)) (sCall gLen (sCons (sVar 0) (sNil))) (sC (.int 9))))) (sNotT (sTest (sCall gAll (sCons (sLC [1] (iOf (sVar 0)) (gNm 1) (tTrue) (sBin gIn (sVar 1) (sC (.str ⟨#[48, 49, 50, 51, 52, 53, 54, 55, 56, 57]⟩)))) (sNil)))))) (bRet (sC .non)) (bNil)) (bRet (sIf (sAndT (sTest (sBin gEq (sBin gIx (sVar 0) (sC (.int 0))) (sC (.str ⟨#[48]⟩)))) (sTest (sBin gGt (sCall gLen (sCons (sVar 0) (sNil))) (sC (.int 1))))) (sC .non) (sCall gInt (sCons (sVar 0) (sNil)))))
def m_number_of : List D → AH → Res D := runF 2 1 b_number_of
theorem u_number_of (x0 : D) (A : AH) : m_number_of [x0] A = SR.fin A.length (b_number_of [some x0, none] A) := e_runF 2 1 _ _ rfl
/-- 0 line, 1 parts, 2 size -/
def b_size_from : Ev → AH → SR := bSeq (bSet (gNm 1) (sM1 mSplit (sVar 0) (sC (.str ⟨#[32]⟩)))) (bSeq (bSet (gNm 2) (sIf (sAndT (sTest (sBin gEq (sCall gLen (sCons (sVar 1) (sNil))) (sC (.int 2)))) (sTest (sBin gEq (sBin gIx (sVar 1) (sC (.int 0))) (sC (.str ⟨#[112, 108, 97, 99, 101, 115]⟩))))) (sCall m_number_of (sCons (sBin gIx (sVar 1) (sC (.int 1))) (sNil))) (sC .non))) (bRet (sIf (sAndT (sTest (sBin gIsNot (sVar 2) (sC .non))) (sTest (sCall m_is_within (sCons (sVar 2) (sCons (sC (.int 1)) (sCons (sC (.int 7)) (sNil))))))) (sVar 2) (sC .non))))
def m_size_from : List D → AH → Res D := runF 3 1 b_size_from
theorem u_size_from (x0 : D) (A : AH) : m_size_from [x0] A = SR.fin A.length (b_size_from [some x0, none, none] A) := e_runF 3 1 _ _ rfl
/-- 0 parts, 1 found, 2 part -/
def b_numbers_of : Ev → AH → SR := bSeq (bSet (gNm 1) (sCall gTuple (sCons (sLC [2] (iOf (sVar 0)) (gNm 2) (tTrue) (sCall m_number_of (sCons (sVar 2) (sNil)))) (sNil)))) (bRet (sIf (sTest (sBin gIn (sC .non) (sVar 1))) (sC .non) (sVar 1)))
def m_numbers_of : List D → AH → Res D := runF 3 1 b_numbers_of
theorem u_numbers_of (x0 : D) (A : AH) : m_numbers_of [x0] A = SR.fin A.length (b_numbers_of [some x0, none, none] A) := e_runF 3 1 _ _ rfl
/-- 0 size, 1 line, 2 tie -/
def b_tie_from : Ev → AH → SR := bSeq (bSet (gNm 2) (sCall m_numbers_of (sCons (sM1 mSplit (sVar 1) (sC (.str ⟨#[45]⟩))) (sNil)))) (bSeq (bIf (sOrT (sTest (sBin gIs (sVar 2) (sC .non))) (sTest (sBin gNe (sCall gLen (sCons (sVar 2) (sNil))) (sC (.int 2))))) (bRet (sC .non)) (bNil)) (bRet (sIf (sTest (sChain gLe gLt (sBin gIx (sVar 2) (sC (.int 0))) (sBin gIx (sVar 2) (sC (.int 1))) (sVar 0))) (sVar 2) (sC .non))))
def m_tie_from : List D → AH → Res D := runF 3 2 b_tie_from
theorem u_tie_from (x0 x1 : D) (A : AH) : m_tie_from [x0, x1] A = SR.fin A.length (b_tie_from [some x0, some x1, none] A) := e_runF 3 2 _ _ rfl
/-- 0 text, 1 lines, 2 rest, 3 size, 4 found, 5 number, 6 line, 7 tie -/
def b_read_web : Ev → AH → SR := bSeq (bExpr (sCall m_require_text (sCons (sVar 0) (sNil)))) (bSeq (bSet (gTp (gMore (gNm 1) (gMore (gNm 2) (gEnd)))) (sCall m_whole_lines (sCons (sVar 0) (sNil)))) (bSeq (bSet (gNm 3) (sIf (sTest (sBin gNe (sVar 1) (sLst (sNil)))) (sCall m_size_from (sCons (sBin gIx (sVar 1) (sC (.int 0))) (sNil))) (sC .non))) (bSeq (bIf (sTest (sBin gIs (sVar 3) (sC .non))) (bRaise (sMk1 3 (sCons (sC (.int 0)) (sNil)))) (bNil)) (bSeq (bSet (gNm 4) (sLstM (sNil))) (bSeq (bFor (iEnum1 (sCons (sSlice (sVar 1) (oSome (sC (.int 1))) (oNone)) (sNil))) (gTp (gMore (gNm 5) (gMore (gNm 6) (gEnd)))) (bSeq (bSet (gNm 7) (sCall m_tie_from (sCons (sVar 3) (sCons (sVar 6) (sNil))))) (bSeq (bIf (sOrT (sTest (sBin gIs (sVar 7) (sC .non))) (sOrT (sTest (sBin gEq (sCall gLen (sCons (sVar 4) (sNil))) (sC (.int 14)))) (sAndT (sTest (sBin gNe (sVar 4) (sLst (sNil)))) (sTest (sBin gLt (sVar 7) (sBin gIx (sVar 4) (sUn gNeg (sC (.int 1))))))))) (bRaise (sMk1 3 (sCons (sBin gAdd (sVar 5) (sC (.int 1))) (sNil)))) (bNil)) (bExpr (sAppend (sVar 4) (sVar 7)))))) (bSeq (bIf (sTest (sBin gNe (sVar 2) (sC (.str ⟨#[]⟩)))) (bRaise (sMk1 3 (sCons (sCall gLen (sCons (sVar 1) (sNil))) (sNil)))) (bNil)) (bRet (sCall (mMake 0 m_Web_init) (sCons (sVar 3) (sCons (sCall gTuple (sCons (sVar 4) (sNil))) (sNil)))))))))))
def m_read_web : List D → AH → Res D := runF 8 1 b_read_web
theorem u_read_web (x0 : D) (A : AH) : m_read_web [x0] A = SR.fin A.length (b_read_web [some x0, none, none, none, none, none, none, none] A) := e_runF 8 1 _ _ rfl
/-- 0 self -/
def b_Web_size : Ev → AH → SR := bRet (sUn (gFld 0 0) (sVar 0))
def m_Web_size : List D → AH → Res D := runF 1 1 b_Web_size
theorem u_Web_size (x0 : D) (A : AH) : m_Web_size [x0] A = SR.fin A.length (b_Web_size [some x0] A) := e_runF 1 1 _ _ rfl
/-- 0 self -/
def b_Web_ties : Ev → AH → SR := bRet (sUn (gFld 0 1) (sVar 0))
def m_Web_ties : List D → AH → Res D := runF 1 1 b_Web_ties
theorem u_Web_ties (x0 : D) (A : AH) : m_Web_ties [x0] A = SR.fin A.length (b_Web_ties [some x0] A) := e_runF 1 1 _ _ rfl
/-- 0 part, 1 sign -/
def b_law_number : Ev → AH → SR := bSeq (bIf (sOrT (sTest (sBin gEq (sVar 0) (sC (.str ⟨#[]⟩)))) (sOrT (sTest (sBin gGt (sCall gLen (sCons (sVar 0) (sNil))) (sC (.int 9)))) (sOrT (sTest (sBin gNe (sLC [1] (iOf (sVar 0)) (gNm 1) (sTest (sBin gNotIn (sVar 1) (sC (.str ⟨#[48, 49, 50, 51, 52, 53, 54, 55, 56, 57]⟩)))) (sVar 1)) (sLst (sNil)))) (sAndT (sTest (sBin gEq (sBin gIx (sVar 0) (sC (.int 0))) (sC (.str ⟨#[48]⟩)))) (sTest (sBin gNe (sVar 0) (sC (.str ⟨#[48]⟩)))))))) (bRet (sC .non)) (bNil)) (bRet (sCall gInt (sCons (sVar 0) (sNil))))
def m_law_number : List D → AH → Res D := runF 2 1 b_law_number
theorem u_law_number (x0 : D) (A : AH) : m_law_number [x0] A = SR.fin A.length (b_law_number [some x0, none] A) := e_runF 2 1 _ _ rfl
/-- 0 text, 1 lines, 2 size, 3 found, 4 at, 5 line, 6 tie, 7 part -/
def b_law_of_web : Ev → AH → SR := bSeq (bSet (gNm 1) (sM1 mSplit (sVar 0) (sC (.str ⟨#[10]⟩)))) (bSeq (bSet (gNm 2) (sIf (sAndT (sTest (sBin gEq (sSlice (sBin gIx (sVar 1) (sC (.int 0))) (oNone) (oSome (sC (.int 7)))) (sC (.str ⟨#[112, 108, 97, 99, 101, 115, 32]⟩)))) (sTest (sBin gGt (sCall gLen (sCons (sVar 1) (sNil))) (sC (.int 1))))) (sCall m_law_number (sCons (sSlice (sBin gIx (sVar 1) (sC (.int 0))) (oSome (sC (.int 7))) (oNone)) (sNil))) (sC .non))) (bSeq (bIf (sOrT (sTest (sBin gIs (sVar 2) (sC .non))) (sNotT (sTest (sChain gLe gLe (sC (.int 1)) (sVar 2) (sC (.int 7)))))) (bRet (sTup (sCons (sC (.int 0)) (sCons (sC .non) (sNil))))) (bNil)) (bSeq (bSet (gNm 3) (sLstM (sNil))) (bSeq (bFor (iEnum1 (sCons (sSlice (sVar 1) (oSome (sC (.int 1))) (oSome (sUn gNeg (sC (.int 1))))) (sNil))) (gTp (gMore (gNm 4) (gMore (gNm 5) (gEnd)))) (bSeq (bSet (gNm 6) (sLC [7] (iOf (sM1 mSplit (sVar 5) (sC (.str ⟨#[45]⟩)))) (gNm 7) (tTrue) (sCall m_law_number (sCons (sVar 7) (sNil))))) (bSeq (bIf (sOrT (sTest (sBin gNe (sCall gLen (sCons (sVar 6) (sNil))) (sC (.int 2)))) (sOrT (sTest (sBin gIn (sC .non) (sVar 6))) (sOrT (sNotT (sTest (sChain gLe gLt (sBin gIx (sVar 6) (sC (.int 0))) (sBin gIx (sVar 6) (sC (.int 1))) (sVar 2)))) (sOrT (sTest (sBin gEq (sCall gLen (sCons (sVar 3) (sNil))) (sC (.int 14)))) (sAndT (sTest (sBin gNe (sVar 3) (sLst (sNil)))) (sTest (sBin gLt (sCall gTuple (sCons (sVar 6) (sNil))) (sBin gIx (sVar 3) (sUn gNeg (sC (.int 1))))))))))) (bRet (sTup (sCons (sBin gAdd (sVar 4) (sC (.int 1))) (sCons (sC .non) (sNil))))) (bNil)) (bExpr (sAppend (sVar 3) (sCall gTuple (sCons (sVar 6) (sNil)))))))) (bRet (sIf (sTest (sBin gEq (sBin gIx (sVar 1) (sUn gNeg (sC (.int 1)))) (sC (.str ⟨#[]⟩)))) (sTup (sCons (sC .non) (sCons (sTup (sCons (sVar 2) (sCons (sCall gTuple (sCons (sVar 3) (sNil))) (sNil)))) (sNil)))) (sTup (sCons (sBin gSub (sCall gLen (sCons (sVar 1) (sNil))) (sC (.int 1))) (sCons (sC .non) (sNil))))))))))
def m_law_of_web : List D → AH → Res D := runF 8 1 b_law_of_web
theorem u_law_of_web (x0 : D) (A : AH) : m_law_of_web [x0] A = SR.fin A.length (b_law_of_web [some x0, none, none, none, none, none, none, none] A) := e_runF 8 1 _ _ rfl
/-- 0 web -/
def b_require_web : Ev → AH → SR := bIf (sNotT (sTest (sIsiO 0 (sVar 0)))) (bRaise (sMk0 1)) (bNil)
def m_require_web : List D → AH → Res D := runF 1 1 b_require_web
theorem u_require_web (x0 : D) (A : AH) : m_require_web [x0] A = SR.fin A.length (b_require_web [some x0] A) := e_runF 1 1 _ _ rfl
/-- 0 text, 1 lines, 2 rest -/
def b_alone_line : Ev → AH → SR := bSeq (bSet (gTp (gMore (gNm 1) (gMore (gNm 2) (gEnd)))) (sCall m_whole_lines (sCons (sVar 0) (sNil)))) (bSeq (bIf (sTest (sBin gEq (sVar 1) (sLst (sNil)))) (bRaise (sMk1 3 (sCons (sC (.int 0)) (sNil)))) (bNil)) (bSeq (bIf (sOrT (sTest (sBin gGt (sCall gLen (sCons (sVar 1) (sNil))) (sC (.int 1)))) (sTest (sBin gNe (sVar 2) (sC (.str ⟨#[]⟩))))) (bRet (sTup (sCons (sBin gIx (sVar 1) (sC (.int 0))) (sCons (sC (.int 1)) (sNil))))) (bNil)) (bRet (sTup (sCons (sBin gIx (sVar 1) (sC (.int 0))) (sCons (sC .non) (sNil)))))))
def m_alone_line : List D → AH → Res D := runF 3 1 b_alone_line
theorem u_alone_line (x0 : D) (A : AH) : m_alone_line [x0] A = SR.fin A.length (b_alone_line [some x0, none, none] A) := e_runF 3 1 _ _ rfl
/-- 0 web, 1 text, 2 line, 3 spot, 4 sign -/
def b_read_signs : Ev → AH → SR := bSeq (bExpr (sCall m_require_web (sCons (sVar 0) (sNil)))) (bSeq (bExpr (sCall m_require_text (sCons (sVar 1) (sNil)))) (bSeq (bSet (gTp (gMore (gNm 2) (gMore (gNm 3) (gEnd)))) (sCall m_alone_line (sCons (sVar 1) (sNil)))) (bSeq (bIf (sOrT (sTest (sBin gNe (sCall gLen (sCons (sVar 2) (sNil))) (sCall gLen (sCons (sUn (gFld 0 1) (sVar 0)) (sNil))))) (sNotT (sTest (sCall gAll (sCons (sLC [4] (iOf (sVar 2)) (gNm 4) (tTrue) (sBin gIn (sVar 4) (sTup (sCons (sC (.str ⟨#[62]⟩)) (sCons (sC (.str ⟨#[60]⟩)) (sNil)))))) (sNil)))))) (bRaise (sMk1 3 (sCons (sC (.int 0)) (sNil)))) (bNil)) (bSeq (bIf (sTest (sBin gIsNot (sVar 3) (sC .non))) (bRaise (sMk1 3 (sCons (sVar 3) (sNil)))) (bNil)) (bRet (sCall gTuple (sCons (sLC [4] (iOf (sVar 2)) (gNm 4) (tTrue) (sIf (sTest (sBin gEq (sVar 4) (sC (.str ⟨#[62]⟩)))) (sC (.int 1)) (sUn gNeg (sC (.int 1))))) (sNil))))))))
def m_read_signs : List D → AH → Res D := runF 5 2 b_read_signs
theorem u_read_signs (x0 x1 : D) (A : AH) : m_read_signs [x0, x1] A = SR.fin A.length (b_read_signs [some x0, some x1, none, none, none] A) := e_runF 5 2 _ _ rfl
/-- 0 text, 1 call, 2 lines, 3 told -/
def b_law_of_line (φ : List D → AH → Res D) : Ev → AH → SR := bSeq (bSet (gNm 2) (sM1 mSplit (sVar 0) (sC (.str ⟨#[10]⟩)))) (bSeq (bSet (gNm 3) (sIf (sTest (sBin gGt (sCall gLen (sCons (sVar 2) (sNil))) (sC (.int 1)))) (sAct 1 φ (sCons (sBin gIx (sVar 2) (sC (.int 0))) (sNil))) (sC .non))) (bSeq (bIf (sTest (sBin gIs (sVar 3) (sC .non))) (bRet (sTup (sCons (sC (.int 0)) (sCons (sC .non) (sNil))))) (bNil)) (bRet (sIf (sTest (sBin gEq (sSlice (sVar 2) (oSome (sC (.int 1))) (oNone)) (sLst (sCons (sC (.str ⟨#[]⟩)) (sNil))))) (sTup (sCons (sC .non) (sCons (sVar 3) (sNil)))) (sTup (sCons (sC (.int 1)) (sCons (sC .non) (sNil))))))))
def m_law_of_line : (List D → AH → Res D) → List D → AH → Res D := runL 4 2 b_law_of_line
/-- 0 line, 1 many, 2 sign -/
def b_law_signs_of : Ev → AH → SR := bSeq (bIf (sOrT (sTest (sBin gNe (sCall gLen (sCons (sVar 0) (sNil))) (sVar 1))) (sTest (sBin gNe (sLC [2] (iOf (sVar 0)) (gNm 2) (sTest (sBin gNotIn (sVar 2) (sC (.str ⟨#[60, 62]⟩)))) (sVar 2)) (sLst (sNil))))) (bRet (sC .non)) (bNil)) (bRet (sCall gTuple (sCons (sLC [2] (iOf (sVar 0)) (gNm 2) (tTrue) (sIf (sTest (sBin gEq (sVar 2) (sC (.str ⟨#[62]⟩)))) (sC (.int 1)) (sUn gNeg (sC (.int 1))))) (sNil))))
def m_law_signs_of : List D → AH → Res D := runF 3 2 b_law_signs_of
theorem u_law_signs_of (x0 x1 : D) (A : AH) : m_law_signs_of [x0, x1] A = SR.fin A.length (b_law_signs_of [some x0, some x1, none] A) := e_runF 3 2 _ _ rfl
/-- 0 web, 1 value, 2 one -/
def b_are_hues_in : Ev → AH → SR := bSeq (bIf (sOrT (sNotT (sTest (sIsiB "tuple" (sVar 1)))) (sTest (sBin gNe (sCall gLen (sCons (sVar 1) (sNil))) (sUn (gFld 0 0) (sVar 0))))) (bRet (sC (.bl false))) (bNil)) (bRet (sCall gAll (sCons (sLC [2] (iOf (sVar 1)) (gNm 2) (tTrue) (sCall m_is_within (sCons (sVar 2) (sCons (sC (.int 0)) (sCons (sC (.int 9)) (sNil)))))) (sNil))))
def m_are_hues_in : List D → AH → Res D := runF 3 2 b_are_hues_in
theorem u_are_hues_in (x0 x1 : D) (A : AH) : m_are_hues_in [x0, x1] A = SR.fin A.length (b_are_hues_in [some x0, some x1, none] A) := e_runF 3 2 _ _ rfl
/-- 0 web, 1 text, 2 line, 3 spot, 4 parts, 5 row -/
def b_read_hues : Ev → AH → SR := bSeq (bExpr (sCall m_require_web (sCons (sVar 0) (sNil)))) (bSeq (bExpr (sCall m_require_text (sCons (sVar 1) (sNil)))) (bSeq (bSet (gTp (gMore (gNm 2) (gMore (gNm 3) (gEnd)))) (sCall m_alone_line (sCons (sVar 1) (sNil)))) (bSeq (bSet (gNm 4) (sM1 mSplit (sVar 2) (sC (.str ⟨#[32]⟩)))) (bSeq (bSet (gNm 5) (sIf (sTest (sBin gEq (sBin gIx (sVar 4) (sC (.int 0))) (sC (.str ⟨#[104, 117, 101, 115]⟩)))) (sCall m_numbers_of (sCons (sSlice (sVar 4) (oSome (sC (.int 1))) (oNone)) (sNil))) (sC .non))) (bSeq (bIf (sOrT (sTest (sBin gIs (sVar 5) (sC .non))) (sNotT (sTest (sCall m_are_hues_in (sCons (sVar 0) (sCons (sVar 5) (sNil))))))) (bRaise (sMk1 3 (sCons (sC (.int 0)) (sNil)))) (bNil)) (bSeq (bIf (sTest (sBin gIsNot (sVar 3) (sC .non))) (bRaise (sMk1 3 (sCons (sVar 3) (sNil)))) (bNil)) (bRet (sVar 5))))))))
def m_read_hues : List D → AH → Res D := runF 6 2 b_read_hues
theorem u_read_hues (x0 x1 : D) (A : AH) : m_read_hues [x0, x1] A = SR.fin A.length (b_read_hues [some x0, some x1, none, none, none, none] A) := e_runF 6 2 _ _ rfl
/-- 0 line, 1 size, 2 row, 3 part, 4 hue -/
def b_law_hues_of : Ev → AH → SR := bSeq (bSet (gNm 2) (sIf (sTest (sBin gEq (sSlice (sVar 0) (oNone) (oSome (sC (.int 5)))) (sC (.str ⟨#[104, 117, 101, 115, 32]⟩)))) (sLC [3] (iOf (sM1 mSplit (sSlice (sVar 0) (oSome (sC (.int 5))) (oNone)) (sC (.str ⟨#[32]⟩)))) (gNm 3) (tTrue) (sCall m_law_number (sCons (sVar 3) (sNil)))) (sLst (sNil)))) (bSeq (bIf (sOrT (sTest (sBin gNe (sCall gLen (sCons (sVar 2) (sNil))) (sVar 1))) (sTest (sBin gNe (sLC [4] (iOf (sVar 2)) (gNm 4) (sOrT (sTest (sBin gIs (sVar 4) (sC .non))) (sTest (sBin gGt (sVar 4) (sC (.int 9))))) (sVar 4)) (sLst (sNil))))) (bRet (sC .non)) (bNil)) (bRet (sCall gTuple (sCons (sVar 2) (sNil)))))
def m_law_hues_of : List D → AH → Res D := runF 5 2 b_law_hues_of
theorem u_law_hues_of (x0 x1 : D) (A : AH) : m_law_hues_of [x0, x1] A = SR.fin A.length (b_law_hues_of [some x0, some x1, none, none, none] A) := e_runF 5 2 _ _ rfl
/-- 0 bag, 1 whole, 2 turn, 3 told, 4 size, 5 text, 6 ties, 7 web, 8 one, 9 other, 10 tie, 11 line, 12 place -/
def b_law_right : Ev → AH → SR := bSeq (bSet (gNm 4) (sBin gAdd (sC (.int 1)) (sCall m_law_draw (sCons (sVar 0) (sCons (sC (.int 7)) (sNil)))))) (bSeq (bSet (gNm 6) (sCall m_law_ties (sCons (sVar 0) (sCons (sVar 4) (sCons (sC (.int 14)) (sNil)))))) (bSeq (bSet (gTp (gMore (gNm 7) (gMore (gNm 1) (gEnd)))) (sTup (sCons (sCall (mMake 0 m_Web_init) (sCons (sVar 4) (sCons (sVar 6) (sNil)))) (sCons (sBin gAdd (sBin gAdd (sBin gAdd (sC (.str ⟨#[112, 108, 97, 99, 101, 115, 32]⟩)) (sCall gStr (sCons (sVar 4) (sNil)))) (sC (.str ⟨#[10]⟩))) (sM1 mJoin (sC (.str ⟨#[]⟩)) (sLC [8, 9] (iOf (sVar 6)) (gTp (gMore (gNm 8) (gMore (gNm 9) (gEnd)))) (tTrue) (sBin gAdd (sBin gAdd (sBin gAdd (sCall gStr (sCons (sVar 8) (sNil))) (sC (.str ⟨#[45]⟩))) (sCall gStr (sCons (sVar 9) (sNil)))) (sC (.str ⟨#[10]⟩)))))) (sNil))))) (bSeq (bFor (iRange1 (sCons (sC (.int 6)) (sNil))) (gNm 2) (bSeq (bSet (gNm 5) (sCall m_law_bent (sCons (sVar 0) (sCons (sVar 1) (sNil))))) (bSeq (bSet (gNm 3) (sCallL m_law_read (sLam bd0 (sCall m_read_web (sCons (sVar 5) (sNil)))) sNil)) (bSeq (bIf (sTest (sBin gNe (sCall gRepr (sCons (sIf (sTest (sBin gIs (sBin gIx (sVar 3) (sC (.int 1))) (sC .non))) (sVar 3) (sTup (sCons (sC .non) (sCons (sTup (sCons (sUn (gProp 0 m_Web_size) (sBin gIx (sVar 3) (sC (.int 1)))) (sCons (sUn (gProp 0 m_Web_ties) (sBin gIx (sVar 3) (sC (.int 1)))) (sNil)))) (sNil))))) (sNil))) (sCall gRepr (sCons (sCall m_law_of_web (sCons (sVar 5) (sNil))) (sNil))))) (bRet (sC (.bl false))) (bNil)) (bSeq (bSet (gNm 5) (sCall m_law_bent (sCons (sVar 0) (sCons (sBin gAdd (sM1 mJoin (sC (.str ⟨#[]⟩)) (sLC [10] (iOf (sVar 6)) (gNm 10) (tTrue) (sCall m_law_one_of (sCons (sVar 0) (sCons (sLst (sCons (sC (.str ⟨#[60]⟩)) (sCons (sC (.str ⟨#[62]⟩)) (sNil)))) (sNil)))))) (sC (.str ⟨#[10]⟩))) (sNil))))) (bSeq (bIf (sTest (sBin gNe (sCall gRepr (sCons (sCallL m_law_read (sLam bd0 (sCall m_read_signs (sCons (sVar 7) (sCons (sVar 5) (sNil))))) sNil) (sNil))) (sCall gRepr (sCons (sCallL m_law_of_line (sLam (bd1 11) (sCall m_law_signs_of (sCons (sVar 11) (sCons (sCall gLen (sCons (sVar 6) (sNil))) (sNil))))) (sCons (sVar 5) sNil)) (sNil))))) (bRet (sC (.bl false))) (bNil)) (bSeq (bSet (gNm 5) (sCall m_law_bent (sCons (sVar 0) (sCons (sBin gAdd (sBin gAdd (sC (.str ⟨#[104, 117, 101, 115, 32]⟩)) (sM1 mJoin (sC (.str ⟨#[32]⟩)) (sLC [12] (iRange1 (sCons (sVar 4) (sNil))) (gNm 12) (tTrue) (sCall gStr (sCons (sCall m_law_draw (sCons (sVar 0) (sCons (sC (.int 10)) (sNil)))) (sNil)))))) (sC (.str ⟨#[10]⟩))) (sNil))))) (bIf (sTest (sBin gNe (sCall gRepr (sCons (sCallL m_law_read (sLam bd0 (sCall m_read_hues (sCons (sVar 7) (sCons (sVar 5) (sNil))))) sNil) (sNil))) (sCall gRepr (sCons (sCallL m_law_of_line (sLam (bd1 11) (sCall m_law_hues_of (sCons (sVar 11) (sCons (sVar 4) (sNil))))) (sCons (sVar 5) sNil)) (sNil))))) (bRet (sC (.bl false))) (bNil))))))))) (bRet (sC (.bl true))))))
def m_law_right : List D → AH → Res D := runF 13 1 b_law_right
theorem u_law_right (x0 : D) (A : AH) : m_law_right [x0] A = SR.fin A.length (b_law_right [some x0, none, none, none, none, none, none, none, none, none, none, none, none] A) := e_runF 13 1 _ _ rfl
/-- 0 script, 1 at, 2 bag, 3 texts, 4 told, 5 two, 6 turn, 7 text -/
def b_law : Ev → AH → SR := bSeq (bFor (iRange1 (sCons (sCall gMax2 (sCons (sC (.int 1)) (sCons (sCall gMin2 (sCons (sC (.int 3)) (sCons (sCall gLen (sCons (sVar 0) (sNil))) (sNil)))) (sNil)))) (sNil))) (gNm 1) (bSeq (bSet (gNm 2) (sCall m_law_bag (sCons (sVar 0) (sCons (sVar 1) (sNil))))) (bIf (sTest (sBin gNe (sLC [6] (iRange1 (sCons (sC (.int 4)) (sNil))) (gNm 6) (sNotT (sTest (sCall m_law_right (sCons (sVar 2) (sNil))))) (sC (.int 1))) (sLst (sNil)))) (bRet (sC (.bl false))) (bNil)))) (bSeq (bSet (gNm 3) (sLst (sCons (sC (.str ⟨#[]⟩)) (sCons (sC (.str ⟨#[112, 108, 97, 99, 101, 115, 32, 50, 10, 48, 45, 49, 10, 48, 45, 48, 10]⟩)) (sCons (sC (.str ⟨#[112, 108, 97, 99, 101, 115, 32, 56, 10]⟩)) (sCons (sC (.str ⟨#[112, 108, 97, 99, 101, 115, 32, 51]⟩)) (sCons (sC (.str ⟨#[112, 108, 97, 99, 101, 115, 32, 49, 10, 10]⟩)) (sCons (sC (.str ⟨#[80, 108, 97, 99, 101, 115, 32, 49, 10]⟩)) (sCons (sC (.str ⟨#[112, 108, 97, 99, 101, 115, 32, 48, 49, 10]⟩)) (sCons (sC (.str ⟨#[112, 108, 97, 99, 101, 115, 32, 50, 10, 48, 45, 49]⟩)) (sNil))))))))))) (bSeq (bSet (gNm 3) (sBin gAdd (sVar 3) (sLst (sCons (sBin gAdd (sC (.str ⟨#[112, 108, 97, 99, 101, 115, 32, 49, 10]⟩)) (sBin gMulS (sC (.str ⟨#[48, 45, 48, 10]⟩)) (sC (.int 15)))) (sCons (sC (.str ⟨#[112, 108, 97, 99, 101, 115, 32, 50, 10, 49, 45, 48, 10]⟩)) (sNil)))))) (bSeq (bSet (gNm 4) (sLC [7] (iOf (sVar 3)) (gNm 7) (tTrue) (sBin gIx (sCallL m_law_read (sLam bd0 (sCall m_read_web (sCons (sVar 7) (sNil)))) sNil) (sC (.int 0))))) (bSeq (bSet (gNm 5) (sCall (mMake 0 m_Web_init) (sCons (sC (.int 2)) (sCons (sTup (sCons (sTup (sCons (sC (.int 0)) (sCons (sC (.int 1)) (sNil)))) (sNil))) (sNil))))) (bSeq (bSet (gNm 4) (sBin gAdd (sVar 4) (sLC [7] (iOf (sTup (sCons (sC (.str ⟨#[62]⟩)) (sCons (sC (.str ⟨#[62, 10]⟩)) (sCons (sC (.str ⟨#[62, 10, 10]⟩)) (sCons (sC (.str ⟨#[62, 32, 10]⟩)) (sCons (sC (.str ⟨#[62, 10, 120]⟩)) (sCons (sC (.str ⟨#[]⟩)) (sNil))))))))) (gNm 7) (tTrue) (sBin gIx (sCallL m_law_read (sLam bd0 (sCall m_read_signs (sCons (sVar 5) (sCons (sVar 7) (sNil))))) sNil) (sC (.int 0)))))) (bSeq (bSet (gNm 4) (sBin gAdd (sVar 4) (sLC [7] (iOf (sTup (sCons (sC (.str ⟨#[104, 117, 101, 115, 32, 48, 32, 57, 10]⟩)) (sCons (sC (.str ⟨#[104, 117, 101, 115, 32, 48, 32, 49, 48, 10]⟩)) (sCons (sC (.str ⟨#[104, 117, 101, 115, 32, 48, 10]⟩)) (sCons (sC (.str ⟨#[104, 117, 101, 115, 32, 32, 48, 32, 49, 10]⟩)) (sCons (sC (.str ⟨#[104, 117, 101, 115, 32, 48, 32, 49, 10, 10]⟩)) (sNil)))))))) (gNm 7) (tTrue) (sBin gIx (sCallL m_law_read (sLam bd0 (sCall m_read_hues (sCons (sVar 5) (sCons (sVar 7) (sNil))))) sNil) (sC (.int 0)))))) (bRet (sBin gEq (sVar 4) (sBin gAdd (sBin gAdd (sLst (sCons (sC (.int 0)) (sCons (sC (.int 2)) (sCons (sC (.int 0)) (sCons (sC (.int 0)) (sCons (sC (.int 1)) (sCons (sC (.int 0)) (sCons (sC (.int 0)) (sCons (sC (.int 1)) (sCons (sC (.int 15)) (sCons (sC (.int 1)) (sNil)))))))))))) (sLst (sCons (sC (.int 0)) (sCons (sC .non) (sCons (sC (.int 1)) (sCons (sC (.int 0)) (sCons (sC (.int 1)) (sCons (sC (.int 0)) (sNil))))))))) (sLst (sCons (sC .non) (sCons (sC (.int 0)) (sCons (sC (.int 0)) (sCons (sC (.int 0)) (sCons (sC (.int 1)) (sNil))))))))))))))))
def m_law : List D → AH → Res D := runF 8 1 b_law
theorem u_law (x0 : D) (A : AH) : m_law [x0] A = SR.fin A.length (b_law [some x0, none, none, none, none, none, none, none] A) := e_runF 8 1 _ _ rfl
end Lw
namespace Lw
open PySem PySem.Spec
open PyProof.Rows L2 F3
@[simp] theorem len_mk (a : Array Nat) : (⟨a⟩ : Str).length = a.size := rfl
@[simp] theorem size_line : sizeLine = 16777216 := rfl
/-! ### small numbers -/
theorem is_int_int (i : Int) (A : AH) : m_is_int [.int i] A = .ok (.bl true) A := by
  simp [u_is_int, b_is_int, gIsiB, tyD, isiB]
theorem is_within_int (v lo hi : Int) (A : AH) (h1 : -10000000000 < v) (h2 : v < 10000000000) : m_is_within [.int v, .int lo, .int hi] A = .ok (.bl (decide (lo ≤ v ∧ v ≤ hi))) A := by
  have k1 : -1000000000000000000000000000000000000000000000000000000000000 < v := by omega
  have k2 : v < 1000000000000000000000000000000000000000000000000000000000000 := by omega
  by_cases q : lo ≤ v <;> simp [u_is_within, b_is_within, u_is_whole, b_is_whole, is_int_int, gLt, gLe, gNeg, k1, k2, q]
/-- a digit, a number below ten as a text -/
def dg (n : Nat) : Str := ⟨#[48 + n]⟩
@[simp] theorem dg_len (n : Nat) : (dg n).length = 1 := rfl
@[simp] theorem dg_cps (n : Nat) : (dg n).cps = #[48 + n] := rfl
theorem ten {p : Nat → Prop} (h0 : p 0) (h1 : p 1) (h2 : p 2) (h3 : p 3) (h4 : p 4) (h5 : p 5) (h6 : p 6) (h7 : p 7) (h8 : p 8) (h9 : p 9) (n : Nat) (h : n < 10) : p n := by
  match n, h with
  | 0, _ => exact h0
  | 1, _ => exact h1
  | 2, _ => exact h2
  | 3, _ => exact h3
  | 4, _ => exact h4
  | 5, _ => exact h5
  | 6, _ => exact h6
  | 7, _ => exact h7
  | 8, _ => exact h8
  | 9, _ => exact h9
theorem toStr_dg (n : Nat) (h : n < 10) : (toString (n : Int) : Str) = dg n := ten (p := fun n => (toString (n : Int) : Str) = dg n) (by decide +kernel) (by decide +kernel) (by decide +kernel) (by decide +kernel) (by decide +kernel) (by decide +kernel) (by decide +kernel) (by decide +kernel) (by decide +kernel) (by decide +kernel) n h
theorem log_dg (n : Nat) (h : n < 10) : (n : Int).natAbs.log2 < 1920 := by
  rw [Int.natAbs_natCast]
  exact Nat.lt_of_le_of_lt (Nat.log2_le_self n) (by omega)
theorem str_dg (n : Nat) (h : n < 10) (A : AH) : gStr [.int n] A = .ok (.str (dg n)) A := by
  unfold gStr
  simp only [if_pos (log_dg n h), toStr_dg n h]
theorem ok_small {l : List Nat} (h : ∀ c ∈ l, c < 200) : PyData.strOk ⟨l.toArray⟩ = true := by
  unfold PyData.strOk
  rw [← Array.all_toList]
  simp only [List.all_eq_true, decide_eq_true_eq]
  exact fun c hc => Nat.lt_trans (h c hc) (by decide)
theorem ok_sign {c : Nat} (h : c < 200) : PyData.strOk ⟨#[c]⟩ = true := ok_small (l := [c]) (by simpa using h)
@[simp] theorem atI0 {α : Type} (x : α) (l : List α) : atI (x :: l) 0 = some x := by
  unfold atI ixN; simp
@[simp] theorem atI1 {α : Type} (x y : α) (l : List α) : atI (x :: y :: l) 1 = some y := by
  unfold atI ixN; simp; split <;> first | rfl | omega
theorem atI_last {α : Type} (xs : List α) (x : α) : atI (xs ++ [x]) (-1) = some x := by
  unfold atI ixN
  have h1 : ¬ (0 : Int) ≤ -1 := by decide
  have h2 : -((xs ++ [x]).length : Int) ≤ -1 := by simp; omega
  rw [if_neg h1, if_pos h2, Option.bind_some]
  have h3 : (-1 + ((xs ++ [x]).length : Int)).toNat = xs.length := by simp; omega
  rw [h3]; simp
/-! ### texts: small signs, not too long -/
structure Okt (x : Str) : Prop where
  few : x.length ≤ 2000
  low : ∀ c ∈ TL.tl x, c < 200
theorem Okt.ok {x : Str} (h : Okt x) : PyData.strOk x = true := by
  have := ok_small h.low
  rwa [TL.mk_tl] at this
def chrs (x : Str) : List D := (TL.tl x).map fun c => D.str ⟨#[c]⟩
theorem dbls_all {α : Type} (g : α → Bool) : ∀ l : List α, dbls (l.map fun x => D.bl (g x)) = some (l.map g)
  | [] => rfl
  | x :: l => by show (dbls (l.map fun x => D.bl (g x))).map (g x :: ·) = _; rw [dbls_all g l]; rfl
theorem all_map {α : Type} (g : α → Bool) (l : List α) (A : AH) : gAll [.lst (l.map fun x => D.bl (g x))] A = .ok (.bl (l.all g)) A := by
  unfold gAll
  simp only [asQ, Option.bind_some, dbls_all]
  rw [List.all_map]; rfl
/-! ### numbers in texts -/
def dig (c : Nat) : Bool := decide (48 ≤ c) && decide (c ≤ 57)
theorem sign_dig (c : Nat) : signIn ⟨#[c]⟩ ⟨#[48, 49, 50, 51, 52, 53, 54, 55, 56, 57]⟩ = dig c := by
  unfold signIn dig
  simp
  by_cases h : 48 ≤ c <;> by_cases h' : c ≤ 57 <;> simp [h, h'] <;> omega
def numC (l : List Nat) : Bool := decide (1 ≤ l.length ∧ l.length ≤ 9) && l.all dig && !(l.head? == some 48 && decide (1 < l.length))
def numO (x : Str) : Option Nat := if numC (TL.tl x) = true then some (NumText.digitsVal (TL.tl x)) else none
def optD : Option Nat → D
  | none => .non
  | some n => .int n
theorem val_lt : ∀ (l : List Nat) (a k : Nat), l.all dig = true → a < 10 ^ k → l.foldl (fun acc c => acc * 10 + (c - 48)) a < 10 ^ (k + l.length)
  | [], a, k, _, h => by simpa using h
  | c :: l, a, k, hl, h => by
    simp only [List.all_cons, Bool.and_eq_true] at hl
    have hc : c ≤ 57 := by have := hl.1; unfold dig at this; simp at this; exact this.2
    have := val_lt l (a * 10 + (c - 48)) (k + 1) hl.2 (by rw [Nat.pow_succ]; omega)
    rw [List.foldl_cons, List.length_cons]
    rwa [show k + (l.length + 1) = k + 1 + l.length by omega]
theorem numO_lt {x : Str} {n : Nat} (h : numO x = some n) : n < 1000000000 := by
  unfold numO at h
  split at h
  · rename_i q
    cases h
    unfold numC at q
    simp only [Bool.and_eq_true, decide_eq_true_eq] at q
    have := val_lt (TL.tl x) 0 0 q.1.2 (by decide)
    unfold NumText.digitsVal
    refine Nat.lt_of_lt_of_le this ?_
    rw [Nat.zero_add]
    exact Nat.pow_le_pow_right (by decide) q.1.1.2
  · cases h
theorem int_dig {x : Str} (h : (TL.tl x).all dig = true) (h1 : TL.tl x ≠ []) (h2 : x.length ≤ 9) : PySem.intText? x = some ((NumText.digitsVal (TL.tl x) : Nat) : Int) := by
  refine intText_digits (fun c hc => ?_) h1 (by omega)
  have := List.all_eq_true.mp h c hc
  unfold dig at this
  simp at this
  exact this
theorem chr_eq (c d : Nat) : ((⟨#[c]⟩ : Str) == ⟨#[d]⟩) = (c == d) := by
  by_cases h : c = d
  · subst h; simp [beq_self_eq_true]
  · have : ¬ ((⟨#[c]⟩ : Str) = ⟨#[d]⟩) := fun z => h (by
      have z1 := congrArg (fun x : Str => x.cps.toList) z
      simpa using z1)
    rw [beq_eq_false_iff_ne.mpr this, beq_eq_false_iff_ne.mpr h]
theorem number_of_any {x : Str} (h : Okt x) (A : AH) : m_number_of [.str x] A = .ok (optD (numO x)) A := by
  have hl : x.length = (TL.tl x).length := TL.len_tl x
  have z : x.length ≤ 16777216 := by have := h.few; omega
  have zc : (chrs x).length ≤ 16777216 := by unfold chrs; rw [List.length_map, ← hl]; exact z
  have hm := compL_map (st := gNm 1) (t := tTrue) (f := sBin gIn (sVar 1) (sC (.str ⟨#[48, 49, 50, 51, 52, 53, 54, 55, 56, 57]⟩))) (A := A) (g := fun d => match d with | .str y => .bl (signIn y ⟨#[48, 49, 50, 51, 52, 53, 54, 55, 56, 57]⟩) | d => d) (env := [some (D.str x), none]) (chrs x) (fun d hd => by
    obtain ⟨c, _, rfl⟩ := List.mem_map.mp hd
    exact ⟨_, rfl, rfl, by simp [gIn, inP, topD, pureB]⟩)
  have e : (chrs x).map (fun d => match d with | .str y => .bl (signIn y ⟨#[48, 49, 50, 51, 52, 53, 54, 55, 56, 57]⟩) | d => d) = (TL.tl x).map fun c => D.bl (dig c) := by
    unfold chrs
    rw [List.map_map]
    refine List.map_congr_left fun c _ => ?_
    simp [sign_dig]
  rw [e] at hm
  have hc : x.cps.toList.map (fun c => D.str ⟨#[c]⟩) = chrs x := rfl
  have al := all_map dig (TL.tl x) A
  by_cases h1 : 1 ≤ x.length
  · have h1' : (1 : Int) ≤ x.length := by omega
    by_cases h2 : x.length ≤ 9
    · have h2' : (x.length : Int) ≤ 9 := by omega
      by_cases h3 : (TL.tl x).all dig = true
      · rw [h3] at al
        have hne : TL.tl x ≠ [] := fun q => by rw [hl, q] at h1; simp at h1
        obtain ⟨c, r, hx⟩ : ∃ c r, TL.tl x = c :: r := by
          cases q : TL.tl x with
          | nil => exact absurd q hne
          | cons c r => exact ⟨c, r, rfl⟩
        have iv := int_dig h3 hne h2
        have gi : gIx (.str x) (.int 0) A = .ok (.str ⟨#[c]⟩) A := by
          unfold gIx
          simp only
          rw [if_pos (show x.length ≤ sizeLine from z), show x.cps.toList = c :: r from hx, atI0]
        have lc : c < 200 := h.low c (by rw [hx]; simp)
        have ge := gEq_str (ok_sign lc) (ok_sign (c := 48) (by decide)) A
        rw [chr_eq] at ge
        have z640 : x.length ≤ 640 := by omega
        by_cases h4 : c = 48
        · subst h4
          by_cases h5 : 1 < x.length
          · have en : numO x = none := by
              unfold numO numC
              rw [if_neg]
              rw [h3, hx]
              rw [hl, hx] at h5
              simp only [List.length_cons] at h5 ⊢
              simp [show 0 < r.length by omega]
            have h5' : (1 : Int) < x.length := by omega
            simp [u_number_of, b_number_of, gLe, gLen, z, h1', h2', hc, zc, wip, hm, al, gi, ge, gCmpI, h5, h5', en, optD]
          · have en : numO x = some (NumText.digitsVal (TL.tl x)) := by
              unfold numO numC
              rw [if_pos]
              rw [h3, ← hl]
              simp [h1, h2, h5]
            have h5' : ¬ (1 : Int) < x.length := by omega
            simp [u_number_of, b_number_of, gLe, gLen, z, h1', h2', hc, zc, wip, hm, al, gi, ge, gCmpI, h5, h5', en, optD, gInt, iv, z640]
        · rw [show (c == 48) = false from beq_eq_false_iff_ne.mpr h4] at ge
          have en : numO x = some (NumText.digitsVal (TL.tl x)) := by
            unfold numO numC
            rw [if_pos]
            rw [h3, ← hl, hx]
            simp [h1, h2, h4]
          simp [u_number_of, b_number_of, gLe, gLen, z, h1', h2', hc, zc, wip, hm, al, gi, ge, h4, gCmpI, en, optD, gInt, iv, z640]
      · have h3' : (TL.tl x).all dig = false := by simpa using h3
        rw [h3'] at al
        have en : numO x = none := by unfold numO numC; rw [if_neg]; rw [h3']; simp
        simp [u_number_of, b_number_of, gLe, gLen, z, h1', h2', hc, zc, wip, hm, al, en, optD]
    · have en : numO x = none := by unfold numO numC; rw [if_neg]; rw [← hl]; simp [h2]
      have h2' : ¬ (x.length : Int) ≤ 9 := by omega
      simp [u_number_of, b_number_of, gLe, gLen, z, h1', h2', en, optD]
  · have en : numO x = none := by unfold numO numC; rw [if_neg]; rw [← hl]; simp [h1]
    have h1' : ¬ (1 : Int) ≤ x.length := by omega
    simp [u_number_of, b_number_of, gLe, gLen, z, h1', en, optD]
end Lw
namespace Lw
open PySem PySem.Spec
open PyProof.Rows L2 F3
theorem compL_filt {st : Ev → D → Option Ev} {t : Ev → AH → Res Bool} {f : Ev → AH → Res D} {env : Ev} {A : AH} {p : D → Bool} {g : D → D} : ∀ (ds : List D), (∀ d ∈ ds, ∃ env1, st env d = some env1 ∧ t env1 A = .ok (p d) A ∧ (p d = true → f env1 A = .ok (g d) A)) → compL st t f ds env A = .ok ((ds.filter p).map g) A
  | [], _ => rfl
  | d :: ds, h => by
    obtain ⟨env1, h1, h2, h3⟩ := h d List.mem_cons_self
    have ih := compL_filt ds fun e he => h e (List.mem_cons_of_mem _ he)
    unfold compL
    rw [h1]; simp only; rw [h2]
    cases hp : p d with
    | false => simp only [List.filter_cons, hp]; exact ih
    | true => simp only [List.filter_cons, hp, h3 hp]; rw [ih]; rfl
theorem ne_nil (l : List Str) (h : ∀ x ∈ l, PyData.strOk x = true) (A : AH) : gNe (.lst (l.map .str)) (.lst []) A = .ok (.bl (!l.isEmpty)) A := by
  obtain ⟨q1, q2⟩ := lay_strs l h
  rw [gNe_of (d := .list (l.map .str)) (e := .list []) (by
    show toP (.lst (l.map .str)) = _
    unfold toP
    rw [toPs_strs]; rfl) rfl (shaped_list q1 (by rw [q2]; decide)) rfl]
  cases l <;> rfl
theorem isEmpty_filter {α : Type} (p : α → Bool) : ∀ l : List α, (l.filter p).isEmpty = l.all fun x => !p x
  | [] => rfl
  | x :: l => by
    rw [List.filter_cons, List.all_cons]
    cases p x with
    | true => simp
    | false => simp [isEmpty_filter p l]
/-- the signs that p tells, as a list -/
theorem signs_not {p : Nat → Bool} {x z : Str} (h : Okt x) (hz : ∀ c, signIn ⟨#[c]⟩ z = p c) {env : Ev} {A : AH} {j : Nat} (hj : j < env.length) :
    compL (gNm j) (sTest (sBin gNotIn (sVar j) (sC (.str z)))) (sVar j) (chrs x) env A = .ok ((((TL.tl x).filter fun c => !p c).map fun c => (⟨#[c]⟩ : Str)).map D.str) A := by
  have := compL_filt (st := gNm j) (t := sTest (sBin gNotIn (sVar j) (sC (.str z)))) (f := sVar j) (env := env) (A := A) (p := fun d => match d with | .str y => !signIn y z | _ => false) (g := id) (chrs x) fun d hd => by
    obtain ⟨c, _, rfl⟩ := List.mem_map.mp hd
    refine ⟨_, rfl, ?_, fun _ => ?_⟩
    · simp [hj, gNotIn, inP, topD, pureB]
    · simp [hj]
  rw [this]
  congr 1
  unfold chrs
  rw [List.map_id, List.filter_map, List.map_map]
  have e : (fun d => match d with | D.str y => !signIn y z | _ => false) ∘ (fun c => D.str ⟨#[c]⟩) = fun c : Nat => !p c := by
    funext c
    show (!signIn ⟨#[c]⟩ z) = _
    rw [hz]
  rw [e]; rfl
theorem one_len {x : Str} {c : Nat} (r : List Nat) (h : TL.tl x = c :: r) : (x == ⟨#[c]⟩) = r.isEmpty := by
  cases r with
  | nil =>
    have : x = ⟨#[c]⟩ := TL.ext_tl h
    rw [this]; exact beq_self_eq_true _
  | cons d r =>
    refine beq_eq_false_iff_ne.mpr fun z => ?_
    rw [z] at h
    cases h
theorem law_number_any {x : Str} (h : Okt x) (A : AH) : m_law_number [.str x] A = .ok (optD (numO x)) A := by
  have hl : x.length = (TL.tl x).length := TL.len_tl x
  have z : x.length ≤ 16777216 := by have := h.few; omega
  have zc : (chrs x).length ≤ 16777216 := by unfold chrs; rw [List.length_map, ← hl]; exact z
  have hc : x.cps.toList.map (fun c => D.str ⟨#[c]⟩) = chrs x := rfl
  have hm := signs_not (p := dig) h sign_dig (env := [some (.str x), none]) (A := A) (j := 1) (by simp)
  have nn := ne_nil (((TL.tl x).filter fun c => !dig c).map fun c => (⟨#[c]⟩ : Str)) (fun y hy => by
    obtain ⟨c, hc, rfl⟩ := List.mem_map.mp hy
    exact ok_sign (h.low c (List.mem_filter.mp hc).1)) A
  have e0 := gEq_str h.ok (y := ⟨#[]⟩) (by decide +kernel) A
  rw [show (((TL.tl x).filter fun c => !dig c).map fun c => (⟨#[c]⟩ : Str)).isEmpty = (TL.tl x).all dig by
    rw [List.isEmpty_map, isEmpty_filter]; simp] at nn
  cases q : TL.tl x with
  | nil =>
    have hx : x = ⟨#[]⟩ := TL.ext_tl q
    have en : numO x = none := by unfold numO numC; rw [if_neg]; rw [q]; simp
    rw [hx] at e0 en ⊢
    rw [beq_self_eq_true] at e0
    simp [u_law_number, b_law_number, e0, en, optD]
  | cons c r =>
    have e0' : (x == ⟨#[]⟩) = false := beq_eq_false_iff_ne.mpr fun y => by rw [y] at q; cases q
    rw [e0'] at e0
    have h1 : 1 ≤ x.length := by rw [hl, q]; simp
    by_cases h2 : x.length ≤ 9
    · have h2' : ¬ (9 : Int) < x.length := by omega
      by_cases h3 : (TL.tl x).all dig = true
      · rw [h3] at nn
        have iv := int_dig h3 (by rw [q]; simp) h2
        have z640 : x.length ≤ 640 := by omega
        have gi : gIx (.str x) (.int 0) A = .ok (.str ⟨#[c]⟩) A := by
          unfold gIx
          simp only
          rw [if_pos (show x.length ≤ sizeLine from z), show x.cps.toList = c :: r from q, atI0]
        have lc : c < 200 := h.low c (by rw [q]; simp)
        have ge := gEq_str (ok_sign lc) (ok_sign (c := 48) (by decide)) A
        rw [chr_eq] at ge
        by_cases h4 : c = 48
        · subst h4
          have ge2 := gNe_str h.ok (ok_sign (c := 48) (by decide)) A
          rw [one_len r q] at ge2
          cases r with
          | nil =>
            have en : numO x = some (NumText.digitsVal (TL.tl x)) := by
              unfold numO numC
              rw [if_pos]
              rw [h3, q]; rfl
            simp [u_law_number, b_law_number, gGt, gLen, e0, z, h2', hc, zc, wip, hm, nn, gi, ge, ge2, en, optD, gInt, iv, z640, gCmpI, -List.map_map]
          | cons d r =>
            have en : numO x = none := by
              unfold numO numC
              rw [if_neg]
              rw [q]; simp
            simp [u_law_number, b_law_number, gGt, gLen, e0, z, h2', hc, zc, wip, hm, nn, gi, ge, ge2, en, optD, gInt, iv, z640, gCmpI, -List.map_map]
        · rw [show (c == 48) = false from beq_eq_false_iff_ne.mpr h4] at ge
          have en : numO x = some (NumText.digitsVal (TL.tl x)) := by
            unfold numO numC
            rw [if_pos]
            rw [h3, ← hl, q]
            simp [h1, h2, h4]
          simp [u_law_number, b_law_number, gGt, gLen, e0, z, h2', hc, zc, wip, hm, nn, gi, ge, en, optD, gInt, iv, z640, gCmpI, -List.map_map]
      · have h3' : (TL.tl x).all dig = false := by simpa using h3
        rw [h3'] at nn
        have en : numO x = none := by unfold numO numC; rw [if_neg]; rw [h3']; simp
        simp [u_law_number, b_law_number, gGt, gLen, e0, z, h2', hc, zc, wip, hm, nn, en, optD, gCmpI, -List.map_map]
    · have en : numO x = none := by unfold numO numC; rw [if_neg]; rw [← hl]; simp [h2]
      have h2' : (9 : Int) < x.length := by omega
      simp [u_law_number, b_law_number, gGt, gLen, e0, z, h2', en, optD, gCmpI]
end Lw
namespace Lw
open PySem PySem.Spec
open PyProof.Rows L2 F3
/-! ### cutting at a sign -/
def cutL (c : Nat) : List Nat → List (List Nat)
  | [] => [[]]
  | d :: r => if d = c then [] :: cutL c r else match cutL c r with
    | h :: t => (d :: h) :: t
    | [] => [[d]]
theorem cutL_cons (c d : Nat) (r : List Nat) : cutL c (d :: r) = if d = c then [] :: cutL c r else match cutL c r with
    | h :: t => (d :: h) :: t
    | [] => [[d]] := rfl
theorem cutL_ne (c : Nat) : ∀ l, cutL c l ≠ []
  | [] => by simp [cutL]
  | d :: r => by
    unfold cutL
    split
    · simp
    · split <;> simp
theorem spl_cut (c : Nat) : ∀ (l acc : List Nat), TL.spl [c] 0 acc l = match cutL c l with
    | h :: t => (acc ++ h) :: t
    | [] => [acc]
  | [], acc => by simp [cutL, TL.spl_nil]
  | d :: r, acc => by
    by_cases e : d = c
    · subst e
      rw [TL.spl_hit (by simp [TL.pre])]
      simp only [List.length_cons, List.length_nil, Nat.zero_add, Nat.sub_self]
      rw [spl_cut d r [], cutL_cons, if_pos rfl]
      cases q : cutL d r with
      | nil => exact absurd q (cutL_ne d r)
      | cons h t => simp
    · rw [TL.spl_miss (TL.pre_of_head [] r e), spl_cut c r]
      rw [cutL_cons, if_neg e]
      cases q : cutL c r with
      | nil => exact absurd q (cutL_ne c r)
      | cons h t => simp
def pcs (c : Nat) (x : Str) : List Str := (cutL c (TL.tl x)).map fun l => ⟨l.toArray⟩
theorem split_pcs {x y : Str} {c : Nat} (ey : TL.tl y = [c]) (hc : c < 256) : Txt.split x y = pcs c x := by
  refine TL.map_tl_inj ?_
  rw [TL.split_spl x y (by rw [ey]; simp) (TL.kind_ok (by
    rw [← Array.all_toList]
    rw [show y.cps.toList = [c] from ey]; simpa using hc)), ey, spl_cut]
  unfold pcs
  rw [List.map_map]
  have e : (TL.tl ∘ fun l : List Nat => (⟨l.toArray⟩ : Str)) = id := by funext l; rfl
  rw [e, List.map_id]
  cases q : cutL c (TL.tl x) with
  | nil => exact absurd q (cutL_ne c _)
  | cons h t => simp
theorem cutL_free {c : Nat} : ∀ {l : List Nat}, c ∉ l → cutL c l = [l]
  | [], _ => rfl
  | d :: r, h => by
    unfold cutL
    rw [if_neg (fun e => h (by rw [e]; simp)), cutL_free fun q => h (List.mem_cons_of_mem _ q)]
theorem cutL_at {c : Nat} {b : List Nat} : ∀ {a : List Nat}, c ∉ a → cutL c (a ++ c :: b) = a :: cutL c b
  | [], _ => by simp [cutL]
  | d :: a, h => by
    show cutL c (d :: (a ++ c :: b)) = _
    rw [cutL_cons, if_neg (fun e => h (by rw [e]; simp)), cutL_at fun q => h (List.mem_cons_of_mem _ q)]
theorem cut_or (c : Nat) : ∀ l : List Nat, c ∉ l ∨ ∃ a b, c ∉ a ∧ l = a ++ c :: b
  | [] => .inl (by simp)
  | d :: r => by
    by_cases e : d = c
    · exact .inr ⟨[], r, by simp, by rw [e]; rfl⟩
    · rcases cut_or c r with h | ⟨a, b, h1, h2⟩
      · exact .inl fun q => by
          rcases List.mem_cons.mp q with z | z
          · exact e z.symm
          · exact h z
      · exact .inr ⟨d :: a, b, fun q => by
          rcases List.mem_cons.mp q with z | z
          · exact e z.symm
          · exact h1 z, by rw [h2]; rfl⟩
theorem cutL_mem {c : Nat} : ∀ {l : List Nat} {q : List Nat}, q ∈ cutL c l → q.length ≤ l.length ∧ ∀ d ∈ q, d ∈ l
  | [], q, h => by simp [cutL] at h; subst h; simp
  | d :: r, q, h => by
    unfold cutL at h
    split at h
    · rcases List.mem_cons.mp h with e | e
      · subst e; simp
      · have := cutL_mem e
        exact ⟨by simp; omega, fun x hx => List.mem_cons_of_mem _ (this.2 x hx)⟩
    · split at h
      · rename_i h0 t e0
        rcases List.mem_cons.mp h with e | e
        · have := cutL_mem (c := c) (l := r) (q := h0) (by rw [e0]; simp)
          subst e
          refine ⟨by simp; omega, fun x hx => ?_⟩
          rcases List.mem_cons.mp hx with z | z
          · subst z; simp
          · exact List.mem_cons_of_mem _ (this.2 x z)
        · have := cutL_mem (c := c) (l := r) (q := q) (by rw [e0]; simp [e])
          exact ⟨by simp; omega, fun x hx => List.mem_cons_of_mem _ (this.2 x hx)⟩
      · simp at h; subst h; simp
theorem cutL_len {c : Nat} : ∀ l : List Nat, (cutL c l).length ≤ l.length + 1
  | [] => by simp [cutL]
  | d :: r => by
    have ih := cutL_len (c := c) r
    unfold cutL
    split
    · simp; omega
    · split
      · rename_i h0 t e0
        rw [e0] at ih
        simp at ih ⊢; omega
      · simp
theorem pcs_ok {c : Nat} {x p : Str} (h : Okt x) (hp : p ∈ pcs c x) : Okt p := by
  obtain ⟨l, hl, rfl⟩ := List.mem_map.mp hp
  have := cutL_mem hl
  have h1 := h.few
  rw [TL.len_tl] at h1
  exact ⟨by show l.toArray.size ≤ 2000; simp; omega, fun d hd => h.low d (this.2 d hd)⟩
theorem pcs_len {c : Nat} {x : Str} (h : Okt x) : (pcs c x).length ≤ 2001 := by
  unfold pcs
  rw [List.length_map]
  have := cutL_len (c := c) (TL.tl x)
  have h1 := h.few
  rw [TL.len_tl] at h1
  omega
theorem split_any {x y : Str} {c : Nat} (h : Okt x) (ey : TL.tl y = [c]) (hc : c < 256) (A : AH) : mSplit x (.str y) A = .ok (.lst ((pcs c x).map .str)) A := by
  have h1 := h.few
  have h2 : y.length = 1 := by rw [TL.len_tl, ey]; rfl
  unfold mSplit
  simp only [h2]
  rw [if_pos ⟨rfl, by show _ ≤ 16777216; omega⟩, split_pcs ey hc]
/-- the lines ahead of the last, the last -/
theorem pcs_last (c : Nat) (x : Str) : ∃ (ls : List Str) (l : Str), pcs c x = ls ++ [l] := by
  have : pcs c x ≠ [] := by unfold pcs; simp [cutL_ne]
  exact ⟨_, _, (List.dropLast_concat_getLast this).symm⟩
theorem take_iff {s : Nat} {b : List Nat} : ∀ {p a : List Nat}, s ∉ p → s ∉ a → ((a ++ s :: b).take (p.length + 1) = p ++ [s] ↔ a = p)
  | [], [], _, _ => by simp
  | [], d :: a, _, h => by
    simp
    intro e; exact h (by rw [e]; simp)
  | q :: p, [], h, _ => by
    simp
    intro e; exact absurd (show s ∈ q :: p by rw [e]; simp) h
  | q :: p, d :: a, h1, h2 => by
    have ih := take_iff (s := s) (b := b) (p := p) (a := a) (fun z => h1 (List.mem_cons_of_mem _ z)) (fun z => h2 (List.mem_cons_of_mem _ z))
    simp only [List.cons_append, List.length_cons, List.take_succ_cons, List.cons.injEq] at ih ⊢
    constructor
    · intro ⟨e1, e2⟩; exact ⟨e1, ih.mp e2⟩
    · intro ⟨e1, e2⟩; exact ⟨e1, ih.mpr e2⟩
end Lw
namespace Lw
open PySem PySem.Spec
open PyProof.Rows L2 F3
theorem cut_take (z : Str) (k : Nat) : cutS z none (some (k : Int)) = ⟨((TL.tl z).take k).toArray⟩ := by
  unfold cutS
  rw [HT.sIx_nat, HT.sIx_none, TL.len_tl, Nat.sub_zero, List.drop_zero]
  congr 1; congr 1
  show (TL.tl z).take _ = (TL.tl z).take _
  generalize TL.tl z = t
  by_cases h : k ≤ t.length
  · rw [Nat.min_eq_left h]
  · rw [Nat.min_eq_right (by omega), List.take_of_length_le (by omega), List.take_of_length_le (by omega)]
theorem cut_drop (z : Str) (k : Nat) : cutS z (some (k : Int)) none = ⟨((TL.tl z).drop k).toArray⟩ := by
  unfold cutS
  rw [HT.sIx_nat, HT.sIx_none, TL.len_tl]
  congr 1; congr 1
  show ((TL.tl z).drop _).take _ = (TL.tl z).drop _
  generalize TL.tl z = t
  by_cases h : k ≤ t.length
  · rw [Nat.min_eq_left h, List.take_of_length_le (by rw [List.length_drop]; omega)]
  · rw [Nat.min_eq_right (by omega), List.drop_of_length_le (by omega), List.drop_of_length_le (by omega)]; simp
theorem gSl_take {z : Str} (h : Okt z) (k : Nat) (A : AH) : gSl none (some (k : Int)) (.str z) A = .ok (.str ⟨((TL.tl z).take k).toArray⟩) A := by
  unfold gSl
  simp only
  rw [if_pos (show z.length ≤ sizeLine by rw [size_line]; have := h.few; omega), cut_take]
theorem gSl_drop {z : Str} (h : Okt z) (k : Nat) (A : AH) : gSl (some (k : Int)) none (.str z) A = .ok (.str ⟨((TL.tl z).drop k).toArray⟩) A := by
  unfold gSl
  simp only
  rw [if_pos (show z.length ≤ sizeLine by rw [size_line]; have := h.few; omega), cut_drop]
theorem Okt.take {z : Str} (h : Okt z) (k : Nat) : Okt ⟨((TL.tl z).take k).toArray⟩ := by
  have h1 := h.few
  rw [TL.len_tl] at h1
  exact ⟨by rw [TL.len_tl, TL.tl_mk, List.length_take]; omega, fun c hc => h.low c (List.mem_of_mem_take hc)⟩
theorem Okt.drop {z : Str} (h : Okt z) (k : Nat) : Okt ⟨((TL.tl z).drop k).toArray⟩ := by
  have h1 := h.few
  rw [TL.len_tl] at h1
  exact ⟨by rw [TL.len_tl, TL.tl_mk, List.length_drop]; omega, fun c hc => h.low c (List.mem_of_mem_drop hc)⟩
theorem str_beq (x y : Str) : (x == y) = decide (TL.tl x = TL.tl y) := by
  by_cases h : TL.tl x = TL.tl y
  · rw [TL.ext_tl h]; simp
  · rw [decide_eq_false h]
    exact beq_eq_false_iff_ne.mpr fun z => h (by rw [z])
/-! ### the head of a web's text -/
def capO (o : Option Nat) : Option Nat := match o with
  | some n => if 1 ≤ n ∧ n ≤ 7 then some n else none
  | none => none
def plW : List Nat := [112, 108, 97, 99, 101, 115]
def sizeO (l : Str) : Option Nat := if (TL.tl l).take 7 = plW ++ [32] then capO (numO ⟨((TL.tl l).drop 7).toArray⟩) else none
theorem numO_sp {x : Str} {c : Nat} (h : c ∈ TL.tl x) (hc : dig c = false) : numO x = none := by
  unfold numO numC
  rw [if_neg]
  intro q
  simp only [Bool.and_eq_true] at q
  have := List.all_eq_true.mp q.1.2 c h
  rw [hc] at this; cases this
theorem cap_of {o : Option Nat} (h : ∀ n, o = some n → n < 1000000000) (A : AH) {env : Ev} (he : env[2]? = some (some (optD o))) : sIf (sAndT (sTest (sBin gIsNot (sVar 2) (sC .non))) (sTest (sCall m_is_within (sCons (sVar 2) (sCons (sC (.int 1)) (sCons (sC (.int 7)) (sNil))))))) (sVar 2) (sC .non) env A = .ok (optD (capO o)) A := by
  cases o with
  | none => simp [he, optD, gIsNot, capO]
  | some n =>
    have hn := h n rfl
    have w := is_within_int (n : Int) 1 7 A (by omega) (by omega)
    have gi : gIsNot (.int n) .non A = .ok (.bl true) A := rfl
    by_cases q : 1 ≤ n ∧ n ≤ 7
    · have q' : (1 : Int) ≤ n ∧ (n : Int) ≤ 7 := by omega
      rw [decide_eq_true q'] at w
      simp [he, optD, gi, capO, w, q]
    · have q' : ¬ ((1 : Int) ≤ n ∧ (n : Int) ≤ 7) := by omega
      rw [decide_eq_false q'] at w
      simp only [optD] at he
      simp only [e_sIf, e_sAndT, e_sTest, e_sBin, e_sVar, e_sC, he, bind_ok, gi, tst_bl, cnd_t, cnd_f, e_sCall, e_sCons, e_sNil, w, capO, if_neg q, optD]
theorem size_from_any {l : Str} (h : Okt l) (A : AH) : m_size_from [.str l] A = .ok (optD (sizeO l)) A := by
  have sp := split_any (y := ⟨#[32]⟩) (c := 32) h rfl (by decide) A
  have pl := pcs_len (c := 32) h
  have zz : ∀ n, numO ⟨((TL.tl l).drop 7).toArray⟩ = some n → n < 1000000000 := fun n hn => numO_lt hn
  have okp : PyData.strOk ⟨#[112, 108, 97, 99, 101, 115]⟩ = true := by decide +kernel
  rcases cut_or 32 (TL.tl l) with hf | ⟨a, b, ha, hab⟩
  · have e1 : pcs 32 l = [l] := by unfold pcs; rw [cutL_free hf]; rfl
    have e2 : sizeO l = none := by
      unfold sizeO
      rw [if_neg]
      intro q
      exact hf (List.mem_of_mem_take (i := 7) (by rw [q]; simp))
    rw [e1] at sp
    rw [e2]
    simp [u_size_from, b_size_from, sp, gLen, asL, gIsNot, optD]
  · have e1 : pcs 32 l = ⟨a.toArray⟩ :: (cutL 32 b).map fun l => ⟨l.toArray⟩ := by unfold pcs; rw [hab, cutL_at ha]; rfl
    have ti := take_iff (s := 32) (b := b) (p := plW) (a := a) (by decide) ha
    have oka : Okt ⟨a.toArray⟩ := pcs_ok (c := 32) h (by rw [e1]; simp)
    have gp := gEq_str oka.ok okp A
    rw [str_beq] at gp
    by_cases hb : 32 ∈ b
    · -- three parts or more
      have e2 : sizeO l = none := by
        unfold sizeO
        split
        · rename_i q
          rw [hab] at q
          have := ti.mp q
          rw [numO_sp (c := 32) (by show 32 ∈ (TL.tl l).drop 7; rw [hab, this]; exact hb) (by decide)]; rfl
        · rfl
      obtain ⟨b1, b2, h1, h2⟩ : ∃ b1 b2, 32 ∉ b1 ∧ b = b1 ++ 32 :: b2 := by
        rcases cut_or 32 b with q | q
        · exact absurd hb q
        · exact q
      have e3 : 3 ≤ (pcs 32 l).length := by
        rw [e1, h2, cutL_at h1]
        have := cutL_ne 32 b2
        cases q : cutL 32 b2 with
        | nil => exact absurd q this
        | cons _ _ => simp
      have gl : ∀ A', gLen [.lst ((pcs 32 l).map .str)] A' = .ok (.int ((pcs 32 l).length : Nat)) A' := fun A' => by
        unfold gLen; simp [asL]; try omega
      have ne2 : (((pcs 32 l).length : Int) == 2) = false := by simp; omega
      rw [e2]
      simp [u_size_from, b_size_from, sp, gl, ne2, gIsNot, optD, -List.map_map]
    · have e4 : pcs 32 l = [⟨a.toArray⟩, ⟨b.toArray⟩] := by rw [e1, cutL_free hb]; rfl
      have okb : Okt ⟨b.toArray⟩ := pcs_ok (c := 32) h (by rw [e4]; simp)
      have nb := number_of_any okb A
      rw [e4] at sp
      by_cases hp : a = plW
      · have e5 : sizeO l = capO (numO ⟨b.toArray⟩) := by
          unfold sizeO
          rw [if_pos (by rw [hab]; exact ti.mpr hp), hab, hp]; rfl
        rw [show decide (TL.tl ⟨a.toArray⟩ = TL.tl ⟨#[112, 108, 97, 99, 101, 115]⟩) = true from decide_eq_true hp] at gp
        have c1 := cap_of (o := numO ⟨b.toArray⟩) (fun n hn => numO_lt hn) A (env := [some (.str l), some (.lst [.str ⟨a.toArray⟩, .str ⟨b.toArray⟩]), some (optD (numO ⟨b.toArray⟩))]) rfl
        rw [e5]
        simp only [u_size_from, b_size_from, e_bSeq, e_bSet, e_sM1, e_sVar, List.getElem?_cons_zero, List.getElem?_cons_succ, e_sC, bind_ok, sp, lft_ok, e_gNm, stTo_some, seq_nx, List.set_cons_succ, List.set_cons_zero, List.map_cons, List.map_nil]
        rw [show sIf (sAndT (sTest (sBin gEq (sCall gLen (sCons (sVar 1) (sNil))) (sC (.int 2)))) (sTest (sBin gEq (sBin gIx (sVar 1) (sC (.int 0))) (sC (.str ⟨#[112, 108, 97, 99, 101, 115]⟩))))) (sCall m_number_of (sCons (sBin gIx (sVar 1) (sC (.int 1))) (sNil))) (sC .non) [some (.str l), some (.lst [.str ⟨a.toArray⟩, .str ⟨b.toArray⟩]), none] A = .ok (optD (numO ⟨b.toArray⟩)) A by
          simp [gLen, asL, gIx, gp, nb]]
        simp only [lft_ok, e_gNm, stTo_some, seq_nx, List.set_cons_succ, List.set_cons_zero, e_bRet, c1, fin_rt, clean_same]
      · have e5 : sizeO l = none := by
          unfold sizeO
          rw [if_neg (fun q => hp (ti.mp (by rw [hab] at q; exact q)))]
        rw [show decide (TL.tl ⟨a.toArray⟩ = TL.tl ⟨#[112, 108, 97, 99, 101, 115]⟩) = false from decide_eq_false hp] at gp
        rw [e5]
        simp [u_size_from, b_size_from, sp, gLen, asL, gIx, gp, gIsNot, optD]
theorem ix_last {c : Nat} {x : Str} {ls : List Str} {l : Str} (e : pcs c x = ls ++ [l]) (A : AH) : gIx (.lst ((pcs c x).map .str)) (.int (-1)) A = .ok (.str l) A := by
  rw [e, List.map_append, List.map_cons, List.map_nil]
  unfold gIx
  simp only [asL]
  rw [atI_last]
theorem cutD_init (xs : List D) (x : D) : F3.cutD (xs ++ [x]) none (some (-1)) = xs := by
  unfold F3.cutD
  have e1 : HT.sIx (xs ++ [x]).length 0 none = 0 := rfl
  have e2 : HT.sIx (xs ++ [x]).length (xs ++ [x]).length (some (-1)) = xs.length := by
    unfold HT.sIx; simp; omega
  rw [e1, e2]; simp
theorem cutD_one (xs : List D) : F3.cutD xs (some 1) none = xs.drop 1 := by
  cases xs with
  | nil => rfl
  | cons x xs =>
    unfold F3.cutD
    have e1 : HT.sIx (x :: xs).length 0 (some 1) = 1 := by
      unfold HT.sIx; simp; try omega
    have e2 : HT.sIx (x :: xs).length (x :: xs).length none = xs.length + 1 := rfl
    rw [e1, e2]; simp
theorem whole_lines_any {x : Str} (h : Okt x) {ls : List Str} {l : Str} (e : pcs 10 x = ls ++ [l]) (A : AH) : m_whole_lines [.str x] A = .ok (.tup [.lst (ls.map .str), .str l]) A := by
  have sp := split_any (y := ⟨#[10]⟩) (c := 10) h rfl (by decide) A
  have il := ix_last e A
  have cd : gSl none (some (-1)) (.lst ((pcs 10 x).map .str)) A = .ok (.lst (ls.map .str)) A := by
    rw [e, List.map_append, List.map_cons, List.map_nil]
    unfold gSl
    simp only [asQ, cutD_init]
  simp [u_whole_lines, b_whole_lines, sp, gNeg, cd, il, -List.map_map]
end Lw
namespace Lw
open PySem PySem.Spec
open PyProof.Rows L2 F3
def optP : Option Nat → PyData
  | none => .none
  | some n => .int n
theorem toP_opt (o : Option Nat) : toP (optD o) = some (optP o) := by cases o <;> rfl
theorem toPs_opts : ∀ os : List (Option Nat), toPs (os.map optD) = some (os.map optP)
  | [] => rfl
  | o :: os => by
    show (match toP (optD o), toPs (os.map optD) with | some p, some ps => some (p :: ps) | _, _ => none) = _
    rw [toPs_opts os, toP_opt]; rfl
theorem lay_opts : ∀ os : List (Option Nat), PyData.canLayAll0 (os.map optP) = true ∧ PyData.depthAll (os.map optP) = 0
  | [] => ⟨rfl, rfl⟩
  | o :: os => by
    obtain ⟨h1, h2⟩ := lay_opts os
    exact ⟨by show (PyData.canLay0 (optP o) && PyData.canLayAll0 (os.map optP)) = true; rw [h1]; cases o <;> rfl, by show max (PyData.depth (optP o)) (PyData.depthAll (os.map optP)) = 0; rw [h2]; cases o <;> rfl⟩
theorem any_none : ∀ os : List (Option Nat), (os.map optP).any (fun z => PyData.eqv z PyData.none) = os.any Option.isNone
  | [] => rfl
  | o :: os => by
    simp only [List.map_cons, List.any_cons, any_none os]
    cases o <;> simp [optP, PyData.eqv]
theorem in_tup (os : List (Option Nat)) (A : AH) : gIn .non (.tup (os.map optD)) A = .ok (.bl (os.any Option.isNone)) A := by
  obtain ⟨q1, q2⟩ := lay_opts os
  unfold gIn inP
  simp only [topD, toPs_opts]
  rw [show toP D.non = some PyData.none from rfl]
  simp only [shaped_tuple q1 (by omega), any_none, show SeqAt.shaped PyData.none = true from rfl]
  rfl
theorem in_lst (os : List (Option Nat)) (A : AH) : gIn .non (.lst (os.map optD)) A = .ok (.bl (os.any Option.isNone)) A := by
  obtain ⟨q1, q2⟩ := lay_opts os
  unfold gIn inP
  simp only [topD, toPs_opts]
  rw [show toP D.non = some PyData.none from rfl]
  simp only [shaped_list q1 (by omega), any_none, show SeqAt.shaped PyData.none = true from rfl]
  rfl
theorem numbers_any {ps : List Str} (h : ∀ p ∈ ps, Okt p) (hl : ps.length ≤ 3000) (A : AH) : m_numbers_of [.lst (ps.map .str)] A = .ok (if (ps.map numO).any Option.isNone = true then .non else .tup ((ps.map numO).map optD)) A := by
  have hm := compL_map (st := gNm 2) (t := tTrue) (f := sCall m_number_of (sCons (sVar 2) sNil)) (A := A) (g := fun d => match d with | .str l => optD (numO l) | d => d) (env := [some (D.lst (ps.map .str)), none, none]) (ps.map .str) (fun d hd => by
    obtain ⟨n, hn, rfl⟩ := List.mem_map.mp hd
    refine ⟨_, rfl, rfl, ?_⟩
    simp [number_of_any (h n hn)])
  have e : (ps.map D.str).map (fun d => match d with | .str l => optD (numO l) | d => d) = (ps.map numO).map optD := by
    rw [List.map_map, List.map_map]; rfl
  rw [e] at hm
  have z : ps.length ≤ 16777216 := by omega
  have gi := in_tup (ps.map numO) A
  have gt : ∀ xs A', gTuple [.lst xs] A' = .ok (.tup xs) A' := fun _ _ => rfl
  cases q : (ps.map numO).any Option.isNone with
  | true => rw [q] at gi; simp [u_numbers_of, b_numbers_of, wip, z, hm, gt, gi, -List.map_map]
  | false => rw [q] at gi; simp [u_numbers_of, b_numbers_of, wip, z, hm, gt, gi, -List.map_map]
/-! ### a tie's line -/
def tie2 (n : Nat) (os : List (Option Nat)) : Option (Nat × Nat) := match os with
  | [some a, some b] => if a ≤ b ∧ b < n then some (a, b) else none
  | _ => none
def tieO (n : Nat) (l : Str) : Option (Nat × Nat) := tie2 n ((pcs 45 l).map numO)
def tieD (p : Nat × Nat) : D := .tup [.int p.1, .int p.2]
def optT : Option (Nat × Nat) → D
  | none => .non
  | some p => tieD p
theorem tie2_any {n : Nat} {os : List (Option Nat)} (h : os.any Option.isNone = true) : tie2 n os = none := by
  unfold tie2
  split
  · simp at h
  · rfl
theorem tie2_len {n : Nat} {os : List (Option Nat)} (h : os.length ≠ 2) : tie2 n os = none := by
  unfold tie2
  split
  · simp at h
  · rfl
theorem two_of {os : List (Option Nat)} (h : os.length = 2) (h' : ¬ os.any Option.isNone = true) : ∃ a b, os = [some a, some b] := by
  match os, h with
  | [x, y], _ =>
    cases x with
    | none => simp at h'
    | some a => cases y with
      | none => simp at h'
      | some b => exact ⟨a, b, rfl⟩
theorem len_eq (x : D) (xs : List D) (hx : x = .tup xs ∨ x = .lst xs) (h : xs.length ≤ 16777216) (A : AH) : gLen [x] A = .ok (.int xs.length) A := by
  rcases hx with rfl | rfl <;> simp [gLen, asL, h]
theorem tie_from_any {n : Nat} {l : Str} (h : Okt l) (A : AH) : m_tie_from [.int n, .str l] A = .ok (optT (tieO n l)) A := by
  have sp := split_any (y := ⟨#[45]⟩) (c := 45) h rfl (by decide) A
  have pl := pcs_len (c := 45) h
  have nm := numbers_any (ps := pcs 45 l) (fun p hp => pcs_ok h hp) (by omega) A
  unfold tieO
  have ol : ((pcs 45 l).map numO).length ≤ 2001 := by rw [List.length_map]; exact pl
  generalize (pcs 45 l).map numO = os at *
  have g1 : gIs .non .non A = .ok (.bl true) A := rfl
  have g2 : ∀ xs, gIs (.tup xs) .non A = .ok (.bl false) A := fun _ => rfl
  by_cases q : os.any Option.isNone = true
  · rw [if_pos q] at nm
    rw [tie2_any q]
    simp [u_tie_from, b_tie_from, sp, nm, g1, optT]
  · rw [if_neg q] at nm
    have gl := len_eq (.tup (os.map optD)) _ (.inl rfl) (by rw [List.length_map]; omega) A
    rw [List.length_map] at gl
    by_cases q2 : os.length = 2
    · obtain ⟨a, b, rfl⟩ := two_of q2 q
      have e1 : tie2 n [some a, some b] = if a ≤ b ∧ b < n then some (a, b) else none := rfl
      rw [e1]
      by_cases k1 : a ≤ b
      · by_cases k2 : b < n
        · simp [u_tie_from, b_tie_from, sp, nm, g2, optT, gLen, gIx, asL, gLe, gLt, optD, k1, k2, tieD]
        · simp [u_tie_from, b_tie_from, sp, nm, g2, optT, gLen, gIx, asL, gLe, gLt, optD, k1, k2, tieD]
      · simp [u_tie_from, b_tie_from, sp, nm, g2, optT, gLen, gIx, asL, gLe, gLt, optD, k1, tieD]
    · rw [tie2_len q2]
      have q2' : ((os.length : Int) == 2) = false := by simp; omega
      simp [u_tie_from, b_tie_from, sp, nm, g2, optT, gl, q2', -List.map_map]
end Lw
namespace Lw
open PySem PySem.Spec
open PyProof.Rows L2 F3
def Bags (A : AH) : Prop := ∀ o ∈ A, ∃ g b : Int, o = .lst [.int g, .int b]
theorem belows_bags : ∀ {A : AH} (n : Nat), Bags A → belowsO n A = true
  | [], _, _ => rfl
  | o :: A, n, h => by
    obtain ⟨g, b, rfl⟩ := h o List.mem_cons_self
    show (true && belowsO n A) = true
    rw [belows_bags n fun x hx => h x (List.mem_cons_of_mem _ hx)]; rfl
def Flat (A : AH) : Prop := ∀ n, belowsO n A = true
theorem Bags.flat {A : AH} (h : Bags A) : Flat A := fun n => belows_bags n h
theorem flat_app : ∀ {A : AH} {o : AO}, Flat A → (∀ n, belowO n o = true) → Flat (A ++ [o])
  | [], o, _, h, n => by show (belowO n o && true) = true; rw [h n]; rfl
  | x :: A, o, h, h', n => by
    have e : (belowO n x && belowsO n A) = true := h n
    have e1 := Bool.and_eq_true_iff.mp e
    show (belowO n x && belowsO n (A ++ [o])) = true
    have ih : Flat A := fun m => by
      have q : (belowO m x && belowsO m A) = true := h m
      exact (Bool.and_eq_true_iff.mp q).2
    rw [e1.1, flat_app ih h' n]; rfl
theorem clean_app {A B : AH} {d d' : D} (hA : Flat A) (hne : B ≠ []) (hf : frz (A ++ B) A.length 30 d = some d') : clean A.length d (A ++ B) = .ok d' A := by
  unfold clean
  have z : ¬ (A ++ B).length = A.length := by
    rw [List.length_append]
    cases B with
    | nil => exact absurd rfl hne
    | cons b B => simp
  rw [if_neg z, hf]
  simp [hA _]
theorem frz_tie (A : AH) (n k : Nat) (p : Nat × Nat) : frz A n (k + 2) (tieD p) = some (tieD p) := rfl
theorem frzL_map {α : Type} {f : D → Option D} {g : α → D} : ∀ {l : List α}, (∀ x ∈ l, f (g x) = some (g x)) → frzL f (l.map g) = some (l.map g)
  | [], _ => rfl
  | x :: l, h => by
    show (match f (g x), frzL f (l.map g) with | some e, some es => some (e :: es) | _, _ => none) = _
    rw [h x List.mem_cons_self, frzL_map fun y hy => h y (List.mem_cons_of_mem _ hy)]; rfl
def tiesD (ts : List (Nat × Nat)) : D := .tup (ts.map tieD)
theorem frz_ties (A : AH) (n k : Nat) (ts : List (Nat × Nat)) : frz A n (k + 3) (tiesD ts) = some (tiesD ts) := by
  show (frzL (frz A n (k + 2)) (ts.map tieD)).map D.tup = _
  rw [frzL_map fun x _ => frz_tie A n k x]; rfl
structure Ties (n : Nat) (ts : List (Nat × Nat)) : Prop where
  size : 1 ≤ n ∧ n ≤ 7
  few : ts.length ≤ 14
  rng : ∀ p ∈ ts, p.1 ≤ p.2 ∧ p.2 < n
  ord : ts.Pairwise fun p q => p.1 < q.1 ∨ (p.1 = q.1 ∧ p.2 ≤ q.2)
theorem leL_pair (a b c d : Int) : leL [a, b] [c, d] = decide (a < c ∨ (a = c ∧ b ≤ d)) := by
  unfold leL
  show Ob.lexAt _ _ _ 0 2 = _
  unfold Ob.lexAt
  by_cases h : a = c
  · subst h
    simp [Ob.lexAt]
    by_cases h2 : b = d
    · subst h2; simp
    · simp [h2]
  · simp [h]; omega
theorem all_true {α : Type} (l : List α) (A : AH) : gAll [.lst (l.map fun _ => D.bl true)] A = .ok (.bl true) A := by
  have e : dbls (l.map fun _ => D.bl true) = some (l.map fun _ => true) := by
    induction l with
    | nil => rfl
    | cons x l ih => show (dbls (l.map fun _ => D.bl true)).map (true :: ·) = _; rw [ih]; rfl
  unfold gAll
  simp [asQ, e]
theorem zip_near {ts : List (Nat × Nat)} : zipD (ts.map tieD) ((ts.map tieD).drop 1) = (ts.zip (ts.drop 1)).map fun q => D.tup [tieD q.1, tieD q.2] := by
  have gen : ∀ (xs ys : List (Nat × Nat)), zipD (xs.map tieD) (ys.map tieD) = (xs.zip ys).map fun q => D.tup [tieD q.1, tieD q.2] := by
    intro xs
    induction xs with
    | nil => intro ys; rfl
    | cons x xs ih =>
      intro ys
      cases ys with
      | nil => rfl
      | cons y ys => show D.tup [tieD x, tieD y] :: zipD (xs.map tieD) (ys.map tieD) = _; rw [ih]; rfl
  rw [← List.map_drop]; exact gen _ _
theorem near_ord {ts : List (Nat × Nat)} {R : Nat × Nat → Nat × Nat → Prop} : ts.Pairwise R → ∀ q ∈ ts.zip (ts.drop 1), R q.1 q.2 := by
  induction ts with
  | nil => intro _ q hq; simp at hq
  | cons x ts ih =>
    intro h q hq
    obtain ⟨h1, h2⟩ := List.pairwise_cons.mp h
    cases ts with
    | nil => simp at hq
    | cons y r =>
      rcases List.mem_cons.mp (show q ∈ (x, y) :: (y :: r).zip ((y :: r).drop 1) from hq) with e | e
      · subst e; exact h1 y List.mem_cons_self
      · exact ih h2 q e
theorem are_ties_of {n : Nat} {ts : List (Nat × Nat)} (T : Ties n ts) (A : AH) : m_are_ties [.int n, tiesD ts] A = .ok (.bl true) A := by
  have z : ts.length ≤ 16777216 := by have := T.few; omega
  have z1 : ¬ (14 : Int) < ts.length := by have := T.few; omega
  have z2 : (zipD (ts.map tieD) ((ts.map tieD).drop 1)).length ≤ 16777216 := by
    rw [zip_near, List.length_map, List.length_zip]; omega
  have h1 := compL_map (st := gNm 2) (t := tTrue) (f := sAndV (sIsiB "tuple" (sVar 2)) (sBin gEq (sCall gLen (sCons (sVar 2) sNil)) (sC (.int 2)))) (A := A) (g := fun _ => .bl true) (env := [some (.int n), some (tiesD ts), none, none, none]) (ts.map tieD) (fun d hd => by
    obtain ⟨p, hp, rfl⟩ := List.mem_map.mp hd
    refine ⟨_, rfl, rfl, ?_⟩
    simp [gIsiB, tieD, tyD, isiB, gLen, asL])
  have h2 := compL_map (st := gTp (gMore (gNm 3) (gMore (gNm 4) gEnd))) (t := tTrue) (f := sAndV (sCall m_is_within (sCons (sVar 3) (sCons (sC (.int 0)) (sCons (sBin gSub (sVar 0) (sC (.int 1))) sNil)))) (sCall m_is_within (sCons (sVar 4) (sCons (sVar 3) (sCons (sBin gSub (sVar 0) (sC (.int 1))) sNil)))))
    (A := A) (g := fun _ => .bl true) (env := [some (.int n), some (tiesD ts), none, none, none]) (ts.map tieD) (fun d hd => by
    obtain ⟨p, hp, rfl⟩ := List.mem_map.mp hd
    have r := T.rng p hp
    have s := T.size
    have w1 := is_within_int (p.1 : Int) 0 (n - 1) A (by omega) (by omega)
    have w2 := is_within_int (p.2 : Int) p.1 (n - 1) A (by omega) (by omega)
    have c1 : (p.1 : Int) ≤ n - 1 := by omega
    have c2 : (p.1 : Int) ≤ p.2 := by omega
    have c3 : (p.2 : Int) ≤ n - 1 := by omega
    refine ⟨[some (.int n), some (tiesD ts), none, some (.int p.1), some (.int p.2)], rfl, rfl, ?_⟩
    simp [F3.gSub, w1, w2, c1, c2, c3])
  have h3 := compL_map (st := gTp (gMore (gNm 3) (gMore (gNm 4) gEnd))) (t := tTrue) (f := sBin gLe (sVar 3) (sVar 4))
    (A := A) (g := fun _ => .bl true) (env := [some (.int n), some (tiesD ts), none, none, none]) (zipD (ts.map tieD) ((ts.map tieD).drop 1)) (fun d hd => by
    rw [zip_near] at hd
    obtain ⟨q, hq, rfl⟩ := List.mem_map.mp hd
    have r := near_ord T.ord q hq
    refine ⟨[some (.int n), some (tiesD ts), none, some (tieD q.1), some (tieD q.2)], rfl, rfl, ?_⟩
    simp [gLe, tieD, dints, leL_pair]
    omega)
  have k1 := all_true (ts.map tieD) A
  have k3 := all_true (zipD (ts.map tieD) ((ts.map tieD).drop 1)) A
  unfold tiesD at *
  simp [u_are_ties, b_are_ties, gIsiB, tyD, isiB, gLen, asL, gCmpI, z, z1, wip, h1, h2, k1, gSl, cutD_one, z2, h3, k3, -List.map_map, -List.map_drop, -List.map_const_fun, -List.drop_one]
def webD (n : Nat) (ts : List (Nat × Nat)) : D := .ins 0 [.int n, tiesD ts]
theorem require_size_of (n : Nat) (h : 1 ≤ n ∧ n ≤ 7) (A : AH) : m_require_size [.int n] A = .ok .non A := by
  have w := is_within_int (n : Int) 1 7 A (by omega) (by omega)
  have c1 : (1 : Int) ≤ n := by omega
  have c2 : (n : Int) ≤ 7 := by omega
  simp [u_require_size, b_require_size, w, c1, c2]
theorem init_of {n : Nat} {ts : List (Nat × Nat)} (T : Ties n ts) (A : AH) : m_Web_init [.ref A.length, .int n, tiesD ts] (A ++ [.ins 0 []]) = .ok .non (A ++ [.ins 0 [some (.int n), some (tiesD ts)]]) := by
  have r := require_size_of n T.size (A ++ [.ins 0 []])
  have t := are_ties_of T (A ++ [.ins 0 []])
  simp [u_Web_init, b_Web_init, r, t, flds, putD]
  have e := clean_same (A := A ++ [AO.ins 0 [some (.int n), some (tiesD ts)]]) .non
  simpa using e
theorem make_of {n : Nat} {ts : List (Nat × Nat)} (T : Ties n ts) {A : AH} (hA : Flat A) : mMake 0 m_Web_init [.int n, tiesD ts] A = .ok (webD n ts) A := by
  unfold mMake
  rw [init_of T A]
  simp only
  refine clean_app hA (by simp) ?_
  unfold frz
  simp only [Nat.lt_irrefl, if_false]
  rw [show (A ++ [AO.ins 0 [some (.int n), some (tiesD ts)]])[A.length]? = some (.ins 0 [some (.int n), some (tiesD ts)]) by simp]
  simp only [allSome, Option.map_some]
  have e1 : frzL (frz (A ++ [AO.ins 0 [some (.int n), some (tiesD ts)]]) A.length 29) [.int n, tiesD ts] = some [.int n, tiesD ts] := by
    have e2 := frzL_map (f := frz (A ++ [AO.ins 0 [some (.int n), some (tiesD ts)]]) A.length 29) (g := tiesD) (l := [ts]) fun x _ => frz_ties _ _ 26 x
    show (match some (D.int n), frzL (frz _ _ 29) [tiesD ts] with | some e, some es => some (e :: es) | _, _ => none) = _
    rw [show frzL (frz (A ++ [AO.ins 0 [some (.int n), some (tiesD ts)]]) A.length 29) [tiesD ts] = some [tiesD ts] from e2]
  rw [e1]; rfl
theorem require_web_of (n : Nat) (ts : List (Nat × Nat)) (A : AH) : m_require_web [webD n ts] A = .ok .non A := by
  simp [u_require_web, b_require_web, gIsiO, webD]
theorem require_text_of {x : Str} (h : x.length ≤ 20000) (A : AH) : m_require_text [.str x] A = .ok .non A := by
  have z : x.length ≤ 16777216 := by omega
  have z2 : ¬ (20000 : Int) < x.length := by omega
  simp [u_require_text, b_require_text, gIsiB, tyD, isiB, gLen, z, gCmpI, z2]
def tieP (p : Nat × Nat) : PyData := .tuple [.int p.1, .int p.2]
theorem toPs_ties : ∀ ts : List (Nat × Nat), toPs (ts.map tieD) = some (ts.map tieP)
  | [] => rfl
  | p :: ts => by
    show (match toP (tieD p), toPs (ts.map tieD) with | some p, some ps => some (p :: ps) | _, _ => none) = _
    rw [toPs_ties ts]; rfl
theorem lay_ties : ∀ ts : List (Nat × Nat), PyData.canLayAll0 (ts.map tieP) = true ∧ PyData.depthAll (ts.map tieP) ≤ 1
  | [] => ⟨rfl, Nat.zero_le _⟩
  | p :: ts => by
    obtain ⟨h1, h2⟩ := lay_ties ts
    refine ⟨by show (true && PyData.canLayAll0 (ts.map tieP)) = true; rw [h1]; rfl, ?_⟩
    show max 1 (PyData.depthAll (ts.map tieP)) ≤ 1
    omega
theorem ne_ref_ties {A : AH} {r : Nat} {ts : List (Nat × Nat)} (h : A[r]? = some (.lst (ts.map tieD))) : gNe (.ref r) (.lst []) A = .ok (.bl (!ts.isEmpty)) A := by
  obtain ⟨q1, q2⟩ := lay_ties ts
  have e := gNe_of (A := A) (x := .ref r) (y := .lst []) (d := .list (ts.map tieP)) (e := .list []) (by
    unfold topD
    simp only [h]
    unfold toP
    rw [toPs_ties]; rfl) rfl (shaped_list q1 (by omega)) rfl
  rw [e]
  cases ts <;> rfl
theorem below_tie (n : Nat) : ∀ ts : List (Nat × Nat), belows n (ts.map tieD) = true
  | [] => rfl
  | p :: ts => by show (true && belows n (ts.map tieD)) = true; rw [below_tie n ts]; rfl
theorem flat_ties {A : AH} (h : Flat A) (ts : List (Nat × Nat)) : Flat (A ++ [.lst (ts.map tieD)]) := flat_app h fun n => below_tie n ts
theorem lex_no {a b c d : Int} (h : c < a ∨ (c = a ∧ d ≤ b)) : HT.lexLt [a, b] [c, d] = false := by
  unfold HT.lexLt
  rcases h with h | ⟨rfl, h⟩
  · have h1 : ¬ a < c := by omega
    have h2 : ¬ a = c := by omega
    simp [h1, h2]
  · have h1 : ¬ b < d := by omega
    simp [HT.lexLt, h1]
theorem frz_web (A : AH) (m k n : Nat) (ts : List (Nat × Nat)) : frz A m (k + 4) (webD n ts) = some (webD n ts) := by
  show (frzL (frz A m (k + 3)) [.int n, tiesD ts]).map (D.ins 0) = _
  have e2 := frzL_map (f := frz A m (k + 3)) (g := tiesD) (l := [ts]) fun x _ => frz_ties _ _ k x
  have e1 : frzL (frz A m (k + 3)) [.int n, tiesD ts] = some [.int n, tiesD ts] := by
    show (match some (D.int n), frzL (frz A m (k + 3)) [tiesD ts] with | some e, some es => some (e :: es) | _, _ => none) = _
    rw [show frzL (frz A m (k + 3)) [tiesD ts] = some [tiesD ts] from e2]
  rw [e1]; rfl
theorem tuple_len (l : List Str) (k : Nat) (h : ∀ x ∈ l, x.length ≤ k) : (tupleText l).length ≤ l.length * (k + 2) + 4 := by
  have pl : piled l ≤ l.length * (k + 2) := by
    induction l with
    | nil => simp [piled]
    | cons x l ih =>
      rw [piled_cons, List.length_cons, Nat.add_mul]
      have := ih fun y hy => h y (List.mem_cons_of_mem _ hy)
      have := h x List.mem_cons_self
      omega
  have hj : (Str.join ", " l).length ≤ piled l + 1 := by
    by_cases q : l = []
    · subst q; decide
    · have := join_length_add l q; omega
  unfold tupleText
  rw [strLen_append, strLen_append]
  have h1 : ((("(" : String) : Str)).length = 1 := by decide +kernel
  have h2 : (((if (l.length == 1) = true then ",)" else ")" : String) : Str)).length ≤ 2 := by split <;> decide +kernel
  omega
theorem shown_dg (n : Nat) (h : n < 10) : (PyData.int n).shown = dg n := by
  unfold PyData.shown; exact toStr_dg n h
theorem shown_tie (p : Nat × Nat) (h1 : p.1 < 10) (h2 : p.2 < 10) : (tieP p).shown.length ≤ 20 := by
  have := tuple_len [dg p.1, dg p.2] 1 (by simp)
  have e : (tieP p).shown = tupleText [dg p.1, dg p.2] := by
    show tupleText [(PyData.int p.1).shown, (PyData.int p.2).shown] = _
    rw [shown_dg _ h1, shown_dg _ h2]
  rw [e]; simp at this; omega
theorem shownAll_map {α : Type} (g : α → PyData) : ∀ l : List α, PyData.shownAll (l.map g) = l.map fun x => (g x).shown
  | [] => rfl
  | x :: l => by show (g x).shown :: PyData.shownAll (l.map g) = _; rw [shownAll_map g l]; rfl
theorem ok_app {x y : Str} (hx : PyData.strOk x = true) (hy : PyData.strOk y = true) : PyData.strOk (x ++ y) = true := by
  unfold PyData.strOk at *
  rw [← Array.all_toList] at *
  have e : (x ++ y).cps.toList = x.cps.toList ++ y.cps.toList := TL.tl_append x y
  rw [e, List.all_append, hx, hy]; rfl
theorem ok_join {y : Str} (hy : PyData.strOk y = true) : ∀ l : List Str, (∀ x ∈ l, PyData.strOk x = true) → PyData.strOk (Str.join y l) = true
  | [], _ => by unfold Str.join; decide +kernel
  | [x], h => h x (by simp)
  | x :: z :: r, h => by
    show PyData.strOk (x ++ y ++ Str.join y (z :: r)) = true
    exact ok_app (ok_app (h x (by simp)) hy) (ok_join hy (z :: r) fun q hq => h q (List.mem_cons_of_mem _ hq))
theorem ok_tuple {l : List Str} (h : ∀ x ∈ l, PyData.strOk x = true) : PyData.strOk (tupleText l) = true := by
  unfold tupleText
  refine ok_app (ok_app (by decide +kernel) (ok_join (by decide +kernel) l h)) ?_
  split <;> decide +kernel
theorem ok_dg (n : Nat) (h : n < 10) : PyData.strOk (dg n) = true := ok_sign (by omega)
theorem repr_of {d : PyData} {x : D} {A : AH} (h : toP (topD A x) = some d) (h1 : d.showable = true) (h2 : d.hasDict = false) (h3 : d.depth ≤ 60) (h4 : d.shown.length ≤ sizeLine) : gRepr [x] A = .ok (.str d.shown) A := by
  unfold gRepr reprP
  simp only [h, h1, h2, h3, h4]; rfl
theorem small_ties : ∀ ts : List (Nat × Nat), (∀ p ∈ ts, p.1 < 10 ∧ p.2 < 10) → PyData.showableAll (ts.map tieP) = true ∧ PyData.hasDictAll (ts.map tieP) = false
  | [], _ => ⟨rfl, rfl⟩
  | p :: ts, h => by
    obtain ⟨h1, h2⟩ := small_ties ts fun q hq => h q (List.mem_cons_of_mem _ hq)
    obtain ⟨l1, l2⟩ := h p List.mem_cons_self
    have e : (tieP p).showable = true := by
      show (decide _ && (decide _ && true)) = true
      rw [decide_eq_true (log_dg p.1 l1), decide_eq_true (log_dg p.2 l2)]; rfl
    exact ⟨by show ((tieP p).showable && PyData.showableAll (ts.map tieP)) = true; rw [h1, e]; rfl, by show ((tieP p).hasDict || PyData.hasDictAll (ts.map tieP)) = false; rw [h2]; rfl⟩
theorem repr_ties {n : Nat} {ts : List (Nat × Nat)} (T : Ties n ts) (A : AH) : ∃ x, gRepr [tiesD ts] A = .ok (.str x) A ∧ PyData.strOk x = true := by
  have s := T.size
  have sm : ∀ p ∈ ts, p.1 < 10 ∧ p.2 < 10 := fun p hp => by have := T.rng p hp; omega
  obtain ⟨q1, q2⟩ := lay_ties ts
  obtain ⟨q3, q4⟩ := small_ties ts sm
  have sh : (PyData.tuple (ts.map tieP)).shown = tupleText (ts.map fun p => (tieP p).shown) := by
    show tupleText (PyData.shownAll (ts.map tieP)) = _
    rw [shownAll_map]
  refine ⟨(PyData.tuple (ts.map tieP)).shown, repr_of (d := .tuple (ts.map tieP)) ?_ q3 q4 (by show PyData.depthAll _ + 1 ≤ 60; omega) ?_, ?_⟩
  · show (toPs (ts.map tieD)).map PyData.tuple = _
    rw [toPs_ties]; rfl
  · rw [sh]
    have := tuple_len (ts.map fun p => (tieP p).shown) 20 fun x hx => by
      obtain ⟨p, hp, rfl⟩ := List.mem_map.mp hx
      exact shown_tie p (sm p hp).1 (sm p hp).2
    rw [List.length_map] at this
    have := T.few
    show _ ≤ 16777216
    omega
  · rw [sh]
    refine ok_tuple fun x hx => ?_
    obtain ⟨p, hp, rfl⟩ := List.mem_map.mp hx
    show PyData.strOk (tupleText [(PyData.int p.1).shown, (PyData.int p.2).shown]) = true
    rw [shown_dg _ (sm p hp).1, shown_dg _ (sm p hp).2]
    exact ok_tuple (by simp [ok_dg p.1 (sm p hp).1, ok_dg p.2 (sm p hp).2])
end Lw
namespace Lw
open PySem PySem.Spec
open PyProof.Rows L2 F3
@[simp] theorem e_bRaise (f : Ev → AH → Res Xn) (env : Ev) (A : AH) : bRaise f env A = lfv (f env A) env fun x A1 => .ex x env A1 := rfl
@[simp] theorem e_sMk0 (c : Nat) (env : Ev) (A : AH) : sMk0 c env A = .ok ⟨c, []⟩ A := rfl
@[simp] theorem e_sMk1 (c : Nat) (fa : Ev → AH → Res (List D)) (env : Ev) (A : AH) : sMk1 c fa env A = (fa env A).bd fun ds A1 => match ds with
  | [d] => .ok ⟨c, [d]⟩ A1
  | _ => .stuck := rfl
/-! ### ties, line by line -/
def lexP (p q : Nat × Nat) : Bool := HT.lexLt [(p.1 : Int), p.2] [(q.1 : Int), q.2]
def lastGo (f : List (Nat × Nat)) (p : Nat × Nat) : Bool := match f.getLast? with
  | none => false
  | some q => lexP p q
def bad (n : Nat) (f : List (Nat × Nat)) (o : Option (Nat × Nat)) : Bool := match o with
  | none => true
  | some p => decide (f.length = 14) || lastGo f p
def tiesO (n : Nat) : Nat → List Str → List (Nat × Nat) → Except Nat (List (Nat × Nat))
  | _, [], f => .ok f
  | k, l :: ls, f => match tieO n l with
    | none => .error (k + 1)
    | some p => if (decide (f.length = 14) || lastGo f p) = true then .error (k + 1) else tiesO n (k + 1) ls (f ++ [p])
theorem lt_tie (p q : Nat × Nat) (A : AH) : gLt (tieD p) (tieD q) A = .ok (.bl (lexP p q)) A := rfl
theorem lexP_no {p q : Nat × Nat} (h : lexP p q = false) : q.1 < p.1 ∨ (q.1 = p.1 ∧ q.2 ≤ p.2) := by
  unfold lexP at h
  rw [HT.lexLt_cons, HT.lexLt_cons, HT.lexLt_nil_nil] at h
  split at h
  · split at h
    · omega
    · simp at h; omega
  · simp at h; omega
abbrev bodyW : Ev → AH → SR := bSeq (bSet (gNm 7) (sCall m_tie_from (sCons (sVar 3) (sCons (sVar 6) (sNil))))) (bSeq (bIf (sOrT (sTest (sBin gIs (sVar 7) (sC .non))) (sOrT (sTest (sBin gEq (sCall gLen (sCons (sVar 4) (sNil))) (sC (.int 14)))) (sAndT (sTest (sBin gNe (sVar 4) (sLst (sNil)))) (sTest (sBin gLt (sVar 7) (sBin gIx (sVar 4) (sUn gNeg (sC (.int 1))))))))) (bRaise (sMk1 3 (sCons (sBin gAdd (sVar 5) (sC (.int 1))) (sNil)))) (bNil)) (bExpr (sAppend (sVar 4) (sVar 7))))
abbrev bodyV : Ev → AH → SR := bSeq (bSet (gNm 6) (sLC [7] (iOf (sM1 mSplit (sVar 5) (sC (.str ⟨#[45]⟩)))) (gNm 7) (tTrue) (sCall m_law_number (sCons (sVar 7) (sNil))))) (bSeq (bIf (sOrT (sTest (sBin gNe (sCall gLen (sCons (sVar 6) (sNil))) (sC (.int 2)))) (sOrT (sTest (sBin gIn (sC .non) (sVar 6))) (sOrT (sNotT (sTest (sChain gLe gLt (sBin gIx (sVar 6) (sC (.int 0))) (sBin gIx (sVar 6) (sC (.int 1))) (sVar 2)))) (sOrT (sTest (sBin gEq (sCall gLen (sCons (sVar 3) (sNil))) (sC (.int 14)))) (sAndT (sTest (sBin gNe (sVar 3) (sLst (sNil)))) (sTest (sBin gLt (sCall gTuple (sCons (sVar 6) (sNil))) (sBin gIx (sVar 3) (sUn gNeg (sC (.int 1))))))))))) (bRet (sTup (sCons (sBin gAdd (sVar 4) (sC (.int 1))) (sCons (sC .non) (sNil))))) (bNil)) (bExpr (sAppend (sVar 3) (sCall gTuple (sCons (sVar 6) (sNil))))))
theorem ix_ties {A' : AH} {rr : Nat} {f : List (Nat × Nat)} (hA : A'[rr]? = some (.lst (f.map tieD))) (hne : f ≠ []) : gIx (.ref rr) (.int (-1)) A' = .ok (tieD (f.getLast hne)) A' := by
  unfold gIx
  simp only [asL, hA]
  have e8 : f.map tieD = (f.dropLast).map tieD ++ [tieD (f.getLast hne)] := by
    conv => lhs; rw [← List.dropLast_concat_getLast hne]
    simp
  rw [e8, atI_last]
theorem lastGo_of {f : List (Nat × Nat)} (hne : f ≠ []) (p : Nat × Nat) : lastGo f p = lexP p (f.getLast hne) := by
  unfold lastGo
  rw [List.getLast?_eq_some_getLast hne]
section
variable {n : Nat} {f : List (Nat × Nat)} {l : Str} {A' : AH} {rr : Nat}
theorem stepW (h : Okt l) (hf : f.length ≤ 14) (hA : A'[rr]? = some (.lst (f.map tieD))) (t l0 r x7 : Option D) (k : Nat) :
    bodyW [t, l0, r, some (.int n), some (.ref rr), some (.int k), some (.str l), x7] A' = match tieO n l with
      | none => .ex ⟨3, [.int (k + 1 : Nat)]⟩ [t, l0, r, some (.int n), some (.ref rr), some (.int k), some (.str l), some .non] A'
      | some p => if (decide (f.length = 14) || lastGo f p) = true then .ex ⟨3, [.int (k + 1 : Nat)]⟩ [t, l0, r, some (.int n), some (.ref rr), some (.int k), some (.str l), some (tieD p)] A' else .nx [t, l0, r, some (.int n), some (.ref rr), some (.int k), some (.str l), some (tieD p)] (A'.set rr (.lst ((f ++ [p]).map tieD))) := by
  have tf := tie_from_any (n := n) h A'
  have ga : gAdd (.int k) (.int 1) A' = .ok (.int (k + 1 : Nat)) A' := by rfl
  have nn := ne_ref_ties hA
  cases q : tieO n l with
  | none =>
    rw [q] at tf
    have gi : gIs .non .non A' = .ok (.bl true) A' := rfl
    simp [tf, optT, gi, ga]
  | some p =>
    rw [q] at tf
    have gi : gIs (tieD p) .non A' = .ok (.bl false) A' := rfl
    have gl : gLen [.ref rr] A' = .ok (.int f.length) A' := by
      unfold gLen
      simp [asL, hA]
      try omega
    by_cases c1 : f.length = 14
    · have c1' : ((f.length : Int) == 14) = true := by rw [c1]; rfl
      simp [tf, optT, gi, ga, gl, c1, c1']
    · have c1' : ((f.length : Int) == 14) = false := by simp; omega
      have z : f.length < 16777216 := by omega
      cases e : f with
      | nil =>
        subst e
        simp [tf, optT, gi, gl, nn, lastGo, hA]
      | cons a b =>
        have hne : f ≠ [] := by rw [e]; simp
        have ix := ix_ties hA hne
        have lg := lastGo_of hne p
        have lt := lt_tie p (f.getLast hne) A'
        rw [← e]
        have em : f.isEmpty = false := by rw [e]; rfl
        cases q2 : lexP p (f.getLast hne) with
        | true =>
          rw [q2] at lt lg
          simp [tf, optT, gi, ga, gl, c1, c1', nn, em, gNeg, ix, lt, lg]
        | false =>
          rw [q2] at lt lg
          simp [tf, optT, gi, ga, gl, c1, c1', nn, em, gNeg, ix, lt, lg, hA, z]
theorem stepV (h : Okt l) (hf : f.length ≤ 14) (hA : A'[rr]? = some (.lst (f.map tieD))) (t l0 x6 x7 : Option D) (k : Nat) :
    ∃ y6, bodyV [t, l0, some (.int n), some (.ref rr), some (.int k), some (.str l), x6, x7] A' = match tieO n l with
      | none => .rt (.tup [.int (k + 1 : Nat), .non]) A'
      | some p => if (decide (f.length = 14) || lastGo f p) = true then .rt (.tup [.int (k + 1 : Nat), .non]) A' else .nx [t, l0, some (.int n), some (.ref rr), some (.int k), some (.str l), y6, x7] (A'.set rr (.lst ((f ++ [p]).map tieD))) := by
  have sp := split_any (y := ⟨#[45]⟩) (c := 45) h rfl (by decide) A'
  have pl := pcs_len (c := 45) h
  have hm : ∀ env : Ev, env.length = 8 → compL (gNm 7) tTrue (sCall m_law_number (sCons (sVar 7) sNil)) ((pcs 45 l).map .str) env A' = .ok (((pcs 45 l).map numO).map optD) A' := fun env he => by
    have := compL_map (st := gNm 7) (t := tTrue) (f := sCall m_law_number (sCons (sVar 7) sNil)) (A := A') (env := env) (g := fun d => match d with | .str l => optD (numO l) | d => d) ((pcs 45 l).map .str) (fun d hd => by
      obtain ⟨p, hp, rfl⟩ := List.mem_map.mp hd
      refine ⟨_, rfl, rfl, ?_⟩
      simp [law_number_any (pcs_ok h hp), he])
    rw [this, List.map_map, List.map_map]; rfl
  have ga : gAdd (.int k) (.int 1) A' = .ok (.int (k + 1 : Nat)) A' := by rfl
  have nn := ne_ref_ties hA
  have z0 : (pcs 45 l).length ≤ 16777216 := by omega
  have gl : gLen [.ref rr] A' = .ok (.int f.length) A' := by
    unfold gLen
    simp [asL, hA]
    try omega
  unfold tieO
  have ol : ((pcs 45 l).map numO).length ≤ 2001 := by rw [List.length_map]; exact pl
  generalize (pcs 45 l).map numO = os at *
  have gl2 := len_eq (.lst (os.map optD)) _ (.inr rfl) (by rw [List.length_map]; omega) A'
  rw [List.length_map] at gl2
  have gi := in_lst os A'
  refine ⟨some (.lst (os.map optD)), ?_⟩
  by_cases q2 : os.length = 2
  · have q2' : ((os.length : Int) == 2) = true := by rw [q2]; rfl
    by_cases q : os.any Option.isNone = true
    · rw [q] at gi
      rw [tie2_any q]
      simp [sp, z0, wip, hm, gl2, q2, gi, ga, -List.map_map]
    · obtain ⟨a, b, rfl⟩ := two_of q2 q
      rw [show [some a, some b].any Option.isNone = false from rfl] at gi
      have e1 : tie2 n [some a, some b] = if a ≤ b ∧ b < n then some (a, b) else none := rfl
      have gx0 : gIx (.lst ([some a, some b].map optD)) (.int 0) A' = .ok (.int a) A' := rfl
      have gx1 : gIx (.lst ([some a, some b].map optD)) (.int 1) A' = .ok (.int b) A' := rfl
      have gt : gTuple [.lst ([some a, some b].map optD)] A' = .ok (tieD (a, b)) A' := rfl
      generalize hL : [some a, some b].map optD = L at *
      rw [e1]
      by_cases k1 : a ≤ b
      · by_cases k2 : b < n
        · have gle : gLe (.int a) (.int b) A' = .ok (.bl true) A' := by simp [gLe, k1]
          have glt : gLt (.int b) (.int n) A' = .ok (.bl true) A' := by simp [gLt, k2]
          rw [if_pos ⟨k1, k2⟩]
          by_cases c1 : f.length = 14
          · simp [sp, z0, wip, hm, gl2, gi, ga, gx0, gx1, gle, glt, gl, c1]
          · have c1' : ((f.length : Int) == 14) = false := by simp; omega
            have z : f.length < 16777216 := by omega
            cases e : f with
            | nil =>
              subst e
              simp [sp, z0, wip, hm, gl2, gi, ga, gx0, gx1, gle, glt, gl, nn, lastGo, hA, gt]
            | cons a0 b0 =>
              have hne : f ≠ [] := by rw [e]; simp
              have ix := ix_ties hA hne
              have lg := lastGo_of hne (a, b)
              have lt := lt_tie (a, b) (f.getLast hne) A'
              rw [← e]
              have em : f.isEmpty = false := by rw [e]; rfl
              cases q3 : lexP (a, b) (f.getLast hne) with
              | true =>
                rw [q3] at lt lg
                simp [sp, z0, wip, hm, gl2, gi, ga, gx0, gx1, gle, glt, gl, c1, c1', nn, em, gNeg, ix, gt, lt, lg]
              | false =>
                rw [q3] at lt lg
                simp [sp, z0, wip, hm, gl2, gi, ga, gx0, gx1, gle, glt, gl, c1, c1', nn, em, gNeg, ix, gt, lt, lg, hA, z]
        · have gle : gLe (.int a) (.int b) A' = .ok (.bl true) A' := by simp [gLe, k1]
          have glt : gLt (.int b) (.int n) A' = .ok (.bl false) A' := by simp [gLt, k2]
          rw [if_neg (fun z => k2 z.2)]
          simp [sp, z0, wip, hm, gl2, gi, ga, gx0, gx1, gle, glt]
      · have gle : gLe (.int a) (.int b) A' = .ok (.bl false) A' := by simp [gLe, k1]
        rw [if_neg (fun z => k1 z.1)]
        simp [sp, z0, wip, hm, gl2, gi, ga, gx0, gx1, gle]
  · rw [tie2_len q2]
    have q2' : ((os.length : Int) == 2) = false := by simp; omega
    simp [sp, z0, wip, hm, gl2, q2', ga, -List.map_map]
end
end Lw
namespace Lw
open PySem PySem.Spec
open PyProof.Rows L2 F3
theorem Ties.snoc {n : Nat} {f : List (Nat × Nat)} {p : Nat × Nat} (T : Ties n f) (h1 : p.1 ≤ p.2 ∧ p.2 < n) (h2 : ¬ f.length = 14) (h3 : lastGo f p = false) : Ties n (f ++ [p]) := by
  refine ⟨T.size, by have := T.few; simp; omega, fun q hq => ?_, ?_⟩
  · rcases List.mem_append.mp hq with e | e
    · exact T.rng q e
    · rw [List.mem_singleton.mp e]; exact h1
  · rw [List.pairwise_append]
    refine ⟨T.ord, List.pairwise_singleton _ _, fun q hq z hz => ?_⟩
    rw [List.mem_singleton.mp hz]
    have hne : f ≠ [] := fun e => by rw [e] at hq; cases hq
    rw [lastGo_of hne] at h3
    have h4 := lexP_no h3
    have ho := T.ord
    rw [← List.dropLast_concat_getLast hne] at hq ho
    rcases List.mem_append.mp hq with e | e
    · have := (List.pairwise_append.mp ho).2.2 q e (f.getLast hne) (by simp)
      omega
    · rw [List.mem_singleton.mp e]; exact h4
theorem tie2_rng {n : Nat} {os : List (Option Nat)} {p : Nat × Nat} (h : tie2 n os = some p) : p.1 ≤ p.2 ∧ p.2 < n := by
  unfold tie2 at h
  split at h
  · split at h
    · cases h; assumption
    · cases h
  · cases h
theorem tiesO_ok {n : Nat} : ∀ {ls : List Str} {k : Nat} {f f' : List (Nat × Nat)}, Ties n f → tiesO n k ls f = .ok f' → Ties n f'
  | [], k, f, f', T, h => by unfold tiesO at h; cases h; exact T
  | l :: ls, k, f, f', T, h => by
    unfold tiesO at h
    split at h
    · cases h
    · rename_i p hp
      split at h
      · cases h
      · rename_i q
        have q' : ¬ f.length = 14 ∧ lastGo f p = false := by simpa using q
        exact tiesO_ok (T.snoc (tie2_rng hp) q'.1 q'.2) h
section
variable {n : Nat} {A : AH}
theorem set_end (A : AH) (o p : AO) : (A ++ [o]).set A.length p = A ++ [p] := by simp
theorem loopW (t l0 r : Option D) : ∀ (ls : List Str) (k : Nat) (f : List (Nat × Nat)) (x5 x6 x7 : Option D), (∀ l ∈ ls, Okt l) → f.length ≤ 14 →
    (∀ e, tiesO n k ls f = .error e → ∃ (env' : Ev) (f' : List (Nat × Nat)), forL (gTp (gMore (gNm 5) (gMore (gNm 6) gEnd))) bodyW (enumD k (ls.map .str)) [t, l0, r, some (.int n), some (.ref A.length), x5, x6, x7] (A ++ [.lst (f.map tieD)]) = .ex ⟨3, [.int e]⟩ env' (A ++ [.lst (f'.map tieD)])) ∧
    (∀ f', tiesO n k ls f = .ok f' → ∃ y5 y6 y7, forL (gTp (gMore (gNm 5) (gMore (gNm 6) gEnd))) bodyW (enumD k (ls.map .str)) [t, l0, r, some (.int n), some (.ref A.length), x5, x6, x7] (A ++ [.lst (f.map tieD)]) = .nx [t, l0, r, some (.int n), some (.ref A.length), y5, y6, y7] (A ++ [.lst (f'.map tieD)]))
  | [], k, f, x5, x6, x7, _, _ => by
    refine ⟨fun e h => ?_, fun f' h => ?_⟩
    · unfold tiesO at h; cases h
    · unfold tiesO at h; cases h; exact ⟨x5, x6, x7, rfl⟩
  | l :: ls, k, f, x5, x6, x7, hl, hf => by
    have st := stepW (n := n) (f := f) (A' := A ++ [.lst (f.map tieD)]) (rr := A.length) (hl l List.mem_cons_self) hf (by simp) t l0 r x7 k
    have go : forL (gTp (gMore (gNm 5) (gMore (gNm 6) gEnd))) bodyW (enumD k ((l :: ls).map .str)) [t, l0, r, some (.int n), some (.ref A.length), x5, x6, x7] (A ++ [.lst (f.map tieD)]) =
        match bodyW [t, l0, r, some (.int n), some (.ref A.length), some (.int k), some (.str l), x7] (A ++ [.lst (f.map tieD)]) with
        | .nx env2 A2 => forL (gTp (gMore (gNm 5) (gMore (gNm 6) gEnd))) bodyW (enumD (k + 1 : Nat) (ls.map .str)) env2 A2
        | .ct env2 A2 => forL (gTp (gMore (gNm 5) (gMore (gNm 6) gEnd))) bodyW (enumD (k + 1 : Nat) (ls.map .str)) env2 A2
        | .bk env2 A2 => .nx env2 A2
        | r => r := by
      conv => lhs; unfold forL
      rfl
    rw [go, st]
    unfold tiesO
    cases q : tieO n l with
    | none => exact ⟨fun e h => by cases h; exact ⟨_, f, rfl⟩, fun f' h => by cases h⟩
    | some p =>
      simp only
      cases q2 : (decide (f.length = 14) || lastGo f p) with
      | true => exact ⟨fun e h => by cases h; exact ⟨_, f, rfl⟩, fun f' h => by cases h⟩
      | false =>
        have q' : ¬ f.length = 14 ∧ lastGo f p = false := by simpa using q2
        rw [set_end]
        exact loopW t l0 r ls (k + 1) (f ++ [p]) (some (.int k)) (some (.str l)) (some (tieD p)) (fun y hy => hl y (List.mem_cons_of_mem _ hy)) (by simp; omega)
theorem loopV (t l0 : Option D) : ∀ (ls : List Str) (k : Nat) (f : List (Nat × Nat)) (x4 x5 x6 x7 : Option D), (∀ l ∈ ls, Okt l) → f.length ≤ 14 →
    (∀ e, tiesO n k ls f = .error e → ∃ (f' : List (Nat × Nat)), forL (gTp (gMore (gNm 4) (gMore (gNm 5) gEnd))) bodyV (enumD k (ls.map .str)) [t, l0, some (.int n), some (.ref A.length), x4, x5, x6, x7] (A ++ [.lst (f.map tieD)]) = .rt (.tup [.int e, .non]) (A ++ [.lst (f'.map tieD)])) ∧
    (∀ f', tiesO n k ls f = .ok f' → ∃ y4 y5 y6, forL (gTp (gMore (gNm 4) (gMore (gNm 5) gEnd))) bodyV (enumD k (ls.map .str)) [t, l0, some (.int n), some (.ref A.length), x4, x5, x6, x7] (A ++ [.lst (f.map tieD)]) = .nx [t, l0, some (.int n), some (.ref A.length), y4, y5, y6, x7] (A ++ [.lst (f'.map tieD)]))
  | [], k, f, x4, x5, x6, x7, _, _ => by
    refine ⟨fun e h => ?_, fun f' h => ?_⟩
    · unfold tiesO at h; cases h
    · unfold tiesO at h; cases h; exact ⟨x4, x5, x6, rfl⟩
  | l :: ls, k, f, x4, x5, x6, x7, hl, hf => by
    obtain ⟨y6, st⟩ := stepV (n := n) (f := f) (A' := A ++ [.lst (f.map tieD)]) (rr := A.length) (hl l List.mem_cons_self) hf (by simp) t l0 x6 x7 k
    have go : forL (gTp (gMore (gNm 4) (gMore (gNm 5) gEnd))) bodyV (enumD k ((l :: ls).map .str)) [t, l0, some (.int n), some (.ref A.length), x4, x5, x6, x7] (A ++ [.lst (f.map tieD)]) =
        match bodyV [t, l0, some (.int n), some (.ref A.length), some (.int k), some (.str l), x6, x7] (A ++ [.lst (f.map tieD)]) with
        | .nx env2 A2 => forL (gTp (gMore (gNm 4) (gMore (gNm 5) gEnd))) bodyV (enumD (k + 1 : Nat) (ls.map .str)) env2 A2
        | .ct env2 A2 => forL (gTp (gMore (gNm 4) (gMore (gNm 5) gEnd))) bodyV (enumD (k + 1 : Nat) (ls.map .str)) env2 A2
        | .bk env2 A2 => .nx env2 A2
        | r => r := by
      conv => lhs; unfold forL
      rfl
    rw [go, st]
    unfold tiesO
    cases q : tieO n l with
    | none => exact ⟨fun e h => by cases h; exact ⟨f, rfl⟩, fun f' h => by cases h⟩
    | some p =>
      simp only
      cases q2 : (decide (f.length = 14) || lastGo f p) with
      | true => exact ⟨fun e h => by cases h; exact ⟨f, rfl⟩, fun f' h => by cases h⟩
      | false =>
        have q' : ¬ f.length = 14 ∧ lastGo f p = false := by simpa using q2
        rw [set_end]
        exact loopV t l0 ls (k + 1) (f ++ [p]) (some (.int k)) (some (.str l)) y6 x7 (fun y hy => hl y (List.mem_cons_of_mem _ hy)) (by simp; omega)
end
theorem cleanX_app {A : AH} {o : AO} {k : Int} (hA : Flat A) : cleanX A.length ⟨3, [.int k]⟩ (A ++ [o]) = .ex ⟨3, [.int k]⟩ A := by
  unfold cleanX
  rw [if_neg (by simp)]
  have e : frzL (frz (A ++ [o]) A.length 30) [.int k] = some [.int k] := rfl
  simp only [e]
  simp [hA _]
def webO (ls : List Str) (l : Str) : Except Nat (Nat × List (Nat × Nat)) := match ls with
  | [] => .error 0
  | h :: t => match sizeO h with
    | none => .error 0
    | some n => match tiesO n 0 t [] with
      | .error k => .error k
      | .ok f => if TL.tl l = [] then .ok (n, f) else .error (t.length + 1)
theorem sizeO_rng {h : Str} {n : Nat} (e : sizeO h = some n) : 1 ≤ n ∧ n ≤ 7 := by
  unfold sizeO at e
  split at e
  · unfold capO at e
    split at e
    · split at e
      · cases e; assumption
      · cases e
    · cases e
  · cases e
theorem none_ok (n : Nat) (h : 1 ≤ n ∧ n ≤ 7) : Ties n [] := ⟨h, by decide, (fun _ h => nomatch h), List.Pairwise.nil⟩
theorem webO_ok {ls : List Str} {l : Str} {n : Nat} {f : List (Nat × Nat)} (h : webO ls l = .ok (n, f)) : Ties n f := by
  unfold webO at h
  split at h
  · cases h
  · split at h
    · cases h
    · rename_i n' hn
      split at h
      · cases h
      · rename_i f' hf
        split at h
        · cases h
          exact tiesO_ok (none_ok n (sizeO_rng hn)) hf
        · cases h
end Lw
namespace Lw
open PySem PySem.Spec
open PyProof.Rows L2 F3
theorem ok_emp : PyData.strOk ⟨#[]⟩ = true := by decide +kernel
theorem init_len {x : Str} (h : Okt x) {ls : List Str} {l : Str} (e : pcs 10 x = ls ++ [l]) : ls.length ≤ 2000 ∧ (∀ y ∈ ls, Okt y) ∧ Okt l := by
  have := pcs_len (c := 10) h
  rw [e] at this
  refine ⟨by simp at this; omega, fun y hy => pcs_ok (c := 10) h (by rw [e]; simp [hy]), pcs_ok (c := 10) h (by rw [e]; simp)⟩
theorem ne_emp {l : Str} (h : Okt l) (A : AH) : gNe (.str l) (.str ⟨#[]⟩) A = .ok (.bl (!decide (TL.tl l = []))) A := by
  rw [gNe_str h.ok ok_emp, str_beq]
theorem eq_emp {l : Str} (h : Okt l) (A : AH) : gEq (.str l) (.str ⟨#[]⟩) A = .ok (.bl (decide (TL.tl l = []))) A := by
  rw [gEq_str h.ok ok_emp, str_beq]
theorem read_web_any {x : Str} (h : Okt x) {ls : List Str} {l : Str} (e : pcs 10 x = ls ++ [l]) {A : AH} (hA : Flat A) :
    m_read_web [.str x] A = match webO ls l with
      | .error k => .ex ⟨3, [.int k]⟩ A
      | .ok q => .ok (webD q.1 q.2) A := by
  have rt := require_text_of (x := x) (by have := h.few; omega) A
  have wl := whole_lines_any h e A
  obtain ⟨hl, hok, hlast⟩ := init_len h e
  have raise0 : (0 : Nat) = 0 := rfl
  cases ls with
  | nil =>
    have nn : gNe (.lst []) (.lst []) A = .ok (.bl false) A := ne_nil [] (by simp) A
    have gi : gIs .non .non A = .ok (.bl true) A := rfl
    simp only [List.map_nil] at wl
    simp [u_read_web, b_read_web, rt, wl, nn, gi, webO]
  | cons hd t =>
    have nn := ne_nil (hd :: t) (fun y hy => (hok y hy).ok) A
    rw [show (hd :: t).isEmpty = false from rfl] at nn
    have sf := size_from_any (hok hd (by simp)) A
    have gx : gIx (.lst ((hd :: t).map .str)) (.int 0) A = .ok (.str hd) A := by
      unfold gIx
      simp only [asL, List.map_cons, atI0]
    cases hs : sizeO hd with
    | none =>
      rw [hs] at sf
      have gi : gIs .non .non A = .ok (.bl true) A := rfl
      simp [u_read_web, b_read_web, rt, wl, nn, gx, sf, gi, webO, hs, optD, -List.map_cons]
    | some n =>
      rw [hs] at sf
      have gi : gIs (.int n) .non A = .ok (.bl false) A := rfl
      have sl : gSl (some 1) none (.lst ((hd :: t).map .str)) A = .ok (.lst (t.map .str)) A := by
        unfold gSl
        simp only [asQ, cutD_one]; rfl
      have sl' : ∀ o, gSl (some 1) none (.lst ((hd :: t).map .str)) (A ++ [o]) = .ok (.lst (t.map .str)) (A ++ [o]) := fun o => by
        unfold gSl
        simp only [asQ, cutD_one]; rfl
      obtain ⟨l1, l2⟩ := loopW (n := n) (A := A) (some (.str x)) (some (.lst ((hd :: t).map .str))) (some (.str l)) t 0 [] none none none (fun y hy => hok y (by simp [hy])) (by decide)
      simp only [List.map_nil] at l1 l2
      cases ht : tiesO n 0 t [] with
      | error k =>
        obtain ⟨env', f', l1⟩ := l1 k ht
        have cx := cleanX_app (k := (k : Int)) (o := .lst (f'.map tieD)) hA
        simp [u_read_web, b_read_web, rt, wl, nn, gx, sf, gi, webO, hs, optD, sl', l1, ht, cx, -List.map_cons]
      | ok f =>
        obtain ⟨y5, y6, y7, l2⟩ := l2 f ht
        have T : Ties n f := tiesO_ok (none_ok n (sizeO_rng hs)) ht
        have nl := ne_emp hlast (A ++ [.lst (f.map tieD)])
        by_cases q : TL.tl l = []
        · rw [decide_eq_true q] at nl
          have mk := make_of T (flat_ties hA f)
          have gt : gTuple [.ref A.length] (A ++ [.lst (f.map tieD)]) = .ok (tiesD f) (A ++ [.lst (f.map tieD)]) := by
            unfold gTuple asQ
            simp only [List.getElem?_concat_length]; rfl
          have cl := clean_app (B := [AO.lst (f.map tieD)]) hA (by simp) (frz_web _ _ 26 n f)
          simp [u_read_web, b_read_web, rt, wl, nn, gx, sf, gi, webO, hs, optD, sl', l2, ht, nl, q, gt, mk, cl, -List.map_cons]
        · rw [decide_eq_false q] at nl
          have gl := len_eq (.lst ((hd :: t).map .str)) _ (.inr rfl) (by rw [List.length_map]; omega) (A ++ [.lst (f.map tieD)])
          have cx := cleanX_app (k := ((t.length + 1 : Nat) : Int)) (o := .lst (f.map tieD)) hA
          rw [List.length_map, List.length_cons] at gl
          simp only [u_read_web, b_read_web, e_bSeq, e_bExpr, e_sCall, e_sCons, e_sNil, e_sVar, List.getElem?_cons_zero, List.getElem?_cons_succ, bind_ok, rt, lft_ok, seq_nx, e_bSet, wl, e_gTp, e_gMore, e_gNm, e_gEnd, Option.bind_some, stTo_some, List.set_cons_zero, List.set_cons_succ, e_sIf, e_sTest, e_sBin, nn, Bool.not_false, tst_bl, cnd_t, cnd_f, e_sC, e_sLst, List.length_nil, size_line, Nat.zero_le, if_true, gx, sf, optD, e_bIf, gi, e_bNil, e_sLstM, e_bFor, e_iEnum1, e_sSlice, e_oSome, e_oNone, sl', l2, nl, e_bRaise, e_sMk1, gl, lft_ex, seq_ex, fin_ex, cx, webO, hs, ht, if_neg q]
theorem cutD_mid (x : D) (xs : List D) (y : D) : F3.cutD (x :: (xs ++ [y])) (some 1) (some (-1)) = xs := by
  unfold F3.cutD
  have e1 : HT.sIx (x :: (xs ++ [y])).length 0 (some 1) = 1 := by
    unfold HT.sIx; simp; try omega
  have e2 : HT.sIx (x :: (xs ++ [y])).length (x :: (xs ++ [y])).length (some (-1)) = xs.length + 1 := by
    unfold HT.sIx; simp; omega
  rw [e1, e2]; simp
theorem law_of_web_any {x : Str} (h : Okt x) {ls : List Str} {l : Str} (e : pcs 10 x = ls ++ [l]) {A : AH} (hA : Flat A) :
    m_law_of_web [.str x] A = match webO ls l with
      | .error k => .ok (.tup [.int k, .non]) A
      | .ok q => .ok (.tup [.non, .tup [.int q.1, tiesD q.2]]) A := by
  have sp := split_any (y := ⟨#[10]⟩) (c := 10) h rfl (by decide) A
  have il : ∀ A', gIx (.lst ((pcs 10 x).map .str)) (.int (-1)) A' = .ok (.str l) A' := fun A' => ix_last e A'
  obtain ⟨hl, hok, hlast⟩ := init_len h e
  have okp : PyData.strOk ⟨#[112, 108, 97, 99, 101, 115, 32]⟩ = true := by decide +kernel
  have pl : (pcs 10 x).length = ls.length + 1 := by rw [e]; simp
  have gl := fun A' => len_eq (.lst ((pcs 10 x).map .str)) _ (.inr rfl) (by rw [List.length_map]; omega) A'
  obtain ⟨m, hm⟩ : ∃ m, m = ls.length + 1 := ⟨_, rfl⟩
  rw [List.length_map, pl, ← hm] at gl
  cases ls with
  | nil =>
    have gg : gGt (.int m) (.int 1) A = .ok (.bl false) A := by rw [hm]; rfl
    have gx : gIx (.lst ((pcs 10 x).map .str)) (.int 0) A = .ok (.str l) A := by
      rw [e]
      unfold gIx
      simp only [asL, List.map_append, List.map_nil, List.map_cons, List.nil_append, atI0]
    have gs : gSl none (some 7) (.str l) A = _ := gSl_take hlast 7 A
    have ge := gEq_str (hlast.take 7).ok okp A
    have gi : gIs .non .non A = .ok (.bl true) A := rfl
    cases q : ((⟨((TL.tl l).take 7).toArray⟩ : Str) == ⟨#[112, 108, 97, 99, 101, 115, 32]⟩) with
    | true =>
      rw [q] at ge
      simp [u_law_of_web, b_law_of_web, sp, gx, gs, ge, gl, gg, gi, webO]
    | false =>
      rw [q] at ge
      simp [u_law_of_web, b_law_of_web, sp, gx, gs, ge, gi, webO]
  | cons hd t =>
    have okh := hok hd (by simp)
    have gx : gIx (.lst ((pcs 10 x).map .str)) (.int 0) A = .ok (.str hd) A := by
      rw [e]
      unfold gIx
      simp only [asL, List.cons_append, List.map_cons, atI0]
    have gs : gSl none (some 7) (.str hd) A = _ := gSl_take okh 7 A
    have gd : gSl (some 7) none (.str hd) A = _ := gSl_drop okh 7 A
    have ge := gEq_str (okh.take 7).ok okp A
    rw [str_beq, TL.tl_mk] at ge
    have ln := law_number_any (okh.drop 7) A
    have gn : gIs .non .non A = .ok (.bl true) A := rfl
    have gg : gGt (.int m) (.int 1) A = .ok (.bl true) A := by
      have : (1 : Int) < m := by rw [hm]; simp; omega
      simp [gGt, gCmpI, this]
    by_cases q : (TL.tl hd).take 7 = plW ++ [32]
    · rw [decide_eq_true (show (TL.tl hd).take 7 = TL.tl ⟨#[112, 108, 97, 99, 101, 115, 32]⟩ from q)] at ge
      have sz : sizeO hd = capO (numO ⟨((TL.tl hd).drop 7).toArray⟩) := by unfold sizeO; rw [if_pos q]
      cases qn : numO ⟨((TL.tl hd).drop 7).toArray⟩ with
      | none =>
        rw [qn] at ln sz
        have sz' : sizeO hd = none := sz
        simp [u_law_of_web, b_law_of_web, sp, gx, gs, gd, ge, gl, gg, gn, webO, sz', ln, optD]
      | some n =>
        rw [qn] at ln sz
        have gi : gIs (.int n) .non A = .ok (.bl false) A := rfl
        by_cases qc : 1 ≤ n ∧ n ≤ 7
        · have sz' : sizeO hd = some n := by rw [sz]; exact if_pos qc
          have c1 : (1 : Int) ≤ n := by omega
          have c2 : (n : Int) ≤ 7 := by omega
          have gle1 : gLe (.int 1) (.int n) A = .ok (.bl true) A := by simp [gLe, c1]
          have gle2 : gLe (.int n) (.int 7) A = .ok (.bl true) A := by simp [gLe, c2]
          have sl : ∀ A', gSl (some 1) (some (-1)) (.lst ((pcs 10 x).map .str)) A' = .ok (.lst (t.map .str)) A' := fun A' => by
            rw [e]
            unfold gSl
            simp only [asQ, List.cons_append, List.map_cons, List.map_append, List.map_nil, cutD_mid]
          have head : ∀ rest : Ev → AH → SR, (bSeq (bSet (gNm 1) (sM1 mSplit (sVar 0) (sC (.str ⟨#[10]⟩)))) (bSeq (bSet (gNm 2) (sIf (sAndT (sTest (sBin gEq (sSlice (sBin gIx (sVar 1) (sC (.int 0))) (oNone) (oSome (sC (.int 7)))) (sC (.str ⟨#[112, 108, 97, 99, 101, 115, 32]⟩)))) (sTest (sBin gGt (sCall gLen (sCons (sVar 1) (sNil))) (sC (.int 1))))) (sCall m_law_number (sCons (sSlice (sBin gIx (sVar 1) (sC (.int 0))) (oSome (sC (.int 7))) (oNone)) (sNil))) (sC .non))) (bSeq (bIf (sOrT (sTest (sBin gIs (sVar 2) (sC .non))) (sNotT (sTest (sChain gLe gLe (sC (.int 1)) (sVar 2) (sC (.int 7)))))) (bRet (sTup (sCons (sC (.int 0)) (sCons (sC .non) (sNil))))) (bNil)) rest))) [some (.str x), none, none, none, none, none, none, none] A = rest [some (.str x), some (.lst ((pcs 10 x).map .str)), some (.int n), none, none, none, none, none] A := fun rest => by
            simp [sp, gx, gs, gd, ge, gl, gg, gi, ln, optD, gle1, gle2]
          obtain ⟨l1, l2⟩ := loopV (n := n) (A := A) (some (.str x)) (some (.lst ((pcs 10 x).map .str))) t 0 [] none none none none (fun y hy => hok y (by simp [hy])) (by decide)
          simp only [List.map_nil] at l1 l2
          rw [u_law_of_web]
          unfold b_law_of_web
          rw [head]
          cases ht : tiesO n 0 t [] with
          | error k =>
            obtain ⟨f', l1⟩ := l1 k ht
            have cl := clean_app (A := A) (B := [AO.lst (f'.map tieD)]) (d := .tup [.int k, .non]) (d' := .tup [.int k, .non]) hA (by simp) rfl
            simp [sl, gNeg, l1, webO, sz', ht, cl]
          | ok f =>
            obtain ⟨y4, y5, y6, l2⟩ := l2 f ht
            have nl := eq_emp hlast (A ++ [.lst (f.map tieD)])
            by_cases q : TL.tl l = []
            · rw [decide_eq_true q] at nl
              have gt : gTuple [.ref A.length] (A ++ [.lst (f.map tieD)]) = .ok (tiesD f) (A ++ [.lst (f.map tieD)]) := by
                unfold gTuple asQ
                simp only [List.getElem?_concat_length]; rfl
              have fz : frz (A ++ [AO.lst (f.map tieD)]) A.length 30 (.tup [.non, .tup [.int n, tiesD f]]) = some (.tup [.non, .tup [.int n, tiesD f]]) := by
                have e1 := frz_ties (A ++ [AO.lst (f.map tieD)]) A.length 25 f
                show (frzL (frz _ _ 29) [.non, .tup [.int n, tiesD f]]).map D.tup = _
                have e2 : frzL (frz (A ++ [AO.lst (f.map tieD)]) A.length 28) [.int n, tiesD f] = some [.int n, tiesD f] := by
                  show (match some (D.int n), frzL (frz _ _ 28) [tiesD f] with | some e, some es => some (e :: es) | _, _ => none) = _
                  rw [show frzL (frz (A ++ [AO.lst (f.map tieD)]) A.length 28) [tiesD f] = some [tiesD f] from by
                    show (match frz _ _ 28 (tiesD f), frzL (frz _ _ 28) [] with | some e, some es => some (e :: es) | _, _ => none) = _
                    rw [e1]; rfl]
                have e3 : frz (A ++ [AO.lst (f.map tieD)]) A.length 29 (.tup [.int n, tiesD f]) = some (.tup [.int n, tiesD f]) := by
                  show (frzL (frz _ _ 28) [.int n, tiesD f]).map D.tup = _
                  rw [e2]; rfl
                have e4 : frzL (frz (A ++ [AO.lst (f.map tieD)]) A.length 29) [.non, .tup [.int n, tiesD f]] = some [.non, .tup [.int n, tiesD f]] := by
                  show (match some D.non, frzL (frz _ _ 29) [.tup [.int n, tiesD f]] with | some e, some es => some (e :: es) | _, _ => none) = _
                  rw [show frzL (frz (A ++ [AO.lst (f.map tieD)]) A.length 29) [.tup [.int n, tiesD f]] = some [.tup [.int n, tiesD f]] from by
                    show (match frz _ _ 29 (.tup [.int n, tiesD f]), frzL (frz _ _ 29) [] with | some e, some es => some (e :: es) | _, _ => none) = _
                    rw [e3]; rfl]
                rw [e4]; rfl
              have cl := clean_app (B := [AO.lst (f.map tieD)]) hA (by simp) fz
              simp [sl, gNeg, l2, webO, sz', ht, il, nl, q, gt, cl]
            · rw [decide_eq_false q] at nl
              have gs1 : F3.gSub (.int m) (.int 1) (A ++ [.lst (f.map tieD)]) = .ok (.int (t.length + 1 : Nat)) (A ++ [.lst (f.map tieD)]) := by
                have : (m : Int) - 1 = (t.length + 1 : Nat) := by rw [hm]; simp
                show Res.ok (D.int ((m : Int) - 1)) _ = _
                rw [this]
              have cl := clean_app (A := A) (B := [AO.lst (f.map tieD)]) (d := .tup [.int (t.length + 1 : Nat), .non]) (d' := .tup [.int (t.length + 1 : Nat), .non]) hA (by simp) rfl
              simp only [webO, sz', ht, if_neg q]
              rw [← cl]
              simp [sl, gNeg, l2, il, nl, gl, gs1]
        · have sz' : sizeO hd = none := by rw [sz]; exact if_neg qc
          by_cases c1 : 1 ≤ n
          · have c2 : ¬ n ≤ 7 := fun z => qc ⟨c1, z⟩
            have gle1 : gLe (.int 1) (.int n) A = .ok (.bl true) A := by
              have : (1 : Int) ≤ n := by omega
              simp [gLe, this]
            have gle2 : gLe (.int n) (.int 7) A = .ok (.bl false) A := by
              have : ¬ (n : Int) ≤ 7 := by omega
              simp [gLe, this]
            simp [u_law_of_web, b_law_of_web, sp, gx, gs, gd, ge, gl, gg, gi, webO, sz', ln, optD, gle1, gle2]
          · have gle1 : gLe (.int 1) (.int n) A = .ok (.bl false) A := by
              have : ¬ (1 : Int) ≤ n := by omega
              simp [gLe, this]
            simp [u_law_of_web, b_law_of_web, sp, gx, gs, gd, ge, gl, gg, gi, webO, sz', ln, optD, gle1]
    · rw [decide_eq_false (show ¬ (TL.tl hd).take 7 = TL.tl ⟨#[112, 108, 97, 99, 101, 115, 32]⟩ from q)] at ge
      have sz' : sizeO hd = none := by unfold sizeO; rw [if_neg q]
      simp [u_law_of_web, b_law_of_web, sp, gx, gs, ge, gn, webO, sz']
end Lw
namespace Lw
open PySem PySem.Spec
open PyProof.Rows L2 F3
/-! ### one line alone -/
def one (t : List Str) (l : Str) : Bool := t.isEmpty && decide (TL.tl l = [])
theorem alone_any {x : Str} (h : Okt x) {ls : List Str} {l : Str} (e : pcs 10 x = ls ++ [l]) (A : AH) :
    m_alone_line [.str x] A = match ls with
      | [] => .ex ⟨3, [.int 0]⟩ A
      | hd :: t => .ok (.tup [.str hd, if one t l = true then .non else .int 1]) A := by
  have wl := whole_lines_any h e A
  obtain ⟨hl, hok, hlast⟩ := init_len h e
  cases ls with
  | nil =>
    have en : gEq (.lst []) (.lst []) A = .ok (.bl true) A := gEq_of (d := .list []) (e := .list []) rfl rfl rfl rfl
    simp only [List.map_nil] at wl
    simp [u_alone_line, b_alone_line, wl, en]
  | cons hd t =>
    obtain ⟨q1, q2⟩ := lay_strs (hd :: t) (fun y hy => (hok y hy).ok)
    have en : gEq (.lst ((hd :: t).map .str)) (.lst []) A = .ok (.bl false) A := by
      rw [gEq_of (d := .list ((hd :: t).map .str)) (e := .list []) (by
        show toP (.lst ((hd :: t).map .str)) = _
        unfold toP
        rw [toPs_strs]; rfl) rfl (shaped_list q1 (by omega)) rfl]; rfl
    have ne := ne_emp hlast A
    have gx : gIx (.lst ((hd :: t).map .str)) (.int 0) A = .ok (.str hd) A := by
      unfold gIx
      simp only [asL, List.map_cons, atI0]
    have gl := len_eq (.lst ((hd :: t).map .str)) _ (.inr rfl) (by rw [List.length_map]; omega) A
    rw [List.length_map] at gl
    obtain ⟨m, hm⟩ : ∃ m, m = (hd :: t).length := ⟨_, rfl⟩
    rw [← hm] at gl
    generalize (hd :: t).map D.str = L at *
    cases t with
    | nil =>
      have gg : gGt (.int m) (.int 1) A = .ok (.bl false) A := by rw [hm]; rfl
      by_cases q : TL.tl l = []
      · rw [decide_eq_true q] at ne
        have o : one [] l = true := by unfold one; rw [decide_eq_true q]; rfl
        simp [u_alone_line, b_alone_line, wl, en, gl, gg, ne, gx, o]
      · rw [decide_eq_false q] at ne
        have o : one [] l = false := by unfold one; rw [decide_eq_false q]; rfl
        simp [u_alone_line, b_alone_line, wl, en, gl, gg, ne, gx, o]
    | cons b t =>
      have gg : gGt (.int m) (.int 1) A = .ok (.bl true) A := by
        have : (1 : Int) < m := by rw [hm]; simp; omega
        simp only [gGt, gCmpI]; rw [decide_eq_true this]
      have o : one (b :: t) l = false := rfl
      simp [u_alone_line, b_alone_line, wl, en, gl, gg, gx, o]
def lineO (o : Str → Option D) (ls : List Str) (l : Str) : Except Nat D := match ls with
  | [] => .error 0
  | h :: t => match o h with
    | none => .error 0
    | some d => if one t l = true then .ok d else .error 1
def optV : Option D → D
  | none => .non
  | some d => d
/-! ### signs -/
def sgB (c : Nat) : Bool := decide (c = 60) || decide (c = 62)
def sgV (c : Nat) : Int := if c = 62 then 1 else -1
def signsO (m : Nat) (h : Str) : Option D := if (decide (h.length = m) && (TL.tl h).all sgB) = true then some (.tup (((TL.tl h).map sgV).map .int)) else none
theorem sign_ang (c : Nat) : signIn ⟨#[c]⟩ ⟨#[60, 62]⟩ = sgB c := by
  unfold signIn sgB
  by_cases h : c = 60 <;> by_cases h' : c = 62 <;> simp [h, h']
theorem in_two {c : Nat} (h : c < 200) (A : AH) : gIn (.str ⟨#[c]⟩) (.tup [.str ⟨#[62]⟩, .str ⟨#[60]⟩]) A = .ok (.bl (sgB c)) A := by
  unfold gIn inP
  have e1 : toPs [D.str ⟨#[62]⟩, D.str ⟨#[60]⟩] = some [.str ⟨#[62]⟩, .str ⟨#[60]⟩] := rfl
  have e2 : toP (D.str ⟨#[c]⟩) = some (.str ⟨#[c]⟩) := rfl
  have s1 : SeqAt.shaped (.str ⟨#[c]⟩) = true := shaped_str (ok_sign h)
  have s2 : SeqAt.shaped (.tuple [.str ⟨#[62]⟩, .str ⟨#[60]⟩]) = true := by decide +kernel
  simp only [topD, e1, e2, s1, s2]
  have e3 : ([PyData.str ⟨#[62]⟩, .str ⟨#[60]⟩].any fun z => PyData.eqv z (.str ⟨#[c]⟩)) = sgB c := by
    show ((⟨#[62]⟩ : Str) == ⟨#[c]⟩ || ((⟨#[60]⟩ : Str) == ⟨#[c]⟩ || false)) = sgB c
    rw [chr_eq, chr_eq]
    unfold sgB
    by_cases h : c = 60 <;> by_cases h' : c = 62 <;> simp [h, h'] <;> omega
  rw [e3]; rfl
theorem map_signs {h : Str} (ho : Okt h) {j : Nat} {env : Ev} (hj : j < env.length) (A : AH) :
    compL (gNm j) tTrue (sIf (sTest (sBin gEq (sVar j) (sC (.str ⟨#[62]⟩)))) (sC (.int 1)) (sUn gNeg (sC (.int 1)))) (chrs h) env A = .ok (((TL.tl h).map sgV).map .int) A := by
  have := compL_map (st := gNm j) (t := tTrue) (f := sIf (sTest (sBin gEq (sVar j) (sC (.str ⟨#[62]⟩)))) (sC (.int 1)) (sUn gNeg (sC (.int 1)))) (A := A) (env := env) (g := fun d => match d with | .str x => .int (if (x == ⟨#[62]⟩) = true then 1 else -1) | d => d) (chrs h) fun d hd => by
    obtain ⟨c, hc, rfl⟩ := List.mem_map.mp hd
    refine ⟨_, rfl, rfl, ?_⟩
    have ge := gEq_str (ok_sign (ho.low c hc)) (ok_sign (c := 62) (by decide)) A
    cases q : ((⟨#[c]⟩ : Str) == ⟨#[62]⟩) with
    | true => rw [q] at ge; simp [hj, ge, q]
    | false => rw [q] at ge; simp [hj, ge, q, gNeg]
  rw [this]
  unfold chrs
  rw [List.map_map, List.map_map]
  congr 1
  refine List.map_congr_left fun c _ => ?_
  show D.int (if ((⟨#[c]⟩ : Str) == ⟨#[62]⟩) = true then 1 else -1) = D.int (sgV c)
  rw [chr_eq]
  unfold sgV
  by_cases h : c = 62 <;> simp [h]
theorem law_signs_any {h : Str} (ho : Okt h) (m : Nat) (A : AH) : m_law_signs_of [.str h, .int m] A = .ok (optV (signsO m h)) A := by
  have hl : h.length = (TL.tl h).length := TL.len_tl h
  have z : h.length ≤ 16777216 := by have := ho.few; omega
  have zc : (chrs h).length ≤ 16777216 := by unfold chrs; rw [List.length_map, ← hl]; exact z
  have hc : h.cps.toList.map (fun c => D.str ⟨#[c]⟩) = chrs h := rfl
  have hm := signs_not (p := sgB) ho sign_ang (env := [some (.str h), some (.int m), none]) (A := A) (j := 2) (by simp)
  have nn := ne_nil (((TL.tl h).filter fun c => !sgB c).map fun c => (⟨#[c]⟩ : Str)) (fun y hy => by
    obtain ⟨c, hc, rfl⟩ := List.mem_map.mp hy
    exact ok_sign (ho.low c (List.mem_filter.mp hc).1)) A
  rw [show (((TL.tl h).filter fun c => !sgB c).map fun c => (⟨#[c]⟩ : Str)).isEmpty = (TL.tl h).all sgB by
    rw [List.isEmpty_map, isEmpty_filter]; simp] at nn
  have ms := map_signs ho (j := 2) (env := [some (.str h), some (.int m), none]) (by simp) A
  have gt : ∀ xs, gTuple [.lst xs] A = .ok (.tup xs) A := fun _ => rfl
  unfold signsO
  by_cases q1 : h.length = m
  · have q1' : ((h.length : Int) == m) = true := by simp; omega
    by_cases q2 : (TL.tl h).all sgB = true
    · rw [q2] at nn
      rw [if_pos (by rw [decide_eq_true q1, q2]; rfl)]
      simp [u_law_signs_of, b_law_signs_of, gLen, z, q1', hc, zc, wip, hm, nn, ms, gt, optV, -List.map_map]
    · have q2' : (TL.tl h).all sgB = false := by simpa using q2
      rw [q2'] at nn
      rw [if_neg (by rw [q2']; simp)]
      simp [u_law_signs_of, b_law_signs_of, gLen, z, q1', hc, zc, wip, hm, nn, optV, -List.map_map]
  · have q1' : ((h.length : Int) == m) = false := by simp; omega
    rw [if_neg (by rw [decide_eq_false q1]; simp)]
    simp [u_law_signs_of, b_law_signs_of, gLen, z, q1', optV]
theorem read_signs_any {n : Nat} {ts : List (Nat × Nat)} (T : Ties n ts) {x : Str} (hx : Okt x) {ls : List Str} {l : Str} (e : pcs 10 x = ls ++ [l]) (A : AH) :
    m_read_signs [webD n ts, .str x] A = match lineO (signsO ts.length) ls l with
      | .error k => .ex ⟨3, [.int k]⟩ A
      | .ok d => .ok d A := by
  have rt := require_text_of (x := x) (by have := hx.few; omega) A
  have al := alone_any hx e A
  obtain ⟨hl0, hok, hlast⟩ := init_len hx e
  have g1 : gFld 0 1 (webD n ts) A = .ok (.tup (ts.map tieD)) A := rfl
  have zt : ts.length ≤ 16777216 := by have := T.few; omega
  cases ls with
  | nil =>
    simp only at al
    simp [u_read_signs, b_read_signs, require_web_of, rt, al, lineO]
  | cons h t =>
    simp only at al
    have ho := hok h (by simp)
    have hl : h.length = (TL.tl h).length := TL.len_tl h
    have z : h.length ≤ 16777216 := by have := ho.few; omega
    have zc : (chrs h).length ≤ 16777216 := by unfold chrs; rw [List.length_map, ← hl]; exact z
    have hc : h.cps.toList.map (fun c => D.str ⟨#[c]⟩) = chrs h := rfl
    have hm : ∀ env : Ev, env.length = 5 → compL (gNm 4) tTrue (sBin gIn (sVar 4) (sTup (sCons (sC (.str ⟨#[62]⟩)) (sCons (sC (.str ⟨#[60]⟩)) (sNil))))) (chrs h) env A = .ok ((TL.tl h).map fun c => D.bl (sgB c)) A := fun env he => by
      have := compL_map (st := gNm 4) (t := tTrue) (f := sBin gIn (sVar 4) (sTup (sCons (sC (.str ⟨#[62]⟩)) (sCons (sC (.str ⟨#[60]⟩)) (sNil))))) (A := A) (env := env) (g := fun d => match d with | .str y => .bl (signIn y ⟨#[60, 62]⟩) | d => d) (chrs h) fun d hd => by
        obtain ⟨c, hc, rfl⟩ := List.mem_map.mp hd
        refine ⟨_, rfl, rfl, ?_⟩
        simp [he, in_two (ho.low c hc), sign_ang]
      rw [this]
      unfold chrs
      rw [List.map_map]
      congr 1
      refine List.map_congr_left fun c _ => ?_
      show D.bl (signIn ⟨#[c]⟩ ⟨#[60, 62]⟩) = _
      rw [sign_ang]
    have am := all_map sgB (TL.tl h) A
    have gt : ∀ xs, gTuple [.lst xs] A = .ok (.tup xs) A := fun _ => rfl
    generalize hsp : (if one t l = true then D.non else D.int 1) = spt at *
    by_cases q1 : h.length = ts.length
    · have q1' : ((h.length : Int) == ts.length) = true := by simp; omega
      by_cases q2 : (TL.tl h).all sgB = true
      · rw [q2] at am
        have so : signsO ts.length h = some (.tup (((TL.tl h).map sgV).map .int)) := by unfold signsO; rw [if_pos (by rw [decide_eq_true q1, q2]; rfl)]
        simp only [lineO, so]
        have ms := fun env he => map_signs ho (j := 4) (env := env) he A
        cases q3 : one t l with
        | true =>
          rw [q3] at hsp
          subst hsp
          have gn : gIsNot .non .non A = .ok (.bl false) A := rfl
          simp [u_read_signs, b_read_signs, require_web_of, rt, al, gLen, asL, z, zt, g1, q1', hc, zc, wip, hm, am, gn, ms, gt, -List.map_map]
        | false =>
          rw [q3] at hsp
          subst hsp
          have gn : gIsNot (.int 1) .non A = .ok (.bl true) A := rfl
          simp [u_read_signs, b_read_signs, require_web_of, rt, al, gLen, asL, z, zt, g1, q1', hc, zc, wip, hm, am, gn, -List.map_map]
      · have q2' : (TL.tl h).all sgB = false := by simpa using q2
        rw [q2'] at am
        have so : signsO ts.length h = none := by unfold signsO; rw [if_neg (by rw [q2']; simp)]
        simp only [lineO, so]
        simp [u_read_signs, b_read_signs, require_web_of, rt, al, gLen, asL, z, zt, g1, q1', hc, zc, wip, hm, am, -List.map_map]
    · have q1' : ((h.length : Int) == ts.length) = false := by simp; omega
      have so : signsO ts.length h = none := by unfold signsO; rw [if_neg (by rw [decide_eq_false q1]; simp)]
      simp only [lineO, so]
      simp [u_read_signs, b_read_signs, require_web_of, rt, al, gLen, asL, z, zt, g1, q1']
end Lw
namespace Lw
open PySem PySem.Spec
open PyProof.Rows L2 F3
/-! ### hues -/
def hueG : Option Nat → Bool
  | none => false
  | some k => decide (k ≤ 9)
def hueW : List Nat := [104, 117, 101, 115]
def rowO (n : Nat) (os : List (Option Nat)) : Option D := if (decide (os.length = n) && os.all hueG) = true then some (.tup (os.map optD)) else none
def huesO (n : Nat) (h : Str) : Option D := if (TL.tl h).take 5 = hueW ++ [32] then rowO n ((pcs 32 ⟨((TL.tl h).drop 5).toArray⟩).map numO) else none
theorem hueG_any : ∀ os : List (Option Nat), os.any Option.isNone = true → os.all hueG = false
  | [], h => by simp at h
  | none :: os, _ => rfl
  | some k :: os, h => by
    have h' : os.any Option.isNone = true := by simpa using h
    rw [List.all_cons, hueG_any os h', Bool.and_false]
theorem ne_opts (os : List (Option Nat)) (A : AH) : gNe (.lst (os.map optD)) (.lst []) A = .ok (.bl (!os.isEmpty)) A := by
  obtain ⟨q1, q2⟩ := lay_opts os
  rw [gNe_of (d := .list (os.map optP)) (e := .list []) (by
    show toP (.lst (os.map optD)) = _
    unfold toP
    rw [toPs_opts]; rfl) rfl (shaped_list q1 (by rw [q2]; decide)) rfl]
  cases os <;> rfl
theorem law_hues_any {h : Str} (ho : Okt h) (n : Nat) (hn : 1 ≤ n) (A : AH) : m_law_hues_of [.str h, .int n] A = .ok (optV (huesO n h)) A := by
  have gs : gSl none (some 5) (.str h) A = _ := gSl_take ho 5 A
  have gd : gSl (some 5) none (.str h) A = _ := gSl_drop ho 5 A
  have okp : PyData.strOk ⟨#[104, 117, 101, 115, 32]⟩ = true := by decide +kernel
  have ge := gEq_str (ho.take 5).ok okp A
  rw [str_beq, TL.tl_mk] at ge
  have gt : ∀ xs, gTuple [.lst xs] A = .ok (.tup xs) A := fun _ => rfl
  by_cases q : (TL.tl h).take 5 = hueW ++ [32]
  · rw [decide_eq_true (show (TL.tl h).take 5 = TL.tl ⟨#[104, 117, 101, 115, 32]⟩ from q)] at ge
    have okd := ho.drop 5
    have sp := split_any (y := ⟨#[32]⟩) (c := 32) okd rfl (by decide) A
    have pl := pcs_len (c := 32) okd
    have hu : huesO n h = rowO n ((pcs 32 ⟨((TL.tl h).drop 5).toArray⟩).map numO) := by unfold huesO; rw [if_pos q]
    have hm : ∀ env : Ev, env.length = 5 → compL (gNm 3) tTrue (sCall m_law_number (sCons (sVar 3) sNil)) ((pcs 32 ⟨((TL.tl h).drop 5).toArray⟩).map .str) env A = .ok (((pcs 32 ⟨((TL.tl h).drop 5).toArray⟩).map numO).map optD) A := fun env he => by
      have := compL_map (st := gNm 3) (t := tTrue) (f := sCall m_law_number (sCons (sVar 3) sNil)) (A := A) (env := env) (g := fun d => match d with | .str l => optD (numO l) | d => d) ((pcs 32 ⟨((TL.tl h).drop 5).toArray⟩).map .str) (fun d hd => by
        obtain ⟨p, hp, rfl⟩ := List.mem_map.mp hd
        refine ⟨_, rfl, rfl, ?_⟩
        simp [law_number_any (pcs_ok okd hp), he])
      rw [this, List.map_map, List.map_map]; rfl
    rw [hu]
    have ol : ((pcs 32 ⟨((TL.tl h).drop 5).toArray⟩).map numO).length ≤ 2001 := by rw [List.length_map]; exact pl
    have z0 : (pcs 32 ⟨((TL.tl h).drop 5).toArray⟩).length ≤ 16777216 := by omega
    generalize (pcs 32 ⟨((TL.tl h).drop 5).toArray⟩).map numO = os at *
    generalize pcs 32 ⟨((TL.tl h).drop 5).toArray⟩ = ps at *
    generalize (⟨((TL.tl h).drop 5).toArray⟩ : Str) = hd at *
    have gl := len_eq (.lst (os.map optD)) _ (.inr rfl) (by rw [List.length_map]; omega) A
    rw [List.length_map] at gl
    have zo : os.length ≤ 16777216 := by omega
    have cf : ∀ env : Ev, env.length = 5 → compL (gNm 4) (sOrT (sTest (sBin gIs (sVar 4) (sC .non))) (sTest (sBin gGt (sVar 4) (sC (.int 9))))) (sVar 4) (os.map optD) env A = .ok ((os.filter fun o => !hueG o).map optD) A := fun env he => by
      have := compL_filt (st := gNm 4) (t := sOrT (sTest (sBin gIs (sVar 4) (sC .non))) (sTest (sBin gGt (sVar 4) (sC (.int 9))))) (f := sVar 4) (env := env) (A := A) (p := fun d => match d with | .int k => decide (9 < k) | _ => true) (g := id) (os.map optD) fun d hd => by
        obtain ⟨o, _, rfl⟩ := List.mem_map.mp hd
        refine ⟨_, rfl, ?_, fun _ => ?_⟩
        · cases o with
          | none => simp [he, optD, gIs]
          | some k => simp [he, optD, gIs, gGt, gCmpI]
        · simp [he]
      rw [this]
      congr 1
      rw [List.map_id, List.filter_map]
      have e : (fun d => match d with | D.int k => decide (9 < k) | _ => true) ∘ optD = fun o : Option Nat => !hueG o := by
        funext o
        cases o with
        | none => rfl
        | some k =>
          show decide ((9 : Int) < (k : Int)) = !decide (k ≤ 9)
          by_cases q : k ≤ 9
          · rw [decide_eq_true q, decide_eq_false (by omega)]; rfl
          · rw [decide_eq_false q, decide_eq_true (by omega)]; rfl
      rw [e]
    have nn := ne_opts (os.filter fun o => !hueG o) A
    rw [isEmpty_filter] at nn
    have nn2 : (os.all fun x => !!hueG x) = os.all hueG := by simp
    rw [nn2] at nn
    unfold rowO
    by_cases q1 : os.length = n
    · have q1' : ((os.length : Int) == n) = true := by simp; omega
      by_cases q2 : os.all hueG = true
      · rw [q2] at nn
        rw [if_pos (by rw [decide_eq_true q1, q2]; rfl)]
        simp [u_law_hues_of, b_law_hues_of, gs, gd, ge, sp, z0, zo, wip, hm, gl, q1', cf, nn, gt, optV, -List.map_map]
      · have q2' : os.all hueG = false := by simpa using q2
        rw [q2'] at nn
        rw [if_neg (by rw [q2']; simp)]
        simp [u_law_hues_of, b_law_hues_of, gs, gd, ge, sp, z0, zo, wip, hm, gl, q1', cf, nn, gt, optV, -List.map_map]
    · have q1' : ((os.length : Int) == n) = false := by simp; omega
      rw [if_neg (by rw [decide_eq_false q1]; simp)]
      simp [u_law_hues_of, b_law_hues_of, gs, gd, ge, sp, z0, wip, hm, gl, q1', optV, -List.map_map]
  · rw [decide_eq_false (show ¬ (TL.tl h).take 5 = TL.tl ⟨#[104, 117, 101, 115, 32]⟩ from q)] at ge
    have hu : huesO n h = none := by unfold huesO; rw [if_neg q]
    have n0 : ((0 : Int) == n) = false := by simp; omega
    rw [hu]
    simp [u_law_hues_of, b_law_hues_of, gs, ge, gLen, asL, n0, optV]
theorem are_hues_any {n : Nat} {ts : List (Nat × Nat)} (T : Ties n ts) {os : List (Option Nat)} (h0 : ¬ os.any Option.isNone = true) (hb : ∀ k, some k ∈ os → k < 1000000000) (hl : os.length ≤ 3000) (A : AH) :
    m_are_hues_in [webD n ts, .tup (os.map optD)] A = .ok (.bl (decide (os.length = n) && os.all hueG)) A := by
  have g0 : gFld 0 0 (webD n ts) A = .ok (.int n) A := rfl
  have gl := len_eq (.tup (os.map optD)) _ (.inl rfl) (by rw [List.length_map]; omega) A
  rw [List.length_map] at gl
  have zo : os.length ≤ 16777216 := by omega
  have hm : ∀ env : Ev, env.length = 3 → compL (gNm 2) tTrue (sCall m_is_within (sCons (sVar 2) (sCons (sC (.int 0)) (sCons (sC (.int 9)) (sNil))))) (os.map optD) env A = .ok (os.map fun o => D.bl (hueG o)) A := fun env he => by
    have := compL_map (st := gNm 2) (t := tTrue) (f := sCall m_is_within (sCons (sVar 2) (sCons (sC (.int 0)) (sCons (sC (.int 9)) (sNil))))) (A := A) (g := fun d => match d with | .int k => .bl (decide (k ≤ 9)) | d => d) (env := env) (os.map optD) (fun d hd => by
      obtain ⟨o, ho, rfl⟩ := List.mem_map.mp hd
      cases o with
      | none => exact absurd (List.any_eq_true.mpr ⟨none, ho, rfl⟩) h0
      | some k =>
        have := hb k ho
        refine ⟨_, rfl, rfl, ?_⟩
        have w := is_within_int (k : Int) 0 9 A (by omega) (by omega)
        have e : decide ((0 : Int) ≤ k ∧ (k : Int) ≤ 9) = decide ((k : Int) ≤ 9) := by
          by_cases q : (k : Int) ≤ 9
          · rw [decide_eq_true q, decide_eq_true ⟨by omega, q⟩]
          · rw [decide_eq_false q, decide_eq_false (fun z => q z.2)]
        rw [e] at w
        simp [he, optD, w])
    rw [this, List.map_map]
    congr 1
    refine List.map_congr_left fun o ho => ?_
    cases o with
    | none => exact absurd (List.any_eq_true.mpr ⟨none, ho, rfl⟩) h0
    | some k =>
      show D.bl (decide ((k : Int) ≤ 9)) = D.bl (decide (k ≤ 9))
      by_cases q : k ≤ 9
      · rw [decide_eq_true q, decide_eq_true (by omega)]
      · rw [decide_eq_false q, decide_eq_false (by omega)]
  have am := all_map hueG os A
  have ib : ∀ xs, gIsiB "tuple" (.tup xs) A = .ok (.bl true) A := fun _ => rfl
  by_cases q1 : os.length = n
  · have q1' : ((os.length : Int) == n) = true := by simp; omega
    rw [decide_eq_true q1, Bool.true_and]
    simp [u_are_hues_in, b_are_hues_in, ib, gl, g0, q1', zo, wip, hm, am, -List.map_map]
  · have q1' : ((os.length : Int) == n) = false := by simp; omega
    rw [decide_eq_false q1, Bool.false_and]
    simp [u_are_hues_in, b_are_hues_in, ib, gl, g0, q1', -List.map_map]
end Lw
namespace Lw
open PySem PySem.Spec
open PyProof.Rows L2 F3
/-- the row that a line of hues tells -/
theorem row_line {n : Nat} {ts : List (Nat × Nat)} (T : Ties n ts) {h : Str} (ho : Okt h) (A : AH) : ∃ (ps : List D) (row : D) (b : Bool), mSplit h (.str ⟨#[32]⟩) A = .ok (.lst ps) A ∧
    (∀ env : Ev, env[4]? = some (some (.lst ps)) → sIf (sTest (sBin gEq (sBin gIx (sVar 4) (sC (.int 0))) (sC (.str ⟨#[104, 117, 101, 115]⟩)))) (sCall m_numbers_of (sCons (sSlice (sVar 4) (oSome (sC (.int 1))) (oNone)) (sNil))) (sC .non) env A = .ok row A) ∧
    gIs row .non A = .ok (.bl b) A ∧ (b = true → huesO n h = none) ∧ (b = false → m_are_hues_in [webD n ts, row] A = .ok (.bl (huesO n h).isSome) A ∧ ∀ d, huesO n h = some d → d = row) := by
  have sp := split_any (y := ⟨#[32]⟩) (c := 32) ho rfl (by decide) A
  have pl := pcs_len (c := 32) ho
  have okp : PyData.strOk ⟨#[104, 117, 101, 115]⟩ = true := by decide +kernel
  have s := T.size
  -- the head of the parts
  obtain ⟨a, r, ea⟩ : ∃ a r, pcs 32 h = a :: r := by
    cases q : pcs 32 h with
    | nil => exact absurd q (by unfold pcs; simp [cutL_ne])
    | cons a r => exact ⟨a, r, rfl⟩
  have oka : Okt a := pcs_ok (c := 32) ho (by rw [ea]; simp)
  have okr : ∀ p ∈ r, Okt p := fun p hp => pcs_ok (c := 32) ho (by rw [ea]; simp [hp])
  have ge := gEq_str oka.ok okp A
  rw [str_beq] at ge
  have gx : gIx (.lst ((pcs 32 h).map .str)) (.int 0) A = .ok (.str a) A := by
    rw [ea]; unfold gIx; simp only [asL, List.map_cons, atI0]
  have gs : gSl (some 1) none (.lst ((pcs 32 h).map .str)) A = .ok (.lst (r.map .str)) A := by
    rw [ea]; unfold gSl; simp only [asQ, cutD_one]; rfl
  have rl : r.length ≤ 2000 := by rw [ea] at pl; simp at pl; exact pl
  have nm := numbers_any (ps := r) okr (by omega) A
  refine ⟨(pcs 32 h).map .str, ?_⟩
  -- what the law looks at
  have spec : (¬ TL.tl a = hueW → huesO n h = none) ∧ (TL.tl a = hueW → huesO n h = rowO n (r.map numO)) := by
    rcases cut_or 32 (TL.tl h) with hf | ⟨a', b, ha, hab⟩
    · have e1 : pcs 32 h = [h] := by unfold pcs; rw [cutL_free hf]; rfl
      rw [e1] at ea
      cases ea
      have e2 : huesO n h = none := by
        unfold huesO
        rw [if_neg]
        intro q
        exact hf (List.mem_of_mem_take (i := 5) (by rw [q]; simp))
      refine ⟨fun _ => e2, fun _ => ?_⟩
      rw [e2]
      unfold rowO
      rw [if_neg]
      have : ¬ (0 = n) := by omega
      simp [this]
    · have e1 : pcs 32 h = ⟨a'.toArray⟩ :: pcs 32 ⟨b.toArray⟩ := by unfold pcs; rw [hab, cutL_at ha]; rfl
      rw [e1] at ea
      cases ea
      have ti := take_iff (s := 32) (b := b) (p := hueW) (a := a') (by decide) ha
      refine ⟨fun q => ?_, fun q => ?_⟩
      · unfold huesO
        rw [if_neg (fun z => q (ti.mp (by rw [hab] at z; exact z)))]
      · unfold huesO
        have q' : a' = hueW := q
        rw [if_pos (by rw [hab]; exact ti.mpr q'), hab, q']; rfl
  by_cases q : TL.tl a = hueW
  · rw [decide_eq_true (show TL.tl a = TL.tl ⟨#[104, 117, 101, 115]⟩ from q)] at ge
    have hu := spec.2 q
    have hb : ∀ k, some k ∈ r.map numO → k < 1000000000 := fun k hk => by
      obtain ⟨p, _, hp⟩ := List.mem_map.mp hk
      exact numO_lt hp
    have ol : (r.map numO).length ≤ 3000 := by rw [List.length_map]; omega
    generalize r.map numO = os at *
    by_cases q2 : os.any Option.isNone = true
    · rw [if_pos q2] at nm
      refine ⟨.non, true, sp, fun env he => ?_, rfl, fun _ => ?_, (fun z => by cases z)⟩
      · simp [he, gx, ge, gs, nm]
      · rw [hu]; unfold rowO; rw [if_neg]; rw [hueG_any os q2]; simp
    · rw [if_neg q2] at nm
      refine ⟨.tup (os.map optD), false, sp, fun env he => ?_, rfl, (fun z => by cases z), fun _ => ?_⟩
      · simp [he, gx, ge, gs, nm]
      · have ah := are_hues_any T q2 hb ol A
        rw [ah, hu]
        unfold rowO
        cases q3 : (decide (os.length = n) && os.all hueG) with
        | true => exact ⟨rfl, fun d hd => by cases hd; rfl⟩
        | false => exact ⟨rfl, fun d hd => by cases hd⟩
  · rw [decide_eq_false (show ¬ TL.tl a = TL.tl ⟨#[104, 117, 101, 115]⟩ from q)] at ge
    refine ⟨.non, true, sp, fun env he => ?_, rfl, fun _ => spec.1 q, (fun z => by cases z)⟩
    simp [he, gx, ge]
theorem read_hues_any {n : Nat} {ts : List (Nat × Nat)} (T : Ties n ts) {x : Str} (hx : Okt x) {ls : List Str} {l : Str} (e : pcs 10 x = ls ++ [l]) (A : AH) :
    m_read_hues [webD n ts, .str x] A = match lineO (huesO n) ls l with
      | .error k => .ex ⟨3, [.int k]⟩ A
      | .ok d => .ok d A := by
  have rt := require_text_of (x := x) (by have := hx.few; omega) A
  have al := alone_any hx e A
  obtain ⟨hl0, hok, hlast⟩ := init_len hx e
  cases ls with
  | nil =>
    simp only at al
    simp [u_read_hues, b_read_hues, require_web_of, rt, al, lineO]
  | cons h t =>
    simp only at al
    have ho := hok h (by simp)
    obtain ⟨ps, row, b, sp, rw_, gi, h1, h2⟩ := row_line T ho A
    have rw1 := rw_ [some (webD n ts), some (.str x), some (.str h), some (if one t l = true then .non else .int 1), some (.lst ps), none] rfl
    generalize hsp : (if one t l = true then D.non else D.int 1) = spt at *
    cases b with
    | true =>
      have so := h1 rfl
      simp only [lineO, so]
      simp [u_read_hues, b_read_hues, require_web_of, rt, al, sp, rw1, gi, -e_sIf]
    | false =>
      obtain ⟨ah, hd⟩ := h2 rfl
      cases so : huesO n h with
      | none =>
        rw [so] at ah
        have ah' : m_are_hues_in [webD n ts, row] A = .ok (.bl false) A := ah
        simp only [lineO, so]
        simp [u_read_hues, b_read_hues, require_web_of, rt, al, sp, rw1, gi, ah', -e_sIf]
      | some d =>
        rw [so] at ah
        have ah' : m_are_hues_in [webD n ts, row] A = .ok (.bl true) A := ah
        have ed := hd d so
        subst ed
        simp only [lineO, so]
        cases q3 : one t l with
        | true =>
          rw [q3] at hsp
          have hs : spt = .non := by rw [← hsp]; rfl
          clear hsp
          subst hs
          have gn : gIsNot .non .non A = .ok (.bl false) A := rfl
          simp [u_read_hues, b_read_hues, require_web_of, rt, al, sp, rw1, gi, ah', gn, -e_sIf]
        | false =>
          rw [q3] at hsp
          have hs : spt = .int 1 := by rw [← hsp]; rfl
          clear hsp
          subst hs
          have gn : gIsNot (.int 1) .non A = .ok (.bl true) A := rfl
          simp [u_read_hues, b_read_hues, require_web_of, rt, al, sp, rw1, gi, ah', gn, -e_sIf]
/-! ### the law's own look at a line; reading -/
theorem nfA_app : ∀ (A : AH), (∀ o ∈ A, nfO o = true) → nfA A = true
  | [], _ => rfl
  | o :: A, h => by
    show (nfO o && nfA A) = true
    rw [h o List.mem_cons_self, nfA_app A fun x hx => h x (List.mem_cons_of_mem _ hx)]; rfl
theorem eq_one {t : List Str} {l : Str} (ht : ∀ y ∈ t, Okt y) (hl : Okt l) (A : AH) : gEq (.lst ((t ++ [l]).map .str)) (.lst [.str ⟨#[]⟩]) A = .ok (.bl (one t l)) A := by
  have ok : ∀ y ∈ t ++ [l], PyData.strOk y = true := fun y hy => by
    rcases List.mem_append.mp hy with z | z
    · exact (ht y z).ok
    · rw [List.mem_singleton.mp z]; exact hl.ok
  obtain ⟨q1, q2⟩ := lay_strs (t ++ [l]) ok
  rw [gEq_of (d := .list ((t ++ [l]).map .str)) (e := .list [.str ⟨#[]⟩]) (by
    show toP (.lst ((t ++ [l]).map .str)) = _
    unfold toP
    rw [toPs_strs]; rfl) rfl (shaped_list q1 (by rw [q2]; decide)) (by decide +kernel)]
  congr 2
  cases t with
  | nil =>
    show (l == ⟨#[]⟩ && true) = one [] l
    rw [str_beq]; unfold one; simp
  | cons b t =>
    have : one (b :: t) l = false := rfl
    rw [this]
    cases t with
    | nil => show (b == ⟨#[]⟩ && false) = false; simp
    | cons c t => show (b == ⟨#[]⟩ && false) = false; simp
theorem of_line_any {φ : List D → AH → Res D} {o : Str → Option D} {x : Str} (hx : Okt x) {ls : List Str} {l : Str} (e : pcs 10 x = ls ++ [l]) {A : AH} (hA : nfA A = true)
    (hφ : ∀ h, Okt h → φ [.str h] A = .ok (optV (o h)) A) (hn : ∀ h d, o h = some d → nf d = true ∧ gIs d .non A = .ok (.bl false) A) :
    m_law_of_line φ [.str x] A = .ok (match lineO o ls l with | .error k => .tup [.int k, .non] | .ok d => .tup [.non, d]) A := by
  have sp := split_any (y := ⟨#[10]⟩) (c := 10) hx rfl (by decide) A
  obtain ⟨hl0, hok, hlast⟩ := init_len hx e
  have pl : (pcs 10 x).length = ls.length + 1 := by rw [e]; simp
  obtain ⟨m, hm⟩ : ∃ m, m = ls.length + 1 := ⟨_, rfl⟩
  have gl := len_eq (.lst ((pcs 10 x).map .str)) _ (.inr rfl) (by rw [List.length_map]; omega) A
  rw [List.length_map, pl, ← hm] at gl
  have u : m_law_of_line φ [.str x] A = chk (SR.fin A.length (b_law_of_line φ [some (.str x), some .fn, none, none] A)) := by
    unfold m_law_of_line runL
    rw [e_runF 4 2 _ _ rfl]; rfl
  have sa : ∀ (fa : Ev → AH → Res (List D)) (env : Ev), env[1]? = some (some .fn) → sAct 1 φ fa env A = (fa env A).bd fun ds A1 => if (nfs ds && nfA A1) = true then φ ds A1 else .stuck := fun fa env he => by
    unfold sAct; rw [he]; rfl
  rw [u]
  unfold b_law_of_line
  cases ls with
  | nil =>
    have gg : gGt (.int m) (.int 1) A = .ok (.bl false) A := by rw [hm]; rfl
    have gi : gIs .non .non A = .ok (.bl true) A := rfl
    simp [sp, gl, gg, gi, lineO]
    simp [chk, nf, nfs, hA]
  | cons h t =>
    have gg : gGt (.int m) (.int 1) A = .ok (.bl true) A := by
      have : (1 : Int) < m := by rw [hm]; simp; omega
      simp only [gGt, gCmpI]; rw [decide_eq_true this]
    have gx : gIx (.lst ((pcs 10 x).map .str)) (.int 0) A = .ok (.str h) A := by
      rw [e]; unfold gIx; simp only [asL, List.cons_append, List.map_cons, atI0]
    have gs : gSl (some 1) none (.lst ((pcs 10 x).map .str)) A = .ok (.lst ((t ++ [l]).map .str)) A := by
      rw [e]; unfold gSl; simp only [asQ, cutD_one]; rfl
    have ge := eq_one (t := t) (l := l) (fun y hy => hok y (by simp [hy])) hlast A
    have hp := hφ h (hok h (by simp))
    have ns : nfs [D.str h] = true := rfl
    generalize (t ++ [l]).map D.str = L at *
    cases so : o h with
    | none =>
      rw [so] at hp
      have hp' : φ [.str h] A = .ok .non A := hp
      have gi : gIs .non .non A = .ok (.bl true) A := rfl
      simp only [lineO, so]
      simp [sp, gl, gg, gx, sa, ns, hA, hp', gi]
      simp [chk, nf, nfs, hA]
    | some d =>
      rw [so] at hp
      have hp' : φ [.str h] A = .ok d A := hp
      obtain ⟨n1, gi⟩ := hn h d so
      simp only [lineO, so]
      cases q : one t l with
      | true =>
        rw [q] at ge
        simp [sp, gl, gg, gx, sa, ns, hA, hp', gi, gs, ge]
        simp [chk, nf, nfs, hA, n1]
      | false =>
        rw [q] at ge
        simp [sp, gl, gg, gx, sa, ns, hA, hp', gi, gs, ge]
        simp [chk, nf, nfs, hA]
def outX (r : Except Nat D) (A : AH) : Res D := match r with
  | .error k => .ex ⟨3, [.int k]⟩ A
  | .ok d => .ok d A
def toldL (r : Except Nat D) : D := match r with
  | .error k => .tup [.int k, .non]
  | .ok d => .tup [.non, d]
theorem law_read_any {φ : List D → AH → Res D} {A : AH} (hA : nfA A = true) {r : Except Nat D} (hn : ∀ d, r = .ok d → nf d = true)
    (hφ : φ [] A = outX r A) :
    m_law_read φ [] A = .ok (toldL r) A := by
  have u : m_law_read φ [] A = chk (SR.fin A.length (b_law_read φ [some .fn, none] A)) := by
    unfold m_law_read runL
    rw [e_runF 2 1 _ _ rfl]; rfl
  have sa : ∀ (env : Ev), env[0]? = some (some .fn) → sAct 0 φ sNil env A = φ [] A := fun env he => by
    unfold sAct; rw [he]
    show (if (nfs [] && nfA A) = true then φ [] A else .stuck) = _
    rw [hA]; rfl
  rw [u]
  unfold b_law_read bTry
  cases r with
  | error k =>
    have s1 : bRet (sTup (sCons (sC .non) (sCons (sAct 0 φ sNil) (sNil)))) [some .fn, none] A = .ex ⟨3, [.int k]⟩ [some .fn, none] A := by
      simp [sa, hφ, outX]
    rw [s1]
    have s2 : mIn [3] 3 = true := by decide
    simp [runH, s2, inE, hideE, behindR, fX]
    simp [chk, nf, nfs, hA, toldL]
  | ok d =>
    have s1 : bRet (sTup (sCons (sC .non) (sCons (sAct 0 φ sNil) (sNil)))) [some .fn, none] A = .rt (.tup [.non, d]) A := by
      simp [sa, hφ, outX]
    rw [s1]
    have n1 := hn d rfl
    simp [chk, nf, nfs, hA, toldL, n1]
end Lw
namespace Lw
open PySem PySem.Spec
open PyProof.Rows L2 F3
def isBag (o : AO) : Prop := ∃ g b : Int, o = .lst [.int g, .int b] ∧ 0 ≤ b ∧ b < 2305843009213693951
def Bgs (A : AH) : Prop := ∀ o ∈ A, isBag o
theorem Bgs.flat {A : AH} (h : Bgs A) : Flat A := Bags.flat fun o ho => let ⟨g, b, e, _⟩ := h o ho; ⟨g, b, e⟩
theorem Bgs.set {A : AH} (h : Bgs A) {i : Nat} {o : AO} (ho : isBag o) : Bgs (A.set i o) := fun x hx => by
  rcases List.mem_or_eq_of_mem_set hx with e | e
  · exact h x e
  · rw [e]; exact ho
theorem log_small {x : Int} (h : 0 ≤ x) (h' : x < 2 ^ 200) : x.natAbs.log2 < 9000 := by
  by_cases q : x.natAbs = 0
  · rw [q]; decide
  · rw [Nat.log2_lt q]
    have : x.natAbs < 2 ^ 200 := by omega
    exact Nat.lt_trans this (by decide +kernel)
theorem draw_of {A : AH} (h : Bgs A) (S : AH) {i : Nat} (hi : i < A.length) (m : Nat) (h1 : 1 ≤ m) (h2 : m ≤ 1000) :
    ∃ (r : Nat) (A' : AH), m_law_draw [.ref i, .int m] (A ++ S) = .ok (.int r) (A' ++ S) ∧ r < m ∧ Bgs A' ∧ A'.length = A.length := by
  obtain ⟨g, b, e, b0, b1⟩ := h A[i] (List.getElem_mem hi)
  have at_ : (A ++ S)[i]? = some (.lst [.int g, .int b]) := by
    rw [List.getElem?_append_left hi, List.getElem?_eq_getElem hi, e]
  have hm : (0 : Int) < m := by omega
  have hml : (m : Int).natAbs.log2 < 9000 := log_small (by omega) (by omega)
  have hmN : 0 < m := by omega
  have hmlN : m.log2 < 9000 := by rw [Int.natAbs_natCast] at hml; exact hml
  have ix1 : ixN 2 0 = some 0 := by decide
  have ix2 : ixN 2 1 = some 1 := by decide
  have toN : ∀ x : Int, ∃ r : Nat, x % (m : Int) = (r : Int) ∧ r < m := fun x => by
    have q1 := Int.emod_nonneg x (show (m : Int) ≠ 0 by omega)
    have q2 := Int.emod_lt_of_pos x hm
    exact ⟨(x % (m : Int)).toNat, by omega, by omega⟩
  have hl : ∀ o, ((A ++ S).set i o).length = (A ++ S).length := fun o => List.length_set
  have hs : ∀ o, (A ++ S).set i o = A.set i o ++ S := fun o => List.set_append_left _ _ hi
  have cl : ∀ (d : D) (o : AO), clean (A ++ S).length d ((A ++ S).set i o) = .ok d ((A ++ S).set i o) := fun d o => by
    have := clean_same (A := (A ++ S).set i o) d
    rw [hl] at this; exact this
  by_cases hg : 0 < g
  · obtain ⟨r, e1, e2⟩ := toN g
    refine ⟨r, A.set i (.lst [.int (g / m), .int b]), ?_, e2, h.set ⟨_, _, rfl, b0, b1⟩, List.length_set⟩
    rw [u_law_draw]
    unfold b_law_draw
    simp [gIx, asL, at_, gCmpI, hg, gInt, gMod, hmN, gFdiv, hmlN, ix1, -List.length_append]
    rw [cl, hs, e1]
  · have k0 : 0 ≤ (b * 6364136223 + 1442695041) % (2 ^ 61 - 1) := Int.emod_nonneg _ (by decide)
    have k1 : (b * 6364136223 + 1442695041) % (2 ^ 61 - 1) < 2305843009213693951 := Int.emod_lt_of_pos _ (by decide)
    obtain ⟨r, e1, e2⟩ := toN ((b * 6364136223 + 1442695041) % (2 ^ 61 - 1) / 65537)
    refine ⟨r, A.set i (.lst [.int g, .int ((b * 6364136223 + 1442695041) % (2 ^ 61 - 1))]), ?_, e2, h.set ⟨_, _, rfl, k0, k1⟩, List.length_set⟩
    have lb : b.natAbs.log2 < 9000 := log_small b0 (by omega)
    have lm : b.natAbs.log2 + Nat.log2 6364136223 < 1000000 := by
      have : Nat.log2 6364136223 < 100 := by decide +kernel
      omega
    have l6 : Nat.log2 65537 < 9000 := by decide +kernel
    have p61 : ((2 : Int) ^ (61 : Nat)) = 2305843009213693952 := by decide +kernel
    have at2 : ∀ x, (A ++ S)[i]? = some x → ∀ o, ((A ++ S).set i o)[i]? = some o := fun x hx o => by
      rw [List.getElem?_set_self (List.getElem?_eq_some_iff.mp hx).1]
    have at3 := at2 _ at_
    rw [u_law_draw]
    unfold b_law_draw
    simp [gIx, asL, at_, at3, gCmpI, hg, gInt, gMod, hmN, gFdiv, gMulS, gMul, gAdd, F3.gSub, gPow, ix2, lm, l6, p61, -List.length_append]
    have e0 : (2 : Int) ^ 61 - 1 = 2305843009213693951 := by decide +kernel
    rw [e0] at e1
    rw [cl, hs, e1]
theorem one_of_of {A : AH} (h : Bgs A) (S : AH) {i : Nat} (hi : i < A.length) (xs : List D) (h1 : 1 ≤ xs.length) (h2 : xs.length ≤ 1000) :
    ∃ (x : D) (A' : AH), m_law_one_of [.ref i, .lst xs] (A ++ S) = .ok x (A' ++ S) ∧ x ∈ xs ∧ Bgs A' ∧ A'.length = A.length := by
  obtain ⟨r, A', e, hr, hB, hl⟩ := draw_of h S hi xs.length h1 h2
  refine ⟨xs[r], A', ?_, List.getElem_mem hr, hB, hl⟩
  have ix : atI xs (r : Int) = some xs[r] := by
    unfold atI ixN
    rw [if_pos (by omega), if_pos (by omega), Option.bind_some, Int.toNat_natCast, List.getElem?_eq_getElem hr]
  have cl := clean_same (A := A' ++ S) xs[r]
  rw [List.length_append, hl, ← List.length_append] at cl
  rw [u_law_one_of]
  unfold b_law_one_of
  simp [gLen, asL, e, gIx, ix, -List.length_append, cl]
structure Tie1 (n : Nat) (p : Nat × Nat) : Prop where
  le : p.1 ≤ p.2
  lt : p.2 < n
abbrev bodyT : Ev → AH → SR := bSeq (bPar 6 7 (sCons (sCall m_law_draw (sCons (sVar 0) (sCons (sVar 1) (sNil)))) (sCons (sCall m_law_draw (sCons (sVar 0) (sCons (sVar 1) (sNil)))) sNil))) (bSeq (bIf (sAndT (sTest (sBin gEq (sVar 6) (sVar 7))) (sAndT (sTest (sBin gGt (sVar 1) (sC (.int 1)))) (sOrT (sTest (sBin gEq (sVar 4) (sC (.int 0)))) (sTest (sBin gGt (sCall m_law_draw (sCons (sVar 0) (sCons (sVar 4) (sNil)))) (sC (.int 0))))))) (bSet (gNm 7) (sBin gMod (sCall gInt (sCons (sBin gAdd (sBin gAdd (sVar 6) (sC (.int 1))) (sCall m_law_draw (sCons (sVar 0) (sCons (sBin gSub (sVar 1) (sC (.int 1))) (sNil))))) (sNil))) (sVar 1))) (bNil)) (bExpr (sAppend (sVar 3) (sTup (sCons (sCall gMin2 (sCons (sVar 6) (sCons (sVar 7) (sNil)))) (sCons (sCall gMax2 (sCons (sVar 6) (sCons (sVar 7) (sNil)))) (sNil)))))))
theorem turn_of {A : AH} (h : Bgs A) {i n lp : Nat} (hi : i < A.length) (hn : 1 ≤ n ∧ n ≤ 7) (hlp : lp ≤ 6) (f : List (Nat × Nat)) (hf : f.length < 100) (x2 x5 x6 x7 : Option D) :
    ∃ (A' : AH) (p : Nat × Nat) (y6 y7 : Option D), bodyT [some (.ref i), some (.int n), x2, some (.ref A.length), some (.int lp), x5, x6, x7] (A ++ [.lst (f.map tieD)]) = .nx [some (.ref i), some (.int n), x2, some (.ref A.length), some (.int lp), x5, y6, y7] (A' ++ [.lst ((f ++ [p]).map tieD)]) ∧ Bgs A' ∧ A'.length = A.length ∧ Tie1 n p := by
  obtain ⟨a, A1, e1, a1, B1, l1⟩ := draw_of h [.lst (f.map tieD)] hi n hn.1 (by omega)
  obtain ⟨b, A2, e2, b1, B2, l2⟩ := draw_of B1 [.lst (f.map tieD)] (by omega : i < A1.length) n hn.1 (by omega)
  have l12 : A2.length = A.length := by omega
  have hz : f.length < 16777216 := by omega
  -- behind the places
  have fin : ∀ (A3 : AH) (c : Nat), Bgs A3 → A3.length = A.length → c < n → bExpr (sAppend (sVar 3) (sTup (sCons (sCall gMin2 (sCons (sVar 6) (sCons (sVar 7) (sNil)))) (sCons (sCall gMax2 (sCons (sVar 6) (sCons (sVar 7) (sNil)))) (sNil)))))
      [some (.ref i), some (.int n), x2, some (.ref A.length), some (.int lp), x5, some (.int a), some (.int c)] (A3 ++ [.lst (f.map tieD)]) = .nx [some (.ref i), some (.int n), x2, some (.ref A.length), some (.int lp), x5, some (.int a), some (.int c)] (A3 ++ [.lst ((f ++ [(min a c, max a c)]).map tieD)]) := by
    intro A3 c _ l3 _
    simp [gMin2, gMax2, ← l3, hz, tieD]
    constructor <;> split <;> omega
  have good : ∀ c, c < n → Tie1 n (min a c, max a c) := fun c hc => ⟨by show min a c ≤ max a c; omega, by show max a c < n; omega⟩
  by_cases hab : a = b ∧ 1 < n
  · obtain ⟨rfl, hn1⟩ := hab
    have hn1' : (1 : Int) < n := by omega
    -- whether the other is drawn anew
    have anew : ∀ (A3 : AH), Bgs A3 → A3.length = A.length → ∃ (A4 : AH) (c : Nat), Bgs A4 ∧ A4.length = A.length ∧ c < n ∧
        bSet (gNm 7) (sBin gMod (sCall gInt (sCons (sBin gAdd (sBin gAdd (sVar 6) (sC (.int 1))) (sCall m_law_draw (sCons (sVar 0) (sCons (sBin F3.gSub (sVar 1) (sC (.int 1))) (sNil))))) (sNil))) (sVar 1))
          [some (.ref i), some (.int n), x2, some (.ref A.length), some (.int lp), x5, some (.int a), some (.int a)] (A3 ++ [.lst (f.map tieD)]) = .nx [some (.ref i), some (.int n), x2, some (.ref A.length), some (.int lp), x5, some (.int a), some (.int c)] (A4 ++ [.lst (f.map tieD)]) := by
      intro A3 B3 l3
      obtain ⟨d, A4, e4, d1, B4, l4⟩ := draw_of B3 [.lst (f.map tieD)] (by omega : i < A3.length) (n - 1) (by omega) (by omega)
      have en : ((n - 1 : Nat) : Int) = (n : Int) - 1 := by omega
      rw [en] at e4
      have hm : 0 < n := by omega
      obtain ⟨c, e5, c1⟩ : ∃ c : Nat, ((a : Int) + 1 + d) % n = (c : Int) ∧ c < n := by
        have k1 := Int.emod_nonneg ((a : Int) + 1 + d) (show (n : Int) ≠ 0 by omega)
        have k2 := Int.emod_lt_of_pos ((a : Int) + 1 + d) (show (0 : Int) < n by omega)
        exact ⟨(((a : Int) + 1 + d) % n).toNat, by omega, by omega⟩
      refine ⟨A4, c, B4, by omega, c1, ?_⟩
      simp [gAdd, F3.gSub, e4, gInt, gMod, hm, e5]
    by_cases hl0 : lp = 0
    · obtain ⟨A4, c, B4, l4, c1, e4⟩ := anew A2 B2 l12
      refine ⟨A4, (min a c, max a c), some (.int a), some (.int c), ?_, B4, l4, good c c1⟩
      rw [← fin A4 c B4 l4 c1]
      have hl0' : ((lp : Int) == 0) = true := by simp; omega
      simp [e1, e2, gCmpI, hn1, hn1', hl0', e4, -e_bExpr, -e_bSet]
    · obtain ⟨d, A3, e3, d1, B3, l3⟩ := draw_of B2 [.lst (f.map tieD)] (by omega : i < A2.length) lp (by omega) (by omega)
      have hl0' : ((lp : Int) == 0) = false := by simp; omega
      by_cases hd : 0 < d
      · obtain ⟨A4, c, B4, l4, c1, e4⟩ := anew A3 B3 (by omega)
        refine ⟨A4, (min a c, max a c), some (.int a), some (.int c), ?_, B4, l4, good c c1⟩
        rw [← fin A4 c B4 l4 c1]
        simp [e1, e2, gCmpI, hn1, hn1', hl0', e3, hd, e4, -e_bExpr, -e_bSet]
      · refine ⟨A3, (min a a, max a a), some (.int a), some (.int a), ?_, B3, by omega, good a a1⟩
        rw [← fin A3 a B3 (by omega) a1]
        simp [e1, e2, gCmpI, hn1, hn1', hl0', e3, hd, -e_bExpr, -e_bSet]
  · refine ⟨A2, (min a b, max a b), some (.int a), some (.int b), ?_, B2, l12, good b b1⟩
    rw [← fin A2 b B2 l12 b1]
    by_cases q : a = b
    · subst q
      have hn1 : ¬ 1 < n := fun z => hab ⟨rfl, z⟩
      have hn1' : decide ((1 : Int) < n) = false := decide_eq_false (by omega)
      simp only [gCmpI, e_bSeq, e_bPar, e_bIf, e_sAndT, e_sTest, e_sBin, e_sVar, e_sC, e_sCons, e_sNil, e_sCall, List.getElem?_cons_zero, List.getElem?_cons_succ, bind_ok, lft_ok, seq_nx, e1, e2, List.set_cons_zero, List.set_cons_succ, gEq_int, beq_self_eq_true, tst_bl, cnd_t, cnd_f, hn1', e_bNil]
    · have q' : ((a : Int) == b) = false := by simp; omega
      simp [e1, e2, q', -e_bExpr, -e_bSet]
theorem turns_of {i n lp : Nat} (hn : 1 ≤ n ∧ n ≤ 7) (hlp : lp ≤ 6) (x2 : Option D) : ∀ (k : Nat) (lo : Int) (A : AH) (f : List (Nat × Nat)) (x5 x6 x7 : Option D), Bgs A → i < A.length → f.length + k ≤ 14 → (∀ p ∈ f, Tie1 n p) →
    ∃ (A' : AH) (f' : List (Nat × Nat)) (y5 y6 y7 : Option D), forL (gNm 5) bodyT (rngL lo 1 k) [some (.ref i), some (.int n), x2, some (.ref A.length), some (.int lp), x5, x6, x7] (A ++ [.lst (f.map tieD)]) = .nx [some (.ref i), some (.int n), x2, some (.ref A.length), some (.int lp), y5, y6, y7] (A' ++ [.lst (f'.map tieD)]) ∧
      Bgs A' ∧ A'.length = A.length ∧ f'.length ≤ 14 ∧ ∀ p ∈ f', Tie1 n p
  | 0, lo, A, f, x5, x6, x7, h, hi, hl, hf => ⟨A, f, x5, x6, x7, rfl, h, rfl, by omega, hf⟩
  | k + 1, lo, A, f, x5, x6, x7, h, hi, hl, hf => by
    obtain ⟨A1, p, z6, z7, e1, B1, l1, t1⟩ := turn_of h hi hn hlp f (by omega) x2 (some (.int lo)) x6 x7
    obtain ⟨A2, f', y5, y6, y7, e2, B2, l2, c2, t2⟩ := turns_of (i := i) hn hlp x2 k (lo + 1) A1 (f ++ [p]) (some (.int lo)) z6 z7 B1 (by omega) (by simp; omega) fun q hq => by
      rcases List.mem_append.mp hq with e | e
      · exact hf q e
      · rw [List.mem_singleton.mp e]; exact t1
    refine ⟨A2, f', y5, y6, y7, ?_, B2, by omega, c2, t2⟩
    rw [l1] at e2
    show forL _ _ (D.int lo :: rngL (lo + 1) 1 k) _ _ = _
    unfold forL
    simp only [e_gNm, List.set_cons_succ, List.set_cons_zero]
    rw [e1]
    exact e2
def pI (p : Nat × Nat) : Int × Int := (p.1, p.2)
def pN (p : Int × Int) : Nat × Nat := (p.1.toNat, p.2.toNat)
theorem dpairs_ties : ∀ f : List (Nat × Nat), dpairs (f.map tieD) = some (f.map pI)
  | [] => rfl
  | p :: f => by
    show (dpairs (f.map tieD)).map (((p.1 : Int), (p.2 : Int)) :: ·) = _
    rw [dpairs_ties f]; rfl
def sortT (f : List (Nat × Nat)) : List (Nat × Nat) := (isortB SrtO.lexB (f.map pI)).map pN
theorem sortT_perm (f : List (Nat × Nat)) : (sortT f).Perm f := by
  have h := (isortB_perm SrtO.lexB (f.map pI)).map pN
  rw [List.map_map] at h
  have e : f.map (pN ∘ pI) = f := by
    conv => rhs; rw [← List.map_id f]
    refine List.map_congr_left fun p _ => ?_
    show ((p.1 : Int).toNat, (p.2 : Int).toNat) = p
    simp
  rw [e] at h; exact h
theorem sort_of (f : List (Nat × Nat)) : sortP (f.map tieD) = some ((sortT f).map tieD) := by
  unfold sortP
  have e : (isortB SrtO.lexB (f.map pI)).map pD = (sortT f).map tieD := by
    unfold sortT
    rw [List.map_map]
    refine List.map_congr_left fun q hq => ?_
    obtain ⟨p, _, rfl⟩ := List.mem_map.mp ((isortB_perm SrtO.lexB (f.map pI)).mem_iff.mp hq)
    show D.tup [.int (p.1 : Int), .int (p.2 : Int)] = D.tup [.int (((p.1 : Int).toNat : Nat) : Int), .int (((p.2 : Int).toNat : Nat) : Int)]
    simp
  cases f with
  | nil => rfl
  | cons p f =>
    rw [show dints ((p :: f).map tieD) = none from rfl]
    simp only
    rw [dpairs_ties]
    exact congrArg some e
theorem sortT_ord (f : List (Nat × Nat)) : (sortT f).Pairwise fun p q => p.1 < q.1 ∨ (p.1 = q.1 ∧ p.2 ≤ q.2) := by
  unfold sortT
  have h := isortB_sorted lin_lex (f.map pI)
  rw [List.pairwise_map]
  refine List.Pairwise.imp_of_mem (fun {a b} ha hb hab => ?_) h
  obtain ⟨p, _, rfl⟩ := List.mem_map.mp ((isortB_perm SrtO.lexB (f.map pI)).mem_iff.mp ha)
  obtain ⟨q, _, rfl⟩ := List.mem_map.mp ((isortB_perm SrtO.lexB (f.map pI)).mem_iff.mp hb)
  rw [SrtO.lexB_no] at hab
  show (p.1 : Int).toNat < (q.1 : Int).toNat ∨ ((p.1 : Int).toNat = (q.1 : Int).toNat ∧ (p.2 : Int).toNat ≤ (q.2 : Int).toNat)
  have hab' : ¬ ((q.1 : Int) < p.1 ∨ ((q.1 : Int) = p.1 ∧ (q.2 : Int) < p.2)) := hab
  simp only [Int.toNat_natCast]
  omega
theorem ties_of {A : AH} (h : Bgs A) {i n : Nat} (hi : i < A.length) (hn : 1 ≤ n ∧ n ≤ 7) :
    ∃ (ts : List (Nat × Nat)) (A' : AH), m_law_ties [.ref i, .int n, .int 14] A = .ok (tiesD ts) A' ∧ Ties n ts ∧ Bgs A' ∧ A'.length = A.length := by
  obtain ⟨x, A1, e1, hx, B1, l1⟩ := one_of_of h [.lst []] hi [.int 0, .int 0, .int 6, .int 3] (by decide) (by decide)
  obtain ⟨lp, rfl, hlp⟩ : ∃ lp : Nat, x = .int lp ∧ lp ≤ 6 := by
    simp at hx
    rcases hx with rfl | rfl | rfl
    · exact ⟨0, rfl, by decide⟩
    · exact ⟨6, rfl, by decide⟩
    · exact ⟨3, rfl, by decide⟩
  obtain ⟨m, hm, hm1⟩ : ∃ m : Nat, (m : Int) = 15 ∧ m = 15 := ⟨15, by decide, rfl⟩
  obtain ⟨k, A2, e2, k2, B2, l2⟩ := draw_of B1 [.lst []] (by omega : i < A1.length) m (by omega) (by omega)
  rw [hm] at e2
  obtain ⟨A3, f, y5, y6, y7, e3, B3, l3, c3, t3⟩ := turns_of (i := i) hn hlp (some (.int 14)) k 0 A2 [] none none none B2 (by omega) (by simp; omega) (fun p hp => by cases hp)
  have el : A2.length = A.length := by omega
  have e33 : A3.length = A.length := by omega
  rw [el] at e3
  have T : Ties n (sortT f) := by
    refine ⟨hn, by rw [(sortT_perm f).length_eq]; exact c3, fun p hp => ?_, sortT_ord f⟩
    have := t3 p ((sortT_perm f).mem_iff.mp hp)
    exact ⟨this.le, this.lt⟩
  refine ⟨sortT f, A3, ?_, T, B3, e33⟩
  have gs : gSorted [.ref A.length] (A3 ++ [.lst (f.map tieD)]) = .ok (.lst ((sortT f).map tieD)) (A3 ++ [.lst (f.map tieD)]) := by
    unfold gSorted asQ
    rw [← e33]
    simp [sort_of]
  have gt : ∀ A', gTuple [.lst ((sortT f).map tieD)] A' = .ok (tiesD (sortT f)) A' := fun _ => rfl
  have cl := clean_app (B := [AO.lst (f.map tieD)]) B3.flat (by simp) (frz_ties _ _ 27 (sortT f))
  rw [e33] at cl
  rw [u_law_ties]
  unfold b_law_ties
  simp only [List.map_nil] at e3
  have it : iRange1 (sCons (sCall m_law_draw (sCons (sVar 0) (sCons (sBin gAdd (sVar 2) (sC (.int 1))) (sNil)))) (sNil)) [some (.ref i), some (.int n), some (.int 14), some (.ref A.length), some (.int lp), none, none, none] (A1 ++ [.lst []]) = .ok (rngL 0 1 k) (A2 ++ [.lst []]) :=
    range1_ok (by simp [gAdd, e2]) (by omega)
  simp [e1, it, e3, gs, gt, cl]
theorem all2_map {α : Type} {Q : α → Prop} {g : α → D} {ds xs : List D} (h : All2 (fun _ x => ∃ b, Q b ∧ x = g b) ds xs) : ∃ bs : List α, xs = bs.map g ∧ bs.length = ds.length ∧ ∀ b ∈ bs, Q b := by
  induction h with
  | nil => exact ⟨[], rfl, rfl, fun _ h => nomatch h⟩
  | cons h t ih =>
    obtain ⟨b, hb, rfl⟩ := h
    obtain ⟨bs, rfl, hl, hq⟩ := ih
    exact ⟨b :: bs, rfl, by simp [hl], fun x hx => by
      rcases List.mem_cons.mp hx with e | e
      · subst e; exact hb
      · exact hq x e⟩
theorem gAdd_str {x y z : Str} (e : x ++ y = z) (h : x.length + y.length ≤ sizeLine) (A : AH) : gAdd (.str x) (.str y) A = .ok (.str z) A := by
  subst e; unfold gAdd; exact if_pos h
theorem bag_of (ns : List Int) (hn : ns.length ≤ 63) (at_ : Nat) (h : at_ < 3) (A : AH) : ∃ g b : Int, m_law_bag [.scr (ns.map .int), .int at_] A = .ok (.ref A.length) (A ++ [.lst [.int g, .int b]]) ∧ 0 ≤ b ∧ b < 2305843009213693951 := by
  -- the cell
  obtain ⟨cell, hc⟩ : ∃ cell : Int, sIf (sTest (sBin gLt (sVar 1) (sCall gLen (sCons (sVar 0) (sNil))))) (sCall gInt (sCons (sBin gIx (sVar 0) (sVar 1)) (sNil))) (sBin gAdd (sBin gMulS (sC (.int 89)) (sVar 1)) (sC (.int 41))) [some (.scr (ns.map .int)), some (.int at_), none, none, none] A = .ok (.int cell) A := by
    by_cases q : at_ < ns.length
    · refine ⟨ns[at_], ?_⟩
      have q' : (at_ : Int) < ns.length := by omega
      have ix : atI (ns.map D.int) (at_ : Int) = some (.int ns[at_]) := by
        unfold atI ixN
        rw [if_pos (by omega), List.length_map, if_pos (by omega), Option.bind_some, Int.toNat_natCast, List.getElem?_map, List.getElem?_eq_getElem q]; rfl
      simp [gLt, gLen, asL, q', gIx, ix, gInt]
    · refine ⟨89 * at_ + 41, ?_⟩
      have q' : ¬ (at_ : Int) < ns.length := by omega
      have lg : (89 : Int).natAbs.log2 + (at_ : Int).natAbs.log2 < 1000000 := by
        have := log_dg at_ (by omega)
        have h2 : (89 : Int).natAbs.log2 < 100 := by decide +kernel
        omega
      have lg' : Nat.log2 89 + at_.log2 < 1000000 := lg
      simp [gLt, gLen, asL, q', gMulS, gMul, lg', gAdd]
  have p18 : gPow (.int 10) (.int 18) A = .ok (.int 1000000000000000000) A := rfl
  have p60 : gPow (.int 10) (.int 60) A = .ok (.int 1000000000000000000000000000000000000000000000000000000000000) A := rfl
  have p12 : gPow (.int 10) (.int 12) A = .ok (.int 1000000000000) A := rfl
  have p61 : gPow (.int 2) (.int 61) A = .ok (.int 2305843009213693952) A := rfl
  have m60 : gMulS (.int 1000000000000000000000000000000000000000000000000000000000000) (.int 1000000000000000000000000000000000000000000000000000000000000) A = .ok (.int (1000000000000000000000000000000000000000000000000000000000000 * 1000000000000000000000000000000000000000000000000000000000000)) A := by
    unfold gMulS gMul
    have : (1000000000000000000000000000000000000000000000000000000000000 : Int).natAbs.log2 + (1000000000000000000000000000000000000000000000000000000000000 : Int).natAbs.log2 < 1000000 := by decide +kernel
    simp only [this]; rfl
  have mm : ∀ x : Int, gMulS (.int (x % 1000000000039)) (.int 10007) A = .ok (.int (x % 1000000000039 * 10007)) A := fun x => by
    have k1 := Int.emod_nonneg x (show (1000000000039 : Int) ≠ 0 by decide)
    have k2 := Int.emod_lt_of_pos x (show (0 : Int) < 1000000000039 by decide)
    have l1 : (x % 1000000000039).natAbs.log2 < 9000 := log_small k1 (by omega)
    have l2 : (10007 : Int).natAbs.log2 < 9000 := by decide +kernel
    unfold gMulS gMul; exact if_pos (by omega)
  have m5 : gMulS (.int 509) (.int at_) A = .ok (.int (509 * at_)) A := by
    have l1 := log_dg at_ (by omega)
    have l2 : (509 : Int).natAbs.log2 < 9000 := by decide +kernel
    unfold gMulS gMul; exact if_pos (by omega)
  have m17 : ∀ b : Bool, gMulS (.int 17) (.int (if b = true then 1 else 0)) A = .ok (.int (17 * (if b = true then 1 else 0))) A := fun b => by
    have l2 : (17 : Int).natAbs.log2 < 9000 := by decide +kernel
    have l3 : (if b = true then (1 : Int) else 0).natAbs.log2 < 9000 := by cases b <;> decide +kernel
    unfold gMulS gMul; exact if_pos (by omega)
  obtain ⟨c, ga⟩ : ∃ c, gAbs [.int cell] A = .ok (.int c) A := ⟨_, rfl⟩
  have s18 : ∀ x, F3.gSub (.int x) (.int 1000000000000000000) A = .ok (.int (x - 1000000000000000000)) A := fun _ => rfl
  have gm : ∀ x, gMax2 [.int 0, .int x] A = .ok (.int (if x > 0 then x else 0)) A := fun _ => rfl
  have md : ∀ x, gMod (.int x) (.int (1000000000000000000000000000000000000000000000000000000000000 * 1000000000000000000000000000000000000000000000000000000000000)) A = .ok (.int (x % (1000000000000000000000000000000000000000000000000000000000000 * 1000000000000000000000000000000000000000000000000000000000000))) A := fun x => by
    unfold gMod; exact if_pos (by decide +kernel)
  have a12 : gAdd (.int 1000000000000) (.int 39) A = .ok (.int 1000000000039) A := rfl
  have md2 : ∀ x, gMod (.int x) (.int 1000000000039) A = .ok (.int (x % 1000000000039)) A := fun x => by unfold gMod; exact if_pos (by decide +kernel)
  have gai : ∀ x y, gAdd (.int x) (.int y) A = .ok (.int (x + y)) A := fun _ _ => rfl
  have lt0 : gLt (.int cell) (.int 0) A = .ok (.bl (decide (cell < 0))) A := rfl
  have gi1 : ∀ x, gInt [.int x] A = .ok (.int x) A := fun _ => rfl
  have gi2 : ∀ b, gInt [.bl b] A = .ok (.int (if b = true then 1 else 0)) A := fun _ => rfl
  have s61 : F3.gSub (.int 2305843009213693952) (.int 1) A = .ok (.int 2305843009213693951) A := rfl
  have md3 : ∀ x, gMod (.int x) (.int 2305843009213693951) A = .ok (.int (x % 2305843009213693951)) A := fun x => by unfold gMod; exact if_pos (by decide +kernel)
  have ap : ∀ x y : Int, ([D.int x, D.int y]).length ≤ sizeLine := fun _ _ => by show 2 ≤ 16777216; decide
  refine ⟨(if c - 1000000000000000000 > 0 then c - 1000000000000000000 else 0) % (1000000000000000000000000000000000000000000000000000000000000 * 1000000000000000000000000000000000000000000000000000000000000),
    (c % 1000000000039 * 10007 + 509 * at_ + 17 * (if decide (cell < 0) = true then 1 else 0) + 1) % 2305843009213693951, ?_, Int.emod_nonneg _ (by decide), Int.emod_lt_of_pos _ (by decide)⟩
  rw [u_law_bag]
  unfold b_law_bag
  rw [e_bSeq, e_bSet, hc]
  simp only [lft_ok, e_gNm, stTo_some, List.set_cons_succ, List.set_cons_zero, seq_nx, e_bSeq, e_bSet, e_sBin, e_sCall, e_sCons, e_sNil, e_sC, e_sVar, List.getElem?_cons_succ, List.getElem?_cons_zero, bind_ok, p18, p60, p12, p61, m60, ga, s18, gm, md, a12, md2, mm, m5, lt0, gi1, gi2, m17, gai, s61, md3, e_bRet, e_sLstM, if_pos (ap _ _), finN_rt]
theorem compL_none {st : Ev → D → Option Ev} {t : Ev → AH → Res Bool} {f : Ev → AH → Res D} {env : Ev} (I : AH → Prop) : ∀ (ds : List D) (A : AH), I A → (∀ d ∈ ds, ∀ A, I A → ∃ env1 A', st env d = some env1 ∧ t env1 A = .ok false A' ∧ I A') → ∃ A', compL st t f ds env A = .ok [] A' ∧ I A'
  | [], A, hA, _ => ⟨A, rfl, hA⟩
  | d :: ds, A, hA, h => by
    obtain ⟨env1, A1, h1, h2, h3⟩ := h d List.mem_cons_self A hA
    obtain ⟨A2, k1, k2⟩ := compL_none I ds A1 h3 fun e he => h e (List.mem_cons_of_mem _ he)
    refine ⟨A2, ?_, k2⟩
    unfold compL
    rw [h1]; simp only; rw [h2]; simp only; exact k1
def nl : Str := ⟨#[10]⟩
def emp : Str := ⟨#[]⟩
theorem tl_emp : TL.tl emp = [] := rfl
theorem tl_nl : TL.tl nl = [10] := rfl
theorem joinL_nil : ∀ ls : List (List Nat), TL.joinL [] ls = ls.flatten
  | [] => rfl
  | [p] => by simp [TL.joinL]
  | p :: q :: r => by
    show p ++ ([] ++ TL.joinL [] (q :: r)) = _
    rw [joinL_nil (q :: r)]; simp
end Lw
namespace Lw
open PySem PySem.Spec
open PyProof.Rows L2 F3
/-! ### bent texts -/
def low (x : Str) : Prop := ∀ c ∈ TL.tl x, c < 200
def wt (ys : List Str) : Nat := (ys.map fun y => y.length + 1).sum
theorem wt_app (a b : List Str) : wt (a ++ b) = wt a + wt b := by unfold wt; simp
theorem wt_take (a : List Str) (k : Nat) : wt (a.take k) ≤ wt a := by
  have := wt_app (a.take k) (a.drop k)
  rw [List.take_append_drop] at this; omega
theorem wt_drop (a : List Str) (k : Nat) : wt (a.drop k) ≤ wt a := by
  have := wt_app (a.take k) (a.drop k)
  rw [List.take_append_drop] at this; omega
theorem wt_rev : ∀ a : List Str, wt a.reverse = wt a
  | [] => rfl
  | x :: a => by rw [List.reverse_cons, wt_app, wt_rev a]; unfold wt; simp; omega
theorem wt_len : ∀ a : List Str, a.length ≤ wt a
  | [] => Nat.zero_le _
  | x :: a => by have := wt_len a; unfold wt at *; simp; omega
theorem wt_pcs (c : Nat) : ∀ l : List Nat, wt ((cutL c l).map fun l => (⟨l.toArray⟩ : Str)) = l.length + 1
  | [] => rfl
  | d :: r => by
    have ih := wt_pcs c r
    rw [cutL_cons]
    split
    · unfold wt at *; simp at ih ⊢; omega
    · cases q : cutL c r with
      | nil => exact absurd q (cutL_ne c r)
      | cons h t => rw [q] at ih; unfold wt at *; simp at ih ⊢; omega
theorem joinL_len : ∀ ys : List Str, (TL.joinL [10] (ys.map TL.tl)).length ≤ wt ys
  | [] => Nat.zero_le _
  | [x] => by show (TL.tl x).length ≤ _; rw [← TL.len_tl]; unfold wt; simp
  | x :: y :: r => by
    have ih := joinL_len (y :: r)
    show (TL.tl x ++ ([10] ++ TL.joinL [10] ((y :: r).map TL.tl))).length ≤ _
    rw [List.length_append, List.length_append, ← TL.len_tl]
    unfold wt at *; simp only [List.map_cons, List.sum_cons, List.length_cons, List.length_nil] at ih ⊢; omega
theorem joinL_low : ∀ ys : List Str, (∀ y ∈ ys, low y) → ∀ c ∈ TL.joinL [10] (ys.map TL.tl), c < 200
  | [], _, c, hc => by cases hc
  | [x], h, c, hc => h x (by simp) c hc
  | x :: y :: r, h, c, hc => by
    have hc' : c ∈ TL.tl x ++ ([10] ++ TL.joinL [10] ((y :: r).map TL.tl)) := hc
    rcases List.mem_append.mp hc' with q | q
    · exact h x (by simp) c q
    · rcases List.mem_append.mp q with q | q
      · rw [List.mem_singleton.mp q]; decide
      · exact joinL_low (y :: r) (fun z hz => h z (List.mem_cons_of_mem _ hz)) c q
theorem dstrs_map : ∀ ys : List Str, dstrs (ys.map D.str) = some ys
  | [] => rfl
  | y :: ys => by show (dstrs (ys.map D.str)).map (y :: ·) = _; rw [dstrs_map ys]; rfl
/-- lines put together -/
theorem join_lines {ys : List Str} (hl : ∀ y ∈ ys, low y) (hw : wt ys ≤ 1900) (A : AH) : ∃ z, mJoin ⟨#[10]⟩ (.lst (ys.map .str)) A = .ok (.str z) A ∧ Okt z := by
  have e : TL.tl (Txt.join ⟨#[10]⟩ ys) = TL.joinL [10] (ys.map TL.tl) := by rw [TL.join_eq, TL.tl_join]
  refine ⟨Txt.join ⟨#[10]⟩ ys, ?_, ?_, ?_⟩
  · unfold mJoin
    rw [show asL A (.lst (ys.map .str)) = some (ys.map .str) from rfl, Option.bind_some, dstrs_map]
    simp only
    rw [if_pos]
    have s1 : (ys.map (·.length)).sum ≤ wt ys := by
      clear hl hw e
      induction ys with
      | nil => exact Nat.zero_le _
      | cons y ys ih => unfold wt at *; simp; omega
    have s2 := wt_len ys
    have s3 : (⟨#[10]⟩ : Str).length = 1 := rfl
    rw [s3]; omega
  · rw [TL.len_tl, e]
    have := joinL_len ys
    omega
  · rw [e]; exact joinL_low ys hl
theorem low_app {x y : Str} (hx : low x) (hy : low y) : low (x ++ y) := fun c hc => by
  rw [TL.tl_append] at hc
  rcases List.mem_append.mp hc with q | q
  · exact hx c q
  · exact hy c q
theorem add_strs {x y : Str} (hx : low x) (hy : low y) (h : x.length + y.length ≤ 1900) (A : AH) : gAdd (.str x) (.str y) A = .ok (.str (x ++ y)) A ∧ low (x ++ y) ∧ (x ++ y).length = x.length + y.length :=
  ⟨gAdd_str rfl (by show _ ≤ 16777216; omega) A, low_app hx hy, strLen_append x y⟩
theorem cutD_take (xs : List D) (k : Nat) : F3.cutD xs none (some (k : Int)) = xs.take k := by
  unfold F3.cutD
  rw [HT.sIx_nat, HT.sIx_none, Nat.sub_zero, List.drop_zero]
  by_cases h : k ≤ xs.length
  · rw [Nat.min_eq_left h]
  · rw [Nat.min_eq_right (by omega), List.take_of_length_le (by omega), List.take_of_length_le (by omega)]
theorem cutD_drop (xs : List D) (k : Nat) : F3.cutD xs (some (k : Int)) none = xs.drop k := by
  unfold F3.cutD
  rw [HT.sIx_nat, HT.sIx_none]
  by_cases h : k ≤ xs.length
  · rw [Nat.min_eq_left h, List.take_of_length_le (by rw [List.length_drop]; omega)]
  · rw [Nat.min_eq_right (by omega), List.drop_of_length_le (by omega), List.drop_of_length_le (by omega)]; simp
theorem cutD_sub (xs : List D) (a b : Nat) : F3.cutD xs (some (a : Int)) (some (b : Int)) = (xs.drop (min a xs.length)).take (min b xs.length - min a xs.length) := by
  unfold F3.cutD
  rw [HT.sIx_nat, HT.sIx_nat]
theorem gSl_lst (lo hi : Option Int) (xs : List D) (A : AH) : gSl lo hi (.lst xs) A = .ok (.lst (F3.cutD xs lo hi)) A := rfl
theorem add_lsts (a b : List Str) (h : a.length + b.length ≤ 10000) (A : AH) : gAdd (.lst (a.map .str)) (.lst (b.map .str)) A = .ok (.lst ((a ++ b).map .str)) A := by
  unfold gAdd
  simp only [asM]
  rw [if_pos (by rw [List.length_map, List.length_map]; show _ ≤ 16777216; omega), List.map_append]
def signL : List Str := [⟨#[48]⟩, ⟨#[49]⟩, ⟨#[50]⟩, ⟨#[51]⟩, ⟨#[52]⟩, ⟨#[53]⟩, ⟨#[54]⟩, ⟨#[55]⟩, ⟨#[56]⟩, ⟨#[57]⟩, ⟨#[62]⟩, ⟨#[32]⟩, ⟨#[45]⟩, ⟨#[60]⟩, ⟨#[120]⟩, ⟨#[10]⟩, ⟨#[10]⟩, ⟨#[112, 108, 97, 99, 101, 115, 32, 51]⟩, ⟨#[104, 117, 101, 115, 32]⟩, ⟨#[49, 48, 48, 48, 48, 48, 48, 48, 48, 48]⟩, ⟨#[48, 48]⟩, ⟨#[32, 32]⟩, ⟨#[45, 45]⟩, ⟨#[43, 49]⟩]
theorem signL_ok : ∀ y ∈ signL, low y ∧ y.length ≤ 10 := by
  unfold signL low
  simp only [List.mem_cons, List.not_mem_nil, or_false]
  intro y hy
  rcases hy with h | h | h | h | h | h | h | h | h | h | h | h | h | h | h | h | h | h | h | h | h | h | h | h <;> subst h <;> exact ⟨by decide +kernel, by decide +kernel⟩
theorem bent_of {A : AH} (h : Bgs A) {i : Nat} (hi : i < A.length) {x : Str} (hx : low x) (hn : x.length ≤ 300) : ∃ (y : Str) (A' : AH), m_law_bent [.ref i, .str x] A = .ok (.str y) A' ∧ Okt y ∧ Bgs A' ∧ A'.length = A.length := by
  have okx : Okt x := ⟨by omega, hx⟩
  obtain ⟨at_, A1, e1, a1, B1, l1⟩ := draw_of h [] hi (x.length + 1) (by omega) (by omega)
  have sp := split_any (y := ⟨#[10]⟩) (c := 10) okx rfl (by decide) A1
  have wl : wt (pcs 10 x) = x.length + 1 := by unfold pcs; rw [wt_pcs, TL.len_tl]
  have pll := wt_len (pcs 10 x)
  have pl1 : 1 ≤ (pcs 10 x).length := by
    have : pcs 10 x ≠ [] := by unfold pcs; simp [cutL_ne]
    exact List.length_pos_iff.mpr this
  have lowp : ∀ y ∈ pcs 10 x, low y := fun y hy => (pcs_ok okx hy).low
  generalize pcs 10 x = ls at *
  obtain ⟨ln, A2, e2, n2, B2, l2⟩ := draw_of B1 [] (by omega : i < A1.length) ls.length (by omega) (by omega)
  obtain ⟨sd, A3, e3, s3, B3, l3⟩ := one_of_of B2 [] (by omega : i < A2.length) (signL.map .str) (by decide) (by decide)
  obtain ⟨sg, hsg, rfl⟩ := List.mem_map.mp s3
  obtain ⟨sgl, sgn⟩ := signL_ok sg hsg
  -- pieces
  have okt := okx.take at_
  have okd := okx.drop at_
  have okd1 := okx.drop (at_ + 1)
  have nt : (⟨((TL.tl x).take at_).toArray⟩ : Str).length ≤ 300 := by rw [TL.len_tl, TL.tl_mk, List.length_take]; rw [TL.len_tl] at hn; omega
  have nd : (⟨((TL.tl x).drop at_).toArray⟩ : Str).length ≤ 300 := by rw [TL.len_tl, TL.tl_mk, List.length_drop]; rw [TL.len_tl] at hn; omega
  have nd1 : (⟨((TL.tl x).drop (at_ + 1)).toArray⟩ : Str).length ≤ 300 := by rw [TL.len_tl, TL.tl_mk, List.length_drop]; rw [TL.len_tl] at hn; omega
  have g1 : ∀ A, gSl none (some (at_ : Int)) (.str x) A = .ok (.str ⟨((TL.tl x).take at_).toArray⟩) A := fun A => gSl_take okx at_ A
  have g2 : ∀ A, gSl (some (at_ : Int)) none (.str x) A = .ok (.str ⟨((TL.tl x).drop at_).toArray⟩) A := fun A => gSl_drop okx at_ A
  have g3 : ∀ A, gSl (some ((at_ + 1 : Nat) : Int)) none (.str x) A = .ok (.str ⟨((TL.tl x).drop (at_ + 1)).toArray⟩) A := fun A => gSl_drop okx (at_ + 1) A
  generalize (⟨((TL.tl x).take at_).toArray⟩ : Str) = xt at *
  generalize (⟨((TL.tl x).drop at_).toArray⟩ : Str) = xd at *
  generalize (⟨((TL.tl x).drop (at_ + 1)).toArray⟩ : Str) = xe at *
  obtain ⟨p1, q1, r1⟩ := add_strs okt.low sgl (by omega) A3
  obtain ⟨p2, q2, r2⟩ := add_strs q1 okd.low (by omega) A3
  obtain ⟨p3, q3, r3⟩ := add_strs q1 okd1.low (by omega) A3
  obtain ⟨p4, q4, r4⟩ := add_strs okt.low okd1.low (by omega) A3
  obtain ⟨p5, q5, r5⟩ := add_strs hx sgl (by omega) A3
  -- lines
  have inc : ∀ (k : Nat) A, gAdd (.int k) (.int 1) A = .ok (.int (k + 1 : Nat)) A := fun k A => rfl
  have t1 : gSl none (some (ln : Int)) (.lst (ls.map .str)) A3 = .ok (.lst ((ls.take ln).map .str)) A3 := by rw [gSl_lst, cutD_take, List.map_take]
  have t2 : gSl (some (ln : Int)) none (.lst (ls.map .str)) A3 = .ok (.lst ((ls.drop ln).map .str)) A3 := by rw [gSl_lst, cutD_drop, List.map_drop]
  have t3 : gSl (some ((ln + 1 : Nat) : Int)) none (.lst (ls.map .str)) A3 = .ok (.lst ((ls.drop (ln + 1)).map .str)) A3 := by rw [gSl_lst, cutD_drop, List.map_drop]
  obtain ⟨md, t4, lm, wm⟩ : ∃ md : List Str, gSl (some (ln : Int)) (some ((ln + 1 : Nat) : Int)) (.lst (ls.map .str)) A3 = .ok (.lst (md.map .str)) A3 ∧ (∀ y ∈ md, low y) ∧ wt md ≤ wt ls := by
    refine ⟨(ls.drop (min ln ls.length)).take (min (ln + 1) ls.length - min ln ls.length), ?_, ?_, ?_⟩
    · rw [gSl_lst, cutD_sub, List.length_map, List.map_take, List.map_drop]
    · exact fun y hy => lowp y (List.mem_of_mem_drop (List.mem_of_mem_take hy))
    · exact Nat.le_trans (wt_take _ _) (wt_drop _ _)
  have wmd := wt_len md
  have t5 : gMulS (.lst (md.map .str)) (.int 2) A3 = .ok (.lst ((md ++ md).map .str)) A3 := by
    unfold gMulS gMul
    simp only
    rw [if_pos ⟨by decide, by decide, by rw [List.length_map]; show _ * 2 ≤ 16777216; omega⟩]
    have : timesL (2 : Int).toNat (md.map D.str) = (md ++ md).map D.str := by
      show timesL 2 (md.map D.str) = _
      simp [timesL]
    rw [this]
  have t6 : gRev (.lst (ls.map .str)) A3 = .ok (.lst (ls.reverse.map .str)) A3 := by
    unfold gRev; simp only [asQ]; rw [List.map_reverse]
  have wt1 := wt_take ls ln
  have wd1 := wt_drop ls ln
  have wd2 := wt_drop ls (ln + 1)
  have wl1 := wt_len (ls.take ln)
  have wl2 := wt_len (ls.drop ln)
  have wl3 := wt_len (ls.drop (ln + 1))
  have lt1 : ∀ y ∈ ls.take ln, low y := fun y hy => lowp y (List.mem_of_mem_take hy)
  have ld1 : ∀ y ∈ ls.drop ln, low y := fun y hy => lowp y (List.mem_of_mem_drop hy)
  have ld2 : ∀ y ∈ ls.drop (ln + 1), low y := fun y hy => lowp y (List.mem_of_mem_drop hy)
  have lr : ∀ y ∈ ls.reverse, low y := fun y hy => lowp y (List.mem_reverse.mp hy)
  have la : ∀ {a b : List Str}, (∀ y ∈ a, low y) → (∀ y ∈ b, low y) → ∀ y ∈ a ++ b, low y := fun ha hb y hy => by
    rcases List.mem_append.mp hy with z | z
    · exact ha y z
    · exact hb y z
  have wr := wt_rev ls
  have ws : wt [sg] ≤ 11 := by unfold wt; simp; omega
  have ls1 : ∀ y ∈ [sg], low y := fun y hy => by rw [List.mem_singleton.mp hy]; exact sgl
  generalize ls.take ln = l1' at *
  generalize ls.drop (ln + 1) = l3' at *
  generalize ls.drop ln = l2' at *
  have c1 := add_lsts l1' l3' (by omega) A3
  have c2 := add_lsts l1' (md ++ md) (by rw [List.length_append]; omega) A3
  have c3 := add_lsts (l1' ++ (md ++ md)) l3' (by rw [List.length_append, List.length_append]; omega) A3
  have c4 : gAdd (.lst (l1'.map .str)) (.lst [.str sg]) A3 = .ok (.lst ((l1' ++ [sg]).map .str)) A3 := add_lsts l1' [sg] (by simp; omega) A3
  have c5 := add_lsts (l1' ++ [sg]) l2' (by simp; omega) A3
  obtain ⟨z1, j1, k1⟩ := join_lines (ys := l1' ++ l3') (la lt1 ld2) (by rw [wt_app]; omega) A3
  obtain ⟨z2, j2, k2⟩ := join_lines (ys := l1' ++ (md ++ md) ++ l3') (la (la lt1 (la lm lm)) ld2) (by rw [wt_app, wt_app, wt_app]; omega) A3
  obtain ⟨z3, j3, k3⟩ := join_lines (ys := ls.reverse) lr (by omega) A3
  obtain ⟨z4, j4, k4⟩ := join_lines (ys := l1' ++ [sg] ++ l2') (la (la lt1 ls1) ld1) (by rw [wt_app, wt_app]; omega) A3
  obtain ⟨yd, A4, e4, s4, B4, l4⟩ := one_of_of B3 [] (by omega : i < A3.length) ([x, xt, xd, xt ++ sg ++ xd, xt ++ sg ++ xe, xt ++ xe, x ++ sg, z1, z2, z3, z4].map .str) (by simp) (by simp)
  obtain ⟨y, hy, rfl⟩ := List.mem_map.mp s4
  refine ⟨y, A4, ?_, ?_, B4, by omega⟩
  · simp only [List.append_nil] at e1 e2 e3 e4
    have cl := clean_same (A := A4) (.str y)
    rw [show A4.length = A.length by omega] at cl
    have gx : gLen [.str x] A = .ok (.int x.length) A := by
      have z : x.length ≤ 16777216 := by omega
      simp [gLen, z]
    have e1' : m_law_draw [.ref i, .int (x.length + 1 : Nat)] A = .ok (.int at_) A1 := e1
    have gl : gLen [.lst (ls.map .str)] A1 = .ok (.int ls.length) A1 := by
      have := len_eq (.lst (ls.map .str)) _ (.inr rfl) (by rw [List.length_map]; omega) A1
      rwa [List.length_map] at this
    have gL : gListS [.str ⟨#[48, 49, 50, 51, 52, 53, 54, 55, 56, 57, 62, 32, 45, 60, 120]⟩] A2 = .ok (.lst ((signL.take 15).map .str)) A2 := rfl
    have gA : gAdd (.lst ((signL.take 15).map .str)) (.lst [.str ⟨#[10]⟩, .str ⟨#[10]⟩, .str ⟨#[112, 108, 97, 99, 101, 115, 32, 51]⟩, .str ⟨#[104, 117, 101, 115, 32]⟩, .str ⟨#[49, 48, 48, 48, 48, 48, 48, 48, 48, 48]⟩, .str ⟨#[48, 48]⟩, .str ⟨#[32, 32]⟩, .str ⟨#[45, 45]⟩, .str ⟨#[43, 49]⟩]) A2 = .ok (.lst (signL.map .str)) A2 := add_lsts (signL.take 15) (signL.drop 15) (by decide) A2
    have d1 := add_lsts [x, xt, xd, xt ++ sg ++ xd, xt ++ sg ++ xe, xt ++ xe, x ++ sg] [z1, z2] (by simp) A3
    have d2 := add_lsts [x, xt, xd, xt ++ sg ++ xd, xt ++ sg ++ xe, xt ++ xe, x ++ sg, z1, z2] [z3, z4] (by simp) A3
    simp only [List.map_cons, List.map_nil, List.cons_append, List.nil_append] at d1 d2 e4
    generalize (signL.take 15).map D.str = S15 at *
    generalize signL.map D.str = SL at *
    rw [u_law_bent]
    unfold b_law_bent
    simp only [e_bSeq, e_bPar, e_sCons, e_sNil, e_sCall, e_sVar, e_sBin, e_sC, List.getElem?_cons_zero, List.getElem?_cons_succ, bind_ok, gx, inc, e1', e_sM1, sp, lft_ok, List.set_cons_zero, List.set_cons_succ, seq_nx, e_bSet, gl, e2, e_gNm, stTo_some, gL, e_sLst, size_line, List.length_cons, List.length_nil, gA, e3, Nat.reduceAdd, Nat.reduceLeDiff, if_true, ite_true, e_sSlice, e_oNone, e_oSome, g1, g2, g3, p1, p2, p3, p4, p5, t1, t2, t3, t4, t5, t6, e_sUn, c1, c2, c3, c4, c5, j1, j2, j3, j4, d1, d2, e4, e_bRet, fin_rt, cl]
  · simp only [List.mem_cons, List.not_mem_nil, or_false] at hy
    rcases hy with e | e | e | e | e | e | e | e | e | e | e <;> subst e
    · exact okx
    · exact okt
    · exact okd
    · exact ⟨by omega, q2⟩
    · exact ⟨by omega, q3⟩
    · exact ⟨by omega, q4⟩
    · exact ⟨by omega, q5⟩
    · exact k1
    · exact k2
    · exact k3
    · exact k4
end Lw
namespace Lw
open PySem PySem.Spec
open PyProof.Rows L2 F3
/-! ### what is shown -/
structure Shw (d : D) (p : PyData) (e k : Nat) : Prop where
  to : toP d = some p
  sh : p.showable = true
  nd : p.hasDict = false
  dp : p.depth ≤ e
  ln : p.shown.length ≤ k
  ok : PyData.strOk p.shown = true
theorem Shw.mono {d : D} {p : PyData} {e k e' k' : Nat} (h : Shw d p e k) (he : e ≤ e') (hk : k ≤ k') : Shw d p e' k' := ⟨h.to, h.sh, h.nd, Nat.le_trans h.dp he, Nat.le_trans h.ln hk, h.ok⟩
theorem Shw.all {e k : Nat} : ∀ (l : List (D × PyData)), (∀ q ∈ l, Shw q.1 q.2 e k) → toPs (l.map Prod.fst) = some (l.map Prod.snd) ∧ PyData.showableAll (l.map Prod.snd) = true ∧ PyData.hasDictAll (l.map Prod.snd) = false ∧ PyData.depthAll (l.map Prod.snd) ≤ e
  | [], _ => ⟨rfl, rfl, rfl, Nat.zero_le _⟩
  | q :: l, h => by
    obtain ⟨h1, h2, h3, h4⟩ := Shw.all l fun x hx => h x (List.mem_cons_of_mem _ hx)
    have s := h q List.mem_cons_self
    refine ⟨?_, ?_, ?_, ?_⟩
    · show (match toP q.1, toPs (l.map Prod.fst) with | some p, some ps => some (p :: ps) | _, _ => none) = _
      rw [h1, s.to]; rfl
    · show (q.2.showable && PyData.showableAll (l.map Prod.snd)) = true
      rw [h2, s.sh]; rfl
    · show (q.2.hasDict || PyData.hasDictAll (l.map Prod.snd)) = false
      rw [h3, s.nd]; rfl
    · show max q.2.depth (PyData.depthAll (l.map Prod.snd)) ≤ e
      have := s.dp
      omega
theorem shownAll_eq : ∀ l : List PyData, PyData.shownAll l = l.map fun x => x.shown
  | [] => rfl
  | x :: l => by show x.shown :: PyData.shownAll l = _; rw [shownAll_eq l]; rfl
theorem Shw.tup {e k : Nat} (l : List (D × PyData)) (h : ∀ q ∈ l, Shw q.1 q.2 e k) : Shw (.tup (l.map Prod.fst)) (.tuple (l.map Prod.snd)) (e + 1) (l.length * (k + 2) + 4) := by
  obtain ⟨h1, h2, h3, h4⟩ := Shw.all l h
  have sh : (PyData.tuple (l.map Prod.snd)).shown = tupleText ((l.map Prod.snd).map fun x => x.shown) := by
    show tupleText (PyData.shownAll _) = _
    rw [shownAll_eq]
  refine ⟨?_, h2, h3, ?_, ?_, ?_⟩
  · show (toPs (l.map Prod.fst)).map PyData.tuple = _
    rw [h1]; rfl
  · show PyData.depthAll _ + 1 ≤ _; omega
  · rw [sh]
    have := tuple_len ((l.map Prod.snd).map fun x => x.shown) k fun x hx => by
      obtain ⟨p, hp, rfl⟩ := List.mem_map.mp hx
      obtain ⟨q, hq, rfl⟩ := List.mem_map.mp hp
      exact (h q hq).ln
    rw [List.length_map, List.length_map] at this
    exact this
  · rw [sh]
    refine ok_tuple fun x hx => ?_
    obtain ⟨p, hp, rfl⟩ := List.mem_map.mp hx
    obtain ⟨q, hq, rfl⟩ := List.mem_map.mp hp
    exact (h q hq).ok
theorem Shw.repr {d : D} {p : PyData} {e k : Nat} (h : Shw d p e k) (he : e ≤ 60) (hk : k ≤ 16777216) (hd : ∀ A, topD A d = d) (A : AH) : gRepr [d] A = .ok (.str p.shown) A :=
  repr_of (by rw [hd]; exact h.to) h.sh h.nd (Nat.le_trans h.dp he) (Nat.le_trans h.ln hk)
theorem shw_non : Shw .non .none 0 4 := ⟨rfl, rfl, rfl, by decide, by decide +kernel, by decide +kernel⟩
theorem small_shown : ∀ n, n < 2100 → ((PyData.int (n : Nat)).shown.length ≤ 10 ∧ PyData.strOk (PyData.int (n : Nat)).shown = true ∧ (PyData.int (n : Nat)).showable = true) := by decide +kernel
theorem shw_int (n : Nat) (h : n < 2100) : Shw (.int n) (.int n) 0 10 := by
  obtain ⟨h1, h2, h3⟩ := small_shown n h
  exact ⟨rfl, h3, rfl, Nat.zero_le _, h1, h2⟩
theorem shw_sg (c : Nat) : Shw (.int (sgV c)) (.int (sgV c)) 0 10 := by
  unfold sgV
  split
  · exact ⟨rfl, by decide +kernel, rfl, Nat.zero_le _, by decide +kernel, by decide +kernel⟩
  · exact ⟨rfl, by decide +kernel, rfl, Nat.zero_le _, by decide +kernel, by decide +kernel⟩
theorem shw_two {a b : D} {p q : PyData} {e k : Nat} (h1 : Shw a p e k) (h2 : Shw b q e k) : Shw (.tup [a, b]) (.tuple [p, q]) (e + 1) (2 * (k + 2) + 4) :=
  Shw.tup [(a, p), (b, q)] (by simp [h1, h2])
theorem shw_tie (p : Nat × Nat) (h1 : p.1 < 10) (h2 : p.2 < 10) : Shw (tieD p) (tieP p) 1 28 := shw_two (shw_int _ (by omega)) (shw_int _ (by omega))
theorem shw_ties {n : Nat} {ts : List (Nat × Nat)} (T : Ties n ts) : Shw (tiesD ts) (.tuple (ts.map tieP)) 2 1000 := by
  have s := T.size
  have := Shw.tup (e := 1) (k := 28) (ts.map fun p => (tieD p, tieP p)) fun q hq => by
    obtain ⟨p, hp, rfl⟩ := List.mem_map.mp hq
    have := T.rng p hp
    exact shw_tie p (by omega) (by omega)
  rw [List.map_map, List.map_map] at this
  exact Shw.mono this (by decide) (by rw [List.length_map]; have := T.few; omega)
/-- what the law's reading of a web shows -/
theorem shw_web {n : Nat} {ts : List (Nat × Nat)} (T : Ties n ts) : ∃ p, Shw (.tup [.non, .tup [.int n, tiesD ts]]) p 4 10000 := by
  have s := T.size
  exact ⟨_, Shw.mono (shw_two (shw_non.mono (by decide) (by decide) : Shw .non .none 3 2008) (shw_two ((shw_int n (by omega)).mono (by decide) (by decide) : Shw _ _ 2 1000) (shw_ties T))) (by decide) (by decide)⟩
theorem shw_err (k : Nat) (h : k < 2100) : ∃ p, Shw (.tup [.int k, .non]) p 4 10000 :=
  ⟨_, Shw.mono (shw_two (shw_int k h) (shw_non.mono (by decide) (by decide))) (by decide) (by decide)⟩
theorem shw_in {d : D} {p : PyData} (h : Shw d p 3 1000) : ∃ p, Shw (.tup [.non, d]) p 4 10000 :=
  ⟨_, Shw.mono (shw_two (shw_non.mono (by decide) (by decide)) h) (by decide) (by decide)⟩
theorem shw_signs {m : Nat} {h : Str} {d : D} (hm : m ≤ 14) (e : signsO m h = some d) : ∃ p, Shw d p 3 1000 := by
  unfold signsO at e
  split at e
  · rename_i q
    cases e
    simp only [Bool.and_eq_true, decide_eq_true_eq] at q
    have hl := q.1
    rw [TL.len_tl] at hl
    have := Shw.tup (e := 0) (k := 10) ((TL.tl h).map fun c => (D.int (sgV c), PyData.int (sgV c))) fun q hq => by
      obtain ⟨c, _, rfl⟩ := List.mem_map.mp hq
      exact shw_sg c
    rw [List.map_map] at this
    rw [List.map_map]
    exact ⟨_, Shw.mono this (by decide) (by rw [List.length_map]; omega)⟩
  · cases e
theorem shw_hues {n : Nat} {h : Str} {d : D} (hn : n ≤ 7) (e : huesO n h = some d) : ∃ p, Shw d p 3 1000 := by
  unfold huesO at e
  split at e
  · unfold rowO at e
    split at e
    · rename_i q
      cases e
      simp only [Bool.and_eq_true, decide_eq_true_eq] at q
      generalize (pcs 32 ⟨((TL.tl h).drop 5).toArray⟩).map numO = os at *
      have := Shw.tup (e := 0) (k := 10) (os.map fun o => (optD o, optP o)) fun x hx => by
        obtain ⟨o, ho, rfl⟩ := List.mem_map.mp hx
        have hg := List.all_eq_true.mp q.2 o ho
        cases o with
        | none => cases hg
        | some k =>
          have hk : k ≤ 9 := by simpa [hueG] using hg
          exact shw_int k (by omega)
      rw [List.map_map] at this
      exact ⟨_, Shw.mono this (by decide) (by rw [List.length_map]; omega)⟩
    · cases e
  · cases e
theorem tiesO_err {n : Nat} : ∀ {ls : List Str} {k : Nat} {f : List (Nat × Nat)} {e : Nat}, tiesO n k ls f = .error e → e ≤ k + ls.length
  | [], k, f, e, h => by unfold tiesO at h; cases h
  | l :: ls, k, f, e, h => by
    unfold tiesO at h
    split at h
    · cases h; simp; try omega
    · split at h
      · cases h; simp; try omega
      · have := tiesO_err h
        simp; omega
theorem webO_err {ls : List Str} {l : Str} {e : Nat} (h : webO ls l = .error e) (hl : ls.length ≤ 2000) : e < 2100 := by
  unfold webO at h
  split at h
  · cases h; decide
  · rename_i hd t
    simp at hl
    split at h
    · cases h; decide
    · split at h
      · rename_i he
        cases h
        have := tiesO_err he
        omega
      · split at h
        · cases h
        · cases h; omega
theorem lineO_err {o : Str → Option D} {ls : List Str} {l : Str} {e : Nat} (h : lineO o ls l = .error e) : e < 2100 := by
  unfold lineO at h
  split at h
  · cases h; decide
  · split at h
    · cases h; decide
    · split at h
      · cases h
      · cases h; decide
theorem lineO_ok {o : Str → Option D} {ls : List Str} {l : Str} {d : D} (h : lineO o ls l = .ok d) : ∃ x, o x = some d := by
  unfold lineO at h
  split at h
  · cases h
  · rename_i hd t
    split at h
    · cases h
    · rename_i d' hd'
      split at h
      · cases h; exact ⟨hd, hd'⟩
      · cases h
end Lw
namespace Lw
open PySem PySem.Spec
open PyProof.Rows L2 F3
/-! ### the texts that are bent -/
theorem joinL_lenS (S : List Nat) (hS : S.length ≤ 1) : ∀ ys : List Str, (∀ y ∈ ys, y.length ≤ 10) → (TL.joinL S (ys.map TL.tl)).length ≤ 11 * ys.length
  | [], _ => Nat.zero_le _
  | [x], h => by show (TL.tl x).length ≤ _; rw [← TL.len_tl]; have := h x (by simp); simp; omega
  | x :: y :: r, h => by
    have ih := joinL_lenS S hS (y :: r) fun z hz => h z (List.mem_cons_of_mem _ hz)
    have := h x (by simp)
    show (TL.tl x ++ (S ++ TL.joinL S ((y :: r).map TL.tl))).length ≤ _
    rw [List.length_append, List.length_append, ← TL.len_tl, List.length_cons]
    omega
theorem joinL_lowS (S : List Nat) (hS : ∀ c ∈ S, c < 200) : ∀ ys : List Str, (∀ y ∈ ys, low y) → ∀ c ∈ TL.joinL S (ys.map TL.tl), c < 200
  | [], _, c, hc => by cases hc
  | [x], h, c, hc => h x (by simp) c hc
  | x :: y :: r, h, c, hc => by
    have hc' : c ∈ TL.tl x ++ (S ++ TL.joinL S ((y :: r).map TL.tl)) := hc
    rcases List.mem_append.mp hc' with q | q
    · exact h x (by simp) c q
    · rcases List.mem_append.mp q with q | q
      · exact hS c q
      · exact joinL_lowS S hS (y :: r) (fun z hz => h z (List.mem_cons_of_mem _ hz)) c q
theorem join_small {y : Str} (hy : low y) (hyl : y.length ≤ 1) {ys : List Str} (h : ∀ x ∈ ys, low x ∧ x.length ≤ 10) (hl : ys.length ≤ 20) (A : AH) : ∃ z, mJoin y (.lst (ys.map .str)) A = .ok (.str z) A ∧ low z ∧ z.length ≤ 220 := by
  have e : TL.tl (Txt.join y ys) = TL.joinL (TL.tl y) (ys.map TL.tl) := by rw [TL.join_eq, TL.tl_join]
  refine ⟨Txt.join y ys, ?_, ?_, ?_⟩
  · unfold mJoin
    rw [show asL A (.lst (ys.map .str)) = some (ys.map .str) from rfl, Option.bind_some, dstrs_map]
    simp only
    rw [if_pos]
    have s1 : (ys.map (·.length)).sum ≤ 10 * ys.length := by
      clear e hl
      induction ys with
      | nil => exact Nat.zero_le _
      | cons z ys ih =>
        have := ih fun x hx => h x (List.mem_cons_of_mem _ hx)
        have := (h z List.mem_cons_self).2
        simp; omega
    have s2 : ys.length * y.length ≤ 20 * 1 := Nat.mul_le_mul hl hyl
    omega
  · intro c hc
    rw [e] at hc
    exact joinL_lowS _ hy ys (fun z hz => (h z hz).1) c hc
  · rw [TL.len_tl, e]
    have := joinL_lenS (TL.tl y) (by rw [← TL.len_tl]; exact hyl) ys fun z hz => (h z hz).2
    omega
theorem low_dg (n : Nat) (h : n < 10) : low (dg n) := fun c hc => by
  have : c ∈ [48 + n] := hc
  simp at this; omega
theorem low_mk (l : List Nat) (h : l.all (fun c => decide (c < 200)) = true) : low ⟨l.toArray⟩ := fun c hc => by
  have := List.all_eq_true.mp h c hc
  simpa using this
def tieS (p : Nat × Nat) : Str := dg p.1 ++ ⟨#[45]⟩ ++ dg p.2 ++ ⟨#[10]⟩
theorem own_web {n : Nat} {ts : List (Nat × Nat)} (T : Ties n ts) {env : Ev} {A : AH} (h1 : env[4]? = some (some (.int n))) (h2 : env[6]? = some (some (tiesD ts))) (hl : env.length = 13) :
    ∃ W, sBin gAdd (sBin gAdd (sBin gAdd (sC (.str ⟨#[112, 108, 97, 99, 101, 115, 32]⟩)) (sCall gStr (sCons (sVar 4) (sNil)))) (sC (.str ⟨#[10]⟩))) (sM1 mJoin (sC (.str ⟨#[]⟩)) (sLC [8, 9] (iOf (sVar 6)) (gTp (gMore (gNm 8) (gMore (gNm 9) (gEnd)))) (tTrue) (sBin gAdd (sBin gAdd (sBin gAdd (sCall gStr (sCons (sVar 8) (sNil))) (sC (.str ⟨#[45]⟩))) (sCall gStr (sCons (sVar 9) (sNil)))) (sC (.str ⟨#[10]⟩))))) env A = .ok (.str W) A ∧ low W ∧ W.length ≤ 300 := by
  have s := T.size
  have z : ts.length ≤ 16777216 := by have := T.few; omega
  have l45 : low ⟨#[45]⟩ := low_mk [45] rfl
  have l10 : low ⟨#[10]⟩ := low_mk [10] rfl
  have parts : ∀ p ∈ ts, ∀ A, gAdd (.str (dg p.1)) (.str ⟨#[45]⟩) A = .ok (.str (dg p.1 ++ ⟨#[45]⟩)) A ∧ gAdd (.str (dg p.1 ++ ⟨#[45]⟩)) (.str (dg p.2)) A = .ok (.str (dg p.1 ++ ⟨#[45]⟩ ++ dg p.2)) A ∧ gAdd (.str (dg p.1 ++ ⟨#[45]⟩ ++ dg p.2)) (.str ⟨#[10]⟩) A = .ok (.str (tieS p)) A ∧ low (tieS p) ∧ (tieS p).length ≤ 10 := fun p hp A => by
    have r := T.rng p hp
    obtain ⟨a1, a2, a3⟩ := add_strs (low_dg p.1 (by omega)) l45 (by show 1 + 1 ≤ _; decide) A
    have a3' : (dg p.1 ++ ⟨#[45]⟩).length = 2 := a3
    obtain ⟨b1, b2, b3⟩ := add_strs a2 (low_dg p.2 (by omega)) (by rw [a3']; show 2 + 1 ≤ _; decide) A
    have b3' : (dg p.1 ++ ⟨#[45]⟩ ++ dg p.2).length = 3 := by rw [b3, a3']; rfl
    obtain ⟨c1, c2, c3⟩ := add_strs b2 l10 (by rw [b3']; show 3 + 1 ≤ _; decide) A
    exact ⟨a1, b1, c1, c2, by show (dg p.1 ++ ⟨#[45]⟩ ++ dg p.2 ++ ⟨#[10]⟩).length ≤ 10; rw [c3, b3']; show 3 + 1 ≤ 10; decide⟩
  have hm : ∀ e2 : Ev, e2.length = 13 → compL (gTp (gMore (gNm 8) (gMore (gNm 9) (gEnd)))) tTrue (sBin gAdd (sBin gAdd (sBin gAdd (sCall gStr (sCons (sVar 8) (sNil))) (sC (.str ⟨#[45]⟩))) (sCall gStr (sCons (sVar 9) (sNil)))) (sC (.str ⟨#[10]⟩))) (ts.map tieD) e2 A = .ok ((ts.map tieS).map D.str) A := fun e2 he => by
    have := compL_map (st := gTp (gMore (gNm 8) (gMore (gNm 9) (gEnd)))) (t := tTrue) (f := sBin gAdd (sBin gAdd (sBin gAdd (sCall gStr (sCons (sVar 8) (sNil))) (sC (.str ⟨#[45]⟩))) (sCall gStr (sCons (sVar 9) (sNil)))) (sC (.str ⟨#[10]⟩))) (A := A) (env := e2) (g := fun d => match d with | .tup [.int a, .int b] => .str (tieS (a.toNat, b.toNat)) | d => d) (ts.map tieD) fun d hd => by
      obtain ⟨p, hp, rfl⟩ := List.mem_map.mp hd
      have r := T.rng p hp
      refine ⟨(e2.set 8 (some (.int p.1))).set 9 (some (.int p.2)), rfl, rfl, ?_⟩
      have s1 := str_dg p.1 (by omega) A
      have s2 := str_dg p.2 (by omega) A
      obtain ⟨a1, a2, a3, _, _⟩ := parts p hp A
      have g9 : ((e2.set 8 (some (.int p.1))).set 9 (some (.int p.2)))[8]? = some (some (.int p.1)) := by
        rw [List.getElem?_set_ne (by decide), List.getElem?_set_self (by omega)]
      have g10 : ((e2.set 8 (some (.int p.1))).set 9 (some (.int p.2)))[9]? = some (some (.int p.2)) := by
        rw [List.getElem?_set_self (by simp; omega)]
      simp only [e_sBin, e_sCall, e_sCons, e_sNil, e_sVar, e_sC, g9, g10, bind_ok, s1, s2, a1, a2, a3]
      simp [tieD]
    rw [this, List.map_map, List.map_map]
    rfl
  have hw : ((wip [8, 9] env) : Ev).length = 13 := by rw [wip_length]; exact hl
  obtain ⟨z1, j, j2, j3⟩ := join_small (y := ⟨#[]⟩) (low_mk [] rfl) (by decide) (ys := ts.map tieS) (fun x hx => by
    obtain ⟨p, hp, rfl⟩ := List.mem_map.mp hx
    obtain ⟨_, _, _, q1, q2⟩ := parts p hp A
    exact ⟨q1, q2⟩) (by rw [List.length_map]; have := T.few; omega) A
  have sn := str_dg n (by omega) A
  obtain ⟨a1, a2, a3⟩ := add_strs (low_mk [112, 108, 97, 99, 101, 115, 32] rfl) (low_dg n (by omega)) (by show 7 + 1 ≤ _; decide) A
  have a3' : ((⟨#[112, 108, 97, 99, 101, 115, 32]⟩ : Str) ++ dg n).length = 8 := a3
  obtain ⟨b1, b2, b3⟩ := add_strs a2 l10 (by show ((⟨#[112, 108, 97, 99, 101, 115, 32]⟩ : Str) ++ dg n).length + 1 ≤ _; rw [a3']; decide) A
  have b3' : ((⟨#[112, 108, 97, 99, 101, 115, 32]⟩ : Str) ++ dg n ++ ⟨#[10]⟩).length = 9 := by
    have : ((⟨#[112, 108, 97, 99, 101, 115, 32]⟩ : Str) ++ dg n ++ ⟨#[10]⟩).length = ((⟨#[112, 108, 97, 99, 101, 115, 32]⟩ : Str) ++ dg n).length + 1 := b3
    rw [this, a3']
  obtain ⟨c1, c2, c3⟩ := add_strs b2 j2 (by show ((⟨#[112, 108, 97, 99, 101, 115, 32]⟩ : Str) ++ dg n ++ ⟨#[10]⟩).length + _ ≤ _; rw [b3']; omega) A
  refine ⟨_, ?_, c2, ?_⟩
  · unfold tiesD at h2
    simp only [e_sBin, e_sC, bind_ok, e_sCall, e_sCons, e_sNil, e_sVar, h1, sn, a1, b1, e_sM1, e_sLC, e_iOf, h2, List.length_map, size_line, if_pos z, hm _ hw, j, c1]
  · have : ((⟨#[112, 108, 97, 99, 101, 115, 32]⟩ : Str) ++ dg n ++ ⟨#[10]⟩ ++ z1).length = ((⟨#[112, 108, 97, 99, 101, 115, 32]⟩ : Str) ++ dg n ++ ⟨#[10]⟩).length + z1.length := c3
    show ((⟨#[112, 108, 97, 99, 101, 115, 32]⟩ : Str) ++ dg n ++ ⟨#[10]⟩ ++ z1).length ≤ 300
    rw [this, b3']; omega
theorem own_signs {ts : List (Nat × Nat)} (ht : ts.length ≤ 14) {i : Nat} {env : Ev} {A : AH} (hB : Bgs A) (hi : i < A.length) (h0 : env[0]? = some (some (.ref i))) (h6 : env[6]? = some (some (tiesD ts))) (hl : env.length = 13) :
    ∃ W A', sBin gAdd (sM1 mJoin (sC (.str ⟨#[]⟩)) (sLC [10] (iOf (sVar 6)) (gNm 10) (tTrue) (sCall m_law_one_of (sCons (sVar 0) (sCons (sLst (sCons (sC (.str ⟨#[60]⟩)) (sCons (sC (.str ⟨#[62]⟩)) (sNil)))) (sNil)))))) (sC (.str ⟨#[10]⟩)) env A = .ok (.str W) A' ∧ low W ∧ W.length ≤ 300 ∧ Bgs A' ∧ A'.length = A.length := by
  have hw : ((wip [10] env) : Ev).length = 13 := by rw [wip_length]; exact hl
  have hw0 : (wip [10] env)[0]? = some (some (.ref i)) := by
    show (env.set 10 none)[0]? = _
    rw [List.getElem?_set_ne (by decide)]; exact h0
  obtain ⟨xs, A3, k1, ⟨k2, k3⟩, k4⟩ := compL_inv (st := gNm 10) (t := tTrue) (f := sCall m_law_one_of (sCons (sVar 0) (sCons (sLst (sCons (sC (.str ⟨#[60]⟩)) (sCons (sC (.str ⟨#[62]⟩)) (sNil)))) (sNil)))) (env := wip [10] env) (fun X => Bgs X ∧ X.length = A.length) (fun _ x => ∃ y : Str, (low y ∧ y.length ≤ 10) ∧ x = .str y) (ts.map tieD) A ⟨hB, rfl⟩ fun d _ X ⟨hX, hL⟩ => by
    obtain ⟨x, X', q1, q2, q3, q4⟩ := one_of_of hX [] (by omega : i < X.length) [.str ⟨#[60]⟩, .str ⟨#[62]⟩] (by decide) (by decide)
    simp only [List.append_nil] at q1
    refine ⟨(wip [10] env).set 10 (some d), x, X', rfl, rfl, ?_, ⟨q3, by omega⟩, ?_⟩
    · have g0 : ((wip [10] env).set 10 (some d))[0]? = some (some (.ref i)) := by rw [List.getElem?_set_ne (by decide)]; exact hw0
      simp [g0, q1]
    · simp at q2
      rcases q2 with rfl | rfl
      · exact ⟨_, ⟨low_mk [60] rfl, by decide⟩, rfl⟩
      · exact ⟨_, ⟨low_mk [62] rfl, by decide⟩, rfl⟩
  obtain ⟨bs, rfl, b1, b2⟩ := all2_map k4
  rw [List.length_map] at b1
  obtain ⟨z1, j, j2, j3⟩ := join_small (y := ⟨#[]⟩) (low_mk [] rfl) (by decide) (ys := bs) b2 (by omega) A3
  obtain ⟨c1, c2, c3⟩ := add_strs j2 (low_mk [10] rfl) (by show z1.length + 1 ≤ _; omega) A3
  have z : ts.length ≤ 16777216 := by omega
  refine ⟨_, A3, ?_, c2, ?_, k2, k3⟩
  · unfold tiesD at h6
    simp only [e_sBin, e_sC, bind_ok, e_sM1, e_sLC, e_iOf, e_sVar, h6, List.length_map, size_line, if_pos z, k1, j, c1]
  · have : (z1 ++ (⟨#[10]⟩ : Str)).length = z1.length + 1 := c3
    show (z1 ++ (⟨#[10]⟩ : Str)).length ≤ 300
    omega
theorem own_hues {n : Nat} (hn : n ≤ 7) {i : Nat} {env : Ev} {A : AH} (hB : Bgs A) (hi : i < A.length) (h0 : env[0]? = some (some (.ref i))) (h4 : env[4]? = some (some (.int n))) (hl : env.length = 13) :
    ∃ W A', sBin gAdd (sBin gAdd (sC (.str ⟨#[104, 117, 101, 115, 32]⟩)) (sM1 mJoin (sC (.str ⟨#[32]⟩)) (sLC [12] (iRange1 (sCons (sVar 4) (sNil))) (gNm 12) (tTrue) (sCall gStr (sCons (sCall m_law_draw (sCons (sVar 0) (sCons (sC (.int 10)) (sNil)))) (sNil)))))) (sC (.str ⟨#[10]⟩)) env A = .ok (.str W) A' ∧ low W ∧ W.length ≤ 300 ∧ Bgs A' ∧ A'.length = A.length := by
  have hw : ((wip [12] env) : Ev).length = 13 := by rw [wip_length]; exact hl
  have hw0 : (wip [12] env)[0]? = some (some (.ref i)) := by
    show (env.set 12 none)[0]? = _
    rw [List.getElem?_set_ne (by decide)]; exact h0
  obtain ⟨xs, A3, k1, ⟨k2, k3⟩, k4⟩ := compL_inv (st := gNm 12) (t := tTrue) (f := sCall gStr (sCons (sCall m_law_draw (sCons (sVar 0) (sCons (sC (.int 10)) (sNil)))) (sNil))) (env := wip [12] env) (fun X => Bgs X ∧ X.length = A.length) (fun _ x => ∃ y : Str, (low y ∧ y.length ≤ 10) ∧ x = .str y) (rngL 0 1 n) A ⟨hB, rfl⟩ fun d _ X ⟨hX, hL⟩ => by
    obtain ⟨x, X', q1, q2, q3, q4⟩ := draw_of hX [] (by omega : i < X.length) 10 (by decide) (by decide)
    simp only [List.append_nil] at q1
    have q1' : m_law_draw [.ref i, .int 10] X = .ok (.int x) X' := q1
    refine ⟨(wip [12] env).set 12 (some d), .str (dg x), X', rfl, rfl, ?_, ⟨q3, by omega⟩, ⟨dg x, ⟨low_dg x q2, by rw [dg_len]; decide⟩, rfl⟩⟩
    have g0 : ((wip [12] env).set 12 (some d))[0]? = some (some (.ref i)) := by rw [List.getElem?_set_ne (by decide)]; exact hw0
    simp [g0, q1', str_dg x q2]
  obtain ⟨bs, rfl, b1, b2⟩ := all2_map k4
  rw [rngL_length] at b1
  obtain ⟨z1, j, j2, j3⟩ := join_small (y := ⟨#[32]⟩) (low_mk [32] rfl) (by decide) (ys := bs) b2 (by omega) A3
  obtain ⟨a1, a2, a3⟩ := add_strs (low_mk [104, 117, 101, 115, 32] rfl) j2 (by show 5 + z1.length ≤ _; omega) A3
  have a3' : ((⟨#[104, 117, 101, 115, 32]⟩ : Str) ++ z1).length = 5 + z1.length := a3
  obtain ⟨c1, c2, c3⟩ := add_strs a2 (low_mk [10] rfl) (by show ((⟨#[104, 117, 101, 115, 32]⟩ : Str) ++ z1).length + 1 ≤ _; omega) A3
  have ir : iRange1 (sCons (sVar 4) sNil) env A = .ok (rngL 0 1 n) A := range1_ok (by simp [h4]) (by omega)
  have zr : (rngL 0 1 n).length ≤ 16777216 := by rw [rngL_length]; omega
  refine ⟨_, A3, ?_, c2, ?_, k2, k3⟩
  · simp only [e_sBin, e_sC, bind_ok, e_sM1, e_sLC, ir, size_line, if_pos zr, k1, j, a1, c1]
  · have : ((⟨#[104, 117, 101, 115, 32]⟩ : Str) ++ z1 ++ (⟨#[10]⟩ : Str)).length = ((⟨#[104, 117, 101, 115, 32]⟩ : Str) ++ z1).length + 1 := c3
    show ((⟨#[104, 117, 101, 115, 32]⟩ : Str) ++ z1 ++ (⟨#[10]⟩ : Str)).length ≤ 300
    omega
end Lw
namespace Lw
open PySem PySem.Spec
open PyProof.Rows L2 F3
theorem Bgs.nfA {A : AH} (h : Bgs A) : nfA A = true := nfA_app A fun o ho => by
  obtain ⟨g, b, rfl, _⟩ := h o ho; rfl
@[simp] theorem e_sCallL (m : (List D → AH → Res D) → List D → AH → Res D) (lam : Ev → List D → AH → Res D) (fa : Ev → AH → Res (List D)) (env : Ev) (A : AH) : sCallL m lam fa env A = (fa env A).bd fun ds A1 => m (lam env) ds A1 := rfl
theorem prop_ties (n : Nat) (ts : List (Nat × Nat)) (A : AH) : gProp 0 m_Web_ties (webD n ts) A = .ok (tiesD ts) A := by
  have e : m_Web_ties [webD n ts] A = .ok (tiesD ts) A := by
    have g1 : gFld 0 1 (webD n ts) A = .ok (tiesD ts) A := rfl
    simp [u_Web_ties, b_Web_ties, g1]
  have i : insC A (webD n ts) = some 0 := rfl
  unfold gProp
  rw [if_pos i, e]
theorem prop_size (n : Nat) (ts : List (Nat × Nat)) (A : AH) : gProp 0 m_Web_size (webD n ts) A = .ok (.int n) A := by
  have e : m_Web_size [webD n ts] A = .ok (.int n) A := by
    have g1 : gFld 0 0 (webD n ts) A = .ok (.int n) A := rfl
    simp [u_Web_size, b_Web_size, g1]
  have i : insC A (webD n ts) = some 0 := rfl
  unfold gProp
  rw [if_pos i, e]
theorem ix_two (a b : D) (A : AH) : gIx (.tup [a, b]) (.int 1) A = .ok b A := rfl
theorem nf_tie (p : Nat × Nat) : nf (tieD p) = true := rfl
theorem nfs_map {α : Type} {g : α → D} : ∀ {l : List α}, (∀ x ∈ l, nf (g x) = true) → nfs (l.map g) = true
  | [], _ => rfl
  | x :: l, h => by
    show (nf (g x) && nfs (l.map g)) = true
    rw [h x List.mem_cons_self, nfs_map fun y hy => h y (List.mem_cons_of_mem _ hy)]; rfl
theorem nf_web (n : Nat) (ts : List (Nat × Nat)) : nf (webD n ts) = true := by
  show (true && (nfs (ts.map tieD) && true)) = true
  rw [nfs_map fun x _ => nf_tie x]; rfl
theorem nf_signs {m : Nat} {h : Str} {d : D} (e : signsO m h = some d) (A : AH) : nf d = true ∧ gIs d .non A = .ok (.bl false) A := by
  unfold signsO at e
  split at e
  · cases e
    exact ⟨nfs_map fun x _ => rfl, rfl⟩
  · cases e
theorem nf_hues {n : Nat} {h : Str} {d : D} (e : huesO n h = some d) (A : AH) : nf d = true ∧ gIs d .non A = .ok (.bl false) A := by
  unfold huesO at e
  split at e
  · unfold rowO at e
    split at e
    · cases e
      exact ⟨nfs_map fun x _ => by cases x <;> rfl, rfl⟩
    · cases e
  · cases e
def toldW (r : Except Nat (Nat × List (Nat × Nat))) : D := match r with
  | .error k => .tup [.int k, .non]
  | .ok q => .tup [.non, webD q.1 q.2]
abbrev condW : Ev → AH → Res Bool := sTest (sBin gNe (sCall gRepr (sCons (sIf (sTest (sBin gIs (sBin gIx (sVar 3) (sC (.int 1))) (sC .non))) (sVar 3) (sTup (sCons (sC .non) (sCons (sTup (sCons (sUn (gProp 0 m_Web_size) (sBin gIx (sVar 3) (sC (.int 1)))) (sCons (sUn (gProp 0 m_Web_ties) (sBin gIx (sVar 3) (sC (.int 1)))) (sNil)))) (sNil))))) (sNil))) (sCall gRepr (sCons (sCall m_law_of_web (sCons (sVar 5) (sNil))) (sNil))))
abbrev condS : Ev → AH → Res Bool := sTest (sBin gNe (sCall gRepr (sCons (sCallL m_law_read (sLam bd0 (sCall m_read_signs (sCons (sVar 7) (sCons (sVar 5) (sNil))))) sNil) (sNil))) (sCall gRepr (sCons (sCallL m_law_of_line (sLam (bd1 11) (sCall m_law_signs_of (sCons (sVar 11) (sCons (sCall gLen (sCons (sVar 6) (sNil))) (sNil))))) (sCons (sVar 5) sNil)) (sNil))))
abbrev condH : Ev → AH → Res Bool := sTest (sBin gNe (sCall gRepr (sCons (sCallL m_law_read (sLam bd0 (sCall m_read_hues (sCons (sVar 7) (sCons (sVar 5) (sNil))))) sNil) (sNil))) (sCall gRepr (sCons (sCallL m_law_of_line (sLam (bd1 11) (sCall m_law_hues_of (sCons (sVar 11) (sCons (sVar 4) (sNil))))) (sCons (sVar 5) sNil)) (sNil))))
section
variable {n : Nat} {ts : List (Nat × Nat)} {A : AH} {y : Str}
theorem read_web_step (hB : Bgs A) (hy : Okt y) {env : Ev} (h5 : env[5]? = some (some (.str y))) :
    ∃ r : Except Nat (Nat × List (Nat × Nat)), sCallL m_law_read (sLam bd0 (sCall m_read_web (sCons (sVar 5) (sNil)))) sNil env A = .ok (toldW r) A ∧
      (∀ env' : Ev, env'[3]? = some (some (toldW r)) → env'[5]? = some (some (.str y)) → condW env' A = .ok false A) := by
  obtain ⟨ls, l, e⟩ := pcs_last 10 y
  obtain ⟨hl, _, _⟩ := init_len hy e
  have rw_ := read_web_any hy e hB.flat
  have lw := law_of_web_any hy e hB.flat
  have φ : (sLam bd0 (sCall m_read_web (sCons (sVar 5) (sNil))) env) [] A = m_read_web [.str y] A := by
    show sCall m_read_web (sCons (sVar 5) (sNil)) env A = _
    simp [h5]
  refine ⟨webO ls l, ?_, fun env' h3 h5' => ?_⟩
  · have lr := law_read_any (φ := sLam bd0 (sCall m_read_web (sCons (sVar 5) (sNil))) env) hB.nfA (r := (webO ls l).map fun q => webD q.1 q.2) (fun d hd => by
      cases q : webO ls l with
      | error k => rw [q] at hd; cases hd
      | ok p => rw [q] at hd; cases hd; exact nf_web _ _) (by
      rw [φ, rw_]
      cases webO ls l <;> rfl)
    rw [e_sCallL, e_sNil, bind_ok, lr]
    cases webO ls l <;> rfl
  · cases q : webO ls l with
    | error k =>
      rw [q] at lw h3
      have lw' : m_law_of_web [.str y] A = .ok (.tup [.int k, .non]) A := lw
      have h3' : env'[3]? = some (some (.tup [.int k, .non])) := h3
      obtain ⟨p, sh⟩ := shw_err k (webO_err q hl)
      have rp := sh.repr (by decide) (by decide) (fun _ => rfl) A
      have ne := gNe_str sh.ok sh.ok A
      rw [beq_self_eq_true] at ne
      have gi : gIs .non .non A = .ok (.bl true) A := rfl
      simp [h3', h5', ix_two, gi, rp, lw', ne]
    | ok p =>
      rw [q] at lw h3
      have lw' : m_law_of_web [.str y] A = .ok (.tup [.non, .tup [.int p.1, tiesD p.2]]) A := lw
      have h3' : env'[3]? = some (some (.tup [.non, webD p.1 p.2])) := h3
      obtain ⟨p', sh⟩ := shw_web (webO_ok (n := p.1) (f := p.2) q)
      have rp := sh.repr (by decide) (by decide) (fun _ => rfl) A
      have ne := gNe_str sh.ok sh.ok A
      rw [beq_self_eq_true] at ne
      have gi : gIs (webD p.1 p.2) .non A = .ok (.bl false) A := rfl
      have ps := prop_size p.1 p.2 A
      have pt := prop_ties p.1 p.2 A
      simp [h3', h5', ix_two, gi, ps, pt, rp, lw', ne]
theorem line_step (hB : Bgs A) (hy : Okt y) {o : Str → Option D} (ho : ∀ h d, o h = some d → (∀ A, nf d = true ∧ gIs d .non A = .ok (.bl false) A) ∧ ∃ p, Shw d p 3 1000)
    {φ ψ : List D → AH → Res D} {ls : List Str} {l : Str} (e : pcs 10 y = ls ++ [l])
    (hφ : φ [] A = outX (lineO o ls l) A) (hψ : ∀ h, Okt h → ψ [.str h] A = .ok (optV (o h)) A) :
    ∃ x, (m_law_read φ [] A).bd (fun d A1 => gRepr [d] A1) = .ok (.str x) A ∧ (m_law_of_line ψ [.str y] A).bd (fun d A1 => gRepr [d] A1) = .ok (.str x) A ∧ PyData.strOk x = true := by
  have lr := law_read_any (φ := φ) hB.nfA (r := lineO o ls l) (fun d hd => by
    obtain ⟨h, hx⟩ := lineO_ok hd
    exact ((ho h d hx).1 A).1) hφ
  have ll := of_line_any (φ := ψ) (o := o) hy e hB.nfA hψ (fun h d hd => (ho h d hd).1 A)
  rw [lr, ll]
  simp only [bind_ok]
  cases q : lineO o ls l with
  | error k =>
    obtain ⟨p, sh⟩ := shw_err k (lineO_err q)
    have rp := sh.repr (by decide) (by decide) (fun _ => rfl) A
    exact ⟨_, rp, rp, sh.ok⟩
  | ok d =>
    obtain ⟨h, hx⟩ := lineO_ok q
    obtain ⟨p, s1⟩ := (ho h d hx).2
    obtain ⟨p, sh⟩ := shw_in s1
    have rp := sh.repr (by decide) (by decide) (fun _ => rfl) A
    exact ⟨_, rp, rp, sh.ok⟩
theorem signs_step (T : Ties n ts) (hB : Bgs A) (hy : Okt y) {env : Ev} (h5 : env[5]? = some (some (.str y))) (h6 : env[6]? = some (some (tiesD ts))) (h7 : env[7]? = some (some (webD n ts))) (hl : env.length = 13) : condS env A = .ok false A := by
  obtain ⟨ls, l, e⟩ := pcs_last 10 y
  have rs := read_signs_any T hy e A
  have gl : gLen [tiesD ts] A = .ok (.int ts.length) A := by
    have := len_eq (tiesD ts) (ts.map tieD) (.inl rfl) (by rw [List.length_map]; have := T.few; omega) A
    rwa [List.length_map] at this
  have hφ : (sLam bd0 (sCall m_read_signs (sCons (sVar 7) (sCons (sVar 5) (sNil)))) env) [] A = m_read_signs [webD n ts, .str y] A := by
    show sCall m_read_signs (sCons (sVar 7) (sCons (sVar 5) (sNil))) env A = _
    simp [h5, h7]
  have hψ : ∀ h, Okt h → (sLam (bd1 11) (sCall m_law_signs_of (sCons (sVar 11) (sCons (sCall gLen (sCons (sVar 6) (sNil))) (sNil)))) env) [.str h] A = .ok (optV (signsO ts.length h)) A := fun h ho => by
    show sCall m_law_signs_of (sCons (sVar 11) (sCons (sCall gLen (sCons (sVar 6) (sNil))) (sNil))) (env.set 11 (some (.str h))) A = _
    have g6 : (env.set 11 (some (D.str h)))[6]? = some (some (tiesD ts)) := by rw [List.getElem?_set_ne (by decide)]; exact h6
    have g11 : (env.set 11 (some (D.str h)))[11]? = some (some (.str h)) := by rw [List.getElem?_set_self (by omega)]
    have := law_signs_any ho ts.length A
    simp [g6, g11, gl, this]
  have rs' := hφ.trans (rs.trans (show _ = outX _ A by unfold outX; rfl))
  obtain ⟨x, e1, e2, ok⟩ := line_step hB hy (o := signsO ts.length) (fun h d hd => ⟨fun A => nf_signs hd A, shw_signs T.few hd⟩) e rs' hψ
  have ne := gNe_str ok ok A
  rw [beq_self_eq_true] at ne
  unfold condS
  generalize (sLam bd0 (sCall m_read_signs (sCons (sVar 7) (sCons (sVar 5) (sNil)))) : Ev → List D → AH → Res D) = φ at *
  generalize (sLam (bd1 11) (sCall m_law_signs_of (sCons (sVar 11) (sCons (sCall gLen (sCons (sVar 6) (sNil))) (sNil)))) : Ev → List D → AH → Res D) = ψ at *
  have a1 : sCall gRepr (sCons (sCallL m_law_read φ sNil) sNil) env A = .ok (.str x) A := by
    rw [← e1]
    show ((m_law_read (φ env) [] A).bind fun d A1 => (Res.ok [] A1).bind fun ds A2 => Res.ok (d :: ds) A2).bind (fun ds A1 => gRepr ds A1) = _
    cases m_law_read (φ env) [] A <;> rfl
  have a2 : sCall gRepr (sCons (sCallL m_law_of_line ψ (sCons (sVar 5) sNil)) sNil) env A = .ok (.str x) A := by
    rw [← e2]
    have : sCons (sVar 5) sNil env A = .ok [.str y] A := by simp [h5]
    show (((sCons (sVar 5) sNil env A).bind fun ds A1 => m_law_of_line (ψ env) ds A1).bind fun d A1 => (Res.ok [] A1).bind fun ds A2 => Res.ok (d :: ds) A2).bind (fun ds A1 => gRepr ds A1) = _
    rw [this]
    show ((m_law_of_line (ψ env) [.str y] A).bind fun d A1 => (Res.ok [] A1).bind fun ds A2 => Res.ok (d :: ds) A2).bind (fun ds A1 => gRepr ds A1) = _
    cases m_law_of_line (ψ env) [.str y] A <;> rfl
  rw [e_sTest, e_sBin, a1, bind_ok, a2, bind_ok, ne]; rfl
theorem hues_step (T : Ties n ts) (hB : Bgs A) (hy : Okt y) {env : Ev} (h4 : env[4]? = some (some (.int n))) (h5 : env[5]? = some (some (.str y))) (h7 : env[7]? = some (some (webD n ts))) (hl : env.length = 13) : condH env A = .ok false A := by
  obtain ⟨ls, l, e⟩ := pcs_last 10 y
  have rs := read_hues_any T hy e A
  have s := T.size
  have hφ : (sLam bd0 (sCall m_read_hues (sCons (sVar 7) (sCons (sVar 5) (sNil)))) env) [] A = m_read_hues [webD n ts, .str y] A := by
    show sCall m_read_hues (sCons (sVar 7) (sCons (sVar 5) (sNil))) env A = _
    simp [h5, h7]
  have hψ : ∀ h, Okt h → (sLam (bd1 11) (sCall m_law_hues_of (sCons (sVar 11) (sCons (sVar 4) (sNil)))) env) [.str h] A = .ok (optV (huesO n h)) A := fun h ho => by
    show sCall m_law_hues_of (sCons (sVar 11) (sCons (sVar 4) (sNil))) (env.set 11 (some (.str h))) A = _
    have g4 : (env.set 11 (some (D.str h)))[4]? = some (some (.int n)) := by rw [List.getElem?_set_ne (by decide)]; exact h4
    have g11 : (env.set 11 (some (D.str h)))[11]? = some (some (.str h)) := by rw [List.getElem?_set_self (by omega)]
    have := law_hues_any ho n s.1 A
    simp [g4, g11, this]
  have rs' := hφ.trans (rs.trans (show _ = outX _ A by unfold outX; rfl))
  obtain ⟨x, e1, e2, ok⟩ := line_step hB hy (o := huesO n) (fun h d hd => ⟨fun A => nf_hues hd A, shw_hues s.2 hd⟩) e rs' hψ
  have ne := gNe_str ok ok A
  rw [beq_self_eq_true] at ne
  unfold condH
  generalize (sLam bd0 (sCall m_read_hues (sCons (sVar 7) (sCons (sVar 5) (sNil)))) : Ev → List D → AH → Res D) = φ at *
  generalize (sLam (bd1 11) (sCall m_law_hues_of (sCons (sVar 11) (sCons (sVar 4) (sNil)))) : Ev → List D → AH → Res D) = ψ at *
  have a1 : sCall gRepr (sCons (sCallL m_law_read φ sNil) sNil) env A = .ok (.str x) A := by
    rw [← e1]
    show ((m_law_read (φ env) [] A).bind fun d A1 => (Res.ok [] A1).bind fun ds A2 => Res.ok (d :: ds) A2).bind (fun ds A1 => gRepr ds A1) = _
    cases m_law_read (φ env) [] A <;> rfl
  have a2 : sCall gRepr (sCons (sCallL m_law_of_line ψ (sCons (sVar 5) sNil)) sNil) env A = .ok (.str x) A := by
    rw [← e2]
    have : sCons (sVar 5) sNil env A = .ok [.str y] A := by simp [h5]
    show (((sCons (sVar 5) sNil env A).bind fun ds A1 => m_law_of_line (ψ env) ds A1).bind fun d A1 => (Res.ok [] A1).bind fun ds A2 => Res.ok (d :: ds) A2).bind (fun ds A1 => gRepr ds A1) = _
    rw [this]
    show ((m_law_of_line (ψ env) [.str y] A).bind fun d A1 => (Res.ok [] A1).bind fun ds A2 => Res.ok (d :: ds) A2).bind (fun ds A1 => gRepr ds A1) = _
    cases m_law_of_line (ψ env) [.str y] A <;> rfl
  rw [e_sTest, e_sBin, a1, bind_ok, a2, bind_ok, ne]; rfl
end
end Lw
namespace Lw
open PySem PySem.Spec
open PyProof.Rows L2 F3
abbrev readW : Ev → AH → Res D := sCallL m_law_read (sLam bd0 (sCall m_read_web (sCons (sVar 5) (sNil)))) sNil
abbrev signW : Ev → AH → Res D := sBin gAdd (sM1 mJoin (sC (.str ⟨#[]⟩)) (sLC [10] (iOf (sVar 6)) (gNm 10) (tTrue) (sCall m_law_one_of (sCons (sVar 0) (sCons (sLst (sCons (sC (.str ⟨#[60]⟩)) (sCons (sC (.str ⟨#[62]⟩)) (sNil)))) (sNil)))))) (sC (.str ⟨#[10]⟩))
abbrev hueX : Ev → AH → Res D := sBin gAdd (sBin gAdd (sC (.str ⟨#[104, 117, 101, 115, 32]⟩)) (sM1 mJoin (sC (.str ⟨#[32]⟩)) (sLC [12] (iRange1 (sCons (sVar 4) (sNil))) (gNm 12) (tTrue) (sCall gStr (sCons (sCall m_law_draw (sCons (sVar 0) (sCons (sC (.int 10)) (sNil)))) (sNil)))))) (sC (.str ⟨#[10]⟩))
abbrev bodyR : Ev → AH → SR := bSeq (bSet (gNm 5) (sCall m_law_bent (sCons (sVar 0) (sCons (sVar 1) (sNil))))) (bSeq (bSet (gNm 3) readW) (bSeq (bIf condW (bRet (sC (.bl false))) (bNil)) (bSeq (bSet (gNm 5) (sCall m_law_bent (sCons (sVar 0) (sCons signW (sNil))))) (bSeq (bIf condS (bRet (sC (.bl false))) (bNil)) (bSeq (bSet (gNm 5) (sCall m_law_bent (sCons (sVar 0) (sCons hueX (sNil))))) (bIf condH (bRet (sC (.bl false))) (bNil)))))))
def envR (i n : Nat) (ts : List (Nat × Nat)) (W : Str) (x2 x3 x5 : Option D) : Ev := [some (.ref i), some (.str W), x2, x3, some (.int n), x5, some (tiesD ts), some (webD n ts), none, none, none, none, none]
theorem body_of {n i : Nat} {ts : List (Nat × Nat)} {W : Str} (T : Ties n ts) (hW : low W) (hWl : W.length ≤ 300) {A : AH} (hB : Bgs A) (hi : i < A.length) (x2 x3 x5 : Option D) :
    ∃ (A' : AH) (y3 y5 : Option D), bodyR (envR i n ts W x2 x3 x5) A = .nx (envR i n ts W x2 y3 y5) A' ∧ Bgs A' ∧ A'.length = A.length := by
  have s := T.size
  obtain ⟨y, A1, e1, o1, B1, l1⟩ := bent_of hB hi hW hWl
  obtain ⟨r, e2, cw⟩ := read_web_step B1 o1 (env := envR i n ts W x2 x3 (some (.str y))) rfl
  have cw1 := cw (envR i n ts W x2 (some (toldW r)) (some (.str y))) rfl rfl
  obtain ⟨V, A2, e3, v1, v2, B2, l2⟩ := own_signs T.few B1 (by omega : i < A1.length) (env := envR i n ts W x2 (some (toldW r)) (some (.str y))) rfl rfl rfl
  obtain ⟨y', A3, e4, o2, B3, l3⟩ := bent_of B2 (by omega : i < A2.length) v1 v2
  have cs := signs_step T B3 o2 (env := envR i n ts W x2 (some (toldW r)) (some (.str y'))) rfl rfl rfl rfl
  obtain ⟨U, A4, e5, u1, u2, B4, l4⟩ := own_hues s.2 B3 (by omega : i < A3.length) (env := envR i n ts W x2 (some (toldW r)) (some (.str y'))) rfl rfl rfl
  obtain ⟨y'', A5, e6, o3, B5, l5⟩ := bent_of B4 (by omega : i < A4.length) u1 u2
  have ch := hues_step T B5 o3 (env := envR i n ts W x2 (some (toldW r)) (some (.str y''))) rfl rfl rfl rfl
  refine ⟨A5, some (toldW r), some (.str y''), ?_, B5, by omega⟩
  have k1 : sCall m_law_bent (sCons (sVar 0) (sCons (sVar 1) (sNil))) (envR i n ts W x2 x3 x5) A = .ok (.str y) A1 := by
    simp [envR, e1]
  have k2 : sCall m_law_bent (sCons (sVar 0) (sCons signW (sNil))) (envR i n ts W x2 (some (toldW r)) (some (.str y))) A1 = .ok (.str y') A3 := by
    rw [e_sCall, e_sCons, e_sVar]
    show Res.bd (Res.bd (Res.ok (D.ref i) A1) _) _ = _
    rw [bind_ok, e_sCons, show signW (envR i n ts W x2 (some (toldW r)) (some (.str y))) A1 = .ok (.str V) A2 from e3, bind_ok, e_sNil, bind_ok, bind_ok, bind_ok, e4]
  have k3 : sCall m_law_bent (sCons (sVar 0) (sCons hueX (sNil))) (envR i n ts W x2 (some (toldW r)) (some (.str y'))) A3 = .ok (.str y'') A5 := by
    rw [e_sCall, e_sCons, e_sVar]
    show Res.bd (Res.bd (Res.ok (D.ref i) A3) _) _ = _
    rw [bind_ok, e_sCons, show hueX (envR i n ts W x2 (some (toldW r)) (some (.str y'))) A3 = .ok (.str U) A4 from e5, bind_ok, e_sNil, bind_ok, bind_ok, bind_ok, e6]
  have set5 : ∀ x3 x5 d, gNm 5 (envR i n ts W x2 x3 x5) d = some (envR i n ts W x2 x3 (some d)) := fun _ _ _ => rfl
  have set3 : ∀ x3 x5 d, gNm 3 (envR i n ts W x2 x3 x5) d = some (envR i n ts W x2 (some d) x5) := fun _ _ _ => rfl
  unfold bodyR
  rw [e_bSeq, e_bSet, k1, lft_ok, set5, stTo_some, seq_nx, e_bSeq, e_bSet, show readW (envR i n ts W x2 x3 (some (.str y))) A1 = .ok (toldW r) A1 from e2, lft_ok, set3, stTo_some, seq_nx, e_bSeq, e_bIf, cw1, lft_ok, cnd_f, e_bNil, seq_nx,
    e_bSeq, e_bSet, k2, lft_ok, set5, stTo_some, seq_nx, e_bSeq, e_bIf, cs, lft_ok, cnd_f, e_bNil, seq_nx, e_bSeq, e_bSet, k3, lft_ok, set5, stTo_some, seq_nx, e_bIf, ch, lft_ok, cnd_f, e_bNil]
theorem loopR {n i : Nat} {ts : List (Nat × Nat)} {W : Str} (T : Ties n ts) (hW : low W) (hWl : W.length ≤ 300) : ∀ (k : Nat) (lo : Int) (A : AH) (x2 x3 x5 : Option D), Bgs A → i < A.length →
    ∃ (A' : AH) (y2 y3 y5 : Option D), forL (gNm 2) bodyR (rngL lo 1 k) (envR i n ts W x2 x3 x5) A = .nx (envR i n ts W y2 y3 y5) A' ∧ Bgs A' ∧ A'.length = A.length
  | 0, lo, A, x2, x3, x5, hB, hi => ⟨A, x2, x3, x5, rfl, hB, rfl⟩
  | k + 1, lo, A, x2, x3, x5, hB, hi => by
    obtain ⟨A1, y3, y5, e1, B1, l1⟩ := body_of T hW hWl hB hi (some (.int lo)) x3 x5
    obtain ⟨A2, z2, z3, z5, e2, B2, l2⟩ := loopR (i := i) T hW hWl k (lo + 1) A1 (some (.int lo)) y3 y5 B1 (by omega)
    refine ⟨A2, z2, z3, z5, ?_, B2, by omega⟩
    show forL _ _ (D.int lo :: rngL (lo + 1) 1 k) _ _ = _
    unfold forL
    rw [show gNm 2 (envR i n ts W x2 x3 x5) (D.int lo) = some (envR i n ts W (some (.int lo)) x3 x5) from rfl]
    simp only
    rw [e1]
    exact e2
theorem right_of {A : AH} (h : Bgs A) {i : Nat} (hi : i < A.length) : ∃ A', m_law_right [.ref i] A = .ok (.bl true) A' ∧ Bgs A' ∧ A'.length = A.length := by
  obtain ⟨r, A1, e1, r1, B1, l1⟩ := draw_of h [] hi 7 (by decide) (by decide)
  simp only [List.append_nil] at e1
  have e1' : m_law_draw [.ref i, .int 7] A = .ok (.int r) A1 := e1
  obtain ⟨n, hn0, hn⟩ : ∃ n : Nat, (1 : Int) + r = n ∧ (1 ≤ n ∧ n ≤ 7) := ⟨1 + r, by omega, by omega⟩
  obtain ⟨ts, A2, e2, T, B2, l2⟩ := ties_of B1 (by omega : i < A1.length) hn
  have mk := make_of T B2.flat
  obtain ⟨W, w1, w2, w3⟩ := own_web T (env := [some (.ref i), none, none, none, some (.int n), none, some (tiesD ts), none, none, none, none, none, none]) (A := A2) rfl rfl rfl
  obtain ⟨A3, y2, y3, y5, e3, B3, l3⟩ := loopR (i := i) T w2 w3 6 0 A2 none none none B2 (by omega)
  have ir : ∀ e A', iRange1 (sCons (sC (.int 6)) sNil) e A' = .ok (rngL 0 1 6) A' := fun e A' => range1_ok (k := 6) rfl (by decide)
  have cl := clean_same (A := A3) (.bl true)
  rw [show A3.length = A.length by omega] at cl
  have ga : gAdd (.int 1) (.int r) A1 = .ok (.int n) A1 := by show Res.ok (D.int (1 + r)) A1 = _; rw [hn0]
  refine ⟨A3, ?_, B3, by omega⟩
  rw [u_law_right]
  unfold b_law_right
  rw [e_bSeq, e_bSet]
  rw [show sBin gAdd (sC (.int 1)) (sCall m_law_draw (sCons (sVar 0) (sCons (sC (.int 7)) (sNil)))) [some (.ref i), none, none, none, none, none, none, none, none, none, none, none, none] A = .ok (.int n) A1 by simp [e1', ga]]
  rw [lft_ok, e_gNm, stTo_some, seq_nx, e_bSeq, e_bSet]
  rw [show sCall m_law_ties (sCons (sVar 0) (sCons (sVar 4) (sCons (sC (.int 14)) (sNil)))) (List.set [some (.ref i), none, none, none, none, none, none, none, none, none, none, none, none] 4 (some (.int n))) A1 = .ok (tiesD ts) A2 by simp [e2]]
  rw [lft_ok, e_gNm, stTo_some, seq_nx, e_bSeq, e_bSet]
  simp only [List.set_cons_succ, List.set_cons_zero, e_sTup, e_sCons, e_sCall, e_sVar, List.getElem?_cons_succ, List.getElem?_cons_zero, e_sNil, bind_ok, mk, w1, List.length_cons, List.length_nil, size_line, Nat.reduceAdd, Nat.reduceLeDiff, if_true, lft_ok, e_gTp, e_gMore, e_gNm, e_gEnd, Option.bind_some, stTo_some, seq_nx]
  rw [e_bSeq, e_bFor, ir, lft_ok]
  simp only [bodyR, readW, condW, condS, condH, signW, hueX, envR] at e3
  rw [e3]
  rw [seq_nx, e_bRet, e_sC, lft_ok, fin_rt, cl]
end Lw
namespace Lw
open PySem PySem.Spec
open PyProof.Rows L2 F3
abbrev bodyL : Ev → AH → SR := bSeq (bSet (gNm 2) (sCall m_law_bag (sCons (sVar 0) (sCons (sVar 1) (sNil))))) (bIf (sTest (sBin gNe (sLC [6] (iRange1 (sCons (sC (.int 4)) (sNil))) (gNm 6) (sNotT (sTest (sCall m_law_right (sCons (sVar 2) (sNil))))) (sC (.int 1))) (sLst (sNil)))) (bRet (sC (.bl false))) (bNil))
theorem cell_of (ns : List Int) (hn : ns.length ≤ 63) (at_ : Nat) (h : at_ < 3) {A : AH} (hA : Bgs A) (x2 : Option D) :
    ∃ (A' : AH) (y2 : Option D), bodyL [some (.scr (ns.map .int)), some (.int at_), x2, none, none, none, none, none] A = .nx [some (.scr (ns.map .int)), some (.int at_), y2, none, none, none, none, none] A' ∧ Bgs A' := by
  obtain ⟨g, b, e1, b0, b1⟩ := bag_of ns hn at_ h A
  have B1 : Bgs (A ++ [.lst [.int g, .int b]]) := fun o ho => by
    rcases List.mem_append.mp ho with q | q
    · exact hA o q
    · rw [List.mem_singleton.mp q]; exact ⟨g, b, rfl, b0, b1⟩
  obtain ⟨A2, k1, B2, l2⟩ := compL_none (st := gNm 6) (t := sNotT (sTest (sCall m_law_right (sCons (sVar 2) (sNil))))) (f := sC (.int 1)) (env := [some (.scr (ns.map .int)), some (.int at_), some (.ref A.length), none, none, none, none, none]) (fun X => Bgs X ∧ X.length = A.length + 1) (rngL 0 1 4) (A ++ [.lst [.int g, .int b]]) ⟨B1, by simp⟩ fun d _ X ⟨hX, hL⟩ => by
    obtain ⟨X', q1, q2, q3⟩ := right_of hX (by omega : A.length < X.length)
    refine ⟨_, X', rfl, ?_, q2, by omega⟩
    simp [q1]
  have ir : ∀ e A', iRange1 (sCons (sC (.int 4)) sNil) e A' = .ok (rngL 0 1 4) A' := fun e A' => range1_ok (k := 4) rfl (by decide)
  have zr : (rngL 0 1 4).length ≤ 16777216 := by decide
  have en : gNe (.lst []) (.lst []) A2 = .ok (.bl false) A2 := by
    rw [gNe_of (d := .list []) (e := .list []) rfl rfl rfl rfl]; rfl
  refine ⟨A2, some (.ref A.length), ?_, B2⟩
  simp [e1, ir, wip, zr, k1, en]
theorem cells_of (ns : List Int) (hn : ns.length ≤ 63) : ∀ (k lo : Nat) (A : AH) (x1 x2 : Option D), Bgs A → lo + k ≤ 3 → ∃ (A' : AH) (y1 y2 : Option D), forL (gNm 1) bodyL (rngL lo 1 k) [some (.scr (ns.map .int)), x1, x2, none, none, none, none, none] A = .nx [some (.scr (ns.map .int)), y1, y2, none, none, none, none, none] A' ∧ Bgs A'
  | 0, lo, A, x1, x2, hA, _ => ⟨A, x1, x2, rfl, hA⟩
  | k + 1, lo, A, x1, x2, hA, hl => by
    obtain ⟨A1, y2, e1, B1⟩ := cell_of ns hn lo (by omega) hA x2
    obtain ⟨A2, z1, z2, e2, B2⟩ := cells_of ns hn k (lo + 1) A1 (some (.int lo)) y2 B1 (by omega)
    refine ⟨A2, z1, z2, ?_, B2⟩
    show forL _ _ (D.int lo :: rngL ((lo : Int) + 1) 1 k) _ _ = _
    unfold forL
    simp only [e_gNm, List.set_cons_succ, List.set_cons_zero]
    rw [e1]
    exact e2
/-! ### the told cases -/
def spotW (x : Str) : Option Nat := match webO (pcs 10 x).dropLast ((pcs 10 x).getLastD ⟨#[]⟩) with
  | .error k => some k
  | .ok _ => none
def spotL (o : Str → Option D) (x : Str) : Option Nat := match lineO o (pcs 10 x).dropLast ((pcs 10 x).getLastD ⟨#[]⟩) with
  | .error k => some k
  | .ok _ => none
theorem pcs_cut (x : Str) : pcs 10 x = (pcs 10 x).dropLast ++ [(pcs 10 x).getLastD ⟨#[]⟩] := by
  have h : pcs 10 x ≠ [] := by unfold pcs; simp [cutL_ne]
  have e : (pcs 10 x).getLastD ⟨#[]⟩ = (pcs 10 x).getLast h := by
    rw [List.getLastD_eq_getLast?, List.getLast?_eq_some_getLast h]; rfl
  rw [e, List.dropLast_concat_getLast]
def oktB (x : Str) : Bool := decide (x.length ≤ 2000) && (TL.tl x).all fun c => decide (c < 200)
theorem okt_of {x : Str} (h : oktB x = true) : Okt x := by
  unfold oktB at h
  simp only [Bool.and_eq_true, decide_eq_true_eq] at h
  exact ⟨h.1, fun c hc => by simpa using List.all_eq_true.mp h.2 c hc⟩
theorem ix0 (a b : D) (A : AH) : gIx (.tup [a, b]) (.int 0) A = .ok a A := rfl
theorem read_web_spot {A : AH} (hB : Bgs A) {x : Str} (hx : Okt x) {env : Ev} (h7 : env[7]? = some (some (.str x))) :
    sBin gIx (sCallL m_law_read (sLam bd0 (sCall m_read_web (sCons (sVar 7) (sNil)))) sNil) (sC (.int 0)) env A = .ok (optD (spotW x)) A := by
  have e := pcs_cut x
  have rw_ := read_web_any hx e hB.flat
  have φ : (sLam bd0 (sCall m_read_web (sCons (sVar 7) (sNil))) env) [] A = m_read_web [.str x] A := by
    show sCall m_read_web (sCons (sVar 7) (sNil)) env A = _
    simp [h7]
  unfold spotW
  generalize (pcs 10 x).dropLast = ls at *
  generalize (pcs 10 x).getLastD ⟨#[]⟩ = l at *
  have lr := law_read_any (φ := sLam bd0 (sCall m_read_web (sCons (sVar 7) (sNil))) env) hB.nfA (r := (webO ls l).map fun q => webD q.1 q.2) (fun d hd => by
      cases q : webO ls l with
      | error k => rw [q] at hd; cases hd
      | ok p => rw [q] at hd; cases hd; exact nf_web _ _) (by
      rw [φ, rw_]
      cases webO ls l <;> rfl)
  rw [e_sBin, e_sCallL, e_sNil, bind_ok, lr]
  cases webO ls l <;> rfl
theorem read_line_spot {A : AH} (hB : Bgs A) {o : Str → Option D} {φ : List D → AH → Res D} {x : Str}
    (ho : ∀ h d, o h = some d → nf d = true) (hφ : φ [] A = match lineO o (pcs 10 x).dropLast ((pcs 10 x).getLastD ⟨#[]⟩) with
      | .error k => .ex ⟨3, [.int k]⟩ A
      | .ok d => .ok d A) :
    (m_law_read φ [] A).bd (fun d A1 => gIx d (.int 0) A1) = .ok (optD (spotL o x)) A := by
  unfold spotL
  generalize (pcs 10 x).dropLast = ls at *
  generalize (pcs 10 x).getLastD ⟨#[]⟩ = l at *
  have lr := law_read_any (φ := φ) hB.nfA (r := lineO o ls l) (fun d hd => by
    obtain ⟨h, hx⟩ := lineO_ok hd
    exact ho h d hx) (by rw [hφ]; rfl)
  rw [lr]
  cases lineO o ls l <;> rfl
theorem two_ok : Ties 2 [(0, 1)] := ⟨by decide, by decide, by decide, by decide⟩
def texts1 : List Str := [⟨#[]⟩, ⟨#[112, 108, 97, 99, 101, 115, 32, 50, 10, 48, 45, 49, 10, 48, 45, 48, 10]⟩, ⟨#[112, 108, 97, 99, 101, 115, 32, 56, 10]⟩, ⟨#[112, 108, 97, 99, 101, 115, 32, 51]⟩, ⟨#[112, 108, 97, 99, 101, 115, 32, 49, 10, 10]⟩, ⟨#[80, 108, 97, 99, 101, 115, 32, 49, 10]⟩, ⟨#[112, 108, 97, 99, 101, 115, 32, 48, 49, 10]⟩, ⟨#[112, 108, 97, 99, 101, 115, 32, 50, 10, 48, 45, 49]⟩]
def texts2 : List Str := [⟨#[112, 108, 97, 99, 101, 115, 32, 49, 10]⟩ ++ mulS ⟨#[48, 45, 48, 10]⟩ 15, ⟨#[112, 108, 97, 99, 101, 115, 32, 50, 10, 49, 45, 48, 10]⟩]
def texts3 : List Str := [⟨#[62]⟩, ⟨#[62, 10]⟩, ⟨#[62, 10, 10]⟩, ⟨#[62, 32, 10]⟩, ⟨#[62, 10, 120]⟩, ⟨#[]⟩]
def texts4 : List Str := [⟨#[104, 117, 101, 115, 32, 48, 32, 57, 10]⟩, ⟨#[104, 117, 101, 115, 32, 48, 32, 49, 48, 10]⟩, ⟨#[104, 117, 101, 115, 32, 48, 10]⟩, ⟨#[104, 117, 101, 115, 32, 32, 48, 32, 49, 10]⟩, ⟨#[104, 117, 101, 115, 32, 48, 32, 49, 10, 10]⟩]
theorem ok12 : (texts1 ++ texts2).all oktB = true := by decide +kernel
theorem ok3 : texts3.all oktB = true := by decide +kernel
theorem ok4 : texts4.all oktB = true := by decide +kernel
def want1 : List (Option Nat) := [some 0, some 2, some 0, some 0, some 1, some 0, some 0, some 1, some 15, some 1]
def want2 : List (Option Nat) := [some 0, none, some 1, some 0, some 1, some 0]
def want3 : List (Option Nat) := [none, some 0, some 0, some 0, some 1]
theorem is1 : (texts1 ++ texts2).map spotW = want1 := by decide +kernel
theorem is2 : texts3.map (spotL (signsO 1)) = want2 := by decide +kernel
theorem is3 : texts4.map (spotL (huesO 2)) = want3 := by decide +kernel
theorem spots {f : Ev → AH → Res D} {A : AH} {sp : Str → Option Nat} (ts : List Str) (env : Ev) (hl : env.length = 8) (h : ∀ x ∈ ts, ∀ env1 : Ev, env1 = env.set 7 (some (.str x)) → f env1 A = .ok (optD (sp x)) A) :
    compL (gNm 7) tTrue f (ts.map .str) env A = .ok ((ts.map sp).map optD) A := by
  have := compL_map (st := gNm 7) (t := tTrue) (f := f) (A := A) (env := env) (g := fun d => match d with | .str x => optD (sp x) | d => d) (ts.map .str) fun d hd => by
    obtain ⟨x, hx, rfl⟩ := List.mem_map.mp hd
    exact ⟨_, rfl, rfl, h x hx _ rfl⟩
  rw [this, List.map_map, List.map_map]; rfl
theorem add_opts (a b : List (Option Nat)) (h : a.length + b.length ≤ 1000) (A : AH) : gAdd (.lst (a.map optD)) (.lst (b.map optD)) A = .ok (.lst ((a ++ b).map optD)) A := by
  unfold gAdd
  simp only [asM]
  rw [if_pos (by rw [List.length_map, List.length_map]; show _ ≤ 16777216; omega), List.map_append]
theorem eq_opts (os : List (Option Nat)) (A : AH) : gEq (.lst (os.map optD)) (.lst (os.map optD)) A = .ok (.bl true) A := by
  obtain ⟨q1, q2⟩ := lay_opts os
  have tp : toP (.lst (os.map optD)) = some (.list (os.map optP)) := by unfold toP; rw [toPs_opts]; rfl
  have s := shaped_list q1 (by omega : PyData.depthAll (os.map optP) ≤ 60)
  rw [gEq_of (A := A) (x := .lst (os.map optD)) (y := .lst (os.map optD)) (d := .list (os.map optP)) (e := .list (os.map optP)) tp tp s s, SeqAt.eqv_refl (.list (os.map optP)) (by unfold PyData.canLay0; exact q1)]
theorem set7 {env : Ev} {d : D} (h : env.length = 8) : (env.set 7 (some d))[7]? = some (some d) := by rw [List.getElem?_set_self (by omega)]
theorem set7' {env : Ev} {d x : D} (h : env[5]? = some (some x)) : (env.set 7 (some d))[5]? = some (some x) := by rw [List.getElem?_set_ne (by decide)]; exact h
abbrev rdS : Ev → AH → Res D := sBin gIx (sCallL m_law_read (sLam bd0 (sCall m_read_signs (sCons (sVar 5) (sCons (sVar 7) (sNil))))) sNil) (sC (.int 0))
abbrev rdH : Ev → AH → Res D := sBin gIx (sCallL m_law_read (sLam bd0 (sCall m_read_hues (sCons (sVar 5) (sCons (sVar 7) (sNil))))) sNil) (sC (.int 0))
abbrev rdW : Ev → AH → Res D := sBin gIx (sCallL m_law_read (sLam bd0 (sCall m_read_web (sCons (sVar 7) (sNil)))) sNil) (sC (.int 0))
theorem rdS_spot {A : AH} (hB : Bgs A) {x : Str} (hx : Okt x) {env : Ev} (h7 : env[7]? = some (some (.str x))) (h5 : env[5]? = some (some (webD 2 [(0, 1)]))) : rdS env A = .ok (optD (spotL (signsO 1) x)) A := by
  have rs := read_signs_any two_ok hx (pcs_cut x) A
  have hφ : (sLam bd0 (sCall m_read_signs (sCons (sVar 5) (sCons (sVar 7) (sNil)))) env) [] A = m_read_signs [webD 2 [(0, 1)], .str x] A := by
    show sCall m_read_signs (sCons (sVar 5) (sCons (sVar 7) (sNil))) env A = _
    simp [h5, h7]
  exact read_line_spot hB (o := signsO 1) (fun h d hd => (nf_signs hd A).1) (hφ.trans rs)
theorem rdH_spot {A : AH} (hB : Bgs A) {x : Str} (hx : Okt x) {env : Ev} (h7 : env[7]? = some (some (.str x))) (h5 : env[5]? = some (some (webD 2 [(0, 1)]))) : rdH env A = .ok (optD (spotL (huesO 2) x)) A := by
  have rs := read_hues_any two_ok hx (pcs_cut x) A
  have hφ : (sLam bd0 (sCall m_read_hues (sCons (sVar 5) (sCons (sVar 7) (sNil)))) env) [] A = m_read_hues [webD 2 [(0, 1)], .str x] A := by
    show sCall m_read_hues (sCons (sVar 5) (sCons (sVar 7) (sNil))) env A = _
    simp [h5, h7]
  exact read_line_spot hB (o := huesO 2) (fun h d hd => (nf_hues hd A).1) (hφ.trans rs)
theorem plain (ns : List Int) (hn : ns.length ≤ 63) : ∃ A, m_law [.scr (ns.map .int)] [] = .ok (.bl true) A := by
  obtain ⟨A, y1, y2, e1, B⟩ := cells_of ns hn (max 1 (min 3 ns.length)) 0 [] none none (fun o h => nomatch h) (by omega)
  have ir : iRange1 (sCons (sCall gMax2 (sCons (sC (.int 1)) (sCons (sCall gMin2 (sCons (sC (.int 3)) (sCons (sCall gLen (sCons (sVar 0) (sNil))) (sNil)))) (sNil)))) (sNil)) [some (.scr (ns.map .int)), none, none, none, none, none, none, none] [] = .ok (rngL 0 1 (max 1 (min 3 ns.length))) [] := by
    refine range1_ok ?_ (by omega)
    simp [gLen, asL, gMin2, gMax2]
    split <;> split <;> omega
  have e1' : forL (gNm 1) bodyL (rngL 0 1 (max 1 (min 3 ns.length))) [some (.scr (ns.map .int)), none, none, none, none, none, none, none] [] = .nx [some (.scr (ns.map .int)), y1, y2, none, none, none, none, none] A := e1
  have mk : mMake 0 m_Web_init [.int 2, .tup [.tup [.int 0, .int 1]]] A = .ok (webD 2 [(0, 1)]) A := make_of two_ok B.flat
  have all12 : ∀ x ∈ texts1 ++ texts2, Okt x := fun x hx => okt_of (List.all_eq_true.mp ok12 x hx)
  have all3 : ∀ x ∈ texts3, Okt x := fun x hx => okt_of (List.all_eq_true.mp ok3 x hx)
  have all4 : ∀ x ∈ texts4, Okt x := fun x hx => okt_of (List.all_eq_true.mp ok4 x hx)
  have c1 := fun (env : Ev) (hl : env.length = 8) => spots (f := rdW) (A := A) (sp := spotW) (texts1 ++ texts2) env hl fun x hx env1 he => by
    subst he; exact read_web_spot B (all12 x hx) (set7 hl)
  have c2 := fun (env : Ev) (hl : env.length = 8) (h5 : env[5]? = some (some (webD 2 [(0, 1)]))) => spots (f := rdS) (A := A) (sp := spotL (signsO 1)) texts3 env hl fun x hx env1 he => by
    subst he; exact rdS_spot B (all3 x hx) (set7 hl) (set7' h5)
  have c3 := fun (env : Ev) (hl : env.length = 8) (h5 : env[5]? = some (some (webD 2 [(0, 1)]))) => spots (f := rdH) (A := A) (sp := spotL (huesO 2)) texts4 env hl fun x hx env1 he => by
    subst he; exact rdH_spot B (all4 x hx) (set7 hl) (set7' h5)
  rw [is1] at c1
  rw [is2] at c2
  rw [is3] at c3
  have lawN : ∃ A', clean 0 (.bl true) A = .ok (.bl true) A' := by
    unfold clean
    split
    · exact ⟨_, rfl⟩
    · have : frz A 0 30 (.bl true) = some (.bl true) := rfl
      rw [this]
      simp only
      split <;> exact ⟨_, rfl⟩
  obtain ⟨A', hA'⟩ := lawN
  refine ⟨A', ?_⟩
  have t1 : ∀ e, sLst (sCons (sC (.str ⟨#[]⟩)) (sCons (sC (.str ⟨#[112, 108, 97, 99, 101, 115, 32, 50, 10, 48, 45, 49, 10, 48, 45, 48, 10]⟩)) (sCons (sC (.str ⟨#[112, 108, 97, 99, 101, 115, 32, 56, 10]⟩)) (sCons (sC (.str ⟨#[112, 108, 97, 99, 101, 115, 32, 51]⟩)) (sCons (sC (.str ⟨#[112, 108, 97, 99, 101, 115, 32, 49, 10, 10]⟩)) (sCons (sC (.str ⟨#[80, 108, 97, 99, 101, 115, 32, 49, 10]⟩)) (sCons (sC (.str ⟨#[112, 108, 97, 99, 101, 115, 32, 48, 49, 10]⟩)) (sCons (sC (.str ⟨#[112, 108, 97, 99, 101, 115, 32, 50, 10, 48, 45, 49]⟩)) (sNil))))))))) e A = .ok (.lst (texts1.map .str)) A := fun e => by
    simp [texts1]
  have lm : (mulS ⟨#[48, 45, 48, 10]⟩ 15).length = 60 := by decide +kernel
  have ml : gMulS (.str ⟨#[48, 45, 48, 10]⟩) (.int 15) A = .ok (.str (mulS ⟨#[48, 45, 48, 10]⟩ 15)) A := by
    unfold gMulS
    simp only
    rw [if_pos ⟨by decide, by decide, by decide +kernel⟩]; rfl
  have ap := gAdd_str (x := ⟨#[112, 108, 97, 99, 101, 115, 32, 49, 10]⟩) (y := mulS ⟨#[48, 45, 48, 10]⟩ 15) rfl (by rw [lm]; show 9 + 60 ≤ 16777216; decide) A
  have t2 : ∀ e, sLst (sCons (sBin gAdd (sC (.str ⟨#[112, 108, 97, 99, 101, 115, 32, 49, 10]⟩)) (sBin gMulS (sC (.str ⟨#[48, 45, 48, 10]⟩)) (sC (.int 15)))) (sCons (sC (.str ⟨#[112, 108, 97, 99, 101, 115, 32, 50, 10, 49, 45, 48, 10]⟩)) (sNil))) e A = .ok (.lst (texts2.map .str)) A := fun e => by
    simp [texts2, ml, ap]
  have t12 := add_lsts texts1 texts2 (by decide) A
  have t3 : ∀ e, sTup (sCons (sC (.str ⟨#[62]⟩)) (sCons (sC (.str ⟨#[62, 10]⟩)) (sCons (sC (.str ⟨#[62, 10, 10]⟩)) (sCons (sC (.str ⟨#[62, 32, 10]⟩)) (sCons (sC (.str ⟨#[62, 10, 120]⟩)) (sCons (sC (.str ⟨#[]⟩)) (sNil))))))) e A = .ok (.tup (texts3.map .str)) A := fun e => by
    simp [texts3]
  have t4 : ∀ e, sTup (sCons (sC (.str ⟨#[104, 117, 101, 115, 32, 48, 32, 57, 10]⟩)) (sCons (sC (.str ⟨#[104, 117, 101, 115, 32, 48, 32, 49, 48, 10]⟩)) (sCons (sC (.str ⟨#[104, 117, 101, 115, 32, 48, 10]⟩)) (sCons (sC (.str ⟨#[104, 117, 101, 115, 32, 32, 48, 32, 49, 10]⟩)) (sCons (sC (.str ⟨#[104, 117, 101, 115, 32, 48, 32, 49, 10, 10]⟩)) (sNil)))))) e A = .ok (.tup (texts4.map .str)) A := fun e => by
    simp [texts4]
  have u1 := add_opts want1 want2 (by decide) A
  have u2 := add_opts (want1 ++ want2) want3 (by decide) A
  have eq := eq_opts (want1 ++ want2 ++ want3) A
  have w1 : ∀ e, sLst (sCons (sC (.int 0)) (sCons (sC (.int 2)) (sCons (sC (.int 0)) (sCons (sC (.int 0)) (sCons (sC (.int 1)) (sCons (sC (.int 0)) (sCons (sC (.int 0)) (sCons (sC (.int 1)) (sCons (sC (.int 15)) (sCons (sC (.int 1)) (sNil))))))))))) e A = .ok (.lst (want1.map optD)) A := fun e => by
    simp [want1, optD]
  have w2 : ∀ e, sLst (sCons (sC (.int 0)) (sCons (sC .non) (sCons (sC (.int 1)) (sCons (sC (.int 0)) (sCons (sC (.int 1)) (sCons (sC (.int 0)) (sNil))))))) e A = .ok (.lst (want2.map optD)) A := fun e => by
    simp [want2, optD]
  have w3 : ∀ e, sLst (sCons (sC .non) (sCons (sC (.int 0)) (sCons (sC (.int 0)) (sCons (sC (.int 0)) (sCons (sC (.int 1)) (sNil)))))) e A = .ok (.lst (want3.map optD)) A := fun e => by
    simp [want3, optD]
  have z1 : ((texts1 ++ texts2).map D.str).length ≤ 16777216 := by decide
  have z3 : (texts3.map D.str).length ≤ 16777216 := by decide
  have z4 : (texts4.map D.str).length ≤ 16777216 := by decide
  have mkw : ∀ e, sCall (mMake 0 m_Web_init) (sCons (sC (.int 2)) (sCons (sTup (sCons (sTup (sCons (sC (.int 0)) (sCons (sC (.int 1)) (sNil)))) (sNil))) (sNil))) e A = .ok (webD 2 [(0, 1)]) A := fun e => by
    simp [mk]
  generalize hT1 : texts1.map D.str = T1 at *
  generalize hT2 : texts2.map D.str = T2 at *
  generalize hT3 : texts3.map D.str = T3 at *
  generalize hT4 : texts4.map D.str = T4 at *
  generalize hT12 : (texts1 ++ texts2).map D.str = T12 at *
  generalize hW12 : (want1 ++ want2).map optD = W12 at *
  generalize hW123 : (want1 ++ want2 ++ want3).map optD = W123 at *
  generalize hW1 : want1.map optD = W1 at *
  generalize hW2 : want2.map optD = W2 at *
  generalize hW3 : want3.map optD = W3 at *
  rw [u_law]
  unfold b_law
  simp only [e_bSeq, e_bFor, ir, lft_ok]
  rw [e1']
  have z1' : T12.length ≤ sizeLine := z1
  have z3' : T3.length ≤ sizeLine := z3
  have z4' : T4.length ≤ sizeLine := z4
  simp only [rdW] at c1
  simp only [rdS] at c2
  simp only [rdH] at c3
  simp only [seq_nx, e_bSeq, e_bSet, t1, t2, t3, t4, lft_ok, e_gNm, stTo_some, List.set_cons_succ, List.set_cons_zero, e_sBin, e_sVar, List.getElem?_cons_succ, List.getElem?_cons_zero, bind_ok, t12]
  rw [e_sLC]
  simp only [e_iOf, e_sVar, List.getElem?_cons_succ, List.getElem?_cons_zero, bind_ok]
  rw [if_pos z1', c1 _ rfl]
  simp only [bind_ok, seq_nx, e_bSeq, e_bSet, lft_ok, e_gNm, stTo_some, List.set_cons_succ, List.set_cons_zero, mkw, e_sBin, e_sVar, List.getElem?_cons_succ, List.getElem?_cons_zero]
  rw [e_sLC]
  simp only [e_iOf, t3, bind_ok]
  rw [if_pos z3', c2 _ rfl rfl]
  simp only [bind_ok, u1, seq_nx, e_bSeq, e_bSet, lft_ok, e_gNm, stTo_some, List.set_cons_succ, List.set_cons_zero, e_sBin, e_sVar, List.getElem?_cons_succ, List.getElem?_cons_zero]
  rw [e_sLC]
  simp only [e_iOf, t4, bind_ok]
  rw [if_pos z4', c3 _ rfl rfl]
  simp only [bind_ok, u2, seq_nx, e_bRet, lft_ok, e_gNm, stTo_some, List.set_cons_succ, List.set_cons_zero, e_sBin, e_sVar, List.getElem?_cons_succ, List.getElem?_cons_zero, w1, w2, w3, u1, eq, fin_rt, List.length_nil]
  exact hA'
end Lw
namespace Lw
open PySem PySem.Spec
open PyProof.Rows L2 F3
def top (i : Nat) : Stmt := PySem.Challenge.pw_flowhues_k89_whole_texts_with_faults.main.body.getD i (.Pass ⟨0, 0, 0, 0⟩)
abbrev st_law_bag : Stmt := top 39
abbrev st_law_draw : Stmt := top 40
abbrev st_law_one_of : Stmt := top 41
abbrev st_law_ties : Stmt := top 42
abbrev st_is_int : Stmt := top 8
abbrev st_is_whole : Stmt := top 9
abbrev st_is_within : Stmt := top 10
abbrev st_require_size : Stmt := top 16
abbrev st_are_ties : Stmt := top 14
abbrev st_Web_init : Stmt := inClass (top 15) 1
abbrev st_law_bent : Stmt := top 48
abbrev st_law_read : Stmt := top 49
abbrev st_require_text : Stmt := top 34
abbrev st_whole_lines : Stmt := top 29
abbrev st_number_of : Stmt := top 27
abbrev st_size_from : Stmt := top 30
abbrev st_numbers_of : Stmt := top 28
abbrev st_tie_from : Stmt := top 31
abbrev st_read_web : Stmt := top 35
abbrev st_Web_size : Stmt := inClass (top 15) 2
abbrev st_Web_ties : Stmt := inClass (top 15) 3
abbrev st_law_number : Stmt := top 43
abbrev st_law_of_web : Stmt := top 44
abbrev st_require_web : Stmt := top 17
abbrev st_alone_line : Stmt := top 32
abbrev st_read_signs : Stmt := top 36
abbrev st_law_of_line : Stmt := top 45
abbrev st_law_signs_of : Stmt := top 46
abbrev st_are_hues_in : Stmt := top 33
abbrev st_read_hues : Stmt := top 37
abbrev st_law_hues_of : Stmt := top 47
abbrev st_law_right : Stmt := top 50
abbrev st_law : Stmt := top 51
structure Ad where
  law_bag : Addr
  law_draw : Addr
  law_one_of : Addr
  law_ties : Addr
  is_int : Addr
  is_whole : Addr
  is_within : Addr
  require_size : Addr
  are_ties : Addr
  Web_init : Addr
  law_bent : Addr
  law_read : Addr
  require_text : Addr
  whole_lines : Addr
  number_of : Addr
  size_from : Addr
  numbers_of : Addr
  tie_from : Addr
  read_web : Addr
  Web_size : Addr
  Web_ties : Addr
  law_number : Addr
  law_of_web : Addr
  require_web : Addr
  alone_line : Addr
  read_signs : Addr
  law_of_line : Addr
  law_signs_of : Addr
  are_hues_in : Addr
  read_hues : Addr
  law_hues_of : Addr
  law_right : Addr
  law : Addr
  c_Web : Addr
  s_own_size : Addr
  s_own_ties : Addr
  p_size : Addr
  p_ties : Addr
  k_law_right : Addr
  t_law_right : Addr
  k_law : Addr
  t_law : Addr
  x_InvalidWeb : Addr
  x_InvalidText : Addr
  x_ParseError : Addr
  x_InvalidNumber : Addr
  i_ParseError : Addr
  i_InvalidNumber : Addr
def clsOf (a : Ad) : Nat → Option Addr := fun c => if c = 0 then some a.c_Web else none
def xclOf (a : Ad) : Nat → Option Addr := fun c => if c = 1 then some a.x_InvalidWeb else if c = 2 then some a.x_InvalidText else if c = 3 then some a.x_ParseError else if c = 4 then some a.x_InvalidNumber else none
def xflOf : Nat → Str := fun c => if c = 3 then "spot" else if c = 4 then "given" else ""
abbrev qn_law_right : Str := (("_law_right" : Str) ++ ".<locals>.") ++ "<lambda>"
abbrev qn_law : Str := (("law" : Str) ++ ".<locals>.") ++ "<lambda>"
def tabsOf (a : Ad) : List (Addr × Str) := [(a.t_law_right, qn_law_right), (a.t_law, qn_law)]
def codesOf (a : Ad) : List (Addr × Addr) := [(a.k_law_right, a.t_law_right), (a.k_law, a.t_law)]
def gcOf (K : PySem.W.Frag) (a : Ad) : Gc := ⟨K, clsOf a, xclOf a, tabsOf a, xflOf, none⟩
abbrev sx_ParseError : Stmt := inClass (top 4) 0
abbrev sx_InvalidNumber : Stmt := inClass (top 5) 0
structure Tx (P : Program) (K : PySem.W.Frag) (mg : Str → Option Value) (base : Heap) (a : Ad) (G : Gc) : Prop where
  gk : G.K = K
  f_law_bag : ∃ fd, Fun K "_law_bag" "_law_bag" st_law_bag a.law_bag fd
  g_law_bag : mg "_law_bag" = some (.ref a.law_bag)
  k_law_bag : PySem.W.keepIn K (.ref a.law_bag) = true
  f_law_draw : ∃ fd, Fun K "_law_draw" "_law_draw" st_law_draw a.law_draw fd
  g_law_draw : mg "_law_draw" = some (.ref a.law_draw)
  k_law_draw : PySem.W.keepIn K (.ref a.law_draw) = true
  f_law_one_of : ∃ fd, Fun K "_law_one_of" "_law_one_of" st_law_one_of a.law_one_of fd
  g_law_one_of : mg "_law_one_of" = some (.ref a.law_one_of)
  k_law_one_of : PySem.W.keepIn K (.ref a.law_one_of) = true
  f_law_ties : ∃ fd, Fun K "_law_ties" "_law_ties" st_law_ties a.law_ties fd
  g_law_ties : mg "_law_ties" = some (.ref a.law_ties)
  k_law_ties : PySem.W.keepIn K (.ref a.law_ties) = true
  f_is_int : ∃ fd, Fun K "is_int" "is_int" st_is_int a.is_int fd
  g_is_int : mg "is_int" = some (.ref a.is_int)
  k_is_int : PySem.W.keepIn K (.ref a.is_int) = true
  f_is_whole : ∃ fd, Fun K "is_whole" "is_whole" st_is_whole a.is_whole fd
  g_is_whole : mg "is_whole" = some (.ref a.is_whole)
  k_is_whole : PySem.W.keepIn K (.ref a.is_whole) = true
  f_is_within : ∃ fd, Fun K "is_within" "is_within" st_is_within a.is_within fd
  g_is_within : mg "is_within" = some (.ref a.is_within)
  k_is_within : PySem.W.keepIn K (.ref a.is_within) = true
  f_require_size : ∃ fd, Fun K "require_size" "require_size" st_require_size a.require_size fd
  g_require_size : mg "require_size" = some (.ref a.require_size)
  k_require_size : PySem.W.keepIn K (.ref a.require_size) = true
  f_are_ties : ∃ fd, Fun K "are_ties" "are_ties" st_are_ties a.are_ties fd
  g_are_ties : mg "are_ties" = some (.ref a.are_ties)
  k_are_ties : PySem.W.keepIn K (.ref a.are_ties) = true
  f_Web_init : ∃ fd, Fun K "__init__" "Web.__init__" st_Web_init a.Web_init fd
  f_law_bent : ∃ fd, Fun K "_law_bent" "_law_bent" st_law_bent a.law_bent fd
  g_law_bent : mg "_law_bent" = some (.ref a.law_bent)
  k_law_bent : PySem.W.keepIn K (.ref a.law_bent) = true
  f_law_read : ∃ fd, Fun K "_law_read" "_law_read" st_law_read a.law_read fd
  g_law_read : mg "_law_read" = some (.ref a.law_read)
  k_law_read : PySem.W.keepIn K (.ref a.law_read) = true
  f_require_text : ∃ fd, Fun K "require_text" "require_text" st_require_text a.require_text fd
  g_require_text : mg "require_text" = some (.ref a.require_text)
  k_require_text : PySem.W.keepIn K (.ref a.require_text) = true
  f_whole_lines : ∃ fd, Fun K "whole_lines" "whole_lines" st_whole_lines a.whole_lines fd
  g_whole_lines : mg "whole_lines" = some (.ref a.whole_lines)
  k_whole_lines : PySem.W.keepIn K (.ref a.whole_lines) = true
  f_number_of : ∃ fd, Fun K "number_of" "number_of" st_number_of a.number_of fd
  g_number_of : mg "number_of" = some (.ref a.number_of)
  k_number_of : PySem.W.keepIn K (.ref a.number_of) = true
  f_size_from : ∃ fd, Fun K "size_from" "size_from" st_size_from a.size_from fd
  g_size_from : mg "size_from" = some (.ref a.size_from)
  k_size_from : PySem.W.keepIn K (.ref a.size_from) = true
  f_numbers_of : ∃ fd, Fun K "numbers_of" "numbers_of" st_numbers_of a.numbers_of fd
  g_numbers_of : mg "numbers_of" = some (.ref a.numbers_of)
  k_numbers_of : PySem.W.keepIn K (.ref a.numbers_of) = true
  f_tie_from : ∃ fd, Fun K "tie_from" "tie_from" st_tie_from a.tie_from fd
  g_tie_from : mg "tie_from" = some (.ref a.tie_from)
  k_tie_from : PySem.W.keepIn K (.ref a.tie_from) = true
  f_read_web : ∃ fd, Fun K "read_web" "read_web" st_read_web a.read_web fd
  g_read_web : mg "read_web" = some (.ref a.read_web)
  k_read_web : PySem.W.keepIn K (.ref a.read_web) = true
  f_Web_size : ∃ fd, Fun K "size" "Web.size" st_Web_size a.Web_size fd
  f_Web_ties : ∃ fd, Fun K "ties" "Web.ties" st_Web_ties a.Web_ties fd
  f_law_number : ∃ fd, Fun K "_law_number" "_law_number" st_law_number a.law_number fd
  g_law_number : mg "_law_number" = some (.ref a.law_number)
  k_law_number : PySem.W.keepIn K (.ref a.law_number) = true
  f_law_of_web : ∃ fd, Fun K "_law_of_web" "_law_of_web" st_law_of_web a.law_of_web fd
  g_law_of_web : mg "_law_of_web" = some (.ref a.law_of_web)
  k_law_of_web : PySem.W.keepIn K (.ref a.law_of_web) = true
  f_require_web : ∃ fd, Fun K "require_web" "require_web" st_require_web a.require_web fd
  g_require_web : mg "require_web" = some (.ref a.require_web)
  k_require_web : PySem.W.keepIn K (.ref a.require_web) = true
  f_alone_line : ∃ fd, Fun K "alone_line" "alone_line" st_alone_line a.alone_line fd
  g_alone_line : mg "alone_line" = some (.ref a.alone_line)
  k_alone_line : PySem.W.keepIn K (.ref a.alone_line) = true
  f_read_signs : ∃ fd, Fun K "read_signs" "read_signs" st_read_signs a.read_signs fd
  g_read_signs : mg "read_signs" = some (.ref a.read_signs)
  k_read_signs : PySem.W.keepIn K (.ref a.read_signs) = true
  f_law_of_line : ∃ fd, Fun K "_law_of_line" "_law_of_line" st_law_of_line a.law_of_line fd
  g_law_of_line : mg "_law_of_line" = some (.ref a.law_of_line)
  k_law_of_line : PySem.W.keepIn K (.ref a.law_of_line) = true
  f_law_signs_of : ∃ fd, Fun K "_law_signs_of" "_law_signs_of" st_law_signs_of a.law_signs_of fd
  g_law_signs_of : mg "_law_signs_of" = some (.ref a.law_signs_of)
  k_law_signs_of : PySem.W.keepIn K (.ref a.law_signs_of) = true
  f_are_hues_in : ∃ fd, Fun K "are_hues_in" "are_hues_in" st_are_hues_in a.are_hues_in fd
  g_are_hues_in : mg "are_hues_in" = some (.ref a.are_hues_in)
  k_are_hues_in : PySem.W.keepIn K (.ref a.are_hues_in) = true
  f_read_hues : ∃ fd, Fun K "read_hues" "read_hues" st_read_hues a.read_hues fd
  g_read_hues : mg "read_hues" = some (.ref a.read_hues)
  k_read_hues : PySem.W.keepIn K (.ref a.read_hues) = true
  f_law_hues_of : ∃ fd, Fun K "_law_hues_of" "_law_hues_of" st_law_hues_of a.law_hues_of fd
  g_law_hues_of : mg "_law_hues_of" = some (.ref a.law_hues_of)
  k_law_hues_of : PySem.W.keepIn K (.ref a.law_hues_of) = true
  f_law_right : ∃ fd, Fun K "_law_right" "_law_right" st_law_right a.law_right fd
  g_law_right : mg "_law_right" = some (.ref a.law_right)
  k_law_right : PySem.W.keepIn K (.ref a.law_right) = true
  f_law : ∃ fd, Fun K "law" "law" st_law a.law fd
  g_law : mg "law" = some (.ref a.law)
  k_law : PySem.W.keepIn K (.ref a.law) = true
  b_law_right : LamX.TabB base mg a.k_law_right a.t_law_right
  kc_law_right : fnCode K a.law_right = some (.ref a.k_law_right)
  lm_law_right : (a.t_law_right, qn_law_right) ∈ G.T
  lo_law_right : ∀ p ∈ G.T, p.1 = a.t_law_right → p.2 = qn_law_right
  b_law : LamX.TabB base mg a.k_law a.t_law
  kc_law : fnCode K a.law = some (.ref a.k_law)
  lm_law : (a.t_law, qn_law) ∈ G.T
  lo_law : ∀ p ∈ G.T, p.1 = a.t_law → p.2 = qn_law
  sc_Web : SC G K 0 a.c_Web
  g_Web : mg "Web" = some (.ref a.c_Web)
  mk_Web : Mk K a.c_Web a.Web_init
  io_Web : IsO G K 0 a.c_Web
  ib_bool : IsB G K "bool"
  ib_int : IsB G K "int"
  ib_str : IsB G K "str"
  ib_tuple : IsB G K "tuple"
  sl_own_size : SlX.Slot1 K a.c_Web "own_size" a.s_own_size 0
  sl_own_ties : SlX.Slot1 K a.c_Web "own_ties" a.s_own_ties 1
  pr_size : PropAt K a.c_Web "size" a.p_size a.Web_size
  pr_ties : PropAt K a.c_Web "ties" a.p_ties a.Web_ties
  g_InvalidWeb : mg "InvalidWeb" = some (.ref a.x_InvalidWeb)
  xn_InvalidWeb : G.xcl 1 = some a.x_InvalidWeb
  g_InvalidText : mg "InvalidText" = some (.ref a.x_InvalidText)
  xn_InvalidText : G.xcl 2 = some a.x_InvalidText
  g_ParseError : mg "ParseError" = some (.ref a.x_ParseError)
  xn_ParseError : G.xcl 3 = some a.x_ParseError
  xf_ParseError : G.xfl 3 = "spot"
  g_InvalidNumber : mg "InvalidNumber" = some (.ref a.x_InvalidNumber)
  xn_InvalidNumber : G.xcl 4 = some a.x_InvalidNumber
  xf_InvalidNumber : G.xfl 4 = "given"
  tk_InvalidWeb : Tks G K (.ref a.x_InvalidWeb) (mIn [1])
  xp_InvalidWeb : XcP G K 1 a.x_InvalidWeb "ValueError" "ValueError.__new__" "ValueError.__init__" [.type "ValueError", .type "Exception", .type "BaseException", .type "object"]
  tk_InvalidText : Tks G K (.ref a.x_InvalidText) (mIn [2])
  xp_InvalidText : XcP G K 2 a.x_InvalidText "ValueError" "ValueError.__new__" "ValueError.__init__" [.type "ValueError", .type "Exception", .type "BaseException", .type "object"]
  tk_ParseError : Tks G K (.ref a.x_ParseError) (mIn [3])
  xc_ParseError : XfC K a.x_ParseError
  xq_ParseError : PySem.W.findIn K (.ref a.x_ParseError) "spot" = some none
  su_ParseError : SupI P K a.x_ParseError a.i_ParseError "self" "spot" "spot" "ValueError" "ValueError.__new__" "ValueError.__init__" [.type "ValueError", .type "Exception", .type "BaseException", .type "object"] (defBody sx_ParseError) (defScope sx_ParseError)
  tk_InvalidNumber : Tks G K (.ref a.x_InvalidNumber) (mIn [4])
  su_InvalidNumber : SupI P K a.x_InvalidNumber a.i_InvalidNumber "self" "given" "given" "IndexError" "IndexError.__new__" "IndexError.__init__" [.type "IndexError", .type "LookupError", .type "Exception", .type "BaseException", .type "object"] (defBody sx_InvalidNumber) (defScope sx_InvalidNumber)
  n_abs : mg "abs" = none
  n_all : mg "all" = none
  n_bool : mg "bool" = none
  n_enumerate : mg "enumerate" = none
  n_int : mg "int" = none
  n_isinstance : mg "isinstance" = none
  n_len : mg "len" = none
  n_list : mg "list" = none
  n_max : mg "max" = none
  n_min : mg "min" = none
  n_range : mg "range" = none
  n_repr : mg "repr" = none
  n_sorted : mg "sorted" = none
  n_str : mg "str" = none
  n_tuple : mg "tuple" = none
  n_zip : mg "zip" = none
  c_AGAINST : ∃ t, mg "AGAINST" = some (.str ⟨#[60]⟩ t)
  c_ALONG : ∃ t, mg "ALONG" = some (.str ⟨#[62]⟩ t)
  c_DIGITS : ∃ t, mg "DIGITS" = some (.str ⟨#[48, 49, 50, 51, 52, 53, 54, 55, 56, 57]⟩ t)
  c_GREAT : ∃ t, mg "GREAT" = some (.int 1000000000000000000000000000000000000000000000000000000000000 t)
  c_HUES : ∃ t, mg "HUES" = some (.str ⟨#[104, 117, 101, 115]⟩ t)
  c_MAX_HUE : ∃ t, mg "MAX_HUE" = some (.int 9 t)
  c_MAX_PLACES : ∃ t, mg "MAX_PLACES" = some (.int 7 t)
  c_MAX_SIGNS : ∃ t, mg "MAX_SIGNS" = some (.int 20000 t)
  c_MAX_TIES : ∃ t, mg "MAX_TIES" = some (.int 14 t)
  c_MOST_DIGITS : ∃ t, mg "MOST_DIGITS" = some (.int 9 t)
  c_PLACES : ∃ t, mg "PLACES" = some (.str ⟨#[112, 108, 97, 99, 101, 115]⟩ t)
theorem clsEach {a : Ad} {c : Nat} {C : Addr} {q : Prop} (h : clsOf a c = some C) (h0 : c = 0 → C = a.c_Web → q) : q := by
  unfold clsOf at h
  split at h
  · rename_i e; cases h; exact h0 e rfl
  cases h
theorem xclEach {a : Ad} {c : Nat} {C : Addr} {q : Prop} (h : xclOf a c = some C) (h1 : c = 1 → C = a.x_InvalidWeb → q) (h2 : c = 2 → C = a.x_InvalidText → q) (h3 : c = 3 → C = a.x_ParseError → q) (h4 : c = 4 → C = a.x_InvalidNumber → q) : q := by
  unfold xclOf at h
  split at h
  · rename_i e; cases h; exact h1 e rfl
  split at h
  · rename_i e; cases h; exact h2 e rfl
  split at h
  · rename_i e; cases h; exact h3 e rfl
  split at h
  · rename_i e; cases h; exact h4 e rfl
  cases h
section
variable {P : Program} {w : World} {K : PySem.W.Frag} {mg : Str → Option Value} {base : Heap} {G : Gc} {a : Ad}
theorem Tx.wl (T : Tx P K mg base a G) (l : Option Lm) : Tx P K mg base a (G.wl l) := ⟨T.gk, T.f_law_bag, T.g_law_bag, T.k_law_bag, T.f_law_draw, T.g_law_draw, T.k_law_draw, T.f_law_one_of, T.g_law_one_of, T.k_law_one_of, T.f_law_ties, T.g_law_ties, T.k_law_ties, T.f_is_int, T.g_is_int, T.k_is_int, T.f_is_whole, T.g_is_whole, T.k_is_whole, T.f_is_within, T.g_is_within, T.k_is_within, T.f_require_size, T.g_require_size, T.k_require_size, T.f_are_ties, T.g_are_ties, T.k_are_ties, T.f_Web_init, T.f_law_bent, T.g_law_bent, T.k_law_bent, T.f_law_read, T.g_law_read, T.k_law_read, T.f_require_text, T.g_require_text, T.k_require_text, T.f_whole_lines, T.g_whole_lines, T.k_whole_lines, T.f_number_of, T.g_number_of, T.k_number_of, T.f_size_from, T.g_size_from, T.k_size_from, T.f_numbers_of, T.g_numbers_of, T.k_numbers_of, T.f_tie_from, T.g_tie_from, T.k_tie_from, T.f_read_web, T.g_read_web, T.k_read_web, T.f_Web_size, T.f_Web_ties, T.f_law_number, T.g_law_number, T.k_law_number, T.f_law_of_web, T.g_law_of_web, T.k_law_of_web, T.f_require_web, T.g_require_web, T.k_require_web, T.f_alone_line, T.g_alone_line, T.k_alone_line, T.f_read_signs, T.g_read_signs, T.k_read_signs, T.f_law_of_line, T.g_law_of_line, T.k_law_of_line, T.f_law_signs_of, T.g_law_signs_of, T.k_law_signs_of, T.f_are_hues_in, T.g_are_hues_in, T.k_are_hues_in, T.f_read_hues, T.g_read_hues, T.k_read_hues, T.f_law_hues_of, T.g_law_hues_of, T.k_law_hues_of, T.f_law_right, T.g_law_right, T.k_law_right, T.f_law, T.g_law, T.k_law, T.b_law_right, T.kc_law_right, T.lm_law_right, T.lo_law_right, T.b_law, T.kc_law, T.lm_law, T.lo_law, T.sc_Web.wl, T.g_Web, T.mk_Web, T.io_Web.wl, T.ib_bool.wl, T.ib_int.wl, T.ib_str.wl, T.ib_tuple.wl, T.sl_own_size, T.sl_own_ties, T.pr_size, T.pr_ties, T.g_InvalidWeb, T.xn_InvalidWeb, T.g_InvalidText, T.xn_InvalidText, T.g_ParseError, T.xn_ParseError, T.xf_ParseError, T.g_InvalidNumber, T.xn_InvalidNumber, T.xf_InvalidNumber, T.tk_InvalidWeb.wl, T.xp_InvalidWeb.wl, T.tk_InvalidText.wl, T.xp_InvalidText.wl, T.tk_ParseError.wl, T.xc_ParseError, T.xq_ParseError, T.su_ParseError, T.tk_InvalidNumber.wl, T.su_InvalidNumber, T.n_abs, T.n_all, T.n_bool, T.n_enumerate, T.n_int, T.n_isinstance, T.n_len, T.n_list, T.n_max, T.n_min, T.n_range, T.n_repr, T.n_sorted, T.n_str, T.n_tuple, T.n_zip, T.c_AGAINST, T.c_ALONG, T.c_DIGITS, T.c_GREAT, T.c_HUES, T.c_MAX_HUE, T.c_MAX_PLACES, T.c_MAX_SIGNS, T.c_MAX_TIES, T.c_MOST_DIGITS, T.c_PLACES⟩
theorem nd_law_bag : (["script", "at", "cell", "great", "blend"] : List Str).Nodup := by decide +kernel
theorem fs_law_bag : FnScope ["script", "at", "cell", "great", "blend"] ["script", "at"] (defScope st_law_bag) := ⟨rfl, rfl, rfl, nd_law_bag, rfl, by decide +kernel, by decide +kernel⟩
theorem g_law_bag (T : Tx P K mg base a G) : FnG P w K mg base G 1 a.law_bag m_law_bag := by
  obtain ⟨fd, F⟩ := T.f_law_bag
  refine fnN_of (k := 0) F fs_law_bag T.gk (fun _ _ _ _ _ _ us hl => match us, hl with | [_, _], _ => rfl) fun cdv A outer s H E o => ?_
  exact jb_cons (js_asg (je_if (jtc o.lt (by rfl) (je_var 1 rfl (vf (by decide +kernel)) (by decide +kernel) (by decide +kernel)) (je_callB o.len (gf (by decide +kernel)) T.n_len bt_len (ja_cons (je_var 0 rfl (vf (by decide +kernel)) (by decide +kernel) (by decide +kernel)) (ja_nil)) (by decide +kernel) (by decide +kernel))) (je_callTy cb_int (gf (by decide +kernel)) T.n_int bt_int (ja_cons (je_ix o (je_var 0 rfl (vf (by decide +kernel)) (by decide +kernel) (by decide +kernel)) (je_var 1 rfl (vf (by decide +kernel)) (by decide +kernel) (by decide +kernel)) (fun _ _ => rfl)) (ja_nil)) (by decide +kernel) (by decide +kernel)) (je_add o (je_mulS o (je_int) (je_var 1 rfl (vf (by decide +kernel)) (by decide +kernel) (by decide +kernel))) (je_int))) (jg_name 2 nd_law_bag rfl (lf (by decide +kernel)) ff)) (jb_cons (js_asg (je_mod (je_callB o.max2 (gf (by decide +kernel)) T.n_max bt_max (ja_cons (je_int) (ja_cons (je_sub (je_callB cb_abs (gf (by decide +kernel)) T.n_abs bt_abs (ja_cons (je_var 2 rfl (vf (by decide +kernel)) (by decide +kernel) (by decide +kernel)) (ja_nil)) (by decide +kernel) (by decide +kernel)) (je_pow (je_int) (je_int))) (ja_nil))) (by decide +kernel) (by decide +kernel)) (je_mulS o (je_pow (je_int) (je_int)) (je_pow (je_int) (je_int)))) (jg_name 3 nd_law_bag rfl (lf (by decide +kernel)) ff)) (jb_cons (js_asg (je_add o (je_add o (je_add o (je_mulS o (je_mod (je_callTy cb_int (gf (by decide +kernel)) T.n_int bt_int (ja_cons (je_callB cb_abs (gf (by decide +kernel)) T.n_abs bt_abs (ja_cons (je_var 2 rfl (vf (by decide +kernel)) (by decide +kernel) (by decide +kernel)) (ja_nil)) (by decide +kernel) (by decide +kernel)) (ja_nil)) (by decide +kernel) (by decide +kernel)) (je_add o (je_pow (je_int) (je_int)) (je_int))) (je_int)) (je_mulS o (je_int) (je_var 1 rfl (vf (by decide +kernel)) (by decide +kernel) (by decide +kernel)))) (je_mulS o (je_int) (je_callTy cb_int (gf (by decide +kernel)) T.n_int bt_int (ja_cons (jec o.lt (by rfl) (je_var 2 rfl (vf (by decide +kernel)) (by decide +kernel) (by decide +kernel)) (je_int)) (ja_nil)) (by decide +kernel) (by decide +kernel)))) (je_int)) (jg_name 4 nd_law_bag rfl (lf (by decide +kernel)) ff)) (jb_one (js_ret (je_lstM (ja_cons (je_var 3 rfl (vf (by decide +kernel)) (by decide +kernel) (by decide +kernel)) (ja_cons (je_mod (je_callTy cb_int (gf (by decide +kernel)) T.n_int bt_int (ja_cons (je_var 4 rfl (vf (by decide +kernel)) (by decide +kernel) (by decide +kernel)) (ja_nil)) (by decide +kernel) (by decide +kernel)) (je_sub (je_pow (je_int) (je_int)) (je_int))) (ja_nil))))))))
theorem nd_law_draw : (["bag", "many", "found"] : List Str).Nodup := by decide +kernel
theorem fs_law_draw : FnScope ["bag", "many", "found"] ["bag", "many"] (defScope st_law_draw) := ⟨rfl, rfl, rfl, nd_law_draw, rfl, by decide +kernel, by decide +kernel⟩
theorem g_law_draw (T : Tx P K mg base a G) : FnG P w K mg base G 1 a.law_draw m_law_draw := by
  obtain ⟨fd, F⟩ := T.f_law_draw
  refine fnG_of (k := 0) F fs_law_draw T.gk (fun _ _ _ _ _ _ us hl => match us, hl with | [_, _], _ => rfl) fun cdv A outer s H E o => ?_
  exact jb_cons (js_if (jtc o.gt (by rfl) (je_ix o (je_var 0 rfl (vf (by decide +kernel)) (by decide +kernel) (by decide +kernel)) (je_int) (fun _ _ => rfl)) (je_int)) (jb_cons (js_asg (je_mod (je_callTy cb_int (gf (by decide +kernel)) T.n_int bt_int (ja_cons (je_ix o (je_var 0 rfl (vf (by decide +kernel)) (by decide +kernel) (by decide +kernel)) (je_int) (fun _ _ => rfl)) (ja_nil)) (by decide +kernel) (by decide +kernel)) (je_var 1 rfl (vf (by decide +kernel)) (by decide +kernel) (by decide +kernel))) (jg_name 2 nd_law_draw rfl (lf (by decide +kernel)) ff)) (jb_cons (js_store (je_var 0 rfl (vf (by decide +kernel)) (by decide +kernel) (by decide +kernel)) (je_int) (je_fdiv (je_ix o (je_var 0 rfl (vf (by decide +kernel)) (by decide +kernel) (by decide +kernel)) (je_int) (fun _ _ => rfl)) (je_var 1 rfl (vf (by decide +kernel)) (by decide +kernel) (by decide +kernel)))) (jb_one (js_ret (je_var 2 rfl (vf (by decide +kernel)) (by decide +kernel) (by decide +kernel)))))) (jb_nil)) (jb_cons (js_store (je_var 0 rfl (vf (by decide +kernel)) (by decide +kernel) (by decide +kernel)) (je_int) (je_mod (je_callTy cb_int (gf (by decide +kernel)) T.n_int bt_int (ja_cons (je_add o (je_mulS o (je_ix o (je_var 0 rfl (vf (by decide +kernel)) (by decide +kernel) (by decide +kernel)) (je_int) (fun _ _ => rfl)) (je_int)) (je_int)) (ja_nil)) (by decide +kernel) (by decide +kernel)) (je_sub (je_pow (je_int) (je_int)) (je_int)))) (jb_one (js_ret (je_mod (je_callTy cb_int (gf (by decide +kernel)) T.n_int bt_int (ja_cons (je_fdiv (je_ix o (je_var 0 rfl (vf (by decide +kernel)) (by decide +kernel) (by decide +kernel)) (je_int) (fun _ _ => rfl)) (je_int)) (ja_nil)) (by decide +kernel) (by decide +kernel)) (je_var 1 rfl (vf (by decide +kernel)) (by decide +kernel) (by decide +kernel))))))
theorem nd_law_one_of : (["bag", "items"] : List Str).Nodup := by decide +kernel
theorem fs_law_one_of : FnScope ["bag", "items"] ["bag", "items"] (defScope st_law_one_of) := ⟨rfl, rfl, rfl, nd_law_one_of, rfl, by decide +kernel, by decide +kernel⟩
theorem g_law_one_of (T : Tx P K mg base a G) : FnG P w K mg base G 2 a.law_one_of m_law_one_of := by
  obtain ⟨fd, F⟩ := T.f_law_one_of
  refine fnG_of (k := 1) F fs_law_one_of T.gk (fun _ _ _ _ _ _ us hl => match us, hl with | [_, _], _ => rfl) fun cdv A outer s H E o => ?_
  exact jb_one (js_ret (je_ix o (je_var 1 rfl (vf (by decide +kernel)) (by decide +kernel) (by decide +kernel)) (je_call o (g_law_draw T) (by omega) (gf (by decide +kernel)) T.g_law_draw T.k_law_draw (ja_cons (je_var 0 rfl (vf (by decide +kernel)) (by decide +kernel) (by decide +kernel)) (ja_cons (je_callB o.len (gf (by decide +kernel)) T.n_len bt_len (ja_cons (je_var 1 rfl (vf (by decide +kernel)) (by decide +kernel) (by decide +kernel)) (ja_nil)) (by decide +kernel) (by decide +kernel)) (ja_nil))) (by decide +kernel)) (fun _ _ => rfl)))
theorem nd_law_ties : (["bag", "size", "most", "found", "loops", "turn", "one", "other"] : List Str).Nodup := by decide +kernel
theorem fs_law_ties : FnScope ["bag", "size", "most", "found", "loops", "turn", "one", "other"] ["bag", "size", "most"] (defScope st_law_ties) := ⟨rfl, rfl, rfl, nd_law_ties, rfl, by decide +kernel, by decide +kernel⟩
theorem g_law_ties (T : Tx P K mg base a G) : FnG P w K mg base G 3 a.law_ties m_law_ties := by
  obtain ⟨fd, F⟩ := T.f_law_ties
  refine fnG_of (k := 2) F fs_law_ties T.gk (fun _ _ _ _ _ _ us hl => match us, hl with | [_, _, _], _ => rfl) fun cdv A outer s H E o => ?_
  exact jb_cons (js_par o (i := 3) (j := 4) nd_law_ties rfl rfl (by decide) (qf (by decide +kernel)) (qf (by decide +kernel)) (ja_cons (je_lstM (ja_nil)) (ja_cons (je_call o (g_law_one_of T) (by omega) (gf (by decide +kernel)) T.g_law_one_of T.k_law_one_of (ja_cons (je_var 0 rfl (vf (by decide +kernel)) (by decide +kernel) (by decide +kernel)) (ja_cons (je_lst (ja_cons (je_int) (ja_cons (je_int) (ja_cons (je_int) (ja_cons (je_int) (ja_nil)))))) (ja_nil))) (by decide +kernel)) ja_nil)) (by rfl)) (jb_cons (js_for o (ji_range1 (gf (by decide +kernel)) T.n_range (ja_cons (je_call o (g_law_draw T) (by omega) (gf (by decide +kernel)) T.g_law_draw T.k_law_draw (ja_cons (je_var 0 rfl (vf (by decide +kernel)) (by decide +kernel) (by decide +kernel)) (ja_cons (je_add o (je_var 2 rfl (vf (by decide +kernel)) (by decide +kernel) (by decide +kernel)) (je_int)) (ja_nil))) (by decide +kernel)) (ja_nil))) (jg_name 5 nd_law_ties rfl (lf (by decide +kernel)) ff) (jb_cons (js_par o (i := 6) (j := 7) nd_law_ties rfl rfl (by decide) (qf (by decide +kernel)) (qf (by decide +kernel)) (ja_cons (je_call o (g_law_draw T) (by omega) (gf (by decide +kernel)) T.g_law_draw T.k_law_draw (ja_cons (je_var 0 rfl (vf (by decide +kernel)) (by decide +kernel) (by decide +kernel)) (ja_cons (je_var 1 rfl (vf (by decide +kernel)) (by decide +kernel) (by decide +kernel)) (ja_nil))) (by decide +kernel)) (ja_cons (je_call o (g_law_draw T) (by omega) (gf (by decide +kernel)) T.g_law_draw T.k_law_draw (ja_cons (je_var 0 rfl (vf (by decide +kernel)) (by decide +kernel) (by decide +kernel)) (ja_cons (je_var 1 rfl (vf (by decide +kernel)) (by decide +kernel) (by decide +kernel)) (ja_nil))) (by decide +kernel)) ja_nil)) (by rfl)) (jb_cons (js_if (jt_w (jw_and (jtc o.eq (by rfl) (je_var 6 rfl (vf (by decide +kernel)) (by decide +kernel) (by decide +kernel)) (je_var 7 rfl (vf (by decide +kernel)) (by decide +kernel) (by decide +kernel))) (jw_and (jtc o.gt (by rfl) (je_var 1 rfl (vf (by decide +kernel)) (by decide +kernel) (by decide +kernel)) (je_int)) (jw_and1 (jt_w (jw_or (jtc o.eq (by rfl) (je_var 4 rfl (vf (by decide +kernel)) (by decide +kernel) (by decide +kernel)) (je_int)) (jw_or1 (jtc o.gt (by rfl) (je_call o (g_law_draw T) (by omega) (gf (by decide +kernel)) T.g_law_draw T.k_law_draw (ja_cons (je_var 0 rfl (vf (by decide +kernel)) (by decide +kernel) (by decide +kernel)) (ja_cons (je_var 4 rfl (vf (by decide +kernel)) (by decide +kernel) (by decide +kernel)) (ja_nil))) (by decide +kernel)) (je_int))))))))) (jb_one (js_asg (je_mod (je_callTy cb_int (gf (by decide +kernel)) T.n_int bt_int (ja_cons (je_add o (je_add o (je_var 6 rfl (vf (by decide +kernel)) (by decide +kernel) (by decide +kernel)) (je_int)) (je_call o (g_law_draw T) (by omega) (gf (by decide +kernel)) T.g_law_draw T.k_law_draw (ja_cons (je_var 0 rfl (vf (by decide +kernel)) (by decide +kernel) (by decide +kernel)) (ja_cons (je_sub (je_var 1 rfl (vf (by decide +kernel)) (by decide +kernel) (by decide +kernel)) (je_int)) (ja_nil))) (by decide +kernel))) (ja_nil)) (by decide +kernel) (by decide +kernel)) (je_var 1 rfl (vf (by decide +kernel)) (by decide +kernel) (by decide +kernel))) (jg_name 7 nd_law_ties rfl (lf (by decide +kernel)) ff))) (jb_nil)) (jb_one (js_expr (je_append o (je_var 3 rfl (vf (by decide +kernel)) (by decide +kernel) (by decide +kernel)) (je_tup (ja_cons (je_callB o.min2 (gf (by decide +kernel)) T.n_min bt_min (ja_cons (je_var 6 rfl (vf (by decide +kernel)) (by decide +kernel) (by decide +kernel)) (ja_cons (je_var 7 rfl (vf (by decide +kernel)) (by decide +kernel) (by decide +kernel)) (ja_nil))) (by decide +kernel) (by decide +kernel)) (ja_cons (je_callB o.max2 (gf (by decide +kernel)) T.n_max bt_max (ja_cons (je_var 6 rfl (vf (by decide +kernel)) (by decide +kernel) (by decide +kernel)) (ja_cons (je_var 7 rfl (vf (by decide +kernel)) (by decide +kernel) (by decide +kernel)) (ja_nil))) (by decide +kernel) (by decide +kernel)) (ja_nil)))))))))) (jb_one (js_ret (je_callTy o.tuple (gf (by decide +kernel)) T.n_tuple bt_tuple (ja_cons (je_callB o.sorted (gf (by decide +kernel)) T.n_sorted bt_sorted (ja_cons (je_var 3 rfl (vf (by decide +kernel)) (by decide +kernel) (by decide +kernel)) (ja_nil)) (by decide +kernel) (by decide +kernel)) (ja_nil)) (by decide +kernel) (by decide +kernel)))))
theorem nd_is_int : (["value"] : List Str).Nodup := by decide +kernel
theorem fs_is_int : FnScope ["value"] ["value"] (defScope st_is_int) := ⟨rfl, rfl, rfl, nd_is_int, rfl, by decide +kernel, by decide +kernel⟩
theorem g_is_int (T : Tx P K mg base a G) : FnG P w K mg base G 1 a.is_int m_is_int := by
  obtain ⟨fd, F⟩ := T.f_is_int
  refine fnG_of (k := 0) F fs_is_int T.gk (fun _ _ _ _ _ _ us hl => match us, hl with | [_], _ => rfl) fun cdv A outer s H E o => ?_
  exact jb_one (js_ret (je_and (je_isiB o T.ib_int (je_var 0 rfl (vf (by decide +kernel)) (by decide +kernel) (by decide +kernel)) (gf (by decide +kernel)) T.n_isinstance bt_isinstance (by decide +kernel) (by decide +kernel) (gf (by decide +kernel)) T.n_int bt_int (by decide +kernel) (by decide +kernel)) (je_one (je_not (je_isiB o T.ib_bool (je_var 0 rfl (vf (by decide +kernel)) (by decide +kernel) (by decide +kernel)) (gf (by decide +kernel)) T.n_isinstance bt_isinstance (by decide +kernel) (by decide +kernel) (gf (by decide +kernel)) T.n_bool bt_bool (by decide +kernel) (by decide +kernel))))))
theorem nd_is_whole : (["value"] : List Str).Nodup := by decide +kernel
theorem fs_is_whole : FnScope ["value"] ["value"] (defScope st_is_whole) := ⟨rfl, rfl, rfl, nd_is_whole, rfl, by decide +kernel, by decide +kernel⟩
theorem g_is_whole (T : Tx P K mg base a G) : FnG P w K mg base G 2 a.is_whole m_is_whole := by
  obtain ⟨fd, F⟩ := T.f_is_whole
  refine fnG_of (k := 1) F fs_is_whole T.gk (fun _ _ _ _ _ _ us hl => match us, hl with | [_], _ => rfl) fun cdv A outer s H E o => ?_
  exact jb_one (js_ret (je_and (je_call o (g_is_int T) (by omega) (gf (by decide +kernel)) T.g_is_int T.k_is_int (ja_cons (je_var 0 rfl (vf (by decide +kernel)) (by decide +kernel) (by decide +kernel)) (ja_nil)) (by decide +kernel)) (je_one (jec2 o.lt o.lt (by rfl) (je_neg (je_gi (gf (by decide +kernel)) (by decide +kernel) T.c_GREAT)) (je_var 0 rfl (vf (by decide +kernel)) (by decide +kernel) (by decide +kernel)) (je_gi (gf (by decide +kernel)) (by decide +kernel) T.c_GREAT)))))
theorem nd_is_within : (["value", "low", "high"] : List Str).Nodup := by decide +kernel
theorem fs_is_within : FnScope ["value", "low", "high"] ["value", "low", "high"] (defScope st_is_within) := ⟨rfl, rfl, rfl, nd_is_within, rfl, by decide +kernel, by decide +kernel⟩
theorem g_is_within (T : Tx P K mg base a G) : FnG P w K mg base G 3 a.is_within m_is_within := by
  obtain ⟨fd, F⟩ := T.f_is_within
  refine fnG_of (k := 2) F fs_is_within T.gk (fun _ _ _ _ _ _ us hl => match us, hl with | [_, _, _], _ => rfl) fun cdv A outer s H E o => ?_
  exact jb_one (js_ret (je_and (je_call o (g_is_whole T) (by omega) (gf (by decide +kernel)) T.g_is_whole T.k_is_whole (ja_cons (je_var 0 rfl (vf (by decide +kernel)) (by decide +kernel) (by decide +kernel)) (ja_nil)) (by decide +kernel)) (je_one (jec2 o.le o.le (by rfl) (je_var 1 rfl (vf (by decide +kernel)) (by decide +kernel) (by decide +kernel)) (je_var 0 rfl (vf (by decide +kernel)) (by decide +kernel) (by decide +kernel)) (je_var 2 rfl (vf (by decide +kernel)) (by decide +kernel) (by decide +kernel))))))
theorem nd_require_size : (["size"] : List Str).Nodup := by decide +kernel
theorem fs_require_size : FnScope ["size"] ["size"] (defScope st_require_size) := ⟨rfl, rfl, rfl, nd_require_size, rfl, by decide +kernel, by decide +kernel⟩
theorem g_require_size (T : Tx P K mg base a G) : FnG P w K mg base G 4 a.require_size m_require_size := by
  obtain ⟨fd, F⟩ := T.f_require_size
  refine fnG_of (k := 3) F fs_require_size T.gk (fun _ _ _ _ _ _ us hl => match us, hl with | [_], _ => rfl) fun cdv A outer s H E o => ?_
  exact jb_one (js_if (jt_not (jt_val (je_call o (g_is_within T) (by omega) (gf (by decide +kernel)) T.g_is_within T.k_is_within (ja_cons (je_var 0 rfl (vf (by decide +kernel)) (by decide +kernel) (by decide +kernel)) (ja_cons (je_int) (ja_cons (je_gi (gf (by decide +kernel)) (by decide +kernel) T.c_MAX_PLACES) (ja_nil)))) (by decide +kernel)) (fun _ => rfl))) (jb_one (js_raise o (jm_sup o T.su_InvalidNumber T.xn_InvalidNumber T.xf_InvalidNumber (gf (by decide +kernel)) T.g_InvalidNumber (ja_cons (je_var 0 rfl (vf (by decide +kernel)) (by decide +kernel) (by decide +kernel)) (ja_nil)) (by decide +kernel)))) (jb_nil))
theorem nd_are_ties : (["size", "value", "tie", "one", "other"] : List Str).Nodup := by decide +kernel
theorem fs_are_ties : FnScope ["size", "value", "tie", "one", "other"] ["size", "value"] (defScope st_are_ties) := ⟨rfl, rfl, rfl, nd_are_ties, rfl, by decide +kernel, by decide +kernel⟩
theorem g_are_ties (T : Tx P K mg base a G) : FnG P w K mg base G 4 a.are_ties m_are_ties := by
  obtain ⟨fd, F⟩ := T.f_are_ties
  refine fnG_of (k := 3) F fs_are_ties T.gk (fun _ _ _ _ _ _ us hl => match us, hl with | [_, _], _ => rfl) fun cdv A outer s H E o => ?_
  exact jb_cons (js_if (jt_w (jw_or (jt_not (jt_val (je_isiB o T.ib_tuple (je_var 1 rfl (vf (by decide +kernel)) (by decide +kernel) (by decide +kernel)) (gf (by decide +kernel)) T.n_isinstance bt_isinstance (by decide +kernel) (by decide +kernel) (gf (by decide +kernel)) T.n_tuple bt_tuple (by decide +kernel) (by decide +kernel)) (fun _ => rfl))) (jw_or1 (jtc o.gt (by rfl) (je_callB o.len (gf (by decide +kernel)) T.n_len bt_len (ja_cons (je_var 1 rfl (vf (by decide +kernel)) (by decide +kernel) (by decide +kernel)) (ja_nil)) (by decide +kernel) (by decide +kernel)) (je_gi (gf (by decide +kernel)) (by decide +kernel) T.c_MAX_TIES))))) (jb_one (js_ret (je_bl))) (jb_nil)) (jb_cons (js_if (jt_not (jt_val (je_callB o.all (gf (by decide +kernel)) T.n_all bt_all (ja_cons (je_comp o (own := [("tie", 2)]) (js := [2]) nd_are_ties (ji_of o (je_var 1 rfl (vf (by decide +kernel)) (by decide +kernel) (by decide +kernel))) (bf (by decide +kernel)) (fun _ _ _ _ _ => jg_name 2 nd_are_ties rfl (lb (by decide +kernel)) (fb (by decide +kernel))) (fun _ _ _ _ _ => jts_nil) (fun _ _ _ _ _ => je_and (je_isiB o.blk T.ib_tuple (je_var 2 rfl (vb (by decide +kernel)) (by decide +kernel) (by decide +kernel)) (gb (by decide +kernel)) T.n_isinstance bt_isinstance (by decide +kernel) (by decide +kernel) (gb (by decide +kernel)) T.n_tuple bt_tuple (by decide +kernel) (by decide +kernel)) (je_one (jec o.blk.eq (by rfl) (je_callB o.blk.len (gb (by decide +kernel)) T.n_len bt_len (ja_cons (je_var 2 rfl (vb (by decide +kernel)) (by decide +kernel) (by decide +kernel)) (ja_nil)) (by decide +kernel) (by decide +kernel)) (je_int)))) (by decide)) (ja_nil)) (by decide +kernel) (by decide +kernel)) (fun _ => rfl))) (jb_one (js_ret (je_bl))) (jb_nil)) (jb_cons (js_if (jt_not (jt_val (je_callB o.all (gf (by decide +kernel)) T.n_all bt_all (ja_cons (je_comp o (own := [("one", 3), ("other", 4)]) (js := [3, 4]) nd_are_ties (ji_of o (je_var 1 rfl (vf (by decide +kernel)) (by decide +kernel) (by decide +kernel))) (bf (by decide +kernel)) (fun _ _ _ _ _ => jg_tup o.blk.calm o.blk.gk 2 (jgs_cons (jg_name 3 nd_are_ties rfl (lb (by decide +kernel)) (fb (by decide +kernel))) (jgs_cons (jg_name 4 nd_are_ties rfl (lb (by decide +kernel)) (fb (by decide +kernel))) (jgs_nil))) (gMore_len (gMore_len (gEnd_len)))) (fun _ _ _ _ _ => jts_nil) (fun _ _ _ _ _ => je_and (je_call o.blk (g_is_within T) (by omega) (gb (by decide +kernel)) T.g_is_within T.k_is_within (ja_cons (je_var 3 rfl (vb (by decide +kernel)) (by decide +kernel) (by decide +kernel)) (ja_cons (je_int) (ja_cons (je_sub (je_var 0 rfl (vbf (by decide +kernel)) (by decide +kernel) (by decide +kernel)) (je_int)) (ja_nil)))) (by decide +kernel)) (je_one (je_call o.blk (g_is_within T) (by omega) (gb (by decide +kernel)) T.g_is_within T.k_is_within (ja_cons (je_var 4 rfl (vb (by decide +kernel)) (by decide +kernel) (by decide +kernel)) (ja_cons (je_var 3 rfl (vb (by decide +kernel)) (by decide +kernel) (by decide +kernel)) (ja_cons (je_sub (je_var 0 rfl (vbf (by decide +kernel)) (by decide +kernel) (by decide +kernel)) (je_int)) (ja_nil)))) (by decide +kernel)))) (by decide)) (ja_nil)) (by decide +kernel) (by decide +kernel)) (fun _ => rfl))) (jb_one (js_ret (je_bl))) (jb_nil)) (jb_one (js_ret (je_callB o.all (gf (by decide +kernel)) T.n_all bt_all (ja_cons (je_comp o (own := [("one", 3), ("other", 4)]) (js := [3, 4]) nd_are_ties (ji_zip o (gf (by decide +kernel)) T.n_zip (ja_cons (je_var 1 rfl (vf (by decide +kernel)) (by decide +kernel) (by decide +kernel)) (ja_cons (je_slice o (je_var 1 rfl (vf (by decide +kernel)) (by decide +kernel) (by decide +kernel)) (jo_some (je_int)) (jo_none)) (ja_nil)))) (bf (by decide +kernel)) (fun _ _ _ _ _ => jg_tup o.blk.calm o.blk.gk 2 (jgs_cons (jg_name 3 nd_are_ties rfl (lb (by decide +kernel)) (fb (by decide +kernel))) (jgs_cons (jg_name 4 nd_are_ties rfl (lb (by decide +kernel)) (fb (by decide +kernel))) (jgs_nil))) (gMore_len (gMore_len (gEnd_len)))) (fun _ _ _ _ _ => jts_nil) (fun _ _ _ _ _ => jec o.blk.le (by rfl) (je_var 3 rfl (vb (by decide +kernel)) (by decide +kernel) (by decide +kernel)) (je_var 4 rfl (vb (by decide +kernel)) (by decide +kernel) (by decide +kernel))) (by decide)) (ja_nil)) (by decide +kernel) (by decide +kernel))))))
theorem nd_Web_init : (["self", "size", "ties"] : List Str).Nodup := by decide +kernel
theorem fs_Web_init : FnScope ["self", "size", "ties"] ["self", "size", "ties"] (defScope st_Web_init) := ⟨rfl, rfl, rfl, nd_Web_init, rfl, by decide +kernel, by decide +kernel⟩
theorem g_Web_init (T : Tx P K mg base a G) : FnG P w K mg base G 5 a.Web_init m_Web_init := by
  obtain ⟨fd, F⟩ := T.f_Web_init
  refine fnG_of (k := 4) F fs_Web_init T.gk (fun _ _ _ _ _ _ us hl => match us, hl with | [_, _, _], _ => rfl) fun cdv A outer s H E o => ?_
  exact jb_cons (js_expr (je_call o (g_require_size T) (by omega) (gf (by decide +kernel)) T.g_require_size T.k_require_size (ja_cons (je_var 1 rfl (vf (by decide +kernel)) (by decide +kernel) (by decide +kernel)) (ja_nil)) (by decide +kernel))) (jb_cons (js_if (jt_not (jt_val (je_call o (g_are_ties T) (by omega) (gf (by decide +kernel)) T.g_are_ties T.k_are_ties (ja_cons (je_var 1 rfl (vf (by decide +kernel)) (by decide +kernel) (by decide +kernel)) (ja_cons (je_var 2 rfl (vf (by decide +kernel)) (by decide +kernel) (by decide +kernel)) (ja_nil))) (by decide +kernel)) (fun _ => rfl))) (jb_one (js_raise o (jm_own T.xp_InvalidWeb T.g_InvalidWeb (gf (by decide +kernel)) (by decide +kernel)))) (jb_nil)) (jb_one (js_flds o 2 (jgas_cons (jga_fld T.sc_Web T.sl_own_size (je_var 0 rfl (vf (by decide +kernel)) (by decide +kernel) (by decide +kernel))) (jgas_cons (jga_fld T.sc_Web T.sl_own_ties (je_var 0 rfl (vf (by decide +kernel)) (by decide +kernel) (by decide +kernel))) (jgas_nil))) (aMore_len (aMore_len (aEnd_len))) (je_tup (ja_cons (je_var 1 rfl (vf (by decide +kernel)) (by decide +kernel) (by decide +kernel)) (ja_cons (je_var 2 rfl (vf (by decide +kernel)) (by decide +kernel) (by decide +kernel)) (ja_nil)))))))
theorem nd_law_bent : (["bag", "text", "at", "lines", "line", "sign", "some"] : List Str).Nodup := by decide +kernel
theorem fs_law_bent : FnScope ["bag", "text", "at", "lines", "line", "sign", "some"] ["bag", "text"] (defScope st_law_bent) := ⟨rfl, rfl, rfl, nd_law_bent, rfl, by decide +kernel, by decide +kernel⟩
theorem g_law_bent (T : Tx P K mg base a G) : FnG P w K mg base G 3 a.law_bent m_law_bent := by
  obtain ⟨fd, F⟩ := T.f_law_bent
  refine fnG_of (k := 2) F fs_law_bent T.gk (fun _ _ _ _ _ _ us hl => match us, hl with | [_, _], _ => rfl) fun cdv A outer s H E o => ?_
  exact jb_cons (js_par o (i := 2) (j := 3) nd_law_bent rfl rfl (by decide) (qf (by decide +kernel)) (qf (by decide +kernel)) (ja_cons (je_call o (g_law_draw T) (by omega) (gf (by decide +kernel)) T.g_law_draw T.k_law_draw (ja_cons (je_var 0 rfl (vf (by decide +kernel)) (by decide +kernel) (by decide +kernel)) (ja_cons (je_add o (je_callB o.len (gf (by decide +kernel)) T.n_len bt_len (ja_cons (je_var 1 rfl (vf (by decide +kernel)) (by decide +kernel) (by decide +kernel)) (ja_nil)) (by decide +kernel) (by decide +kernel)) (je_int)) (ja_nil))) (by decide +kernel)) (ja_cons (je_split (je_var 1 rfl (vf (by decide +kernel)) (by decide +kernel) (by decide +kernel)) (je_str ⟨#[10]⟩ (by decide +kernel))) ja_nil)) (by rfl)) (jb_cons (js_asg (je_call o (g_law_draw T) (by omega) (gf (by decide +kernel)) T.g_law_draw T.k_law_draw (ja_cons (je_var 0 rfl (vf (by decide +kernel)) (by decide +kernel) (by decide +kernel)) (ja_cons (je_callB o.len (gf (by decide +kernel)) T.n_len bt_len (ja_cons (je_var 3 rfl (vf (by decide +kernel)) (by decide +kernel) (by decide +kernel)) (ja_nil)) (by decide +kernel) (by decide +kernel)) (ja_nil))) (by decide +kernel)) (jg_name 4 nd_law_bent rfl (lf (by decide +kernel)) ff)) (jb_cons (js_asg (je_call o (g_law_one_of T) (by omega) (gf (by decide +kernel)) T.g_law_one_of T.k_law_one_of (ja_cons (je_var 0 rfl (vf (by decide +kernel)) (by decide +kernel) (by decide +kernel)) (ja_cons (je_add o (je_callTy o.listS (gf (by decide +kernel)) T.n_list bt_list (ja_cons (je_str ⟨#[48, 49, 50, 51, 52, 53, 54, 55, 56, 57, 62, 32, 45, 60, 120]⟩ (by decide +kernel)) (ja_nil)) (by decide +kernel) (by decide +kernel)) (je_lst (ja_cons (je_str ⟨#[10]⟩ (by decide +kernel)) (ja_cons (je_str ⟨#[10]⟩ (by decide +kernel)) (ja_cons (je_str ⟨#[112, 108, 97, 99, 101, 115, 32, 51]⟩ (by decide +kernel)) (ja_cons (je_str ⟨#[104, 117, 101, 115, 32]⟩ (by decide +kernel)) (ja_cons (je_str ⟨#[49, 48, 48, 48, 48, 48, 48, 48, 48, 48]⟩ (by decide +kernel)) (ja_cons (je_str ⟨#[48, 48]⟩ (by decide +kernel)) (ja_cons (je_str ⟨#[32, 32]⟩ (by decide +kernel)) (ja_cons (je_str ⟨#[45, 45]⟩ (by decide +kernel)) (ja_cons (je_str ⟨#[43, 49]⟩ (by decide +kernel)) (ja_nil)))))))))))) (ja_nil))) (by decide +kernel)) (jg_name 5 nd_law_bent rfl (lf (by decide +kernel)) ff)) (jb_cons (js_asg (je_lst (ja_cons (je_var 1 rfl (vf (by decide +kernel)) (by decide +kernel) (by decide +kernel)) (ja_cons (je_slice o (je_var 1 rfl (vf (by decide +kernel)) (by decide +kernel) (by decide +kernel)) (jo_none) (jo_some (je_var 2 rfl (vf (by decide +kernel)) (by decide +kernel) (by decide +kernel)))) (ja_cons (je_slice o (je_var 1 rfl (vf (by decide +kernel)) (by decide +kernel) (by decide +kernel)) (jo_some (je_var 2 rfl (vf (by decide +kernel)) (by decide +kernel) (by decide +kernel))) (jo_none)) (ja_cons (je_add o (je_add o (je_slice o (je_var 1 rfl (vf (by decide +kernel)) (by decide +kernel) (by decide +kernel)) (jo_none) (jo_some (je_var 2 rfl (vf (by decide +kernel)) (by decide +kernel) (by decide +kernel)))) (je_var 5 rfl (vf (by decide +kernel)) (by decide +kernel) (by decide +kernel))) (je_slice o (je_var 1 rfl (vf (by decide +kernel)) (by decide +kernel) (by decide +kernel)) (jo_some (je_var 2 rfl (vf (by decide +kernel)) (by decide +kernel) (by decide +kernel))) (jo_none))) (ja_cons (je_add o (je_add o (je_slice o (je_var 1 rfl (vf (by decide +kernel)) (by decide +kernel) (by decide +kernel)) (jo_none) (jo_some (je_var 2 rfl (vf (by decide +kernel)) (by decide +kernel) (by decide +kernel)))) (je_var 5 rfl (vf (by decide +kernel)) (by decide +kernel) (by decide +kernel))) (je_slice o (je_var 1 rfl (vf (by decide +kernel)) (by decide +kernel) (by decide +kernel)) (jo_some (je_add o (je_var 2 rfl (vf (by decide +kernel)) (by decide +kernel) (by decide +kernel)) (je_int))) (jo_none))) (ja_cons (je_add o (je_slice o (je_var 1 rfl (vf (by decide +kernel)) (by decide +kernel) (by decide +kernel)) (jo_none) (jo_some (je_var 2 rfl (vf (by decide +kernel)) (by decide +kernel) (by decide +kernel)))) (je_slice o (je_var 1 rfl (vf (by decide +kernel)) (by decide +kernel) (by decide +kernel)) (jo_some (je_add o (je_var 2 rfl (vf (by decide +kernel)) (by decide +kernel) (by decide +kernel)) (je_int))) (jo_none))) (ja_cons (je_add o (je_var 1 rfl (vf (by decide +kernel)) (by decide +kernel) (by decide +kernel)) (je_var 5 rfl (vf (by decide +kernel)) (by decide +kernel) (by decide +kernel))) (ja_nil))))))))) (jg_name 6 nd_law_bent rfl (lf (by decide +kernel)) ff)) (jb_cons (js_asg (je_add o (je_var 6 rfl (vf (by decide +kernel)) (by decide +kernel) (by decide +kernel)) (je_lst (ja_cons (je_join o (je_str ⟨#[10]⟩ (by decide +kernel)) (je_add o (je_slice o (je_var 3 rfl (vf (by decide +kernel)) (by decide +kernel) (by decide +kernel)) (jo_none) (jo_some (je_var 4 rfl (vf (by decide +kernel)) (by decide +kernel) (by decide +kernel)))) (je_slice o (je_var 3 rfl (vf (by decide +kernel)) (by decide +kernel) (by decide +kernel)) (jo_some (je_add o (je_var 4 rfl (vf (by decide +kernel)) (by decide +kernel) (by decide +kernel)) (je_int))) (jo_none)))) (ja_cons (je_join o (je_str ⟨#[10]⟩ (by decide +kernel)) (je_add o (je_add o (je_slice o (je_var 3 rfl (vf (by decide +kernel)) (by decide +kernel) (by decide +kernel)) (jo_none) (jo_some (je_var 4 rfl (vf (by decide +kernel)) (by decide +kernel) (by decide +kernel)))) (je_mulS o (je_slice o (je_var 3 rfl (vf (by decide +kernel)) (by decide +kernel) (by decide +kernel)) (jo_some (je_var 4 rfl (vf (by decide +kernel)) (by decide +kernel) (by decide +kernel))) (jo_some (je_add o (je_var 4 rfl (vf (by decide +kernel)) (by decide +kernel) (by decide +kernel)) (je_int)))) (je_int))) (je_slice o (je_var 3 rfl (vf (by decide +kernel)) (by decide +kernel) (by decide +kernel)) (jo_some (je_add o (je_var 4 rfl (vf (by decide +kernel)) (by decide +kernel) (by decide +kernel)) (je_int))) (jo_none)))) (ja_nil))))) (jg_name 6 nd_law_bent rfl (lf (by decide +kernel)) ff)) (jb_one (js_ret (je_call o (g_law_one_of T) (by omega) (gf (by decide +kernel)) T.g_law_one_of T.k_law_one_of (ja_cons (je_var 0 rfl (vf (by decide +kernel)) (by decide +kernel) (by decide +kernel)) (ja_cons (je_add o (je_var 6 rfl (vf (by decide +kernel)) (by decide +kernel) (by decide +kernel)) (je_lst (ja_cons (je_join o (je_str ⟨#[10]⟩ (by decide +kernel)) (je_rev o.gk (je_var 3 rfl (vf (by decide +kernel)) (by decide +kernel) (by decide +kernel)))) (ja_cons (je_join o (je_str ⟨#[10]⟩ (by decide +kernel)) (je_add o (je_add o (je_slice o (je_var 3 rfl (vf (by decide +kernel)) (by decide +kernel) (by decide +kernel)) (jo_none) (jo_some (je_var 4 rfl (vf (by decide +kernel)) (by decide +kernel) (by decide +kernel)))) (je_lst (ja_cons (je_var 5 rfl (vf (by decide +kernel)) (by decide +kernel) (by decide +kernel)) (ja_nil)))) (je_slice o (je_var 3 rfl (vf (by decide +kernel)) (by decide +kernel) (by decide +kernel)) (jo_some (je_var 4 rfl (vf (by decide +kernel)) (by decide +kernel) (by decide +kernel))) (jo_none)))) (ja_nil))))) (ja_nil))) (by decide +kernel))))))))
theorem nd_law_read : (["call", "error"] : List Str).Nodup := by decide +kernel
theorem fs_law_read : FnScope ["call", "error"] ["call"] (defScope st_law_read) := ⟨rfl, rfl, rfl, nd_law_read, rfl, by decide +kernel, by decide +kernel⟩
theorem g_law_read (T : Tx P K mg base a G) (N : G.lam = none) : FnL P w K mg base G 1 a.law_read m_law_read := by
  obtain ⟨fd, F⟩ := T.f_law_read
  refine fnL_of (k := 0) F fs_law_read T.gk N (fun _ _ _ _ _ _ us hl => match us, hl with | [_], _ => rfl) fun kk cdv A outer s E L φ act o => ?_
  have T := T.wl (some L)
  exact jb_one (js_try o nd_law_read rfl rfl (fun _ _ _ ot => jb_one (js_ret (je_tup (ja_cons (je_non) (ja_cons (je_act0 ot (by omega) N act rfl rfl (i := 0) rfl (vft (by decide +kernel)) (by decide +kernel) (by decide +kernel)) (ja_nil)))))) (HdJ.named ⟨gf (by decide +kernel), (by decide +kernel), .inl T.g_ParseError⟩ T.tk_ParseError rfl (qf (by decide +kernel)) (jx_ret (jxe_tup (jxa_cons (jxe_fld T.xn_ParseError T.xf_ParseError T.xc_ParseError T.xq_ParseError rfl (vf (by decide +kernel)) (by decide +kernel) (by decide +kernel)) (jxa_cons (jxe_je (fun _ _ => je_non)) (jxa_nil))))) (HdJ.nil)))
theorem nd_require_text : (["text"] : List Str).Nodup := by decide +kernel
theorem fs_require_text : FnScope ["text"] ["text"] (defScope st_require_text) := ⟨rfl, rfl, rfl, nd_require_text, rfl, by decide +kernel, by decide +kernel⟩
theorem g_require_text (T : Tx P K mg base a G) : FnG P w K mg base G 1 a.require_text m_require_text := by
  obtain ⟨fd, F⟩ := T.f_require_text
  refine fnG_of (k := 0) F fs_require_text T.gk (fun _ _ _ _ _ _ us hl => match us, hl with | [_], _ => rfl) fun cdv A outer s H E o => ?_
  exact jb_one (js_if (jt_w (jw_or (jt_not (jt_val (je_isiB o T.ib_str (je_var 0 rfl (vf (by decide +kernel)) (by decide +kernel) (by decide +kernel)) (gf (by decide +kernel)) T.n_isinstance bt_isinstance (by decide +kernel) (by decide +kernel) (gf (by decide +kernel)) T.n_str bt_str (by decide +kernel) (by decide +kernel)) (fun _ => rfl))) (jw_or1 (jtc o.gt (by rfl) (je_callB o.len (gf (by decide +kernel)) T.n_len bt_len (ja_cons (je_var 0 rfl (vf (by decide +kernel)) (by decide +kernel) (by decide +kernel)) (ja_nil)) (by decide +kernel) (by decide +kernel)) (je_gi (gf (by decide +kernel)) (by decide +kernel) T.c_MAX_SIGNS))))) (jb_one (js_raise o (jm_own T.xp_InvalidText T.g_InvalidText (gf (by decide +kernel)) (by decide +kernel)))) (jb_nil))
theorem nd_whole_lines : (["text", "lines"] : List Str).Nodup := by decide +kernel
theorem fs_whole_lines : FnScope ["text", "lines"] ["text"] (defScope st_whole_lines) := ⟨rfl, rfl, rfl, nd_whole_lines, rfl, by decide +kernel, by decide +kernel⟩
theorem g_whole_lines (T : Tx P K mg base a G) : FnG P w K mg base G 1 a.whole_lines m_whole_lines := by
  obtain ⟨fd, F⟩ := T.f_whole_lines
  refine fnG_of (k := 0) F fs_whole_lines T.gk (fun _ _ _ _ _ _ us hl => match us, hl with | [_], _ => rfl) fun cdv A outer s H E o => ?_
  exact jb_cons (js_asg (je_split (je_var 0 rfl (vf (by decide +kernel)) (by decide +kernel) (by decide +kernel)) (je_str ⟨#[10]⟩ (by decide +kernel))) (jg_name 1 nd_whole_lines rfl (lf (by decide +kernel)) ff)) (jb_one (js_ret (je_tup (ja_cons (je_slice o (je_var 1 rfl (vf (by decide +kernel)) (by decide +kernel) (by decide +kernel)) (jo_none) (jo_some (je_neg (je_int)))) (ja_cons (je_ix o (je_var 1 rfl (vf (by decide +kernel)) (by decide +kernel) (by decide +kernel)) (je_neg (je_int)) (fun _ _ => rfl)) (ja_nil))))))
theorem nd_number_of : (["part", "sign"] : List Str).Nodup := by decide +kernel
theorem fs_number_of : FnScope ["part", "sign"] ["part"] (defScope st_number_of) := ⟨rfl, rfl, rfl, nd_number_of, rfl, by decide +kernel, by decide +kernel⟩
theorem g_number_of (T : Tx P K mg base a G) : FnG P w K mg base G 1 a.number_of m_number_of := by
  obtain ⟨fd, F⟩ := T.f_number_of
  refine fnG_of (k := 0) F fs_number_of T.gk (fun _ _ _ _ _ _ us hl => match us, hl with | [_], _ => rfl) fun cdv A outer s H E o => ?_
  exact jb_cons (js_if (jt_w (jw_or (jt_not (jtc2 o.le o.le (by rfl) (je_int) (je_callB o.len (gf (by decide +kernel)) T.n_len bt_len (ja_cons (je_var 0 rfl (vf (by decide +kernel)) (by decide +kernel) (by decide +kernel)) (ja_nil)) (by decide +kernel) (by decide +kernel)) (je_gi (gf (by decide +kernel)) (by decide +kernel) T.c_MOST_DIGITS))) (jw_or1 (jt_not (jt_val (je_callB o.all (gf (by decide +kernel)) T.n_all bt_all (ja_cons (je_comp o (own := [("sign", 1)]) (js := [1]) nd_number_of (ji_of o (je_var 0 rfl (vf (by decide +kernel)) (by decide +kernel) (by decide +kernel))) (bf (by decide +kernel)) (fun _ _ _ _ _ => jg_name 1 nd_number_of rfl (lb (by decide +kernel)) (fb (by decide +kernel))) (fun _ _ _ _ _ => jts_nil) (fun _ _ _ _ _ => jec o.blk.in_ (by rfl) (je_var 1 rfl (vb (by decide +kernel)) (by decide +kernel) (by decide +kernel)) (je_gs (gb (by decide +kernel)) (by decide +kernel) T.c_DIGITS)) (by decide)) (ja_nil)) (by decide +kernel) (by decide +kernel)) (fun _ => rfl)))))) (jb_one (js_ret (je_non))) (jb_nil)) (jb_one (js_ret (je_if (jt_w (jw_and (jtc o.eq (by rfl) (je_ix o (je_var 0 rfl (vf (by decide +kernel)) (by decide +kernel) (by decide +kernel)) (je_int) (fun _ _ => rfl)) (je_str ⟨#[48]⟩ (by decide +kernel))) (jw_and1 (jtc o.gt (by rfl) (je_callB o.len (gf (by decide +kernel)) T.n_len bt_len (ja_cons (je_var 0 rfl (vf (by decide +kernel)) (by decide +kernel) (by decide +kernel)) (ja_nil)) (by decide +kernel) (by decide +kernel)) (je_int))))) (je_non) (je_callTy cb_int (gf (by decide +kernel)) T.n_int bt_int (ja_cons (je_var 0 rfl (vf (by decide +kernel)) (by decide +kernel) (by decide +kernel)) (ja_nil)) (by decide +kernel) (by decide +kernel)))))
theorem nd_size_from : (["line", "parts", "size"] : List Str).Nodup := by decide +kernel
theorem fs_size_from : FnScope ["line", "parts", "size"] ["line"] (defScope st_size_from) := ⟨rfl, rfl, rfl, nd_size_from, rfl, by decide +kernel, by decide +kernel⟩
theorem g_size_from (T : Tx P K mg base a G) : FnG P w K mg base G 4 a.size_from m_size_from := by
  obtain ⟨fd, F⟩ := T.f_size_from
  refine fnG_of (k := 3) F fs_size_from T.gk (fun _ _ _ _ _ _ us hl => match us, hl with | [_], _ => rfl) fun cdv A outer s H E o => ?_
  exact jb_cons (js_asg (je_split (je_var 0 rfl (vf (by decide +kernel)) (by decide +kernel) (by decide +kernel)) (je_str ⟨#[32]⟩ (by decide +kernel))) (jg_name 1 nd_size_from rfl (lf (by decide +kernel)) ff)) (jb_cons (js_asg (je_if (jt_w (jw_and (jtc o.eq (by rfl) (je_callB o.len (gf (by decide +kernel)) T.n_len bt_len (ja_cons (je_var 1 rfl (vf (by decide +kernel)) (by decide +kernel) (by decide +kernel)) (ja_nil)) (by decide +kernel) (by decide +kernel)) (je_int)) (jw_and1 (jtc o.eq (by rfl) (je_ix o (je_var 1 rfl (vf (by decide +kernel)) (by decide +kernel) (by decide +kernel)) (je_int) (fun _ _ => rfl)) (je_gs (gf (by decide +kernel)) (by decide +kernel) T.c_PLACES))))) (je_call o (g_number_of T) (by omega) (gf (by decide +kernel)) T.g_number_of T.k_number_of (ja_cons (je_ix o (je_var 1 rfl (vf (by decide +kernel)) (by decide +kernel) (by decide +kernel)) (je_int) (fun _ _ => rfl)) (ja_nil)) (by decide +kernel)) (je_non)) (jg_name 2 nd_size_from rfl (lf (by decide +kernel)) ff)) (jb_one (js_ret (je_if (jt_w (jw_and (jtc o.isNot (by rfl) (je_var 2 rfl (vf (by decide +kernel)) (by decide +kernel) (by decide +kernel)) (je_non)) (jw_and1 (jt_val (je_call o (g_is_within T) (by omega) (gf (by decide +kernel)) T.g_is_within T.k_is_within (ja_cons (je_var 2 rfl (vf (by decide +kernel)) (by decide +kernel) (by decide +kernel)) (ja_cons (je_int) (ja_cons (je_gi (gf (by decide +kernel)) (by decide +kernel) T.c_MAX_PLACES) (ja_nil)))) (by decide +kernel)) (fun _ => rfl))))) (je_var 2 rfl (vf (by decide +kernel)) (by decide +kernel) (by decide +kernel)) (je_non)))))
theorem nd_numbers_of : (["parts", "found", "part"] : List Str).Nodup := by decide +kernel
theorem fs_numbers_of : FnScope ["parts", "found", "part"] ["parts"] (defScope st_numbers_of) := ⟨rfl, rfl, rfl, nd_numbers_of, rfl, by decide +kernel, by decide +kernel⟩
theorem g_numbers_of (T : Tx P K mg base a G) : FnG P w K mg base G 2 a.numbers_of m_numbers_of := by
  obtain ⟨fd, F⟩ := T.f_numbers_of
  refine fnG_of (k := 1) F fs_numbers_of T.gk (fun _ _ _ _ _ _ us hl => match us, hl with | [_], _ => rfl) fun cdv A outer s H E o => ?_
  exact jb_cons (js_asg (je_callTy o.tuple (gf (by decide +kernel)) T.n_tuple bt_tuple (ja_cons (je_comp o (own := [("part", 2)]) (js := [2]) nd_numbers_of (ji_of o (je_var 0 rfl (vf (by decide +kernel)) (by decide +kernel) (by decide +kernel))) (bf (by decide +kernel)) (fun _ _ _ _ _ => jg_name 2 nd_numbers_of rfl (lb (by decide +kernel)) (fb (by decide +kernel))) (fun _ _ _ _ _ => jts_nil) (fun _ _ _ _ _ => je_call o.blk (g_number_of T) (by omega) (gb (by decide +kernel)) T.g_number_of T.k_number_of (ja_cons (je_var 2 rfl (vb (by decide +kernel)) (by decide +kernel) (by decide +kernel)) (ja_nil)) (by decide +kernel)) (by decide)) (ja_nil)) (by decide +kernel) (by decide +kernel)) (jg_name 1 nd_numbers_of rfl (lf (by decide +kernel)) ff)) (jb_one (js_ret (je_if (jtc o.in_ (by rfl) (je_non) (je_var 1 rfl (vf (by decide +kernel)) (by decide +kernel) (by decide +kernel))) (je_non) (je_var 1 rfl (vf (by decide +kernel)) (by decide +kernel) (by decide +kernel)))))
theorem nd_tie_from : (["size", "line", "tie"] : List Str).Nodup := by decide +kernel
theorem fs_tie_from : FnScope ["size", "line", "tie"] ["size", "line"] (defScope st_tie_from) := ⟨rfl, rfl, rfl, nd_tie_from, rfl, by decide +kernel, by decide +kernel⟩
theorem g_tie_from (T : Tx P K mg base a G) : FnG P w K mg base G 3 a.tie_from m_tie_from := by
  obtain ⟨fd, F⟩ := T.f_tie_from
  refine fnG_of (k := 2) F fs_tie_from T.gk (fun _ _ _ _ _ _ us hl => match us, hl with | [_, _], _ => rfl) fun cdv A outer s H E o => ?_
  exact jb_cons (js_asg (je_call o (g_numbers_of T) (by omega) (gf (by decide +kernel)) T.g_numbers_of T.k_numbers_of (ja_cons (je_split (je_var 1 rfl (vf (by decide +kernel)) (by decide +kernel) (by decide +kernel)) (je_str ⟨#[45]⟩ (by decide +kernel))) (ja_nil)) (by decide +kernel)) (jg_name 2 nd_tie_from rfl (lf (by decide +kernel)) ff)) (jb_cons (js_if (jt_w (jw_or (jtc o.is (by rfl) (je_var 2 rfl (vf (by decide +kernel)) (by decide +kernel) (by decide +kernel)) (je_non)) (jw_or1 (jtc o.ne (by rfl) (je_callB o.len (gf (by decide +kernel)) T.n_len bt_len (ja_cons (je_var 2 rfl (vf (by decide +kernel)) (by decide +kernel) (by decide +kernel)) (ja_nil)) (by decide +kernel) (by decide +kernel)) (je_int))))) (jb_one (js_ret (je_non))) (jb_nil)) (jb_one (js_ret (je_if (jtc2 o.le o.lt (by rfl) (je_ix o (je_var 2 rfl (vf (by decide +kernel)) (by decide +kernel) (by decide +kernel)) (je_int) (fun _ _ => rfl)) (je_ix o (je_var 2 rfl (vf (by decide +kernel)) (by decide +kernel) (by decide +kernel)) (je_int) (fun _ _ => rfl)) (je_var 0 rfl (vf (by decide +kernel)) (by decide +kernel) (by decide +kernel))) (je_var 2 rfl (vf (by decide +kernel)) (by decide +kernel) (by decide +kernel)) (je_non)))))
theorem nd_read_web : (["text", "lines", "rest", "size", "found", "number", "line", "tie"] : List Str).Nodup := by decide +kernel
theorem fs_read_web : FnScope ["text", "lines", "rest", "size", "found", "number", "line", "tie"] ["text"] (defScope st_read_web) := ⟨rfl, rfl, rfl, nd_read_web, rfl, by decide +kernel, by decide +kernel⟩
theorem g_read_web (T : Tx P K mg base a G) : FnG P w K mg base G 7 a.read_web m_read_web := by
  obtain ⟨fd, F⟩ := T.f_read_web
  refine fnG_of (k := 6) F fs_read_web T.gk (fun _ _ _ _ _ _ us hl => match us, hl with | [_], _ => rfl) fun cdv A outer s H E o => ?_
  exact jb_cons (js_expr (je_call o (g_require_text T) (by omega) (gf (by decide +kernel)) T.g_require_text T.k_require_text (ja_cons (je_var 0 rfl (vf (by decide +kernel)) (by decide +kernel) (by decide +kernel)) (ja_nil)) (by decide +kernel))) (jb_cons (js_asg (je_call o (g_whole_lines T) (by omega) (gf (by decide +kernel)) T.g_whole_lines T.k_whole_lines (ja_cons (je_var 0 rfl (vf (by decide +kernel)) (by decide +kernel) (by decide +kernel)) (ja_nil)) (by decide +kernel)) (jg_tup o.calm o.gk 2 (jgs_cons (jg_name 1 nd_read_web rfl (lf (by decide +kernel)) ff) (jgs_cons (jg_name 2 nd_read_web rfl (lf (by decide +kernel)) ff) (jgs_nil))) (gMore_len (gMore_len (gEnd_len))))) (jb_cons (js_asg (je_if (jtc o.ne (by rfl) (je_var 1 rfl (vf (by decide +kernel)) (by decide +kernel) (by decide +kernel)) (je_lst (ja_nil))) (je_call o (g_size_from T) (by omega) (gf (by decide +kernel)) T.g_size_from T.k_size_from (ja_cons (je_ix o (je_var 1 rfl (vf (by decide +kernel)) (by decide +kernel) (by decide +kernel)) (je_int) (fun _ _ => rfl)) (ja_nil)) (by decide +kernel)) (je_non)) (jg_name 3 nd_read_web rfl (lf (by decide +kernel)) ff)) (jb_cons (js_if (jtc o.is (by rfl) (je_var 3 rfl (vf (by decide +kernel)) (by decide +kernel) (by decide +kernel)) (je_non)) (jb_one (js_raise o (jm_sup o T.su_ParseError T.xn_ParseError T.xf_ParseError (gf (by decide +kernel)) T.g_ParseError (ja_cons (je_int) (ja_nil)) (by decide +kernel)))) (jb_nil)) (jb_cons (js_asg (je_lstM (ja_nil)) (jg_name 4 nd_read_web rfl (lf (by decide +kernel)) ff)) (jb_cons (js_for o (ji_enum (gf (by decide +kernel)) T.n_enumerate (ja_cons (je_slice o (je_var 1 rfl (vf (by decide +kernel)) (by decide +kernel) (by decide +kernel)) (jo_some (je_int)) (jo_none)) (ja_nil))) (jg_tup o.calm o.gk 2 (jgs_cons (jg_name 5 nd_read_web rfl (lf (by decide +kernel)) ff) (jgs_cons (jg_name 6 nd_read_web rfl (lf (by decide +kernel)) ff) (jgs_nil))) (gMore_len (gMore_len (gEnd_len)))) (jb_cons (js_asg (je_call o (g_tie_from T) (by omega) (gf (by decide +kernel)) T.g_tie_from T.k_tie_from (ja_cons (je_var 3 rfl (vf (by decide +kernel)) (by decide +kernel) (by decide +kernel)) (ja_cons (je_var 6 rfl (vf (by decide +kernel)) (by decide +kernel) (by decide +kernel)) (ja_nil))) (by decide +kernel)) (jg_name 7 nd_read_web rfl (lf (by decide +kernel)) ff)) (jb_cons (js_if (jt_w (jw_or (jtc o.is (by rfl) (je_var 7 rfl (vf (by decide +kernel)) (by decide +kernel) (by decide +kernel)) (je_non)) (jw_or (jtc o.eq (by rfl) (je_callB o.len (gf (by decide +kernel)) T.n_len bt_len (ja_cons (je_var 4 rfl (vf (by decide +kernel)) (by decide +kernel) (by decide +kernel)) (ja_nil)) (by decide +kernel) (by decide +kernel)) (je_gi (gf (by decide +kernel)) (by decide +kernel) T.c_MAX_TIES)) (jw_or1 (jt_w (jw_and (jtc o.ne (by rfl) (je_var 4 rfl (vf (by decide +kernel)) (by decide +kernel) (by decide +kernel)) (je_lst (ja_nil))) (jw_and1 (jtc o.lt (by rfl) (je_var 7 rfl (vf (by decide +kernel)) (by decide +kernel) (by decide +kernel)) (je_ix o (je_var 4 rfl (vf (by decide +kernel)) (by decide +kernel) (by decide +kernel)) (je_neg (je_int)) (fun _ _ => rfl)))))))))) (jb_one (js_raise o (jm_sup o T.su_ParseError T.xn_ParseError T.xf_ParseError (gf (by decide +kernel)) T.g_ParseError (ja_cons (je_add o (je_var 5 rfl (vf (by decide +kernel)) (by decide +kernel) (by decide +kernel)) (je_int)) (ja_nil)) (by decide +kernel)))) (jb_nil)) (jb_one (js_expr (je_append o (je_var 4 rfl (vf (by decide +kernel)) (by decide +kernel) (by decide +kernel)) (je_var 7 rfl (vf (by decide +kernel)) (by decide +kernel) (by decide +kernel)))))))) (jb_cons (js_if (jtc o.ne (by rfl) (je_var 2 rfl (vf (by decide +kernel)) (by decide +kernel) (by decide +kernel)) (je_str ⟨#[]⟩ (by decide +kernel))) (jb_one (js_raise o (jm_sup o T.su_ParseError T.xn_ParseError T.xf_ParseError (gf (by decide +kernel)) T.g_ParseError (ja_cons (je_callB o.len (gf (by decide +kernel)) T.n_len bt_len (ja_cons (je_var 1 rfl (vf (by decide +kernel)) (by decide +kernel) (by decide +kernel)) (ja_nil)) (by decide +kernel) (by decide +kernel)) (ja_nil)) (by decide +kernel)))) (jb_nil)) (jb_one (js_ret (je_mk o T.mk_Web T.sc_Web.cls (g_Web_init T) (by omega) (gf (by decide +kernel)) T.g_Web (ja_cons (je_var 3 rfl (vf (by decide +kernel)) (by decide +kernel) (by decide +kernel)) (ja_cons (je_callTy o.tuple (gf (by decide +kernel)) T.n_tuple bt_tuple (ja_cons (je_var 4 rfl (vf (by decide +kernel)) (by decide +kernel) (by decide +kernel)) (ja_nil)) (by decide +kernel) (by decide +kernel)) (ja_nil))) (by decide +kernel))))))))))
theorem nd_Web_size : (["self"] : List Str).Nodup := by decide +kernel
theorem fs_Web_size : FnScope ["self"] ["self"] (defScope st_Web_size) := ⟨rfl, rfl, rfl, nd_Web_size, rfl, by decide +kernel, by decide +kernel⟩
theorem g_Web_size (T : Tx P K mg base a G) : FnG P w K mg base G 1 a.Web_size m_Web_size := by
  obtain ⟨fd, F⟩ := T.f_Web_size
  refine fnG_of (k := 0) F fs_Web_size T.gk (fun _ _ _ _ _ _ us hl => match us, hl with | [_], _ => rfl) fun cdv A outer s H E o => ?_
  exact jb_one (js_ret (je_fld o T.sc_Web T.sl_own_size (je_var 0 rfl (vf (by decide +kernel)) (by decide +kernel) (by decide +kernel))))
theorem nd_Web_ties : (["self"] : List Str).Nodup := by decide +kernel
theorem fs_Web_ties : FnScope ["self"] ["self"] (defScope st_Web_ties) := ⟨rfl, rfl, rfl, nd_Web_ties, rfl, by decide +kernel, by decide +kernel⟩
theorem g_Web_ties (T : Tx P K mg base a G) : FnG P w K mg base G 1 a.Web_ties m_Web_ties := by
  obtain ⟨fd, F⟩ := T.f_Web_ties
  refine fnG_of (k := 0) F fs_Web_ties T.gk (fun _ _ _ _ _ _ us hl => match us, hl with | [_], _ => rfl) fun cdv A outer s H E o => ?_
  exact jb_one (js_ret (je_fld o T.sc_Web T.sl_own_ties (je_var 0 rfl (vf (by decide +kernel)) (by decide +kernel) (by decide +kernel))))
theorem nd_law_number : (["part", "sign"] : List Str).Nodup := by decide +kernel
theorem fs_law_number : FnScope ["part", "sign"] ["part"] (defScope st_law_number) := ⟨rfl, rfl, rfl, nd_law_number, rfl, by decide +kernel, by decide +kernel⟩
theorem g_law_number (T : Tx P K mg base a G) : FnG P w K mg base G 1 a.law_number m_law_number := by
  obtain ⟨fd, F⟩ := T.f_law_number
  refine fnG_of (k := 0) F fs_law_number T.gk (fun _ _ _ _ _ _ us hl => match us, hl with | [_], _ => rfl) fun cdv A outer s H E o => ?_
  exact jb_cons (js_if (jt_w (jw_or (jtc o.eq (by rfl) (je_var 0 rfl (vf (by decide +kernel)) (by decide +kernel) (by decide +kernel)) (je_str ⟨#[]⟩ (by decide +kernel))) (jw_or (jtc o.gt (by rfl) (je_callB o.len (gf (by decide +kernel)) T.n_len bt_len (ja_cons (je_var 0 rfl (vf (by decide +kernel)) (by decide +kernel) (by decide +kernel)) (ja_nil)) (by decide +kernel) (by decide +kernel)) (je_int)) (jw_or (jtc o.ne (by rfl) (je_comp o (own := [("sign", 1)]) (js := [1]) nd_law_number (ji_of o (je_var 0 rfl (vf (by decide +kernel)) (by decide +kernel) (by decide +kernel))) (bf (by decide +kernel)) (fun _ _ _ _ _ => jg_name 1 nd_law_number rfl (lb (by decide +kernel)) (fb (by decide +kernel))) (fun _ _ _ _ _ => jts_one (jtc o.blk.notIn (by rfl) (je_var 1 rfl (vb (by decide +kernel)) (by decide +kernel) (by decide +kernel)) (je_str ⟨#[48, 49, 50, 51, 52, 53, 54, 55, 56, 57]⟩ (by decide +kernel)))) (fun _ _ _ _ _ => je_var 1 rfl (vb (by decide +kernel)) (by decide +kernel) (by decide +kernel)) (by decide)) (je_lst (ja_nil))) (jw_or1 (jt_w (jw_and (jtc o.eq (by rfl) (je_ix o (je_var 0 rfl (vf (by decide +kernel)) (by decide +kernel) (by decide +kernel)) (je_int) (fun _ _ => rfl)) (je_str ⟨#[48]⟩ (by decide +kernel))) (jw_and1 (jtc o.ne (by rfl) (je_var 0 rfl (vf (by decide +kernel)) (by decide +kernel) (by decide +kernel)) (je_str ⟨#[48]⟩ (by decide +kernel))))))))))) (jb_one (js_ret (je_non))) (jb_nil)) (jb_one (js_ret (je_callTy cb_int (gf (by decide +kernel)) T.n_int bt_int (ja_cons (je_var 0 rfl (vf (by decide +kernel)) (by decide +kernel) (by decide +kernel)) (ja_nil)) (by decide +kernel) (by decide +kernel))))
theorem nd_law_of_web : (["text", "lines", "size", "found", "at", "line", "tie", "part"] : List Str).Nodup := by decide +kernel
theorem fs_law_of_web : FnScope ["text", "lines", "size", "found", "at", "line", "tie", "part"] ["text"] (defScope st_law_of_web) := ⟨rfl, rfl, rfl, nd_law_of_web, rfl, by decide +kernel, by decide +kernel⟩
theorem g_law_of_web (T : Tx P K mg base a G) : FnG P w K mg base G 2 a.law_of_web m_law_of_web := by
  obtain ⟨fd, F⟩ := T.f_law_of_web
  refine fnG_of (k := 1) F fs_law_of_web T.gk (fun _ _ _ _ _ _ us hl => match us, hl with | [_], _ => rfl) fun cdv A outer s H E o => ?_
  exact jb_cons (js_asg (je_split (je_var 0 rfl (vf (by decide +kernel)) (by decide +kernel) (by decide +kernel)) (je_str ⟨#[10]⟩ (by decide +kernel))) (jg_name 1 nd_law_of_web rfl (lf (by decide +kernel)) ff)) (jb_cons (js_asg (je_if (jt_w (jw_and (jtc o.eq (by rfl) (je_slice o (je_ix o (je_var 1 rfl (vf (by decide +kernel)) (by decide +kernel) (by decide +kernel)) (je_int) (fun _ _ => rfl)) (jo_none) (jo_some (je_int))) (je_str ⟨#[112, 108, 97, 99, 101, 115, 32]⟩ (by decide +kernel))) (jw_and1 (jtc o.gt (by rfl) (je_callB o.len (gf (by decide +kernel)) T.n_len bt_len (ja_cons (je_var 1 rfl (vf (by decide +kernel)) (by decide +kernel) (by decide +kernel)) (ja_nil)) (by decide +kernel) (by decide +kernel)) (je_int))))) (je_call o (g_law_number T) (by omega) (gf (by decide +kernel)) T.g_law_number T.k_law_number (ja_cons (je_slice o (je_ix o (je_var 1 rfl (vf (by decide +kernel)) (by decide +kernel) (by decide +kernel)) (je_int) (fun _ _ => rfl)) (jo_some (je_int)) (jo_none)) (ja_nil)) (by decide +kernel)) (je_non)) (jg_name 2 nd_law_of_web rfl (lf (by decide +kernel)) ff)) (jb_cons (js_if (jt_w (jw_or (jtc o.is (by rfl) (je_var 2 rfl (vf (by decide +kernel)) (by decide +kernel) (by decide +kernel)) (je_non)) (jw_or1 (jt_not (jtc2 o.le o.le (by rfl) (je_int) (je_var 2 rfl (vf (by decide +kernel)) (by decide +kernel) (by decide +kernel)) (je_int)))))) (jb_one (js_ret (je_tup (ja_cons (je_int) (ja_cons (je_non) (ja_nil)))))) (jb_nil)) (jb_cons (js_asg (je_lstM (ja_nil)) (jg_name 3 nd_law_of_web rfl (lf (by decide +kernel)) ff)) (jb_cons (js_for o (ji_enum (gf (by decide +kernel)) T.n_enumerate (ja_cons (je_slice o (je_var 1 rfl (vf (by decide +kernel)) (by decide +kernel) (by decide +kernel)) (jo_some (je_int)) (jo_some (je_neg (je_int)))) (ja_nil))) (jg_tup o.calm o.gk 2 (jgs_cons (jg_name 4 nd_law_of_web rfl (lf (by decide +kernel)) ff) (jgs_cons (jg_name 5 nd_law_of_web rfl (lf (by decide +kernel)) ff) (jgs_nil))) (gMore_len (gMore_len (gEnd_len)))) (jb_cons (js_setLc o (own := [("part", 7)]) (js := [7]) nd_law_of_web rfl (qf (by decide +kernel)) (sw_true rfl (qf (by decide +kernel)) rfl (by decide +kernel)) (ji_of o (je_split (je_var 5 rfl (vf (by decide +kernel)) (by decide +kernel) (by decide +kernel)) (je_str ⟨#[45]⟩ (by decide +kernel)))) (bf (by decide +kernel)) (fun _ _ _ _ _ => jg_name 7 nd_law_of_web rfl (lb (by decide +kernel)) (fb (by decide +kernel))) (fun _ _ _ _ _ => jts_nil) (fun _ _ _ _ _ => je_call o.blk (g_law_number T) (by omega) (gb (by decide +kernel)) T.g_law_number T.k_law_number (ja_cons (je_var 7 rfl (vb (by decide +kernel)) (by decide +kernel) (by decide +kernel)) (ja_nil)) (by decide +kernel)) (by decide)) (jb_cons (js_if (jt_w (jw_or (jtc o.ne (by rfl) (je_callB o.len (gf (by decide +kernel)) T.n_len bt_len (ja_cons (je_var 6 rfl (vf (by decide +kernel)) (by decide +kernel) (by decide +kernel)) (ja_nil)) (by decide +kernel) (by decide +kernel)) (je_int)) (jw_or (jtc o.in_ (by rfl) (je_non) (je_var 6 rfl (vf (by decide +kernel)) (by decide +kernel) (by decide +kernel))) (jw_or (jt_not (jtc2 o.le o.lt (by rfl) (je_ix o (je_var 6 rfl (vf (by decide +kernel)) (by decide +kernel) (by decide +kernel)) (je_int) (fun _ _ => rfl)) (je_ix o (je_var 6 rfl (vf (by decide +kernel)) (by decide +kernel) (by decide +kernel)) (je_int) (fun _ _ => rfl)) (je_var 2 rfl (vf (by decide +kernel)) (by decide +kernel) (by decide +kernel)))) (jw_or (jtc o.eq (by rfl) (je_callB o.len (gf (by decide +kernel)) T.n_len bt_len (ja_cons (je_var 3 rfl (vf (by decide +kernel)) (by decide +kernel) (by decide +kernel)) (ja_nil)) (by decide +kernel) (by decide +kernel)) (je_int)) (jw_or1 (jt_w (jw_and (jtc o.ne (by rfl) (je_var 3 rfl (vf (by decide +kernel)) (by decide +kernel) (by decide +kernel)) (je_lst (ja_nil))) (jw_and1 (jtc o.lt (by rfl) (je_callTy o.tuple (gf (by decide +kernel)) T.n_tuple bt_tuple (ja_cons (je_var 6 rfl (vf (by decide +kernel)) (by decide +kernel) (by decide +kernel)) (ja_nil)) (by decide +kernel) (by decide +kernel)) (je_ix o (je_var 3 rfl (vf (by decide +kernel)) (by decide +kernel) (by decide +kernel)) (je_neg (je_int)) (fun _ _ => rfl)))))))))))) (jb_one (js_ret (je_tup (ja_cons (je_add o (je_var 4 rfl (vf (by decide +kernel)) (by decide +kernel) (by decide +kernel)) (je_int)) (ja_cons (je_non) (ja_nil)))))) (jb_nil)) (jb_one (js_expr (je_append o (je_var 3 rfl (vf (by decide +kernel)) (by decide +kernel) (by decide +kernel)) (je_callTy o.tuple (gf (by decide +kernel)) T.n_tuple bt_tuple (ja_cons (je_var 6 rfl (vf (by decide +kernel)) (by decide +kernel) (by decide +kernel)) (ja_nil)) (by decide +kernel) (by decide +kernel)))))))) (jb_one (js_ret (je_if (jtc o.eq (by rfl) (je_ix o (je_var 1 rfl (vf (by decide +kernel)) (by decide +kernel) (by decide +kernel)) (je_neg (je_int)) (fun _ _ => rfl)) (je_str ⟨#[]⟩ (by decide +kernel))) (je_tup (ja_cons (je_non) (ja_cons (je_tup (ja_cons (je_var 2 rfl (vf (by decide +kernel)) (by decide +kernel) (by decide +kernel)) (ja_cons (je_callTy o.tuple (gf (by decide +kernel)) T.n_tuple bt_tuple (ja_cons (je_var 3 rfl (vf (by decide +kernel)) (by decide +kernel) (by decide +kernel)) (ja_nil)) (by decide +kernel) (by decide +kernel)) (ja_nil)))) (ja_nil)))) (je_tup (ja_cons (je_sub (je_callB o.len (gf (by decide +kernel)) T.n_len bt_len (ja_cons (je_var 1 rfl (vf (by decide +kernel)) (by decide +kernel) (by decide +kernel)) (ja_nil)) (by decide +kernel) (by decide +kernel)) (je_int)) (ja_cons (je_non) (ja_nil)))))))))))
theorem nd_require_web : (["web"] : List Str).Nodup := by decide +kernel
theorem fs_require_web : FnScope ["web"] ["web"] (defScope st_require_web) := ⟨rfl, rfl, rfl, nd_require_web, rfl, by decide +kernel, by decide +kernel⟩
theorem g_require_web (T : Tx P K mg base a G) : FnG P w K mg base G 1 a.require_web m_require_web := by
  obtain ⟨fd, F⟩ := T.f_require_web
  refine fnG_of (k := 0) F fs_require_web T.gk (fun _ _ _ _ _ _ us hl => match us, hl with | [_], _ => rfl) fun cdv A outer s H E o => ?_
  exact jb_one (js_if (jt_not (jt_val (je_isiO o T.io_Web (je_var 0 rfl (vf (by decide +kernel)) (by decide +kernel) (by decide +kernel)) (gf (by decide +kernel)) T.n_isinstance bt_isinstance (by decide +kernel) (by decide +kernel) (gf (by decide +kernel)) T.g_Web (by decide +kernel)) (fun _ => rfl))) (jb_one (js_raise o (jm_own T.xp_InvalidWeb T.g_InvalidWeb (gf (by decide +kernel)) (by decide +kernel)))) (jb_nil))
theorem nd_alone_line : (["text", "lines", "rest"] : List Str).Nodup := by decide +kernel
theorem fs_alone_line : FnScope ["text", "lines", "rest"] ["text"] (defScope st_alone_line) := ⟨rfl, rfl, rfl, nd_alone_line, rfl, by decide +kernel, by decide +kernel⟩
theorem g_alone_line (T : Tx P K mg base a G) : FnG P w K mg base G 3 a.alone_line m_alone_line := by
  obtain ⟨fd, F⟩ := T.f_alone_line
  refine fnG_of (k := 2) F fs_alone_line T.gk (fun _ _ _ _ _ _ us hl => match us, hl with | [_], _ => rfl) fun cdv A outer s H E o => ?_
  exact jb_cons (js_asg (je_call o (g_whole_lines T) (by omega) (gf (by decide +kernel)) T.g_whole_lines T.k_whole_lines (ja_cons (je_var 0 rfl (vf (by decide +kernel)) (by decide +kernel) (by decide +kernel)) (ja_nil)) (by decide +kernel)) (jg_tup o.calm o.gk 2 (jgs_cons (jg_name 1 nd_alone_line rfl (lf (by decide +kernel)) ff) (jgs_cons (jg_name 2 nd_alone_line rfl (lf (by decide +kernel)) ff) (jgs_nil))) (gMore_len (gMore_len (gEnd_len))))) (jb_cons (js_if (jtc o.eq (by rfl) (je_var 1 rfl (vf (by decide +kernel)) (by decide +kernel) (by decide +kernel)) (je_lst (ja_nil))) (jb_one (js_raise o (jm_sup o T.su_ParseError T.xn_ParseError T.xf_ParseError (gf (by decide +kernel)) T.g_ParseError (ja_cons (je_int) (ja_nil)) (by decide +kernel)))) (jb_nil)) (jb_cons (js_if (jt_w (jw_or (jtc o.gt (by rfl) (je_callB o.len (gf (by decide +kernel)) T.n_len bt_len (ja_cons (je_var 1 rfl (vf (by decide +kernel)) (by decide +kernel) (by decide +kernel)) (ja_nil)) (by decide +kernel) (by decide +kernel)) (je_int)) (jw_or1 (jtc o.ne (by rfl) (je_var 2 rfl (vf (by decide +kernel)) (by decide +kernel) (by decide +kernel)) (je_str ⟨#[]⟩ (by decide +kernel)))))) (jb_one (js_ret (je_tup (ja_cons (je_ix o (je_var 1 rfl (vf (by decide +kernel)) (by decide +kernel) (by decide +kernel)) (je_int) (fun _ _ => rfl)) (ja_cons (je_int) (ja_nil)))))) (jb_nil)) (jb_one (js_ret (je_tup (ja_cons (je_ix o (je_var 1 rfl (vf (by decide +kernel)) (by decide +kernel) (by decide +kernel)) (je_int) (fun _ _ => rfl)) (ja_cons (je_non) (ja_nil))))))))
theorem nd_read_signs : (["web", "text", "line", "spot", "sign"] : List Str).Nodup := by decide +kernel
theorem fs_read_signs : FnScope ["web", "text", "line", "spot", "sign"] ["web", "text"] (defScope st_read_signs) := ⟨rfl, rfl, rfl, nd_read_signs, rfl, by decide +kernel, by decide +kernel⟩
theorem g_read_signs (T : Tx P K mg base a G) : FnG P w K mg base G 4 a.read_signs m_read_signs := by
  obtain ⟨fd, F⟩ := T.f_read_signs
  refine fnG_of (k := 3) F fs_read_signs T.gk (fun _ _ _ _ _ _ us hl => match us, hl with | [_, _], _ => rfl) fun cdv A outer s H E o => ?_
  exact jb_cons (js_expr (je_call o (g_require_web T) (by omega) (gf (by decide +kernel)) T.g_require_web T.k_require_web (ja_cons (je_var 0 rfl (vf (by decide +kernel)) (by decide +kernel) (by decide +kernel)) (ja_nil)) (by decide +kernel))) (jb_cons (js_expr (je_call o (g_require_text T) (by omega) (gf (by decide +kernel)) T.g_require_text T.k_require_text (ja_cons (je_var 1 rfl (vf (by decide +kernel)) (by decide +kernel) (by decide +kernel)) (ja_nil)) (by decide +kernel))) (jb_cons (js_asg (je_call o (g_alone_line T) (by omega) (gf (by decide +kernel)) T.g_alone_line T.k_alone_line (ja_cons (je_var 1 rfl (vf (by decide +kernel)) (by decide +kernel) (by decide +kernel)) (ja_nil)) (by decide +kernel)) (jg_tup o.calm o.gk 2 (jgs_cons (jg_name 2 nd_read_signs rfl (lf (by decide +kernel)) ff) (jgs_cons (jg_name 3 nd_read_signs rfl (lf (by decide +kernel)) ff) (jgs_nil))) (gMore_len (gMore_len (gEnd_len))))) (jb_cons (js_if (jt_w (jw_or (jtc o.ne (by rfl) (je_callB o.len (gf (by decide +kernel)) T.n_len bt_len (ja_cons (je_var 2 rfl (vf (by decide +kernel)) (by decide +kernel) (by decide +kernel)) (ja_nil)) (by decide +kernel) (by decide +kernel)) (je_callB o.len (gf (by decide +kernel)) T.n_len bt_len (ja_cons (je_fld o T.sc_Web T.sl_own_ties (je_var 0 rfl (vf (by decide +kernel)) (by decide +kernel) (by decide +kernel))) (ja_nil)) (by decide +kernel) (by decide +kernel))) (jw_or1 (jt_not (jt_val (je_callB o.all (gf (by decide +kernel)) T.n_all bt_all (ja_cons (je_comp o (own := [("sign", 4)]) (js := [4]) nd_read_signs (ji_of o (je_var 2 rfl (vf (by decide +kernel)) (by decide +kernel) (by decide +kernel))) (bf (by decide +kernel)) (fun _ _ _ _ _ => jg_name 4 nd_read_signs rfl (lb (by decide +kernel)) (fb (by decide +kernel))) (fun _ _ _ _ _ => jts_nil) (fun _ _ _ _ _ => jec o.blk.in_ (by rfl) (je_var 4 rfl (vb (by decide +kernel)) (by decide +kernel) (by decide +kernel)) (je_tup (ja_cons (je_gs (gb (by decide +kernel)) (by decide +kernel) T.c_ALONG) (ja_cons (je_gs (gb (by decide +kernel)) (by decide +kernel) T.c_AGAINST) (ja_nil))))) (by decide)) (ja_nil)) (by decide +kernel) (by decide +kernel)) (fun _ => rfl)))))) (jb_one (js_raise o (jm_sup o T.su_ParseError T.xn_ParseError T.xf_ParseError (gf (by decide +kernel)) T.g_ParseError (ja_cons (je_int) (ja_nil)) (by decide +kernel)))) (jb_nil)) (jb_cons (js_if (jtc o.isNot (by rfl) (je_var 3 rfl (vf (by decide +kernel)) (by decide +kernel) (by decide +kernel)) (je_non)) (jb_one (js_raise o (jm_sup o T.su_ParseError T.xn_ParseError T.xf_ParseError (gf (by decide +kernel)) T.g_ParseError (ja_cons (je_var 3 rfl (vf (by decide +kernel)) (by decide +kernel) (by decide +kernel)) (ja_nil)) (by decide +kernel)))) (jb_nil)) (jb_one (js_ret (je_callTy o.tuple (gf (by decide +kernel)) T.n_tuple bt_tuple (ja_cons (je_comp o (own := [("sign", 4)]) (js := [4]) nd_read_signs (ji_of o (je_var 2 rfl (vf (by decide +kernel)) (by decide +kernel) (by decide +kernel))) (bf (by decide +kernel)) (fun _ _ _ _ _ => jg_name 4 nd_read_signs rfl (lb (by decide +kernel)) (fb (by decide +kernel))) (fun _ _ _ _ _ => jts_nil) (fun _ _ _ _ _ => je_if (jtc o.blk.eq (by rfl) (je_var 4 rfl (vb (by decide +kernel)) (by decide +kernel) (by decide +kernel)) (je_gs (gb (by decide +kernel)) (by decide +kernel) T.c_ALONG)) (je_int) (je_neg (je_int))) (by decide)) (ja_nil)) (by decide +kernel) (by decide +kernel))))))))
theorem nd_law_of_line : (["text", "call", "lines", "told"] : List Str).Nodup := by decide +kernel
theorem fs_law_of_line : FnScope ["text", "call", "lines", "told"] ["text", "call"] (defScope st_law_of_line) := ⟨rfl, rfl, rfl, nd_law_of_line, rfl, by decide +kernel, by decide +kernel⟩
theorem g_law_of_line (T : Tx P K mg base a G) (N : G.lam = none) : FnL P w K mg base G 1 a.law_of_line m_law_of_line := by
  obtain ⟨fd, F⟩ := T.f_law_of_line
  refine fnL_of (k := 0) F fs_law_of_line T.gk N (fun _ _ _ _ _ _ us hl => match us, hl with | [_, _], _ => rfl) fun kk cdv A outer s E L φ act o => ?_
  have T := T.wl (some L)
  exact jb_cons (js_asg (je_split (je_var 0 rfl (vf (by decide +kernel)) (by decide +kernel) (by decide +kernel)) (je_str ⟨#[10]⟩ (by decide +kernel))) (jg_name 2 nd_law_of_line rfl (lf (by decide +kernel)) ff)) (jb_cons (js_asg (je_if (jtc o.gt (by rfl) (je_callB o.len (gf (by decide +kernel)) T.n_len bt_len (ja_cons (je_var 2 rfl (vf (by decide +kernel)) (by decide +kernel) (by decide +kernel)) (ja_nil)) (by decide +kernel) (by decide +kernel)) (je_int)) (je_act o (by omega) N act rfl rfl (i := 1) rfl (vf (by decide +kernel)) (by decide +kernel) (by decide +kernel) (ja_cons (je_ix o (je_var 2 rfl (vf (by decide +kernel)) (by decide +kernel) (by decide +kernel)) (je_int) (fun _ _ => rfl)) (ja_nil))) (je_non)) (jg_name 3 nd_law_of_line rfl (lf (by decide +kernel)) ff)) (jb_cons (js_if (jtc o.is (by rfl) (je_var 3 rfl (vf (by decide +kernel)) (by decide +kernel) (by decide +kernel)) (je_non)) (jb_one (js_ret (je_tup (ja_cons (je_int) (ja_cons (je_non) (ja_nil)))))) (jb_nil)) (jb_one (js_ret (je_if (jtc o.eq (by rfl) (je_slice o (je_var 2 rfl (vf (by decide +kernel)) (by decide +kernel) (by decide +kernel)) (jo_some (je_int)) (jo_none)) (je_lst (ja_cons (je_str ⟨#[]⟩ (by decide +kernel)) (ja_nil)))) (je_tup (ja_cons (je_non) (ja_cons (je_var 3 rfl (vf (by decide +kernel)) (by decide +kernel) (by decide +kernel)) (ja_nil)))) (je_tup (ja_cons (je_int) (ja_cons (je_non) (ja_nil)))))))))
theorem nd_law_signs_of : (["line", "many", "sign"] : List Str).Nodup := by decide +kernel
theorem fs_law_signs_of : FnScope ["line", "many", "sign"] ["line", "many"] (defScope st_law_signs_of) := ⟨rfl, rfl, rfl, nd_law_signs_of, rfl, by decide +kernel, by decide +kernel⟩
theorem g_law_signs_of (T : Tx P K mg base a G) : FnG P w K mg base G 1 a.law_signs_of m_law_signs_of := by
  obtain ⟨fd, F⟩ := T.f_law_signs_of
  refine fnG_of (k := 0) F fs_law_signs_of T.gk (fun _ _ _ _ _ _ us hl => match us, hl with | [_, _], _ => rfl) fun cdv A outer s H E o => ?_
  exact jb_cons (js_if (jt_w (jw_or (jtc o.ne (by rfl) (je_callB o.len (gf (by decide +kernel)) T.n_len bt_len (ja_cons (je_var 0 rfl (vf (by decide +kernel)) (by decide +kernel) (by decide +kernel)) (ja_nil)) (by decide +kernel) (by decide +kernel)) (je_var 1 rfl (vf (by decide +kernel)) (by decide +kernel) (by decide +kernel))) (jw_or1 (jtc o.ne (by rfl) (je_comp o (own := [("sign", 2)]) (js := [2]) nd_law_signs_of (ji_of o (je_var 0 rfl (vf (by decide +kernel)) (by decide +kernel) (by decide +kernel))) (bf (by decide +kernel)) (fun _ _ _ _ _ => jg_name 2 nd_law_signs_of rfl (lb (by decide +kernel)) (fb (by decide +kernel))) (fun _ _ _ _ _ => jts_one (jtc o.blk.notIn (by rfl) (je_var 2 rfl (vb (by decide +kernel)) (by decide +kernel) (by decide +kernel)) (je_str ⟨#[60, 62]⟩ (by decide +kernel)))) (fun _ _ _ _ _ => je_var 2 rfl (vb (by decide +kernel)) (by decide +kernel) (by decide +kernel)) (by decide)) (je_lst (ja_nil)))))) (jb_one (js_ret (je_non))) (jb_nil)) (jb_one (js_ret (je_callTy o.tuple (gf (by decide +kernel)) T.n_tuple bt_tuple (ja_cons (je_comp o (own := [("sign", 2)]) (js := [2]) nd_law_signs_of (ji_of o (je_var 0 rfl (vf (by decide +kernel)) (by decide +kernel) (by decide +kernel))) (bf (by decide +kernel)) (fun _ _ _ _ _ => jg_name 2 nd_law_signs_of rfl (lb (by decide +kernel)) (fb (by decide +kernel))) (fun _ _ _ _ _ => jts_nil) (fun _ _ _ _ _ => je_if (jtc o.blk.eq (by rfl) (je_var 2 rfl (vb (by decide +kernel)) (by decide +kernel) (by decide +kernel)) (je_str ⟨#[62]⟩ (by decide +kernel))) (je_int) (je_neg (je_int))) (by decide)) (ja_nil)) (by decide +kernel) (by decide +kernel))))
theorem nd_are_hues_in : (["web", "value", "one"] : List Str).Nodup := by decide +kernel
theorem fs_are_hues_in : FnScope ["web", "value", "one"] ["web", "value"] (defScope st_are_hues_in) := ⟨rfl, rfl, rfl, nd_are_hues_in, rfl, by decide +kernel, by decide +kernel⟩
theorem g_are_hues_in (T : Tx P K mg base a G) : FnG P w K mg base G 4 a.are_hues_in m_are_hues_in := by
  obtain ⟨fd, F⟩ := T.f_are_hues_in
  refine fnG_of (k := 3) F fs_are_hues_in T.gk (fun _ _ _ _ _ _ us hl => match us, hl with | [_, _], _ => rfl) fun cdv A outer s H E o => ?_
  exact jb_cons (js_if (jt_w (jw_or (jt_not (jt_val (je_isiB o T.ib_tuple (je_var 1 rfl (vf (by decide +kernel)) (by decide +kernel) (by decide +kernel)) (gf (by decide +kernel)) T.n_isinstance bt_isinstance (by decide +kernel) (by decide +kernel) (gf (by decide +kernel)) T.n_tuple bt_tuple (by decide +kernel) (by decide +kernel)) (fun _ => rfl))) (jw_or1 (jtc o.ne (by rfl) (je_callB o.len (gf (by decide +kernel)) T.n_len bt_len (ja_cons (je_var 1 rfl (vf (by decide +kernel)) (by decide +kernel) (by decide +kernel)) (ja_nil)) (by decide +kernel) (by decide +kernel)) (je_fld o T.sc_Web T.sl_own_size (je_var 0 rfl (vf (by decide +kernel)) (by decide +kernel) (by decide +kernel))))))) (jb_one (js_ret (je_bl))) (jb_nil)) (jb_one (js_ret (je_callB o.all (gf (by decide +kernel)) T.n_all bt_all (ja_cons (je_comp o (own := [("one", 2)]) (js := [2]) nd_are_hues_in (ji_of o (je_var 1 rfl (vf (by decide +kernel)) (by decide +kernel) (by decide +kernel))) (bf (by decide +kernel)) (fun _ _ _ _ _ => jg_name 2 nd_are_hues_in rfl (lb (by decide +kernel)) (fb (by decide +kernel))) (fun _ _ _ _ _ => jts_nil) (fun _ _ _ _ _ => je_call o.blk (g_is_within T) (by omega) (gb (by decide +kernel)) T.g_is_within T.k_is_within (ja_cons (je_var 2 rfl (vb (by decide +kernel)) (by decide +kernel) (by decide +kernel)) (ja_cons (je_int) (ja_cons (je_gi (gb (by decide +kernel)) (by decide +kernel) T.c_MAX_HUE) (ja_nil)))) (by decide +kernel)) (by decide)) (ja_nil)) (by decide +kernel) (by decide +kernel))))
theorem nd_read_hues : (["web", "text", "line", "spot", "parts", "row"] : List Str).Nodup := by decide +kernel
theorem fs_read_hues : FnScope ["web", "text", "line", "spot", "parts", "row"] ["web", "text"] (defScope st_read_hues) := ⟨rfl, rfl, rfl, nd_read_hues, rfl, by decide +kernel, by decide +kernel⟩
theorem g_read_hues (T : Tx P K mg base a G) : FnG P w K mg base G 5 a.read_hues m_read_hues := by
  obtain ⟨fd, F⟩ := T.f_read_hues
  refine fnG_of (k := 4) F fs_read_hues T.gk (fun _ _ _ _ _ _ us hl => match us, hl with | [_, _], _ => rfl) fun cdv A outer s H E o => ?_
  exact jb_cons (js_expr (je_call o (g_require_web T) (by omega) (gf (by decide +kernel)) T.g_require_web T.k_require_web (ja_cons (je_var 0 rfl (vf (by decide +kernel)) (by decide +kernel) (by decide +kernel)) (ja_nil)) (by decide +kernel))) (jb_cons (js_expr (je_call o (g_require_text T) (by omega) (gf (by decide +kernel)) T.g_require_text T.k_require_text (ja_cons (je_var 1 rfl (vf (by decide +kernel)) (by decide +kernel) (by decide +kernel)) (ja_nil)) (by decide +kernel))) (jb_cons (js_asg (je_call o (g_alone_line T) (by omega) (gf (by decide +kernel)) T.g_alone_line T.k_alone_line (ja_cons (je_var 1 rfl (vf (by decide +kernel)) (by decide +kernel) (by decide +kernel)) (ja_nil)) (by decide +kernel)) (jg_tup o.calm o.gk 2 (jgs_cons (jg_name 2 nd_read_hues rfl (lf (by decide +kernel)) ff) (jgs_cons (jg_name 3 nd_read_hues rfl (lf (by decide +kernel)) ff) (jgs_nil))) (gMore_len (gMore_len (gEnd_len))))) (jb_cons (js_asg (je_split (je_var 2 rfl (vf (by decide +kernel)) (by decide +kernel) (by decide +kernel)) (je_str ⟨#[32]⟩ (by decide +kernel))) (jg_name 4 nd_read_hues rfl (lf (by decide +kernel)) ff)) (jb_cons (js_asg (je_if (jtc o.eq (by rfl) (je_ix o (je_var 4 rfl (vf (by decide +kernel)) (by decide +kernel) (by decide +kernel)) (je_int) (fun _ _ => rfl)) (je_gs (gf (by decide +kernel)) (by decide +kernel) T.c_HUES)) (je_call o (g_numbers_of T) (by omega) (gf (by decide +kernel)) T.g_numbers_of T.k_numbers_of (ja_cons (je_slice o (je_var 4 rfl (vf (by decide +kernel)) (by decide +kernel) (by decide +kernel)) (jo_some (je_int)) (jo_none)) (ja_nil)) (by decide +kernel)) (je_non)) (jg_name 5 nd_read_hues rfl (lf (by decide +kernel)) ff)) (jb_cons (js_if (jt_w (jw_or (jtc o.is (by rfl) (je_var 5 rfl (vf (by decide +kernel)) (by decide +kernel) (by decide +kernel)) (je_non)) (jw_or1 (jt_not (jt_val (je_call o (g_are_hues_in T) (by omega) (gf (by decide +kernel)) T.g_are_hues_in T.k_are_hues_in (ja_cons (je_var 0 rfl (vf (by decide +kernel)) (by decide +kernel) (by decide +kernel)) (ja_cons (je_var 5 rfl (vf (by decide +kernel)) (by decide +kernel) (by decide +kernel)) (ja_nil))) (by decide +kernel)) (fun _ => rfl)))))) (jb_one (js_raise o (jm_sup o T.su_ParseError T.xn_ParseError T.xf_ParseError (gf (by decide +kernel)) T.g_ParseError (ja_cons (je_int) (ja_nil)) (by decide +kernel)))) (jb_nil)) (jb_cons (js_if (jtc o.isNot (by rfl) (je_var 3 rfl (vf (by decide +kernel)) (by decide +kernel) (by decide +kernel)) (je_non)) (jb_one (js_raise o (jm_sup o T.su_ParseError T.xn_ParseError T.xf_ParseError (gf (by decide +kernel)) T.g_ParseError (ja_cons (je_var 3 rfl (vf (by decide +kernel)) (by decide +kernel) (by decide +kernel)) (ja_nil)) (by decide +kernel)))) (jb_nil)) (jb_one (js_ret (je_var 5 rfl (vf (by decide +kernel)) (by decide +kernel) (by decide +kernel))))))))))
theorem nd_law_hues_of : (["line", "size", "row", "part", "hue"] : List Str).Nodup := by decide +kernel
theorem fs_law_hues_of : FnScope ["line", "size", "row", "part", "hue"] ["line", "size"] (defScope st_law_hues_of) := ⟨rfl, rfl, rfl, nd_law_hues_of, rfl, by decide +kernel, by decide +kernel⟩
theorem g_law_hues_of (T : Tx P K mg base a G) : FnG P w K mg base G 2 a.law_hues_of m_law_hues_of := by
  obtain ⟨fd, F⟩ := T.f_law_hues_of
  refine fnG_of (k := 1) F fs_law_hues_of T.gk (fun _ _ _ _ _ _ us hl => match us, hl with | [_, _], _ => rfl) fun cdv A outer s H E o => ?_
  exact jb_cons (js_asg (je_if (jtc o.eq (by rfl) (je_slice o (je_var 0 rfl (vf (by decide +kernel)) (by decide +kernel) (by decide +kernel)) (jo_none) (jo_some (je_int))) (je_str ⟨#[104, 117, 101, 115, 32]⟩ (by decide +kernel))) (je_comp o (own := [("part", 3)]) (js := [3]) nd_law_hues_of (ji_of o (je_split (je_slice o (je_var 0 rfl (vf (by decide +kernel)) (by decide +kernel) (by decide +kernel)) (jo_some (je_int)) (jo_none)) (je_str ⟨#[32]⟩ (by decide +kernel)))) (bf (by decide +kernel)) (fun _ _ _ _ _ => jg_name 3 nd_law_hues_of rfl (lb (by decide +kernel)) (fb (by decide +kernel))) (fun _ _ _ _ _ => jts_nil) (fun _ _ _ _ _ => je_call o.blk (g_law_number T) (by omega) (gb (by decide +kernel)) T.g_law_number T.k_law_number (ja_cons (je_var 3 rfl (vb (by decide +kernel)) (by decide +kernel) (by decide +kernel)) (ja_nil)) (by decide +kernel)) (by decide)) (je_lst (ja_nil))) (jg_name 2 nd_law_hues_of rfl (lf (by decide +kernel)) ff)) (jb_cons (js_if (jt_w (jw_or (jtc o.ne (by rfl) (je_callB o.len (gf (by decide +kernel)) T.n_len bt_len (ja_cons (je_var 2 rfl (vf (by decide +kernel)) (by decide +kernel) (by decide +kernel)) (ja_nil)) (by decide +kernel) (by decide +kernel)) (je_var 1 rfl (vf (by decide +kernel)) (by decide +kernel) (by decide +kernel))) (jw_or1 (jtc o.ne (by rfl) (je_comp o (own := [("hue", 4)]) (js := [4]) nd_law_hues_of (ji_of o (je_var 2 rfl (vf (by decide +kernel)) (by decide +kernel) (by decide +kernel))) (bf (by decide +kernel)) (fun _ _ _ _ _ => jg_name 4 nd_law_hues_of rfl (lb (by decide +kernel)) (fb (by decide +kernel))) (fun _ _ _ _ _ => jts_one (jt_w (jw_or (jtc o.blk.is (by rfl) (je_var 4 rfl (vb (by decide +kernel)) (by decide +kernel) (by decide +kernel)) (je_non)) (jw_or1 (jtc o.blk.gt (by rfl) (je_var 4 rfl (vb (by decide +kernel)) (by decide +kernel) (by decide +kernel)) (je_int)))))) (fun _ _ _ _ _ => je_var 4 rfl (vb (by decide +kernel)) (by decide +kernel) (by decide +kernel)) (by decide)) (je_lst (ja_nil)))))) (jb_one (js_ret (je_non))) (jb_nil)) (jb_one (js_ret (je_callTy o.tuple (gf (by decide +kernel)) T.n_tuple bt_tuple (ja_cons (je_var 2 rfl (vf (by decide +kernel)) (by decide +kernel) (by decide +kernel)) (ja_nil)) (by decide +kernel) (by decide +kernel)))))
theorem nd_law_right : (["bag", "whole", "turn", "told", "size", "text", "ties", "web", "one", "other", "tie", "line", "place"] : List Str).Nodup := by decide +kernel
theorem fs_law_right : FnScope ["bag", "whole", "turn", "told", "size", "text", "ties", "web", "one", "other", "tie", "line", "place"] ["bag"] (defScope st_law_right) := ⟨rfl, rfl, rfl, nd_law_right, rfl, by decide +kernel, by decide +kernel⟩
theorem g_law_right (T : Tx P K mg base a G) (N : G.lam = none) : FnG P w K mg base G 10 a.law_right m_law_right := by
  obtain ⟨fd, F⟩ := T.f_law_right
  refine fnK_of (k := 9) F T.kc_law_right fs_law_right T.gk (fun _ _ _ _ _ _ us hl => match us, hl with | [_], _ => rfl) fun A outer s H E o => ?_
  exact jb_cons (js_asg (je_add o (je_int) (je_call o (g_law_draw T) (by omega) (gf (by decide +kernel)) T.g_law_draw T.k_law_draw (ja_cons (je_var 0 rfl (vfc (by decide +kernel)) (by decide +kernel) (by decide +kernel)) (ja_cons (je_int) (ja_nil))) (by decide +kernel))) (jg_name 4 nd_law_right rfl (lfc (by decide +kernel)) ff)) (jb_cons (js_asg (je_call o (g_law_ties T) (by omega) (gf (by decide +kernel)) T.g_law_ties T.k_law_ties (ja_cons (je_var 0 rfl (vfc (by decide +kernel)) (by decide +kernel) (by decide +kernel)) (ja_cons (je_var 4 rfl (vfc (by decide +kernel)) (by decide +kernel) (by decide +kernel)) (ja_cons (je_int) (ja_nil)))) (by decide +kernel)) (jg_name 6 nd_law_right rfl (lfc (by decide +kernel)) ff)) (jb_cons (js_asg (je_tup (ja_cons (je_mk o T.mk_Web T.sc_Web.cls (g_Web_init T) (by omega) (gf (by decide +kernel)) T.g_Web (ja_cons (je_var 4 rfl (vfc (by decide +kernel)) (by decide +kernel) (by decide +kernel)) (ja_cons (je_var 6 rfl (vfc (by decide +kernel)) (by decide +kernel) (by decide +kernel)) (ja_nil))) (by decide +kernel)) (ja_cons (je_add o (je_add o (je_add o (je_str ⟨#[112, 108, 97, 99, 101, 115, 32]⟩ (by decide +kernel)) (je_callTy cb_str (gf (by decide +kernel)) T.n_str bt_str (ja_cons (je_var 4 rfl (vfc (by decide +kernel)) (by decide +kernel) (by decide +kernel)) (ja_nil)) (by decide +kernel) (by decide +kernel))) (je_str ⟨#[10]⟩ (by decide +kernel))) (je_join o (je_str ⟨#[]⟩ (by decide +kernel)) (je_comp o (own := [("one", 8), ("other", 9)]) (js := [8, 9]) nd_law_right (ji_of o (je_var 6 rfl (vfc (by decide +kernel)) (by decide +kernel) (by decide +kernel))) (bf (by decide +kernel)) (fun _ _ _ _ _ => jg_tup o.blk.calm o.blk.gk 2 (jgs_cons (jg_name 8 nd_law_right rfl (lb (by decide +kernel)) (fb (by decide +kernel))) (jgs_cons (jg_name 9 nd_law_right rfl (lb (by decide +kernel)) (fb (by decide +kernel))) (jgs_nil))) (gMore_len (gMore_len (gEnd_len)))) (fun _ _ _ _ _ => jts_nil) (fun _ _ _ _ _ => je_add o.blk (je_add o.blk (je_add o.blk (je_callTy cb_str (gb (by decide +kernel)) T.n_str bt_str (ja_cons (je_var 8 rfl (vb (by decide +kernel)) (by decide +kernel) (by decide +kernel)) (ja_nil)) (by decide +kernel) (by decide +kernel)) (je_str ⟨#[45]⟩ (by decide +kernel))) (je_callTy cb_str (gb (by decide +kernel)) T.n_str bt_str (ja_cons (je_var 9 rfl (vb (by decide +kernel)) (by decide +kernel) (by decide +kernel)) (ja_nil)) (by decide +kernel) (by decide +kernel))) (je_str ⟨#[10]⟩ (by decide +kernel))) (by decide)))) (ja_nil)))) (jg_tup o.calm o.gk 2 (jgs_cons (jg_name 7 nd_law_right rfl (lfc (by decide +kernel)) ff) (jgs_cons (jg_name 1 nd_law_right rfl (lf (by decide +kernel)) ff) (jgs_nil))) (gMore_len (gMore_len (gEnd_len))))) (jb_cons (js_for o (ji_range1 (gf (by decide +kernel)) T.n_range (ja_cons (je_int) (ja_nil))) (jg_name 2 nd_law_right rfl (lf (by decide +kernel)) ff) (jb_cons (js_asg (je_call o (g_law_bent T) (by omega) (gf (by decide +kernel)) T.g_law_bent T.k_law_bent (ja_cons (je_var 0 rfl (vfc (by decide +kernel)) (by decide +kernel) (by decide +kernel)) (ja_cons (je_var 1 rfl (vf (by decide +kernel)) (by decide +kernel) (by decide +kernel)) (ja_nil))) (by decide +kernel)) (jg_name 5 nd_law_right rfl (lfc (by decide +kernel)) ff)) (jb_cons (js_asg (je_callL0 o (g_law_read T N) (by omega) (gf (by decide +kernel)) T.g_law_read T.k_law_read (lamE0 (kk := 7) o.gk (lamQ T.b_law_right T.lm_law_right T.lo_law_right) (ltf (by decide +kernel)) rfl (fun _ _ _ _ _ _ => rfl) (fun _ _ _ _ _ _ _ ol => je_call ol (g_read_web T) (by omega) (gl (by decide +kernel)) T.g_read_web T.k_read_web (ja_cons (je_var 5 rfl (vlf (by decide +kernel)) (by decide +kernel) (by decide +kernel)) (ja_nil)) (by decide +kernel))) (by decide +kernel)) (jg_name 3 nd_law_right rfl (lf (by decide +kernel)) ff)) (jb_cons (js_if (jtc o.ne (by rfl) (je_callB o.repr (gf (by decide +kernel)) T.n_repr bt_repr (ja_cons (je_if (jtc o.is (by rfl) (je_ix o (je_var 3 rfl (vf (by decide +kernel)) (by decide +kernel) (by decide +kernel)) (je_int) (fun _ _ => rfl)) (je_non)) (je_var 3 rfl (vf (by decide +kernel)) (by decide +kernel) (by decide +kernel)) (je_tup (ja_cons (je_non) (ja_cons (je_tup (ja_cons (je_prop o T.pr_size T.sc_Web.cls (g_Web_size T) (by omega) (je_ix o (je_var 3 rfl (vf (by decide +kernel)) (by decide +kernel) (by decide +kernel)) (je_int) (fun _ _ => rfl))) (ja_cons (je_prop o T.pr_ties T.sc_Web.cls (g_Web_ties T) (by omega) (je_ix o (je_var 3 rfl (vf (by decide +kernel)) (by decide +kernel) (by decide +kernel)) (je_int) (fun _ _ => rfl))) (ja_nil)))) (ja_nil))))) (ja_nil)) (by decide +kernel) (by decide +kernel)) (je_callB o.repr (gf (by decide +kernel)) T.n_repr bt_repr (ja_cons (je_call o (g_law_of_web T) (by omega) (gf (by decide +kernel)) T.g_law_of_web T.k_law_of_web (ja_cons (je_var 5 rfl (vfc (by decide +kernel)) (by decide +kernel) (by decide +kernel)) (ja_nil)) (by decide +kernel)) (ja_nil)) (by decide +kernel) (by decide +kernel))) (jb_one (js_ret (je_bl))) (jb_nil)) (jb_cons (js_asg (je_call o (g_law_bent T) (by omega) (gf (by decide +kernel)) T.g_law_bent T.k_law_bent (ja_cons (je_var 0 rfl (vfc (by decide +kernel)) (by decide +kernel) (by decide +kernel)) (ja_cons (je_add o (je_join o (je_str ⟨#[]⟩ (by decide +kernel)) (je_comp o (own := [("tie", 10)]) (js := [10]) nd_law_right (ji_of o (je_var 6 rfl (vfc (by decide +kernel)) (by decide +kernel) (by decide +kernel))) (bf (by decide +kernel)) (fun _ _ _ _ _ => jg_name 10 nd_law_right rfl (lb (by decide +kernel)) (fb (by decide +kernel))) (fun _ _ _ _ _ => jts_nil) (fun _ _ _ _ _ => je_call o.blk (g_law_one_of T) (by omega) (gb (by decide +kernel)) T.g_law_one_of T.k_law_one_of (ja_cons (je_var 0 rfl (vbf (by decide +kernel)) (by decide +kernel) (by decide +kernel)) (ja_cons (je_lst (ja_cons (je_str ⟨#[60]⟩ (by decide +kernel)) (ja_cons (je_str ⟨#[62]⟩ (by decide +kernel)) (ja_nil)))) (ja_nil))) (by decide +kernel)) (by decide))) (je_str ⟨#[10]⟩ (by decide +kernel))) (ja_nil))) (by decide +kernel)) (jg_name 5 nd_law_right rfl (lfc (by decide +kernel)) ff)) (jb_cons (js_if (jtc o.ne (by rfl) (je_callB o.repr (gf (by decide +kernel)) T.n_repr bt_repr (ja_cons (je_callL0 o (g_law_read T N) (by omega) (gf (by decide +kernel)) T.g_law_read T.k_law_read (lamE0 (kk := 4) o.gk (lamQ T.b_law_right T.lm_law_right T.lo_law_right) (ltf (by decide +kernel)) rfl (fun _ _ _ _ _ _ => rfl) (fun _ _ _ _ _ _ _ ol => je_call ol (g_read_signs T) (by omega) (gl (by decide +kernel)) T.g_read_signs T.k_read_signs (ja_cons (je_var 7 rfl (vlf (by decide +kernel)) (by decide +kernel) (by decide +kernel)) (ja_cons (je_var 5 rfl (vlf (by decide +kernel)) (by decide +kernel) (by decide +kernel)) (ja_nil))) (by decide +kernel))) (by decide +kernel)) (ja_nil)) (by decide +kernel) (by decide +kernel)) (je_callB o.repr (gf (by decide +kernel)) T.n_repr bt_repr (ja_cons (je_callL1 o (g_law_of_line T N) (by omega) (gf (by decide +kernel)) T.g_law_of_line T.k_law_of_line (je_var 5 rfl (vfc (by decide +kernel)) (by decide +kernel) (by decide +kernel)) (lamE1 (kk := 1) 11 o.gk (lamQ T.b_law_right T.lm_law_right T.lo_law_right) (ltf (by decide +kernel)) nd_law_right rfl rfl (fun _ _ _ _ _ _ _ => rfl) (fun _ _ _ _ _ _ _ ol => je_call ol (g_law_signs_of T) (by omega) (gl (by decide +kernel)) T.g_law_signs_of T.k_law_signs_of (ja_cons (je_var 11 rfl (vl (by decide +kernel)) (by decide +kernel) (by decide +kernel)) (ja_cons (je_callB ol.len (gl (by decide +kernel)) T.n_len bt_len (ja_cons (je_var 6 rfl (vlf (by decide +kernel)) (by decide +kernel) (by decide +kernel)) (ja_nil)) (by decide +kernel) (by decide +kernel)) (ja_nil))) (by decide +kernel))) (by decide +kernel)) (ja_nil)) (by decide +kernel) (by decide +kernel))) (jb_one (js_ret (je_bl))) (jb_nil)) (jb_cons (js_asg (je_call o (g_law_bent T) (by omega) (gf (by decide +kernel)) T.g_law_bent T.k_law_bent (ja_cons (je_var 0 rfl (vfc (by decide +kernel)) (by decide +kernel) (by decide +kernel)) (ja_cons (je_add o (je_add o (je_str ⟨#[104, 117, 101, 115, 32]⟩ (by decide +kernel)) (je_join o (je_str ⟨#[32]⟩ (by decide +kernel)) (je_comp o (own := [("place", 12)]) (js := [12]) nd_law_right (ji_range1 (gf (by decide +kernel)) T.n_range (ja_cons (je_var 4 rfl (vfc (by decide +kernel)) (by decide +kernel) (by decide +kernel)) (ja_nil))) (bf (by decide +kernel)) (fun _ _ _ _ _ => jg_name 12 nd_law_right rfl (lb (by decide +kernel)) (fb (by decide +kernel))) (fun _ _ _ _ _ => jts_nil) (fun _ _ _ _ _ => je_callTy cb_str (gb (by decide +kernel)) T.n_str bt_str (ja_cons (je_call o.blk (g_law_draw T) (by omega) (gb (by decide +kernel)) T.g_law_draw T.k_law_draw (ja_cons (je_var 0 rfl (vbf (by decide +kernel)) (by decide +kernel) (by decide +kernel)) (ja_cons (je_int) (ja_nil))) (by decide +kernel)) (ja_nil)) (by decide +kernel) (by decide +kernel)) (by decide)))) (je_str ⟨#[10]⟩ (by decide +kernel))) (ja_nil))) (by decide +kernel)) (jg_name 5 nd_law_right rfl (lfc (by decide +kernel)) ff)) (jb_one (js_if (jtc o.ne (by rfl) (je_callB o.repr (gf (by decide +kernel)) T.n_repr bt_repr (ja_cons (je_callL0 o (g_law_read T N) (by omega) (gf (by decide +kernel)) T.g_law_read T.k_law_read (lamE0 (kk := 5) o.gk (lamQ T.b_law_right T.lm_law_right T.lo_law_right) (ltf (by decide +kernel)) rfl (fun _ _ _ _ _ _ => rfl) (fun _ _ _ _ _ _ _ ol => je_call ol (g_read_hues T) (by omega) (gl (by decide +kernel)) T.g_read_hues T.k_read_hues (ja_cons (je_var 7 rfl (vlf (by decide +kernel)) (by decide +kernel) (by decide +kernel)) (ja_cons (je_var 5 rfl (vlf (by decide +kernel)) (by decide +kernel) (by decide +kernel)) (ja_nil))) (by decide +kernel))) (by decide +kernel)) (ja_nil)) (by decide +kernel) (by decide +kernel)) (je_callB o.repr (gf (by decide +kernel)) T.n_repr bt_repr (ja_cons (je_callL1 o (g_law_of_line T N) (by omega) (gf (by decide +kernel)) T.g_law_of_line T.k_law_of_line (je_var 5 rfl (vfc (by decide +kernel)) (by decide +kernel) (by decide +kernel)) (lamE1 (kk := 2) 11 o.gk (lamQ T.b_law_right T.lm_law_right T.lo_law_right) (ltf (by decide +kernel)) nd_law_right rfl rfl (fun _ _ _ _ _ _ _ => rfl) (fun _ _ _ _ _ _ _ ol => je_call ol (g_law_hues_of T) (by omega) (gl (by decide +kernel)) T.g_law_hues_of T.k_law_hues_of (ja_cons (je_var 11 rfl (vl (by decide +kernel)) (by decide +kernel) (by decide +kernel)) (ja_cons (je_var 4 rfl (vlf (by decide +kernel)) (by decide +kernel) (by decide +kernel)) (ja_nil))) (by decide +kernel))) (by decide +kernel)) (ja_nil)) (by decide +kernel) (by decide +kernel))) (jb_one (js_ret (je_bl))) (jb_nil)))))))))) (jb_one (js_ret (je_bl))))))
theorem nd_law : (["script", "at", "bag", "texts", "told", "two", "turn", "text"] : List Str).Nodup := by decide +kernel
theorem fs_law : FnScope ["script", "at", "bag", "texts", "told", "two", "turn", "text"] ["script"] (defScope st_law) := ⟨rfl, rfl, rfl, nd_law, rfl, by decide +kernel, by decide +kernel⟩
theorem g_law (T : Tx P K mg base a G) (N : G.lam = none) : FnG P w K mg base G 11 a.law m_law := by
  obtain ⟨fd, F⟩ := T.f_law
  refine fnK_of (k := 10) F T.kc_law fs_law T.gk (fun _ _ _ _ _ _ us hl => match us, hl with | [_], _ => rfl) fun A outer s H E o => ?_
  exact jb_cons (js_for o (ji_range1 (gf (by decide +kernel)) T.n_range (ja_cons (je_callB o.max2 (gf (by decide +kernel)) T.n_max bt_max (ja_cons (je_int) (ja_cons (je_callB o.min2 (gf (by decide +kernel)) T.n_min bt_min (ja_cons (je_int) (ja_cons (je_callB o.len (gf (by decide +kernel)) T.n_len bt_len (ja_cons (je_var 0 rfl (vf (by decide +kernel)) (by decide +kernel) (by decide +kernel)) (ja_nil)) (by decide +kernel) (by decide +kernel)) (ja_nil))) (by decide +kernel) (by decide +kernel)) (ja_nil))) (by decide +kernel) (by decide +kernel)) (ja_nil))) (jg_name 1 nd_law rfl (lf (by decide +kernel)) ff) (jb_cons (js_asg (je_call o (g_law_bag T) (by omega) (gf (by decide +kernel)) T.g_law_bag T.k_law_bag (ja_cons (je_var 0 rfl (vf (by decide +kernel)) (by decide +kernel) (by decide +kernel)) (ja_cons (je_var 1 rfl (vf (by decide +kernel)) (by decide +kernel) (by decide +kernel)) (ja_nil))) (by decide +kernel)) (jg_name 2 nd_law rfl (lfc (by decide +kernel)) ff)) (jb_one (js_if (jtc o.ne (by rfl) (je_comp o (own := [("turn", 6)]) (js := [6]) nd_law (ji_range1 (gf (by decide +kernel)) T.n_range (ja_cons (je_int) (ja_nil))) (bf (by decide +kernel)) (fun _ _ _ _ _ => jg_name 6 nd_law rfl (lb (by decide +kernel)) (fb (by decide +kernel))) (fun _ _ _ _ _ => jts_one (jt_not (jt_val (je_call o.blk (g_law_right T N) (by omega) (gb (by decide +kernel)) T.g_law_right T.k_law_right (ja_cons (je_var 2 rfl (vbf (by decide +kernel)) (by decide +kernel) (by decide +kernel)) (ja_nil)) (by decide +kernel)) (fun _ => rfl)))) (fun _ _ _ _ _ => je_int) (by decide)) (je_lst (ja_nil))) (jb_one (js_ret (je_bl))) (jb_nil))))) (jb_cons (js_asg (je_lst (ja_cons (je_str ⟨#[]⟩ (by decide +kernel)) (ja_cons (je_str ⟨#[112, 108, 97, 99, 101, 115, 32, 50, 10, 48, 45, 49, 10, 48, 45, 48, 10]⟩ (by decide +kernel)) (ja_cons (je_str ⟨#[112, 108, 97, 99, 101, 115, 32, 56, 10]⟩ (by decide +kernel)) (ja_cons (je_str ⟨#[112, 108, 97, 99, 101, 115, 32, 51]⟩ (by decide +kernel)) (ja_cons (je_str ⟨#[112, 108, 97, 99, 101, 115, 32, 49, 10, 10]⟩ (by decide +kernel)) (ja_cons (je_str ⟨#[80, 108, 97, 99, 101, 115, 32, 49, 10]⟩ (by decide +kernel)) (ja_cons (je_str ⟨#[112, 108, 97, 99, 101, 115, 32, 48, 49, 10]⟩ (by decide +kernel)) (ja_cons (je_str ⟨#[112, 108, 97, 99, 101, 115, 32, 50, 10, 48, 45, 49]⟩ (by decide +kernel)) (ja_nil)))))))))) (jg_name 3 nd_law rfl (lf (by decide +kernel)) ff)) (jb_cons (js_asg (je_add o (je_var 3 rfl (vf (by decide +kernel)) (by decide +kernel) (by decide +kernel)) (je_lst (ja_cons (je_add o (je_str ⟨#[112, 108, 97, 99, 101, 115, 32, 49, 10]⟩ (by decide +kernel)) (je_mulS o (je_str ⟨#[48, 45, 48, 10]⟩ (by decide +kernel)) (je_int))) (ja_cons (je_str ⟨#[112, 108, 97, 99, 101, 115, 32, 50, 10, 49, 45, 48, 10]⟩ (by decide +kernel)) (ja_nil))))) (jg_name 3 nd_law rfl (lf (by decide +kernel)) ff)) (jb_cons (js_setLc o (own := [("text", 7)]) (js := [7]) nd_law rfl (qf (by decide +kernel)) (sw_true rfl (qf (by decide +kernel)) rfl (by decide +kernel)) (ji_of o (je_var 3 rfl (vf (by decide +kernel)) (by decide +kernel) (by decide +kernel))) (bf (by decide +kernel)) (fun _ _ _ _ _ => jg_name 7 nd_law rfl (lbc (by decide +kernel)) (fbc (by decide +kernel))) (fun _ _ _ _ _ => jts_nil) (fun _ _ _ _ _ => je_ix o.blk (je_callL0 o.blk (g_law_read T N) (by omega) (gb (by decide +kernel)) T.g_law_read T.k_law_read (lamE0 (kk := 7) o.blk.gk (lamQ T.b_law T.lm_law T.lo_law) (lamT_blk (by decide +kernel)) rfl (fun _ _ _ _ _ _ => rfl) (fun _ _ _ _ _ _ _ ol => je_call ol (g_read_web T) (by omega) (gl (by decide +kernel)) T.g_read_web T.k_read_web (ja_cons (je_var 7 rfl (vlf (by decide +kernel)) (by decide +kernel) (by decide +kernel)) (ja_nil)) (by decide +kernel))) (by decide +kernel)) (je_int) (fun _ _ => rfl)) (by decide)) (jb_cons (js_asg (je_mk o T.mk_Web T.sc_Web.cls (g_Web_init T) (by omega) (gf (by decide +kernel)) T.g_Web (ja_cons (je_int) (ja_cons (je_tup (ja_cons (je_tup (ja_cons (je_int) (ja_cons (je_int) (ja_nil)))) (ja_nil))) (ja_nil))) (by decide +kernel)) (jg_name 5 nd_law rfl (lfc (by decide +kernel)) ff)) (jb_cons (js_asg (je_add o (je_var 4 rfl (vf (by decide +kernel)) (by decide +kernel) (by decide +kernel)) (je_comp o (own := [("text", 7)]) (js := [7]) nd_law (ji_of o (je_tup (ja_cons (je_str ⟨#[62]⟩ (by decide +kernel)) (ja_cons (je_str ⟨#[62, 10]⟩ (by decide +kernel)) (ja_cons (je_str ⟨#[62, 10, 10]⟩ (by decide +kernel)) (ja_cons (je_str ⟨#[62, 32, 10]⟩ (by decide +kernel)) (ja_cons (je_str ⟨#[62, 10, 120]⟩ (by decide +kernel)) (ja_cons (je_str ⟨#[]⟩ (by decide +kernel)) (ja_nil))))))))) (bf (by decide +kernel)) (fun _ _ _ _ _ => jg_name 7 nd_law rfl (lbc (by decide +kernel)) (fbc (by decide +kernel))) (fun _ _ _ _ _ => jts_nil) (fun _ _ _ _ _ => je_ix o.blk (je_callL0 o.blk (g_law_read T N) (by omega) (gb (by decide +kernel)) T.g_law_read T.k_law_read (lamE0 (kk := 4) o.blk.gk (lamQ T.b_law T.lm_law T.lo_law) (lamT_blk (by decide +kernel)) rfl (fun _ _ _ _ _ _ => rfl) (fun _ _ _ _ _ _ _ ol => je_call ol (g_read_signs T) (by omega) (gl (by decide +kernel)) T.g_read_signs T.k_read_signs (ja_cons (je_var 5 rfl (vlf (by decide +kernel)) (by decide +kernel) (by decide +kernel)) (ja_cons (je_var 7 rfl (vlf (by decide +kernel)) (by decide +kernel) (by decide +kernel)) (ja_nil))) (by decide +kernel))) (by decide +kernel)) (je_int) (fun _ _ => rfl)) (by decide))) (jg_name 4 nd_law rfl (lf (by decide +kernel)) ff)) (jb_cons (js_asg (je_add o (je_var 4 rfl (vf (by decide +kernel)) (by decide +kernel) (by decide +kernel)) (je_comp o (own := [("text", 7)]) (js := [7]) nd_law (ji_of o (je_tup (ja_cons (je_str ⟨#[104, 117, 101, 115, 32, 48, 32, 57, 10]⟩ (by decide +kernel)) (ja_cons (je_str ⟨#[104, 117, 101, 115, 32, 48, 32, 49, 48, 10]⟩ (by decide +kernel)) (ja_cons (je_str ⟨#[104, 117, 101, 115, 32, 48, 10]⟩ (by decide +kernel)) (ja_cons (je_str ⟨#[104, 117, 101, 115, 32, 32, 48, 32, 49, 10]⟩ (by decide +kernel)) (ja_cons (je_str ⟨#[104, 117, 101, 115, 32, 48, 32, 49, 10, 10]⟩ (by decide +kernel)) (ja_nil)))))))) (bf (by decide +kernel)) (fun _ _ _ _ _ => jg_name 7 nd_law rfl (lbc (by decide +kernel)) (fbc (by decide +kernel))) (fun _ _ _ _ _ => jts_nil) (fun _ _ _ _ _ => je_ix o.blk (je_callL0 o.blk (g_law_read T N) (by omega) (gb (by decide +kernel)) T.g_law_read T.k_law_read (lamE0 (kk := 5) o.blk.gk (lamQ T.b_law T.lm_law T.lo_law) (lamT_blk (by decide +kernel)) rfl (fun _ _ _ _ _ _ => rfl) (fun _ _ _ _ _ _ _ ol => je_call ol (g_read_hues T) (by omega) (gl (by decide +kernel)) T.g_read_hues T.k_read_hues (ja_cons (je_var 5 rfl (vlf (by decide +kernel)) (by decide +kernel) (by decide +kernel)) (ja_cons (je_var 7 rfl (vlf (by decide +kernel)) (by decide +kernel) (by decide +kernel)) (ja_nil))) (by decide +kernel))) (by decide +kernel)) (je_int) (fun _ _ => rfl)) (by decide))) (jg_name 4 nd_law rfl (lf (by decide +kernel)) ff)) (jb_one (js_ret (jec o.eq (by rfl) (je_var 4 rfl (vf (by decide +kernel)) (by decide +kernel) (by decide +kernel)) (je_add o (je_add o (je_lst (ja_cons (je_int) (ja_cons (je_int) (ja_cons (je_int) (ja_cons (je_int) (ja_cons (je_int) (ja_cons (je_int) (ja_cons (je_int) (ja_cons (je_int) (ja_cons (je_int) (ja_cons (je_int) (ja_nil)))))))))))) (je_lst (ja_cons (je_int) (ja_cons (je_non) (ja_cons (je_int) (ja_cons (je_int) (ja_cons (je_int) (ja_cons (je_int) (ja_nil))))))))) (je_lst (ja_cons (je_non) (ja_cons (je_int) (ja_cons (je_int) (ja_cons (je_int) (ja_cons (je_int) (ja_nil)))))))))))))))))
end
end Lw
namespace Lw
open PySem PySem.Spec
open PyProof.Rows L2 F3
theorem all_mk {w : World} {K : PySem.W.Frag} {h : Heap} {mg : Str → Option Value} {fa : Addr} (X : K.In h) (G : h.Ns mainGlobals mg) (hfa : mg "law" = some (.ref fa)) (plain : ∀ ns : List Int, ns.length ≤ 63 → ∃ A, m_law [.scr (ns.map .int)] [] = .ok (.bl true) A)
    {f_law_bag f_law_draw f_law_one_of f_law_ties f_is_int f_is_whole f_is_within f_require_size f_are_ties f_Web_init f_law_bent f_law_read f_require_text f_whole_lines f_number_of f_size_from f_numbers_of f_tie_from f_read_web f_Web_size f_Web_ties f_law_number f_law_of_web f_require_web f_alone_line f_read_signs f_law_of_line f_law_signs_of f_are_hues_in f_read_hues f_law_hues_of f_law_right f_law c_Web s_own_size s_own_ties p_size p_ties kd_law_right tb_law_right kd_law tb_law x_InvalidWeb x_InvalidText x_ParseError x_InvalidNumber i_ParseError i_InvalidNumber : Addr} {od_law_bag an_law_bag : Option Addr} {sl_law_bag : Array (Option Value)} {oc_law_bag kV_law_bag dc_law_bag pm_law_bag cd_law_bag ct_law_bag : Value} {od_law_draw an_law_draw : Option Addr} {sl_law_draw : Array (Option Value)} {oc_law_draw kV_law_draw dc_law_draw pm_law_draw cd_law_draw ct_law_draw : Value} {od_law_one_of an_law_one_of : Option Addr} {sl_law_one_of : Array (Option Value)} {oc_law_one_of kV_law_one_of dc_law_one_of pm_law_one_of cd_law_one_of ct_law_one_of : Value} {od_law_ties an_law_ties : Option Addr} {sl_law_ties : Array (Option Value)} {oc_law_ties kV_law_ties dc_law_ties pm_law_ties cd_law_ties ct_law_ties : Value} {od_is_int an_is_int : Option Addr} {sl_is_int : Array (Option Value)} {oc_is_int kV_is_int dc_is_int pm_is_int cd_is_int ct_is_int : Value} {od_is_whole an_is_whole : Option Addr} {sl_is_whole : Array (Option Value)} {oc_is_whole kV_is_whole dc_is_whole pm_is_whole cd_is_whole ct_is_whole : Value} {od_is_within an_is_within : Option Addr} {sl_is_within : Array (Option Value)} {oc_is_within kV_is_within dc_is_within pm_is_within cd_is_within ct_is_within : Value} {od_require_size an_require_size : Option Addr} {sl_require_size : Array (Option Value)} {oc_require_size kV_require_size dc_require_size pm_require_size cd_require_size ct_require_size : Value} {od_are_ties an_are_ties : Option Addr} {sl_are_ties : Array (Option Value)} {oc_are_ties kV_are_ties dc_are_ties pm_are_ties cd_are_ties ct_are_ties : Value} {od_Web_init an_Web_init : Option Addr} {sl_Web_init : Array (Option Value)} {oc_Web_init kV_Web_init dc_Web_init pm_Web_init cd_Web_init ct_Web_init : Value} {od_law_bent an_law_bent : Option Addr} {sl_law_bent : Array (Option Value)} {oc_law_bent kV_law_bent dc_law_bent pm_law_bent cd_law_bent ct_law_bent : Value} {od_law_read an_law_read : Option Addr} {sl_law_read : Array (Option Value)} {oc_law_read kV_law_read dc_law_read pm_law_read cd_law_read ct_law_read : Value} {od_require_text an_require_text : Option Addr} {sl_require_text : Array (Option Value)} {oc_require_text kV_require_text dc_require_text pm_require_text cd_require_text ct_require_text : Value} {od_whole_lines an_whole_lines : Option Addr} {sl_whole_lines : Array (Option Value)} {oc_whole_lines kV_whole_lines dc_whole_lines pm_whole_lines cd_whole_lines ct_whole_lines : Value} {od_number_of an_number_of : Option Addr} {sl_number_of : Array (Option Value)} {oc_number_of kV_number_of dc_number_of pm_number_of cd_number_of ct_number_of : Value} {od_size_from an_size_from : Option Addr} {sl_size_from : Array (Option Value)} {oc_size_from kV_size_from dc_size_from pm_size_from cd_size_from ct_size_from : Value} {od_numbers_of an_numbers_of : Option Addr} {sl_numbers_of : Array (Option Value)} {oc_numbers_of kV_numbers_of dc_numbers_of pm_numbers_of cd_numbers_of ct_numbers_of : Value} {od_tie_from an_tie_from : Option Addr} {sl_tie_from : Array (Option Value)} {oc_tie_from kV_tie_from dc_tie_from pm_tie_from cd_tie_from ct_tie_from : Value} {od_read_web an_read_web : Option Addr} {sl_read_web : Array (Option Value)} {oc_read_web kV_read_web dc_read_web pm_read_web cd_read_web ct_read_web : Value} {od_Web_size an_Web_size : Option Addr} {sl_Web_size : Array (Option Value)} {oc_Web_size kV_Web_size dc_Web_size pm_Web_size cd_Web_size ct_Web_size : Value} {rest_size : List Value} {od_Web_ties an_Web_ties : Option Addr} {sl_Web_ties : Array (Option Value)} {oc_Web_ties kV_Web_ties dc_Web_ties pm_Web_ties cd_Web_ties ct_Web_ties : Value} {rest_ties : List Value} {od_law_number an_law_number : Option Addr} {sl_law_number : Array (Option Value)} {oc_law_number kV_law_number dc_law_number pm_law_number cd_law_number ct_law_number : Value} {od_law_of_web an_law_of_web : Option Addr} {sl_law_of_web : Array (Option Value)} {oc_law_of_web kV_law_of_web dc_law_of_web pm_law_of_web cd_law_of_web ct_law_of_web : Value} {od_require_web an_require_web : Option Addr} {sl_require_web : Array (Option Value)} {oc_require_web kV_require_web dc_require_web pm_require_web cd_require_web ct_require_web : Value} {od_alone_line an_alone_line : Option Addr} {sl_alone_line : Array (Option Value)} {oc_alone_line kV_alone_line dc_alone_line pm_alone_line cd_alone_line ct_alone_line : Value} {od_read_signs an_read_signs : Option Addr} {sl_read_signs : Array (Option Value)} {oc_read_signs kV_read_signs dc_read_signs pm_read_signs cd_read_signs ct_read_signs : Value} {od_law_of_line an_law_of_line : Option Addr} {sl_law_of_line : Array (Option Value)} {oc_law_of_line kV_law_of_line dc_law_of_line pm_law_of_line cd_law_of_line ct_law_of_line : Value} {od_law_signs_of an_law_signs_of : Option Addr} {sl_law_signs_of : Array (Option Value)} {oc_law_signs_of kV_law_signs_of dc_law_signs_of pm_law_signs_of cd_law_signs_of ct_law_signs_of : Value} {od_are_hues_in an_are_hues_in : Option Addr} {sl_are_hues_in : Array (Option Value)} {oc_are_hues_in kV_are_hues_in dc_are_hues_in pm_are_hues_in cd_are_hues_in ct_are_hues_in : Value} {od_read_hues an_read_hues : Option Addr} {sl_read_hues : Array (Option Value)} {oc_read_hues kV_read_hues dc_read_hues pm_read_hues cd_read_hues ct_read_hues : Value} {od_law_hues_of an_law_hues_of : Option Addr} {sl_law_hues_of : Array (Option Value)} {oc_law_hues_of kV_law_hues_of dc_law_hues_of pm_law_hues_of cd_law_hues_of ct_law_hues_of : Value} {od_law_right an_law_right : Option Addr} {sl_law_right : Array (Option Value)} {oc_law_right kV_law_right dc_law_right pm_law_right ct_law_right : Value} {co_law_right : Value} {cdd_law_right : Option Addr} {cv_law_right : Array Value} {cs_law_right : Array (Option Value)} {od_law an_law : Option Addr} {sl_law : Array (Option Value)} {oc_law kV_law dc_law pm_law ct_law : Value} {co_law : Value} {cdd_law : Option Addr} {cv_law : Array Value} {cs_law : Array (Option Value)} {ioc_ParseError : Value} {iod_ParseError : Option Addr} {ikV_ParseError idc_ParseError ipm_ParseError ict_ParseError : Value} {ian_ParseError : Option Addr} {isl_ParseError : Array (Option Value)} {ik_ParseError ic_ParseError : Addr} {jco_ParseError : Value} {jcd_ParseError : Option Addr} {jcv_ParseError : Array Value} {jcs_ParseError : Array (Option Value)} {jf_ParseError : Str} {jt_ParseError : Tok} {kco_ParseError : Value} {kcd_ParseError : Option Addr} {kcs_ParseError : Array (Option Value)} {ioc_InvalidNumber : Value} {iod_InvalidNumber : Option Addr} {ikV_InvalidNumber idc_InvalidNumber ipm_InvalidNumber ict_InvalidNumber : Value} {ian_InvalidNumber : Option Addr} {isl_InvalidNumber : Array (Option Value)} {ik_InvalidNumber ic_InvalidNumber : Addr} {jco_InvalidNumber : Value} {jcd_InvalidNumber : Option Addr} {jcv_InvalidNumber : Array Value} {jcs_InvalidNumber : Array (Option Value)} {jf_InvalidNumber : Str} {jt_InvalidNumber : Tok} {kco_InvalidNumber : Value} {kcd_InvalidNumber : Option Addr} {kcs_InvalidNumber : Array (Option Value)} {ct_AGAINST : Tok} {ct_ALONG : Tok} {ct_DIGITS : Tok} {ct_GREAT : Tok} {ct_HUES : Tok} {ct_MAX_HUE : Tok} {ct_MAX_PLACES : Tok} {ct_MAX_SIGNS : Tok} {ct_MAX_TIES : Tok} {ct_MOST_DIGITS : Tok} {ct_PLACES : Tok}
    (a_Web : PySem.W.nsIn K mainGlobals "Web" = some (some (.ref c_Web)))
    (pg_Web : PySem.W.plainGet K c_Web Str.empty = true)
    (ic_Web : PySem.W.isClsIn K c_Web = true)
    (po_Web : PySem.W.plainOver K c_Web = true)
    (sa_Web : PySem.W.findIn K (.ref c_Web) "__setattr__" = some (some (.builtin "object.__setattr__")))
    (ca_Web : PySem.W.findIn K (.ref c_Web) "__class__" = some (some (.builtin "object.__class__")))
    (cm_Web : PySem.W.mroIn K c_Web (.type "object") = some true)
    (mk_Web : PySem.W.makesIn K c_Web = true)
    (kc_Web : PySem.W.keepIn K (.ref c_Web) = true)
    (gcn : PySem.W.specialIn K (.builtin "object.__class__") "__get__" = some (some (.builtin "getset_descriptor.__get__")))
    (gct : PySem.W.takesIn K (.builtin "object.__class__") = some true)
    (a_law_bag : PySem.W.nsIn K mainGlobals "_law_bag" = some (some (.ref f_law_bag)))
    (l_law_bag : K.lookup f_law_bag = some ⟨oc_law_bag, od_law_bag, .func (PySem.W.fnOf "_law_bag" "_law_bag" (defArgs st_law_bag) (defBody st_law_bag) (defScope st_law_bag) .none kV_law_bag dc_law_bag pm_law_bag an_law_bag cd_law_bag ct_law_bag), sl_law_bag⟩)
    (q_law_bag : PySem.W.codeIn K cd_law_bag "_law_bag" = true)
    (k_law_bag : PySem.W.keepIn K (.ref f_law_bag) = true)
    (a_law_draw : PySem.W.nsIn K mainGlobals "_law_draw" = some (some (.ref f_law_draw)))
    (l_law_draw : K.lookup f_law_draw = some ⟨oc_law_draw, od_law_draw, .func (PySem.W.fnOf "_law_draw" "_law_draw" (defArgs st_law_draw) (defBody st_law_draw) (defScope st_law_draw) .none kV_law_draw dc_law_draw pm_law_draw an_law_draw cd_law_draw ct_law_draw), sl_law_draw⟩)
    (q_law_draw : PySem.W.codeIn K cd_law_draw "_law_draw" = true)
    (k_law_draw : PySem.W.keepIn K (.ref f_law_draw) = true)
    (a_law_one_of : PySem.W.nsIn K mainGlobals "_law_one_of" = some (some (.ref f_law_one_of)))
    (l_law_one_of : K.lookup f_law_one_of = some ⟨oc_law_one_of, od_law_one_of, .func (PySem.W.fnOf "_law_one_of" "_law_one_of" (defArgs st_law_one_of) (defBody st_law_one_of) (defScope st_law_one_of) .none kV_law_one_of dc_law_one_of pm_law_one_of an_law_one_of cd_law_one_of ct_law_one_of), sl_law_one_of⟩)
    (q_law_one_of : PySem.W.codeIn K cd_law_one_of "_law_one_of" = true)
    (k_law_one_of : PySem.W.keepIn K (.ref f_law_one_of) = true)
    (a_law_ties : PySem.W.nsIn K mainGlobals "_law_ties" = some (some (.ref f_law_ties)))
    (l_law_ties : K.lookup f_law_ties = some ⟨oc_law_ties, od_law_ties, .func (PySem.W.fnOf "_law_ties" "_law_ties" (defArgs st_law_ties) (defBody st_law_ties) (defScope st_law_ties) .none kV_law_ties dc_law_ties pm_law_ties an_law_ties cd_law_ties ct_law_ties), sl_law_ties⟩)
    (q_law_ties : PySem.W.codeIn K cd_law_ties "_law_ties" = true)
    (k_law_ties : PySem.W.keepIn K (.ref f_law_ties) = true)
    (a_is_int : PySem.W.nsIn K mainGlobals "is_int" = some (some (.ref f_is_int)))
    (l_is_int : K.lookup f_is_int = some ⟨oc_is_int, od_is_int, .func (PySem.W.fnOf "is_int" "is_int" (defArgs st_is_int) (defBody st_is_int) (defScope st_is_int) .none kV_is_int dc_is_int pm_is_int an_is_int cd_is_int ct_is_int), sl_is_int⟩)
    (q_is_int : PySem.W.codeIn K cd_is_int "is_int" = true)
    (k_is_int : PySem.W.keepIn K (.ref f_is_int) = true)
    (a_is_whole : PySem.W.nsIn K mainGlobals "is_whole" = some (some (.ref f_is_whole)))
    (l_is_whole : K.lookup f_is_whole = some ⟨oc_is_whole, od_is_whole, .func (PySem.W.fnOf "is_whole" "is_whole" (defArgs st_is_whole) (defBody st_is_whole) (defScope st_is_whole) .none kV_is_whole dc_is_whole pm_is_whole an_is_whole cd_is_whole ct_is_whole), sl_is_whole⟩)
    (q_is_whole : PySem.W.codeIn K cd_is_whole "is_whole" = true)
    (k_is_whole : PySem.W.keepIn K (.ref f_is_whole) = true)
    (a_is_within : PySem.W.nsIn K mainGlobals "is_within" = some (some (.ref f_is_within)))
    (l_is_within : K.lookup f_is_within = some ⟨oc_is_within, od_is_within, .func (PySem.W.fnOf "is_within" "is_within" (defArgs st_is_within) (defBody st_is_within) (defScope st_is_within) .none kV_is_within dc_is_within pm_is_within an_is_within cd_is_within ct_is_within), sl_is_within⟩)
    (q_is_within : PySem.W.codeIn K cd_is_within "is_within" = true)
    (k_is_within : PySem.W.keepIn K (.ref f_is_within) = true)
    (a_require_size : PySem.W.nsIn K mainGlobals "require_size" = some (some (.ref f_require_size)))
    (l_require_size : K.lookup f_require_size = some ⟨oc_require_size, od_require_size, .func (PySem.W.fnOf "require_size" "require_size" (defArgs st_require_size) (defBody st_require_size) (defScope st_require_size) .none kV_require_size dc_require_size pm_require_size an_require_size cd_require_size ct_require_size), sl_require_size⟩)
    (q_require_size : PySem.W.codeIn K cd_require_size "require_size" = true)
    (k_require_size : PySem.W.keepIn K (.ref f_require_size) = true)
    (a_are_ties : PySem.W.nsIn K mainGlobals "are_ties" = some (some (.ref f_are_ties)))
    (l_are_ties : K.lookup f_are_ties = some ⟨oc_are_ties, od_are_ties, .func (PySem.W.fnOf "are_ties" "are_ties" (defArgs st_are_ties) (defBody st_are_ties) (defScope st_are_ties) .none kV_are_ties dc_are_ties pm_are_ties an_are_ties cd_are_ties ct_are_ties), sl_are_ties⟩)
    (q_are_ties : PySem.W.codeIn K cd_are_ties "are_ties" = true)
    (k_are_ties : PySem.W.keepIn K (.ref f_are_ties) = true)
    (a_Web_init : PySem.W.findIn K (.ref c_Web) "__init__" = some (some (.ref f_Web_init)))
    (i_Web_init : PySem.W.isFn K (.ref f_Web_init) = true)
    (l_Web_init : K.lookup f_Web_init = some ⟨oc_Web_init, od_Web_init, .func (PySem.W.fnOf "__init__" "Web.__init__" (defArgs st_Web_init) (defBody st_Web_init) (defScope st_Web_init) .none kV_Web_init dc_Web_init pm_Web_init an_Web_init cd_Web_init ct_Web_init), sl_Web_init⟩)
    (q_Web_init : PySem.W.codeIn K cd_Web_init "Web.__init__" = true)
    (k_Web_init : PySem.W.keepIn K (.ref f_Web_init) = true)
    (a_law_bent : PySem.W.nsIn K mainGlobals "_law_bent" = some (some (.ref f_law_bent)))
    (l_law_bent : K.lookup f_law_bent = some ⟨oc_law_bent, od_law_bent, .func (PySem.W.fnOf "_law_bent" "_law_bent" (defArgs st_law_bent) (defBody st_law_bent) (defScope st_law_bent) .none kV_law_bent dc_law_bent pm_law_bent an_law_bent cd_law_bent ct_law_bent), sl_law_bent⟩)
    (q_law_bent : PySem.W.codeIn K cd_law_bent "_law_bent" = true)
    (k_law_bent : PySem.W.keepIn K (.ref f_law_bent) = true)
    (a_law_read : PySem.W.nsIn K mainGlobals "_law_read" = some (some (.ref f_law_read)))
    (l_law_read : K.lookup f_law_read = some ⟨oc_law_read, od_law_read, .func (PySem.W.fnOf "_law_read" "_law_read" (defArgs st_law_read) (defBody st_law_read) (defScope st_law_read) .none kV_law_read dc_law_read pm_law_read an_law_read cd_law_read ct_law_read), sl_law_read⟩)
    (q_law_read : PySem.W.codeIn K cd_law_read "_law_read" = true)
    (k_law_read : PySem.W.keepIn K (.ref f_law_read) = true)
    (a_require_text : PySem.W.nsIn K mainGlobals "require_text" = some (some (.ref f_require_text)))
    (l_require_text : K.lookup f_require_text = some ⟨oc_require_text, od_require_text, .func (PySem.W.fnOf "require_text" "require_text" (defArgs st_require_text) (defBody st_require_text) (defScope st_require_text) .none kV_require_text dc_require_text pm_require_text an_require_text cd_require_text ct_require_text), sl_require_text⟩)
    (q_require_text : PySem.W.codeIn K cd_require_text "require_text" = true)
    (k_require_text : PySem.W.keepIn K (.ref f_require_text) = true)
    (a_whole_lines : PySem.W.nsIn K mainGlobals "whole_lines" = some (some (.ref f_whole_lines)))
    (l_whole_lines : K.lookup f_whole_lines = some ⟨oc_whole_lines, od_whole_lines, .func (PySem.W.fnOf "whole_lines" "whole_lines" (defArgs st_whole_lines) (defBody st_whole_lines) (defScope st_whole_lines) .none kV_whole_lines dc_whole_lines pm_whole_lines an_whole_lines cd_whole_lines ct_whole_lines), sl_whole_lines⟩)
    (q_whole_lines : PySem.W.codeIn K cd_whole_lines "whole_lines" = true)
    (k_whole_lines : PySem.W.keepIn K (.ref f_whole_lines) = true)
    (a_number_of : PySem.W.nsIn K mainGlobals "number_of" = some (some (.ref f_number_of)))
    (l_number_of : K.lookup f_number_of = some ⟨oc_number_of, od_number_of, .func (PySem.W.fnOf "number_of" "number_of" (defArgs st_number_of) (defBody st_number_of) (defScope st_number_of) .none kV_number_of dc_number_of pm_number_of an_number_of cd_number_of ct_number_of), sl_number_of⟩)
    (q_number_of : PySem.W.codeIn K cd_number_of "number_of" = true)
    (k_number_of : PySem.W.keepIn K (.ref f_number_of) = true)
    (a_size_from : PySem.W.nsIn K mainGlobals "size_from" = some (some (.ref f_size_from)))
    (l_size_from : K.lookup f_size_from = some ⟨oc_size_from, od_size_from, .func (PySem.W.fnOf "size_from" "size_from" (defArgs st_size_from) (defBody st_size_from) (defScope st_size_from) .none kV_size_from dc_size_from pm_size_from an_size_from cd_size_from ct_size_from), sl_size_from⟩)
    (q_size_from : PySem.W.codeIn K cd_size_from "size_from" = true)
    (k_size_from : PySem.W.keepIn K (.ref f_size_from) = true)
    (a_numbers_of : PySem.W.nsIn K mainGlobals "numbers_of" = some (some (.ref f_numbers_of)))
    (l_numbers_of : K.lookup f_numbers_of = some ⟨oc_numbers_of, od_numbers_of, .func (PySem.W.fnOf "numbers_of" "numbers_of" (defArgs st_numbers_of) (defBody st_numbers_of) (defScope st_numbers_of) .none kV_numbers_of dc_numbers_of pm_numbers_of an_numbers_of cd_numbers_of ct_numbers_of), sl_numbers_of⟩)
    (q_numbers_of : PySem.W.codeIn K cd_numbers_of "numbers_of" = true)
    (k_numbers_of : PySem.W.keepIn K (.ref f_numbers_of) = true)
    (a_tie_from : PySem.W.nsIn K mainGlobals "tie_from" = some (some (.ref f_tie_from)))
    (l_tie_from : K.lookup f_tie_from = some ⟨oc_tie_from, od_tie_from, .func (PySem.W.fnOf "tie_from" "tie_from" (defArgs st_tie_from) (defBody st_tie_from) (defScope st_tie_from) .none kV_tie_from dc_tie_from pm_tie_from an_tie_from cd_tie_from ct_tie_from), sl_tie_from⟩)
    (q_tie_from : PySem.W.codeIn K cd_tie_from "tie_from" = true)
    (k_tie_from : PySem.W.keepIn K (.ref f_tie_from) = true)
    (a_read_web : PySem.W.nsIn K mainGlobals "read_web" = some (some (.ref f_read_web)))
    (l_read_web : K.lookup f_read_web = some ⟨oc_read_web, od_read_web, .func (PySem.W.fnOf "read_web" "read_web" (defArgs st_read_web) (defBody st_read_web) (defScope st_read_web) .none kV_read_web dc_read_web pm_read_web an_read_web cd_read_web ct_read_web), sl_read_web⟩)
    (q_read_web : PySem.W.codeIn K cd_read_web "read_web" = true)
    (k_read_web : PySem.W.keepIn K (.ref f_read_web) = true)
    (pa_size : PySem.W.findIn K (.ref c_Web) "size" = some (some (.ref p_size)))
    (pr_size : PySem.W.recIn K p_size "property" = some (.ref f_Web_size :: rest_size))
    (pg_size : PySem.W.specialIn K (.ref p_size) "__get__" = some (some (.builtin "property.__get__")))
    (pt_size : PySem.W.takesIn K (.ref p_size) = some true)
    (l_Web_size : K.lookup f_Web_size = some ⟨oc_Web_size, od_Web_size, .func (PySem.W.fnOf "size" "Web.size" (defArgs st_Web_size) (defBody st_Web_size) (defScope st_Web_size) .none kV_Web_size dc_Web_size pm_Web_size an_Web_size cd_Web_size ct_Web_size), sl_Web_size⟩)
    (q_Web_size : PySem.W.codeIn K cd_Web_size "Web.size" = true)
    (k_Web_size : PySem.W.keepIn K (.ref f_Web_size) = true)
    (pa_ties : PySem.W.findIn K (.ref c_Web) "ties" = some (some (.ref p_ties)))
    (pr_ties : PySem.W.recIn K p_ties "property" = some (.ref f_Web_ties :: rest_ties))
    (pg_ties : PySem.W.specialIn K (.ref p_ties) "__get__" = some (some (.builtin "property.__get__")))
    (pt_ties : PySem.W.takesIn K (.ref p_ties) = some true)
    (l_Web_ties : K.lookup f_Web_ties = some ⟨oc_Web_ties, od_Web_ties, .func (PySem.W.fnOf "ties" "Web.ties" (defArgs st_Web_ties) (defBody st_Web_ties) (defScope st_Web_ties) .none kV_Web_ties dc_Web_ties pm_Web_ties an_Web_ties cd_Web_ties ct_Web_ties), sl_Web_ties⟩)
    (q_Web_ties : PySem.W.codeIn K cd_Web_ties "Web.ties" = true)
    (k_Web_ties : PySem.W.keepIn K (.ref f_Web_ties) = true)
    (a_law_number : PySem.W.nsIn K mainGlobals "_law_number" = some (some (.ref f_law_number)))
    (l_law_number : K.lookup f_law_number = some ⟨oc_law_number, od_law_number, .func (PySem.W.fnOf "_law_number" "_law_number" (defArgs st_law_number) (defBody st_law_number) (defScope st_law_number) .none kV_law_number dc_law_number pm_law_number an_law_number cd_law_number ct_law_number), sl_law_number⟩)
    (q_law_number : PySem.W.codeIn K cd_law_number "_law_number" = true)
    (k_law_number : PySem.W.keepIn K (.ref f_law_number) = true)
    (a_law_of_web : PySem.W.nsIn K mainGlobals "_law_of_web" = some (some (.ref f_law_of_web)))
    (l_law_of_web : K.lookup f_law_of_web = some ⟨oc_law_of_web, od_law_of_web, .func (PySem.W.fnOf "_law_of_web" "_law_of_web" (defArgs st_law_of_web) (defBody st_law_of_web) (defScope st_law_of_web) .none kV_law_of_web dc_law_of_web pm_law_of_web an_law_of_web cd_law_of_web ct_law_of_web), sl_law_of_web⟩)
    (q_law_of_web : PySem.W.codeIn K cd_law_of_web "_law_of_web" = true)
    (k_law_of_web : PySem.W.keepIn K (.ref f_law_of_web) = true)
    (a_require_web : PySem.W.nsIn K mainGlobals "require_web" = some (some (.ref f_require_web)))
    (l_require_web : K.lookup f_require_web = some ⟨oc_require_web, od_require_web, .func (PySem.W.fnOf "require_web" "require_web" (defArgs st_require_web) (defBody st_require_web) (defScope st_require_web) .none kV_require_web dc_require_web pm_require_web an_require_web cd_require_web ct_require_web), sl_require_web⟩)
    (q_require_web : PySem.W.codeIn K cd_require_web "require_web" = true)
    (k_require_web : PySem.W.keepIn K (.ref f_require_web) = true)
    (a_alone_line : PySem.W.nsIn K mainGlobals "alone_line" = some (some (.ref f_alone_line)))
    (l_alone_line : K.lookup f_alone_line = some ⟨oc_alone_line, od_alone_line, .func (PySem.W.fnOf "alone_line" "alone_line" (defArgs st_alone_line) (defBody st_alone_line) (defScope st_alone_line) .none kV_alone_line dc_alone_line pm_alone_line an_alone_line cd_alone_line ct_alone_line), sl_alone_line⟩)
    (q_alone_line : PySem.W.codeIn K cd_alone_line "alone_line" = true)
    (k_alone_line : PySem.W.keepIn K (.ref f_alone_line) = true)
    (a_read_signs : PySem.W.nsIn K mainGlobals "read_signs" = some (some (.ref f_read_signs)))
    (l_read_signs : K.lookup f_read_signs = some ⟨oc_read_signs, od_read_signs, .func (PySem.W.fnOf "read_signs" "read_signs" (defArgs st_read_signs) (defBody st_read_signs) (defScope st_read_signs) .none kV_read_signs dc_read_signs pm_read_signs an_read_signs cd_read_signs ct_read_signs), sl_read_signs⟩)
    (q_read_signs : PySem.W.codeIn K cd_read_signs "read_signs" = true)
    (k_read_signs : PySem.W.keepIn K (.ref f_read_signs) = true)
    (a_law_of_line : PySem.W.nsIn K mainGlobals "_law_of_line" = some (some (.ref f_law_of_line)))
    (l_law_of_line : K.lookup f_law_of_line = some ⟨oc_law_of_line, od_law_of_line, .func (PySem.W.fnOf "_law_of_line" "_law_of_line" (defArgs st_law_of_line) (defBody st_law_of_line) (defScope st_law_of_line) .none kV_law_of_line dc_law_of_line pm_law_of_line an_law_of_line cd_law_of_line ct_law_of_line), sl_law_of_line⟩)
    (q_law_of_line : PySem.W.codeIn K cd_law_of_line "_law_of_line" = true)
    (k_law_of_line : PySem.W.keepIn K (.ref f_law_of_line) = true)
    (a_law_signs_of : PySem.W.nsIn K mainGlobals "_law_signs_of" = some (some (.ref f_law_signs_of)))
    (l_law_signs_of : K.lookup f_law_signs_of = some ⟨oc_law_signs_of, od_law_signs_of, .func (PySem.W.fnOf "_law_signs_of" "_law_signs_of" (defArgs st_law_signs_of) (defBody st_law_signs_of) (defScope st_law_signs_of) .none kV_law_signs_of dc_law_signs_of pm_law_signs_of an_law_signs_of cd_law_signs_of ct_law_signs_of), sl_law_signs_of⟩)
    (q_law_signs_of : PySem.W.codeIn K cd_law_signs_of "_law_signs_of" = true)
    (k_law_signs_of : PySem.W.keepIn K (.ref f_law_signs_of) = true)
    (a_are_hues_in : PySem.W.nsIn K mainGlobals "are_hues_in" = some (some (.ref f_are_hues_in)))
    (l_are_hues_in : K.lookup f_are_hues_in = some ⟨oc_are_hues_in, od_are_hues_in, .func (PySem.W.fnOf "are_hues_in" "are_hues_in" (defArgs st_are_hues_in) (defBody st_are_hues_in) (defScope st_are_hues_in) .none kV_are_hues_in dc_are_hues_in pm_are_hues_in an_are_hues_in cd_are_hues_in ct_are_hues_in), sl_are_hues_in⟩)
    (q_are_hues_in : PySem.W.codeIn K cd_are_hues_in "are_hues_in" = true)
    (k_are_hues_in : PySem.W.keepIn K (.ref f_are_hues_in) = true)
    (a_read_hues : PySem.W.nsIn K mainGlobals "read_hues" = some (some (.ref f_read_hues)))
    (l_read_hues : K.lookup f_read_hues = some ⟨oc_read_hues, od_read_hues, .func (PySem.W.fnOf "read_hues" "read_hues" (defArgs st_read_hues) (defBody st_read_hues) (defScope st_read_hues) .none kV_read_hues dc_read_hues pm_read_hues an_read_hues cd_read_hues ct_read_hues), sl_read_hues⟩)
    (q_read_hues : PySem.W.codeIn K cd_read_hues "read_hues" = true)
    (k_read_hues : PySem.W.keepIn K (.ref f_read_hues) = true)
    (a_law_hues_of : PySem.W.nsIn K mainGlobals "_law_hues_of" = some (some (.ref f_law_hues_of)))
    (l_law_hues_of : K.lookup f_law_hues_of = some ⟨oc_law_hues_of, od_law_hues_of, .func (PySem.W.fnOf "_law_hues_of" "_law_hues_of" (defArgs st_law_hues_of) (defBody st_law_hues_of) (defScope st_law_hues_of) .none kV_law_hues_of dc_law_hues_of pm_law_hues_of an_law_hues_of cd_law_hues_of ct_law_hues_of), sl_law_hues_of⟩)
    (q_law_hues_of : PySem.W.codeIn K cd_law_hues_of "_law_hues_of" = true)
    (k_law_hues_of : PySem.W.keepIn K (.ref f_law_hues_of) = true)
    (a_law_right : PySem.W.nsIn K mainGlobals "_law_right" = some (some (.ref f_law_right)))
    (l_law_right : K.lookup f_law_right = some ⟨oc_law_right, od_law_right, .func (PySem.W.fnOf "_law_right" "_law_right" (defArgs st_law_right) (defBody st_law_right) (defScope st_law_right) .none kV_law_right dc_law_right pm_law_right an_law_right (.ref kd_law_right) ct_law_right), sl_law_right⟩)
    (q_law_right : PySem.W.codeIn K (.ref kd_law_right) "_law_right" = true)
    (k_law_right : PySem.W.keepIn K (.ref f_law_right) = true)
    (lc_law_right : K.lookup kd_law_right = some ⟨co_law_right, cdd_law_right, .fields cv_law_right, cs_law_right⟩)
    (lt_law_right : cv_law_right[11]? = some (.ref tb_law_right))
    (hc_law_right : PySem.W.codeHdIn K kd_law_right tb_law_right = true)
    (ho_law_right : K.lookup tb_law_right = none)
    (ht_law_right : h.get? tb_law_right = some tab0)
    (a_law : PySem.W.nsIn K mainGlobals "law" = some (some (.ref f_law)))
    (l_law : K.lookup f_law = some ⟨oc_law, od_law, .func (PySem.W.fnOf "law" "law" (defArgs st_law) (defBody st_law) (defScope st_law) .none kV_law dc_law pm_law an_law (.ref kd_law) ct_law), sl_law⟩)
    (q_law : PySem.W.codeIn K (.ref kd_law) "law" = true)
    (k_law : PySem.W.keepIn K (.ref f_law) = true)
    (lc_law : K.lookup kd_law = some ⟨co_law, cdd_law, .fields cv_law, cs_law⟩)
    (lt_law : cv_law[11]? = some (.ref tb_law))
    (hc_law : PySem.W.codeHdIn K kd_law tb_law = true)
    (ho_law : K.lookup tb_law = none)
    (ht_law : h.get? tb_law = some tab0)
    (to_law_right : (([(tb_law_right, qn_law_right), (tb_law, qn_law)] : List (Addr × Str)).all fun p => p.1 != tb_law_right || p.2 == qn_law_right) = true)
    (to_law : (([(tb_law_right, qn_law_right), (tb_law, qn_law)] : List (Addr × Str)).all fun p => p.1 != tb_law || p.2 == qn_law) = true)
    (sa_own_size : PySem.W.findIn K (.ref c_Web) "own_size" = some (some (.ref s_own_size)))
    (sg_own_size : PySem.W.specialIn K (.ref s_own_size) "__get__" = some (some (.builtin "member_descriptor.__get__")))
    (st_own_size : PySem.W.takesIn K (.ref s_own_size) = some true)
    (sy_own_size : PySem.W.typeIn K (.ref s_own_size) = some (.type "member_descriptor"))
    (si_own_size : PySem.W.slotIn K s_own_size c_Web = some 0)
    (sa_own_ties : PySem.W.findIn K (.ref c_Web) "own_ties" = some (some (.ref s_own_ties)))
    (sg_own_ties : PySem.W.specialIn K (.ref s_own_ties) "__get__" = some (some (.builtin "member_descriptor.__get__")))
    (st_own_ties : PySem.W.takesIn K (.ref s_own_ties) = some true)
    (sy_own_ties : PySem.W.typeIn K (.ref s_own_ties) = some (.type "member_descriptor"))
    (si_own_ties : PySem.W.slotIn K s_own_ties c_Web = some 1)
    (io_Web_NoneType : PySem.W.kitOne K (.type "NoneType") (.ref c_Web) = some false)
    (io_Web_bool : PySem.W.kitOne K (.type "bool") (.ref c_Web) = some false)
    (io_Web_int : PySem.W.kitOne K (.type "int") (.ref c_Web) = some false)
    (io_Web_str : PySem.W.kitOne K (.type "str") (.ref c_Web) = some false)
    (io_Web_tuple : PySem.W.kitOne K (.type "tuple") (.ref c_Web) = some false)
    (io_Web_list : PySem.W.kitOne K (.type "list") (.ref c_Web) = some false)
    (io_Web_dict : PySem.W.kitOne K (.type "dict") (.ref c_Web) = some false)
    (io_Web_cWeb : PySem.W.kitOne K (.ref c_Web) (.ref c_Web) = some true)
    (ib_bool_Web : PySem.W.kitOne K (.ref c_Web) (.type "bool") = some false)
    (ib_int_Web : PySem.W.kitOne K (.ref c_Web) (.type "int") = some false)
    (ib_str_Web : PySem.W.kitOne K (.ref c_Web) (.type "str") = some false)
    (ib_tuple_Web : PySem.W.kitOne K (.ref c_Web) (.type "tuple") = some false)
    (xa_InvalidWeb : PySem.W.nsIn K mainGlobals "InvalidWeb" = some (some (.ref x_InvalidWeb)))
    (xe_InvalidWeb : PySem.W.subIn K (.ref x_InvalidWeb) (.type "BaseException") = some true)
    (xi_InvalidWeb : PySem.W.isClsIn K x_InvalidWeb = true)
    (xt_InvalidWeb : PySem.W.typeIn K (.ref x_InvalidWeb) = some (.type "type"))
    (xk_InvalidWeb : PySem.W.keepIn K (.ref x_InvalidWeb) = true)
    (xa_InvalidText : PySem.W.nsIn K mainGlobals "InvalidText" = some (some (.ref x_InvalidText)))
    (xe_InvalidText : PySem.W.subIn K (.ref x_InvalidText) (.type "BaseException") = some true)
    (xi_InvalidText : PySem.W.isClsIn K x_InvalidText = true)
    (xt_InvalidText : PySem.W.typeIn K (.ref x_InvalidText) = some (.type "type"))
    (xk_InvalidText : PySem.W.keepIn K (.ref x_InvalidText) = true)
    (xa_ParseError : PySem.W.nsIn K mainGlobals "ParseError" = some (some (.ref x_ParseError)))
    (xe_ParseError : PySem.W.subIn K (.ref x_ParseError) (.type "BaseException") = some true)
    (xi_ParseError : PySem.W.isClsIn K x_ParseError = true)
    (xt_ParseError : PySem.W.typeIn K (.ref x_ParseError) = some (.type "type"))
    (xk_ParseError : PySem.W.keepIn K (.ref x_ParseError) = true)
    (xa_InvalidNumber : PySem.W.nsIn K mainGlobals "InvalidNumber" = some (some (.ref x_InvalidNumber)))
    (xe_InvalidNumber : PySem.W.subIn K (.ref x_InvalidNumber) (.type "BaseException") = some true)
    (xi_InvalidNumber : PySem.W.isClsIn K x_InvalidNumber = true)
    (xt_InvalidNumber : PySem.W.typeIn K (.ref x_InvalidNumber) = some (.type "type"))
    (xk_InvalidNumber : PySem.W.keepIn K (.ref x_InvalidNumber) = true)
    (xs_InvalidWeb_InvalidWeb : PySem.W.subIn K (.ref x_InvalidWeb) (.ref x_InvalidWeb) = some true)
    (xs_InvalidText_InvalidWeb : PySem.W.subIn K (.ref x_InvalidText) (.ref x_InvalidWeb) = some false)
    (xs_ParseError_InvalidWeb : PySem.W.subIn K (.ref x_ParseError) (.ref x_InvalidWeb) = some false)
    (xs_InvalidNumber_InvalidWeb : PySem.W.subIn K (.ref x_InvalidNumber) (.ref x_InvalidWeb) = some false)
    (xx_InvalidWeb : PySem.W.excIn K x_InvalidWeb [.type "ValueError", .type "Exception", .type "BaseException", .type "object"] "ValueError.__new__" = true)
    (xs_InvalidWeb_InvalidText : PySem.W.subIn K (.ref x_InvalidWeb) (.ref x_InvalidText) = some false)
    (xs_InvalidText_InvalidText : PySem.W.subIn K (.ref x_InvalidText) (.ref x_InvalidText) = some true)
    (xs_ParseError_InvalidText : PySem.W.subIn K (.ref x_ParseError) (.ref x_InvalidText) = some false)
    (xs_InvalidNumber_InvalidText : PySem.W.subIn K (.ref x_InvalidNumber) (.ref x_InvalidText) = some false)
    (xx_InvalidText : PySem.W.excIn K x_InvalidText [.type "ValueError", .type "Exception", .type "BaseException", .type "object"] "ValueError.__new__" = true)
    (xs_InvalidWeb_ParseError : PySem.W.subIn K (.ref x_InvalidWeb) (.ref x_ParseError) = some false)
    (xs_InvalidText_ParseError : PySem.W.subIn K (.ref x_InvalidText) (.ref x_ParseError) = some false)
    (xs_ParseError_ParseError : PySem.W.subIn K (.ref x_ParseError) (.ref x_ParseError) = some true)
    (xs_InvalidNumber_ParseError : PySem.W.subIn K (.ref x_InvalidNumber) (.ref x_ParseError) = some false)
    (xga_ParseError : PySem.W.findIn K (.ref x_ParseError) "__getattribute__" = some (some (.builtin "BaseException.__getattribute__")))
    (xgg_ParseError : PySem.W.findIn K (.ref x_ParseError) "__getattr__" = some none)
    (xhd_ParseError : PySem.W.hasDictIn K x_ParseError = true)
    (xff_ParseError : PySem.W.findIn K (.ref x_ParseError) "spot" = some none)
    (ii_ParseError : PySem.W.findIn K (.ref x_ParseError) "__init__" = some (some (.ref i_ParseError)))
    (it_ParseError : PySem.W.typeIn K (.ref i_ParseError) = some (.type "function"))
    (il_ParseError : K.lookup i_ParseError = some ⟨ioc_ParseError, iod_ParseError, .func (PySem.W.ksFn "__init__" "ParseError.__init__" (defArgs sx_ParseError) (defBody sx_ParseError) (defScope sx_ParseError) .none ikV_ParseError idc_ParseError ipm_ParseError ian_ParseError (.ref ik_ParseError) ict_ParseError ic_ParseError), isl_ParseError⟩)
    (iq_ParseError : PySem.W.codeIn K (.ref ik_ParseError) "ParseError.__init__" = true)
    (ij_ParseError : K.lookup ik_ParseError = some ⟨jco_ParseError, jcd_ParseError, .fields jcv_ParseError, jcs_ParseError⟩)
    (if_ParseError : jcv_ParseError[2]? = some (.str jf_ParseError jt_ParseError))
    (ig_ParseError : ((PySem.Challenge.rw_flowhues_k89_whole_texts_with_faults.prog.main.file : Str) == jf_ParseError) = true)
    (ih_ParseError : K.lookup ic_ParseError = some ⟨kco_ParseError, kcd_ParseError, .cell (some (.ref x_ParseError)), kcs_ParseError⟩)
    (jx_ParseError : PySem.W.excInitIn K x_ParseError [.type "ValueError", .type "Exception", .type "BaseException", .type "object"] "ValueError.__new__" = true)
    (jo_ParseError : PySem.W.excOver K x_ParseError [.type "ValueError", .type "Exception", .type "BaseException", .type "object"] = true)
    (jn_ParseError : PySem.W.nsIn K mainGlobals "super" = some none)
    (js_ParseError : (PySem.Challenge.rw_flowhues_k89_whole_texts_with_faults.prog.main.scope.names.lookup ("super" : Str)).isSome = false)
    (jc_ParseError : (PySem.W.clsIn K x_ParseError).isSome = true)
    (jm_ParseError : PySem.W.mroIn K x_ParseError (.ref x_ParseError) = some true)
    (ju_ParseError : PySem.W.ks_superIn K x_ParseError x_ParseError "__init__" = some (some (.builtin "ValueError.__init__")))
    (jb_ParseError : PySem.W.subIn K (.ref x_ParseError) (.type "ValueError") = some true)
    (jq_ParseError : PySem.W.nsIn K cStatics "thirdparty.any" = some none)
    (ja_ParseError : PySem.W.findIn K (.ref x_ParseError) "__setattr__" = some (some (.builtin "object.__setattr__")))
    (jk_ParseError : PySem.W.takerIn K x_ParseError "spot" = some none)
    (jh_ParseError : PySem.W.hasDictIn K x_ParseError = true)
    (xs_InvalidWeb_InvalidNumber : PySem.W.subIn K (.ref x_InvalidWeb) (.ref x_InvalidNumber) = some false)
    (xs_InvalidText_InvalidNumber : PySem.W.subIn K (.ref x_InvalidText) (.ref x_InvalidNumber) = some false)
    (xs_ParseError_InvalidNumber : PySem.W.subIn K (.ref x_ParseError) (.ref x_InvalidNumber) = some false)
    (xs_InvalidNumber_InvalidNumber : PySem.W.subIn K (.ref x_InvalidNumber) (.ref x_InvalidNumber) = some true)
    (ii_InvalidNumber : PySem.W.findIn K (.ref x_InvalidNumber) "__init__" = some (some (.ref i_InvalidNumber)))
    (it_InvalidNumber : PySem.W.typeIn K (.ref i_InvalidNumber) = some (.type "function"))
    (il_InvalidNumber : K.lookup i_InvalidNumber = some ⟨ioc_InvalidNumber, iod_InvalidNumber, .func (PySem.W.ksFn "__init__" "InvalidNumber.__init__" (defArgs sx_InvalidNumber) (defBody sx_InvalidNumber) (defScope sx_InvalidNumber) .none ikV_InvalidNumber idc_InvalidNumber ipm_InvalidNumber ian_InvalidNumber (.ref ik_InvalidNumber) ict_InvalidNumber ic_InvalidNumber), isl_InvalidNumber⟩)
    (iq_InvalidNumber : PySem.W.codeIn K (.ref ik_InvalidNumber) "InvalidNumber.__init__" = true)
    (ij_InvalidNumber : K.lookup ik_InvalidNumber = some ⟨jco_InvalidNumber, jcd_InvalidNumber, .fields jcv_InvalidNumber, jcs_InvalidNumber⟩)
    (if_InvalidNumber : jcv_InvalidNumber[2]? = some (.str jf_InvalidNumber jt_InvalidNumber))
    (ig_InvalidNumber : ((PySem.Challenge.rw_flowhues_k89_whole_texts_with_faults.prog.main.file : Str) == jf_InvalidNumber) = true)
    (ih_InvalidNumber : K.lookup ic_InvalidNumber = some ⟨kco_InvalidNumber, kcd_InvalidNumber, .cell (some (.ref x_InvalidNumber)), kcs_InvalidNumber⟩)
    (jx_InvalidNumber : PySem.W.excInitIn K x_InvalidNumber [.type "IndexError", .type "LookupError", .type "Exception", .type "BaseException", .type "object"] "IndexError.__new__" = true)
    (jo_InvalidNumber : PySem.W.excOver K x_InvalidNumber [.type "IndexError", .type "LookupError", .type "Exception", .type "BaseException", .type "object"] = true)
    (jn_InvalidNumber : PySem.W.nsIn K mainGlobals "super" = some none)
    (js_InvalidNumber : (PySem.Challenge.rw_flowhues_k89_whole_texts_with_faults.prog.main.scope.names.lookup ("super" : Str)).isSome = false)
    (jc_InvalidNumber : (PySem.W.clsIn K x_InvalidNumber).isSome = true)
    (jm_InvalidNumber : PySem.W.mroIn K x_InvalidNumber (.ref x_InvalidNumber) = some true)
    (ju_InvalidNumber : PySem.W.ks_superIn K x_InvalidNumber x_InvalidNumber "__init__" = some (some (.builtin "IndexError.__init__")))
    (jb_InvalidNumber : PySem.W.subIn K (.ref x_InvalidNumber) (.type "IndexError") = some true)
    (jq_InvalidNumber : PySem.W.nsIn K cStatics "thirdparty.any" = some none)
    (ja_InvalidNumber : PySem.W.findIn K (.ref x_InvalidNumber) "__setattr__" = some (some (.builtin "object.__setattr__")))
    (jk_InvalidNumber : PySem.W.takerIn K x_InvalidNumber "given" = some none)
    (jh_InvalidNumber : PySem.W.hasDictIn K x_InvalidNumber = true)
    (n_abs : PySem.W.nsIn K mainGlobals "abs" = some none)
    (n_all : PySem.W.nsIn K mainGlobals "all" = some none)
    (n_bool : PySem.W.nsIn K mainGlobals "bool" = some none)
    (n_enumerate : PySem.W.nsIn K mainGlobals "enumerate" = some none)
    (n_int : PySem.W.nsIn K mainGlobals "int" = some none)
    (n_isinstance : PySem.W.nsIn K mainGlobals "isinstance" = some none)
    (n_len : PySem.W.nsIn K mainGlobals "len" = some none)
    (n_list : PySem.W.nsIn K mainGlobals "list" = some none)
    (n_max : PySem.W.nsIn K mainGlobals "max" = some none)
    (n_min : PySem.W.nsIn K mainGlobals "min" = some none)
    (n_range : PySem.W.nsIn K mainGlobals "range" = some none)
    (n_repr : PySem.W.nsIn K mainGlobals "repr" = some none)
    (n_sorted : PySem.W.nsIn K mainGlobals "sorted" = some none)
    (n_str : PySem.W.nsIn K mainGlobals "str" = some none)
    (n_tuple : PySem.W.nsIn K mainGlobals "tuple" = some none)
    (n_zip : PySem.W.nsIn K mainGlobals "zip" = some none)
    (c_AGAINST : PySem.W.nsIn K mainGlobals "AGAINST" = some (some (.str "<" ct_AGAINST)))
    (c_ALONG : PySem.W.nsIn K mainGlobals "ALONG" = some (some (.str ">" ct_ALONG)))
    (c_DIGITS : PySem.W.nsIn K mainGlobals "DIGITS" = some (some (.str "0123456789" ct_DIGITS)))
    (c_GREAT : PySem.W.nsIn K mainGlobals "GREAT" = some (some (.int 1000000000000000000000000000000000000000000000000000000000000 ct_GREAT)))
    (c_HUES : PySem.W.nsIn K mainGlobals "HUES" = some (some (.str "hues" ct_HUES)))
    (c_MAX_HUE : PySem.W.nsIn K mainGlobals "MAX_HUE" = some (some (.int 9 ct_MAX_HUE)))
    (c_MAX_PLACES : PySem.W.nsIn K mainGlobals "MAX_PLACES" = some (some (.int 7 ct_MAX_PLACES)))
    (c_MAX_SIGNS : PySem.W.nsIn K mainGlobals "MAX_SIGNS" = some (some (.int 20000 ct_MAX_SIGNS)))
    (c_MAX_TIES : PySem.W.nsIn K mainGlobals "MAX_TIES" = some (some (.int 14 ct_MAX_TIES)))
    (c_MOST_DIGITS : PySem.W.nsIn K mainGlobals "MOST_DIGITS" = some (some (.int 9 ct_MOST_DIGITS)))
    (c_PLACES : PySem.W.nsIn K mainGlobals "PLACES" = some (some (.str "places" ct_PLACES)))
    : ∃ (G : Gc) (m : List D → AH → Res D) (cs : List (Addr × Addr)), (∀ p ∈ cs, h.get? p.2 = some tab0) ∧ (∀ p ∈ cs, K.lookup p.2 = none) ∧ (∀ p ∈ cs, PySem.W.CodeHd h p.1 p.2) ∧ (∀ p ∈ G.T, p.1 ∈ cs.map (·.2)) ∧ G.K = K ∧ (∀ ns : List Int, ns.length ≤ 63 → ∃ A, m [.scr (ns.map .int)] [] = .ok (.bl true) A) ∧
      ∀ base : Heap, K.In base → base.Ns mainGlobals mg → (∀ p ∈ cs, LamX.TabB base mg p.1 p.2) → FnG PySem.Challenge.rw_flowhues_k89_whole_texts_with_faults.prog w K mg base G 11 fa m := by
  have e := hfa.symm.trans (PySem.W.mg_of X G a_law)
  cases e
  have SC_Web : SlX.SCls K c_Web := ⟨pg_Web, ic_Web, po_Web, sa_Web⟩
  have SI_Web : SlX.SIsi K c_Web := ⟨ca_Web, gcn, gct, cm_Web⟩
  have T : ∀ base : Heap, (∀ p ∈ codesOf ⟨f_law_bag, f_law_draw, f_law_one_of, f_law_ties, f_is_int, f_is_whole, f_is_within, f_require_size, f_are_ties, f_Web_init, f_law_bent, f_law_read, f_require_text, f_whole_lines, f_number_of, f_size_from, f_numbers_of, f_tie_from, f_read_web, f_Web_size, f_Web_ties, f_law_number, f_law_of_web, f_require_web, f_alone_line, f_read_signs, f_law_of_line, f_law_signs_of, f_are_hues_in, f_read_hues, f_law_hues_of, f_law_right, fa, c_Web, s_own_size, s_own_ties, p_size, p_ties, kd_law_right, tb_law_right, kd_law, tb_law, x_InvalidWeb, x_InvalidText, x_ParseError, x_InvalidNumber, i_ParseError, i_InvalidNumber⟩, LamX.TabB base mg p.1 p.2) → Tx PySem.Challenge.rw_flowhues_k89_whole_texts_with_faults.prog K mg base ⟨f_law_bag, f_law_draw, f_law_one_of, f_law_ties, f_is_int, f_is_whole, f_is_within, f_require_size, f_are_ties, f_Web_init, f_law_bent, f_law_read, f_require_text, f_whole_lines, f_number_of, f_size_from, f_numbers_of, f_tie_from, f_read_web, f_Web_size, f_Web_ties, f_law_number, f_law_of_web, f_require_web, f_alone_line, f_read_signs, f_law_of_line, f_law_signs_of, f_are_hues_in, f_read_hues, f_law_hues_of, f_law_right, fa, c_Web, s_own_size, s_own_ties, p_size, p_ties, kd_law_right, tb_law_right, kd_law, tb_law, x_InvalidWeb, x_InvalidText, x_ParseError, x_InvalidNumber, i_ParseError, i_InvalidNumber⟩ (gcOf K ⟨f_law_bag, f_law_draw, f_law_one_of, f_law_ties, f_is_int, f_is_whole, f_is_within, f_require_size, f_are_ties, f_Web_init, f_law_bent, f_law_read, f_require_text, f_whole_lines, f_number_of, f_size_from, f_numbers_of, f_tie_from, f_read_web, f_Web_size, f_Web_ties, f_law_number, f_law_of_web, f_require_web, f_alone_line, f_read_signs, f_law_of_line, f_law_signs_of, f_are_hues_in, f_read_hues, f_law_hues_of, f_law_right, fa, c_Web, s_own_size, s_own_ties, p_size, p_ties, kd_law_right, tb_law_right, kd_law, tb_law, x_InvalidWeb, x_InvalidText, x_ParseError, x_InvalidNumber, i_ParseError, i_InvalidNumber⟩) := fun base tb => ⟨rfl,
    ⟨_, fun_mk l_law_bag q_law_bag k_law_bag⟩,
    PySem.W.mg_of X G a_law_bag,
    k_law_bag,
    ⟨_, fun_mk l_law_draw q_law_draw k_law_draw⟩,
    PySem.W.mg_of X G a_law_draw,
    k_law_draw,
    ⟨_, fun_mk l_law_one_of q_law_one_of k_law_one_of⟩,
    PySem.W.mg_of X G a_law_one_of,
    k_law_one_of,
    ⟨_, fun_mk l_law_ties q_law_ties k_law_ties⟩,
    PySem.W.mg_of X G a_law_ties,
    k_law_ties,
    ⟨_, fun_mk l_is_int q_is_int k_is_int⟩,
    PySem.W.mg_of X G a_is_int,
    k_is_int,
    ⟨_, fun_mk l_is_whole q_is_whole k_is_whole⟩,
    PySem.W.mg_of X G a_is_whole,
    k_is_whole,
    ⟨_, fun_mk l_is_within q_is_within k_is_within⟩,
    PySem.W.mg_of X G a_is_within,
    k_is_within,
    ⟨_, fun_mk l_require_size q_require_size k_require_size⟩,
    PySem.W.mg_of X G a_require_size,
    k_require_size,
    ⟨_, fun_mk l_are_ties q_are_ties k_are_ties⟩,
    PySem.W.mg_of X G a_are_ties,
    k_are_ties,
    ⟨_, fun_mk l_Web_init q_Web_init k_Web_init⟩,
    ⟨_, fun_mk l_law_bent q_law_bent k_law_bent⟩,
    PySem.W.mg_of X G a_law_bent,
    k_law_bent,
    ⟨_, fun_mk l_law_read q_law_read k_law_read⟩,
    PySem.W.mg_of X G a_law_read,
    k_law_read,
    ⟨_, fun_mk l_require_text q_require_text k_require_text⟩,
    PySem.W.mg_of X G a_require_text,
    k_require_text,
    ⟨_, fun_mk l_whole_lines q_whole_lines k_whole_lines⟩,
    PySem.W.mg_of X G a_whole_lines,
    k_whole_lines,
    ⟨_, fun_mk l_number_of q_number_of k_number_of⟩,
    PySem.W.mg_of X G a_number_of,
    k_number_of,
    ⟨_, fun_mk l_size_from q_size_from k_size_from⟩,
    PySem.W.mg_of X G a_size_from,
    k_size_from,
    ⟨_, fun_mk l_numbers_of q_numbers_of k_numbers_of⟩,
    PySem.W.mg_of X G a_numbers_of,
    k_numbers_of,
    ⟨_, fun_mk l_tie_from q_tie_from k_tie_from⟩,
    PySem.W.mg_of X G a_tie_from,
    k_tie_from,
    ⟨_, fun_mk l_read_web q_read_web k_read_web⟩,
    PySem.W.mg_of X G a_read_web,
    k_read_web,
    ⟨_, fun_mk l_Web_size q_Web_size k_Web_size⟩,
    ⟨_, fun_mk l_Web_ties q_Web_ties k_Web_ties⟩,
    ⟨_, fun_mk l_law_number q_law_number k_law_number⟩,
    PySem.W.mg_of X G a_law_number,
    k_law_number,
    ⟨_, fun_mk l_law_of_web q_law_of_web k_law_of_web⟩,
    PySem.W.mg_of X G a_law_of_web,
    k_law_of_web,
    ⟨_, fun_mk l_require_web q_require_web k_require_web⟩,
    PySem.W.mg_of X G a_require_web,
    k_require_web,
    ⟨_, fun_mk l_alone_line q_alone_line k_alone_line⟩,
    PySem.W.mg_of X G a_alone_line,
    k_alone_line,
    ⟨_, fun_mk l_read_signs q_read_signs k_read_signs⟩,
    PySem.W.mg_of X G a_read_signs,
    k_read_signs,
    ⟨_, fun_mk l_law_of_line q_law_of_line k_law_of_line⟩,
    PySem.W.mg_of X G a_law_of_line,
    k_law_of_line,
    ⟨_, fun_mk l_law_signs_of q_law_signs_of k_law_signs_of⟩,
    PySem.W.mg_of X G a_law_signs_of,
    k_law_signs_of,
    ⟨_, fun_mk l_are_hues_in q_are_hues_in k_are_hues_in⟩,
    PySem.W.mg_of X G a_are_hues_in,
    k_are_hues_in,
    ⟨_, fun_mk l_read_hues q_read_hues k_read_hues⟩,
    PySem.W.mg_of X G a_read_hues,
    k_read_hues,
    ⟨_, fun_mk l_law_hues_of q_law_hues_of k_law_hues_of⟩,
    PySem.W.mg_of X G a_law_hues_of,
    k_law_hues_of,
    ⟨_, fun_mk l_law_right q_law_right k_law_right⟩,
    PySem.W.mg_of X G a_law_right,
    k_law_right,
    ⟨_, fun_mk l_law q_law k_law⟩,
    PySem.W.mg_of X G a_law,
    k_law,
    tb (kd_law_right, tb_law_right) (.head _),
    (by unfold fnCode; rw [l_law_right]),
    (.head _),
    only_by to_law_right,
    tb (kd_law, tb_law) (.tail _ (.head _)),
    (by unfold fnCode; rw [l_law]),
    (.tail _ (.head _)),
    only_by to_law,
    ⟨rfl, SC_Web⟩,
    PySem.W.mg_of X G a_Web,
    ⟨mk_Web, a_Web_init, i_Web_init, kc_Web⟩,
    ⟨kits io_Web_NoneType io_Web_bool io_Web_int io_Web_str io_Web_tuple io_Web_list io_Web_dict, fun c C h => clsEach h (fun e1 e2 => by subst e1; subst e2; exact ⟨SC_Web, SI_Web, io_Web_cWeb⟩)⟩,
    ⟨isB_bool K, fun c C h => clsEach h (fun e1 e2 => by subst e1; subst e2; exact ⟨SC_Web, SI_Web, ib_bool_Web⟩)⟩,
    ⟨isB_int K, fun c C h => clsEach h (fun e1 e2 => by subst e1; subst e2; exact ⟨SC_Web, SI_Web, ib_int_Web⟩)⟩,
    ⟨isB_str K, fun c C h => clsEach h (fun e1 e2 => by subst e1; subst e2; exact ⟨SC_Web, SI_Web, ib_str_Web⟩)⟩,
    ⟨isB_tuple K, fun c C h => clsEach h (fun e1 e2 => by subst e1; subst e2; exact ⟨SC_Web, SI_Web, ib_tuple_Web⟩)⟩,
    ⟨sa_own_size, sg_own_size, st_own_size, sy_own_size, si_own_size, by decide⟩,
    ⟨sa_own_ties, sg_own_ties, st_own_ties, sy_own_ties, si_own_ties, by decide⟩,
    ⟨SC_Web, pa_size, pg_size, pt_size, ⟨_, pr_size⟩⟩,
    ⟨SC_Web, pa_ties, pg_ties, pt_ties, ⟨_, pr_ties⟩⟩,
    PySem.W.mg_of X G xa_InvalidWeb,
    rfl,
    PySem.W.mg_of X G xa_InvalidText,
    rfl,
    PySem.W.mg_of X G xa_ParseError,
    rfl,
    rfl,
    PySem.W.mg_of X G xa_InvalidNumber,
    rfl,
    rfl,
    (fun n C h => xclEach h (fun e1 e2 => by subst e1; subst e2; exact exm_by xe_InvalidWeb xi_InvalidWeb xt_InvalidWeb xs_InvalidWeb_InvalidWeb) (fun e1 e2 => by subst e1; subst e2; exact exm_by xe_InvalidWeb xi_InvalidWeb xt_InvalidWeb xs_InvalidText_InvalidWeb) (fun e1 e2 => by subst e1; subst e2; exact exm_by xe_InvalidWeb xi_InvalidWeb xt_InvalidWeb xs_ParseError_InvalidWeb) (fun e1 e2 => by subst e1; subst e2; exact exm_by xe_InvalidWeb xi_InvalidWeb xt_InvalidWeb xs_InvalidNumber_InvalidWeb)),
    xcp_mk rfl base_ValueError xx_InvalidWeb xk_InvalidWeb xe_InvalidWeb xt_InvalidWeb,
    (fun n C h => xclEach h (fun e1 e2 => by subst e1; subst e2; exact exm_by xe_InvalidText xi_InvalidText xt_InvalidText xs_InvalidWeb_InvalidText) (fun e1 e2 => by subst e1; subst e2; exact exm_by xe_InvalidText xi_InvalidText xt_InvalidText xs_InvalidText_InvalidText) (fun e1 e2 => by subst e1; subst e2; exact exm_by xe_InvalidText xi_InvalidText xt_InvalidText xs_ParseError_InvalidText) (fun e1 e2 => by subst e1; subst e2; exact exm_by xe_InvalidText xi_InvalidText xt_InvalidText xs_InvalidNumber_InvalidText)),
    xcp_mk rfl base_ValueError xx_InvalidText xk_InvalidText xe_InvalidText xt_InvalidText,
    (fun n C h => xclEach h (fun e1 e2 => by subst e1; subst e2; exact exm_by xe_ParseError xi_ParseError xt_ParseError xs_InvalidWeb_ParseError) (fun e1 e2 => by subst e1; subst e2; exact exm_by xe_ParseError xi_ParseError xt_ParseError xs_InvalidText_ParseError) (fun e1 e2 => by subst e1; subst e2; exact exm_by xe_ParseError xi_ParseError xt_ParseError xs_ParseError_ParseError) (fun e1 e2 => by subst e1; subst e2; exact exm_by xe_ParseError xi_ParseError xt_ParseError xs_InvalidNumber_ParseError)),
    ⟨xga_ParseError, xgg_ParseError, xe_ParseError, xhd_ParseError⟩,
    xff_ParseError,
    ⟨base_ValueError, jx_ParseError, jo_ParseError, xk_ParseError, ii_ParseError, it_ParseError, ⟨_, _, _, _, _, _, _, _, _, _, _, _, _, _, _, _, _, _, _, _, _, _, _, il_ParseError, iq_ParseError, ij_ParseError, if_ParseError, ig_ParseError, ih_ParseError, rfl, rfl, fun _ _ => rfl, by decide +kernel, by decide +kernel, by decide +kernel, by decide +kernel, by decide +kernel, rfl, rfl, rfl⟩, ⟨_, _, _, _, _, _, _, _, _, _, rfl, fun _ _ _ _ _ => ⟨⟨_, rfl⟩, rfl, rfl, rfl, rfl⟩⟩, by decide, by decide, jn_ParseError, js_ParseError, jc_ParseError, jm_ParseError, ju_ParseError, jb_ParseError, jq_ParseError, ja_ParseError, jk_ParseError, jh_ParseError, xe_ParseError, xt_ParseError⟩,
    (fun n C h => xclEach h (fun e1 e2 => by subst e1; subst e2; exact exm_by xe_InvalidNumber xi_InvalidNumber xt_InvalidNumber xs_InvalidWeb_InvalidNumber) (fun e1 e2 => by subst e1; subst e2; exact exm_by xe_InvalidNumber xi_InvalidNumber xt_InvalidNumber xs_InvalidText_InvalidNumber) (fun e1 e2 => by subst e1; subst e2; exact exm_by xe_InvalidNumber xi_InvalidNumber xt_InvalidNumber xs_ParseError_InvalidNumber) (fun e1 e2 => by subst e1; subst e2; exact exm_by xe_InvalidNumber xi_InvalidNumber xt_InvalidNumber xs_InvalidNumber_InvalidNumber)),
    ⟨base_IndexError, jx_InvalidNumber, jo_InvalidNumber, xk_InvalidNumber, ii_InvalidNumber, it_InvalidNumber, ⟨_, _, _, _, _, _, _, _, _, _, _, _, _, _, _, _, _, _, _, _, _, _, _, il_InvalidNumber, iq_InvalidNumber, ij_InvalidNumber, if_InvalidNumber, ig_InvalidNumber, ih_InvalidNumber, rfl, rfl, fun _ _ => rfl, by decide +kernel, by decide +kernel, by decide +kernel, by decide +kernel, by decide +kernel, rfl, rfl, rfl⟩, ⟨_, _, _, _, _, _, _, _, _, _, rfl, fun _ _ _ _ _ => ⟨⟨_, rfl⟩, rfl, rfl, rfl, rfl⟩⟩, by decide, by decide, jn_InvalidNumber, js_InvalidNumber, jc_InvalidNumber, jm_InvalidNumber, ju_InvalidNumber, jb_InvalidNumber, jq_InvalidNumber, ja_InvalidNumber, jk_InvalidNumber, jh_InvalidNumber, xe_InvalidNumber, xt_InvalidNumber⟩,
    PySem.W.mg_none_of X G n_abs,
    PySem.W.mg_none_of X G n_all,
    PySem.W.mg_none_of X G n_bool,
    PySem.W.mg_none_of X G n_enumerate,
    PySem.W.mg_none_of X G n_int,
    PySem.W.mg_none_of X G n_isinstance,
    PySem.W.mg_none_of X G n_len,
    PySem.W.mg_none_of X G n_list,
    PySem.W.mg_none_of X G n_max,
    PySem.W.mg_none_of X G n_min,
    PySem.W.mg_none_of X G n_range,
    PySem.W.mg_none_of X G n_repr,
    PySem.W.mg_none_of X G n_sorted,
    PySem.W.mg_none_of X G n_str,
    PySem.W.mg_none_of X G n_tuple,
    PySem.W.mg_none_of X G n_zip,
    ⟨ct_AGAINST, strEq (PySem.W.mg_of X G c_AGAINST) (by decide +kernel)⟩,
    ⟨ct_ALONG, strEq (PySem.W.mg_of X G c_ALONG) (by decide +kernel)⟩,
    ⟨ct_DIGITS, strEq (PySem.W.mg_of X G c_DIGITS) (by decide +kernel)⟩,
    ⟨_, PySem.W.mg_of X G c_GREAT⟩,
    ⟨ct_HUES, strEq (PySem.W.mg_of X G c_HUES) (by decide +kernel)⟩,
    ⟨_, PySem.W.mg_of X G c_MAX_HUE⟩,
    ⟨_, PySem.W.mg_of X G c_MAX_PLACES⟩,
    ⟨_, PySem.W.mg_of X G c_MAX_SIGNS⟩,
    ⟨_, PySem.W.mg_of X G c_MAX_TIES⟩,
    ⟨_, PySem.W.mg_of X G c_MOST_DIGITS⟩,
    ⟨ct_PLACES, strEq (PySem.W.mg_of X G c_PLACES) (by decide +kernel)⟩⟩
  exact ⟨gcOf K ⟨f_law_bag, f_law_draw, f_law_one_of, f_law_ties, f_is_int, f_is_whole, f_is_within, f_require_size, f_are_ties, f_Web_init, f_law_bent, f_law_read, f_require_text, f_whole_lines, f_number_of, f_size_from, f_numbers_of, f_tie_from, f_read_web, f_Web_size, f_Web_ties, f_law_number, f_law_of_web, f_require_web, f_alone_line, f_read_signs, f_law_of_line, f_law_signs_of, f_are_hues_in, f_read_hues, f_law_hues_of, f_law_right, fa, c_Web, s_own_size, s_own_ties, p_size, p_ties, kd_law_right, tb_law_right, kd_law, tb_law, x_InvalidWeb, x_InvalidText, x_ParseError, x_InvalidNumber, i_ParseError, i_InvalidNumber⟩, m_law, codesOf ⟨f_law_bag, f_law_draw, f_law_one_of, f_law_ties, f_is_int, f_is_whole, f_is_within, f_require_size, f_are_ties, f_Web_init, f_law_bent, f_law_read, f_require_text, f_whole_lines, f_number_of, f_size_from, f_numbers_of, f_tie_from, f_read_web, f_Web_size, f_Web_ties, f_law_number, f_law_of_web, f_require_web, f_alone_line, f_read_signs, f_law_of_line, f_law_signs_of, f_are_hues_in, f_read_hues, f_law_hues_of, f_law_right, fa, c_Web, s_own_size, s_own_ties, p_size, p_ties, kd_law_right, tb_law_right, kd_law, tb_law, x_InvalidWeb, x_InvalidText, x_ParseError, x_InvalidNumber, i_ParseError, i_InvalidNumber⟩, (List.forall_mem_cons.mpr ⟨ht_law_right, (List.forall_mem_cons.mpr ⟨ht_law, (fun _ h => nomatch h)⟩)⟩), (List.forall_mem_cons.mpr ⟨ho_law_right, (List.forall_mem_cons.mpr ⟨ho_law, (fun _ h => nomatch h)⟩)⟩), (List.forall_mem_cons.mpr ⟨PySem.W.codeHd_of_K X hc_law_right, (List.forall_mem_cons.mpr ⟨PySem.W.codeHd_of_K X hc_law, (fun _ h => nomatch h)⟩)⟩), (List.forall_mem_cons.mpr ⟨List.mem_map.mpr ⟨(kd_law_right, tb_law_right), (.head _), rfl⟩, (List.forall_mem_cons.mpr ⟨List.mem_map.mpr ⟨(kd_law, tb_law), (.tail _ (.head _)), rfl⟩, (fun _ h => nomatch h)⟩)⟩), rfl, plain, fun base _ _ tb => g_law (T base tb) rfl⟩
end Lw
open PySem PySem.W PyProof.Rows
set_option maxRecDepth 100000 in
set_option maxHeartbeats 0 in
theorem PySem.Challenge.cw_flowhues_k89_whole_texts_with_faults_holds : PySem.Challenge.rw_flowhues_k89_whole_texts_with_faults.Holds := by
  w_on; o_law; k_head; (case hw => w_witness2)
  k_fill
  refine F3.walkT (l := PySem.Challenge.rw_flowhues_k89_whole_texts_with_faults) (n := 63) (k := 11) rfl (by decide) rfl (F3.room_caller (by decide) (by decide)) (fun w h Y => PySem.W.km_in_of Y) ?F
  case F =>
    intro w mg fa h Y KX G hmg
    have hT := PySem.W.km_tabs_of Y
    refine' Lw.all_mk KX G hmg Lw.plain ?a_Web ?pg_Web ?ic_Web ?po_Web ?sa_Web ?ca_Web ?cm_Web ?mk_Web ?kc_Web ?gcn ?gct ?a_law_bag ?l_law_bag ?q_law_bag ?k_law_bag ?a_law_draw ?l_law_draw ?q_law_draw ?k_law_draw ?a_law_one_of ?l_law_one_of ?q_law_one_of ?k_law_one_of ?a_law_ties ?l_law_ties ?q_law_ties ?k_law_ties ?a_is_int ?l_is_int ?q_is_int ?k_is_int ?a_is_whole ?l_is_whole ?q_is_whole ?k_is_whole ?a_is_within ?l_is_within ?q_is_within ?k_is_within ?a_require_size ?l_require_size ?q_require_size ?k_require_size ?a_are_ties ?l_are_ties ?q_are_ties ?k_are_ties ?a_Web_init ?i_Web_init ?l_Web_init ?q_Web_init ?k_Web_init ?a_law_bent ?l_law_bent ?q_law_bent ?k_law_bent ?a_law_read ?l_law_read ?q_law_read ?k_law_read ?a_require_text ?l_require_text ?q_require_text ?k_require_text ?a_whole_lines ?l_whole_lines ?q_whole_lines ?k_whole_lines ?a_number_of ?l_number_of ?q_number_of ?k_number_of ?a_size_from ?l_size_from ?q_size_from ?k_size_from ?a_numbers_of ?l_numbers_of ?q_numbers_of ?k_numbers_of ?a_tie_from ?l_tie_from ?q_tie_from ?k_tie_from ?a_read_web ?l_read_web ?q_read_web ?k_read_web ?pa_size ?pr_size ?pg_size ?pt_size ?l_Web_size ?q_Web_size ?k_Web_size ?pa_ties ?pr_ties ?pg_ties ?pt_ties ?l_Web_ties ?q_Web_ties ?k_Web_ties ?a_law_number ?l_law_number ?q_law_number ?k_law_number ?a_law_of_web ?l_law_of_web ?q_law_of_web ?k_law_of_web ?a_require_web ?l_require_web ?q_require_web ?k_require_web ?a_alone_line ?l_alone_line ?q_alone_line ?k_alone_line ?a_read_signs ?l_read_signs ?q_read_signs ?k_read_signs ?a_law_of_line ?l_law_of_line ?q_law_of_line ?k_law_of_line ?a_law_signs_of ?l_law_signs_of ?q_law_signs_of ?k_law_signs_of ?a_are_hues_in ?l_are_hues_in ?q_are_hues_in ?k_are_hues_in ?a_read_hues ?l_read_hues ?q_read_hues ?k_read_hues ?a_law_hues_of ?l_law_hues_of ?q_law_hues_of ?k_law_hues_of ?a_law_right ?l_law_right ?q_law_right ?k_law_right ?lc_law_right ?lt_law_right ?hc_law_right ?ho_law_right ?ht_law_right ?a_law ?l_law ?q_law ?k_law ?lc_law ?lt_law ?hc_law ?ho_law ?ht_law ?to_law_right ?to_law ?sa_own_size ?sg_own_size ?st_own_size ?sy_own_size ?si_own_size ?sa_own_ties ?sg_own_ties ?st_own_ties ?sy_own_ties ?si_own_ties ?io_Web_NoneType ?io_Web_bool ?io_Web_int ?io_Web_str ?io_Web_tuple ?io_Web_list ?io_Web_dict ?io_Web_cWeb ?ib_bool_Web ?ib_int_Web ?ib_str_Web ?ib_tuple_Web ?xa_InvalidWeb ?xe_InvalidWeb ?xi_InvalidWeb ?xt_InvalidWeb ?xk_InvalidWeb ?xa_InvalidText ?xe_InvalidText ?xi_InvalidText ?xt_InvalidText ?xk_InvalidText ?xa_ParseError ?xe_ParseError ?xi_ParseError ?xt_ParseError ?xk_ParseError ?xa_InvalidNumber ?xe_InvalidNumber ?xi_InvalidNumber ?xt_InvalidNumber ?xk_InvalidNumber ?xs_InvalidWeb_InvalidWeb ?xs_InvalidText_InvalidWeb ?xs_ParseError_InvalidWeb ?xs_InvalidNumber_InvalidWeb ?xx_InvalidWeb ?xs_InvalidWeb_InvalidText ?xs_InvalidText_InvalidText ?xs_ParseError_InvalidText ?xs_InvalidNumber_InvalidText ?xx_InvalidText ?xs_InvalidWeb_ParseError ?xs_InvalidText_ParseError ?xs_ParseError_ParseError ?xs_InvalidNumber_ParseError ?xga_ParseError ?xgg_ParseError ?xhd_ParseError ?xff_ParseError ?ii_ParseError ?it_ParseError ?il_ParseError ?iq_ParseError ?ij_ParseError ?if_ParseError ?ig_ParseError ?ih_ParseError ?jx_ParseError ?jo_ParseError ?jn_ParseError ?js_ParseError ?jc_ParseError ?jm_ParseError ?ju_ParseError ?jb_ParseError ?jq_ParseError ?ja_ParseError ?jk_ParseError ?jh_ParseError ?xs_InvalidWeb_InvalidNumber ?xs_InvalidText_InvalidNumber ?xs_ParseError_InvalidNumber ?xs_InvalidNumber_InvalidNumber ?ii_InvalidNumber ?it_InvalidNumber ?il_InvalidNumber ?iq_InvalidNumber ?ij_InvalidNumber ?if_InvalidNumber ?ig_InvalidNumber ?ih_InvalidNumber ?jx_InvalidNumber ?jo_InvalidNumber ?jn_InvalidNumber ?js_InvalidNumber ?jc_InvalidNumber ?jm_InvalidNumber ?ju_InvalidNumber ?jb_InvalidNumber ?jq_InvalidNumber ?ja_InvalidNumber ?jk_InvalidNumber ?jh_InvalidNumber ?n_abs ?n_all ?n_bool ?n_enumerate ?n_int ?n_isinstance ?n_len ?n_list ?n_max ?n_min ?n_range ?n_repr ?n_sorted ?n_str ?n_tuple ?n_zip ?c_AGAINST ?c_ALONG ?c_DIGITS ?c_GREAT ?c_HUES ?c_MAX_HUE ?c_MAX_PLACES ?c_MAX_SIGNS ?c_MAX_TIES ?c_MOST_DIGITS ?c_PLACES
    (case a_Web => k_is)
    (case pg_Web => k_is)
    (case ic_Web => k_is)
    (case po_Web => k_is)
    (case sa_Web => k_is)
    (case ca_Web => k_is)
    (case cm_Web => k_is)
    (case mk_Web => k_is)
    (case kc_Web => k_is)
    (case gcn => k_is)
    (case gct => k_is)
    (case a_law_bag => k_is)
    (case l_law_bag => k_is)
    (case q_law_bag => k_is)
    (case k_law_bag => k_is)
    (case a_law_draw => k_is)
    (case l_law_draw => k_is)
    (case q_law_draw => k_is)
    (case k_law_draw => k_is)
    (case a_law_one_of => k_is)
    (case l_law_one_of => k_is)
    (case q_law_one_of => k_is)
    (case k_law_one_of => k_is)
    (case a_law_ties => k_is)
    (case l_law_ties => k_is)
    (case q_law_ties => k_is)
    (case k_law_ties => k_is)
    (case a_is_int => k_is)
    (case l_is_int => k_is)
    (case q_is_int => k_is)
    (case k_is_int => k_is)
    (case a_is_whole => k_is)
    (case l_is_whole => k_is)
    (case q_is_whole => k_is)
    (case k_is_whole => k_is)
    (case a_is_within => k_is)
    (case l_is_within => k_is)
    (case q_is_within => k_is)
    (case k_is_within => k_is)
    (case a_require_size => k_is)
    (case l_require_size => k_is)
    (case q_require_size => k_is)
    (case k_require_size => k_is)
    (case a_are_ties => k_is)
    (case l_are_ties => k_is)
    (case q_are_ties => k_is)
    (case k_are_ties => k_is)
    (case a_Web_init => k_is)
    (case i_Web_init => k_is)
    (case l_Web_init => k_is)
    (case q_Web_init => k_is)
    (case k_Web_init => k_is)
    (case a_law_bent => k_is)
    (case l_law_bent => k_is)
    (case q_law_bent => k_is)
    (case k_law_bent => k_is)
    (case a_law_read => k_is)
    (case l_law_read => k_is)
    (case q_law_read => k_is)
    (case k_law_read => k_is)
    (case a_require_text => k_is)
    (case l_require_text => k_is)
    (case q_require_text => k_is)
    (case k_require_text => k_is)
    (case a_whole_lines => k_is)
    (case l_whole_lines => k_is)
    (case q_whole_lines => k_is)
    (case k_whole_lines => k_is)
    (case a_number_of => k_is)
    (case l_number_of => k_is)
    (case q_number_of => k_is)
    (case k_number_of => k_is)
    (case a_size_from => k_is)
    (case l_size_from => k_is)
    (case q_size_from => k_is)
    (case k_size_from => k_is)
    (case a_numbers_of => k_is)
    (case l_numbers_of => k_is)
    (case q_numbers_of => k_is)
    (case k_numbers_of => k_is)
    (case a_tie_from => k_is)
    (case l_tie_from => k_is)
    (case q_tie_from => k_is)
    (case k_tie_from => k_is)
    (case a_read_web => k_is)
    (case l_read_web => k_is)
    (case q_read_web => k_is)
    (case k_read_web => k_is)
    (case pa_size => k_is)
    (case pr_size => k_is)
    (case pg_size => k_is)
    (case pt_size => k_is)
    (case l_Web_size => k_is)
    (case q_Web_size => k_is)
    (case k_Web_size => k_is)
    (case pa_ties => k_is)
    (case pr_ties => k_is)
    (case pg_ties => k_is)
    (case pt_ties => k_is)
    (case l_Web_ties => k_is)
    (case q_Web_ties => k_is)
    (case k_Web_ties => k_is)
    (case a_law_number => k_is)
    (case l_law_number => k_is)
    (case q_law_number => k_is)
    (case k_law_number => k_is)
    (case a_law_of_web => k_is)
    (case l_law_of_web => k_is)
    (case q_law_of_web => k_is)
    (case k_law_of_web => k_is)
    (case a_require_web => k_is)
    (case l_require_web => k_is)
    (case q_require_web => k_is)
    (case k_require_web => k_is)
    (case a_alone_line => k_is)
    (case l_alone_line => k_is)
    (case q_alone_line => k_is)
    (case k_alone_line => k_is)
    (case a_read_signs => k_is)
    (case l_read_signs => k_is)
    (case q_read_signs => k_is)
    (case k_read_signs => k_is)
    (case a_law_of_line => k_is)
    (case l_law_of_line => k_is)
    (case q_law_of_line => k_is)
    (case k_law_of_line => k_is)
    (case a_law_signs_of => k_is)
    (case l_law_signs_of => k_is)
    (case q_law_signs_of => k_is)
    (case k_law_signs_of => k_is)
    (case a_are_hues_in => k_is)
    (case l_are_hues_in => k_is)
    (case q_are_hues_in => k_is)
    (case k_are_hues_in => k_is)
    (case a_read_hues => k_is)
    (case l_read_hues => k_is)
    (case q_read_hues => k_is)
    (case k_read_hues => k_is)
    (case a_law_hues_of => k_is)
    (case l_law_hues_of => k_is)
    (case q_law_hues_of => k_is)
    (case k_law_hues_of => k_is)
    (case a_law_right => k_is)
    (case l_law_right => k_is)
    (case q_law_right => k_is)
    (case k_law_right => k_is)
    (case lc_law_right => k_is)
    (case lt_law_right => exact rfl)
    (case hc_law_right => kernel_rfl)
    (case ho_law_right => kernel_rfl)
    (case ht_law_right => exact hT _ (by decide))
    (case a_law => k_is)
    (case l_law => k_is)
    (case q_law => k_is)
    (case k_law => k_is)
    (case lc_law => k_is)
    (case lt_law => exact rfl)
    (case hc_law => kernel_rfl)
    (case ho_law => kernel_rfl)
    (case ht_law => exact hT _ (by decide))
    (case to_law_right => decide +kernel)
    (case to_law => decide +kernel)
    (case sa_own_size => k_is)
    (case sg_own_size => k_is)
    (case st_own_size => k_is)
    (case sy_own_size => k_is)
    (case si_own_size => k_is)
    (case sa_own_ties => k_is)
    (case sg_own_ties => k_is)
    (case st_own_ties => k_is)
    (case sy_own_ties => k_is)
    (case si_own_ties => k_is)
    (case io_Web_NoneType => kit_is)
    (case io_Web_bool => kit_is)
    (case io_Web_int => kit_is)
    (case io_Web_str => kit_is)
    (case io_Web_tuple => kit_is)
    (case io_Web_list => kit_is)
    (case io_Web_dict => kit_is)
    (case io_Web_cWeb => kit_is)
    (case ib_bool_Web => kit_is)
    (case ib_int_Web => kit_is)
    (case ib_str_Web => kit_is)
    (case ib_tuple_Web => kit_is)
    (case xa_InvalidWeb => k_is)
    (case xe_InvalidWeb => k_is)
    (case xi_InvalidWeb => k_is)
    (case xt_InvalidWeb => k_is)
    (case xk_InvalidWeb => k_is)
    (case xa_InvalidText => k_is)
    (case xe_InvalidText => k_is)
    (case xi_InvalidText => k_is)
    (case xt_InvalidText => k_is)
    (case xk_InvalidText => k_is)
    (case xa_ParseError => k_is)
    (case xe_ParseError => k_is)
    (case xi_ParseError => k_is)
    (case xt_ParseError => k_is)
    (case xk_ParseError => k_is)
    (case xa_InvalidNumber => k_is)
    (case xe_InvalidNumber => k_is)
    (case xi_InvalidNumber => k_is)
    (case xt_InvalidNumber => k_is)
    (case xk_InvalidNumber => k_is)
    (case xs_InvalidWeb_InvalidWeb => k_is)
    (case xs_InvalidText_InvalidWeb => k_is)
    (case xs_ParseError_InvalidWeb => k_is)
    (case xs_InvalidNumber_InvalidWeb => k_is)
    (case xx_InvalidWeb => kernel_rfl)
    (case xs_InvalidWeb_InvalidText => k_is)
    (case xs_InvalidText_InvalidText => k_is)
    (case xs_ParseError_InvalidText => k_is)
    (case xs_InvalidNumber_InvalidText => k_is)
    (case xx_InvalidText => kernel_rfl)
    (case xs_InvalidWeb_ParseError => k_is)
    (case xs_InvalidText_ParseError => k_is)
    (case xs_ParseError_ParseError => k_is)
    (case xs_InvalidNumber_ParseError => k_is)
    (case xga_ParseError => k_is)
    (case xgg_ParseError => k_is)
    (case xhd_ParseError => k_is)
    (case xff_ParseError => k_is)
    (case ii_ParseError => k_is)
    (case it_ParseError => k_is)
    (case il_ParseError => k_is)
    (case iq_ParseError => k_is)
    (case ij_ParseError => k_is)
    (case if_ParseError => exact rfl)
    (case ig_ParseError => kernel_rfl)
    (case ih_ParseError => k_is)
    (case jx_ParseError => kernel_rfl)
    (case jo_ParseError => kernel_rfl)
    (case jn_ParseError => k_is)
    (case js_ParseError => kernel_rfl)
    (case jc_ParseError => kernel_rfl)
    (case jm_ParseError => k_is)
    (case ju_ParseError => kernel_rfl)
    (case jb_ParseError => k_is)
    (case jq_ParseError => k_is)
    (case ja_ParseError => k_is)
    (case jk_ParseError => k_is)
    (case jh_ParseError => k_is)
    (case xs_InvalidWeb_InvalidNumber => k_is)
    (case xs_InvalidText_InvalidNumber => k_is)
    (case xs_ParseError_InvalidNumber => k_is)
    (case xs_InvalidNumber_InvalidNumber => k_is)
    (case ii_InvalidNumber => k_is)
    (case it_InvalidNumber => k_is)
    (case il_InvalidNumber => k_is)
    (case iq_InvalidNumber => k_is)
    (case ij_InvalidNumber => k_is)
    (case if_InvalidNumber => exact rfl)
    (case ig_InvalidNumber => kernel_rfl)
    (case ih_InvalidNumber => k_is)
    (case jx_InvalidNumber => kernel_rfl)
    (case jo_InvalidNumber => kernel_rfl)
    (case jn_InvalidNumber => k_is)
    (case js_InvalidNumber => kernel_rfl)
    (case jc_InvalidNumber => kernel_rfl)
    (case jm_InvalidNumber => k_is)
    (case ju_InvalidNumber => kernel_rfl)
    (case jb_InvalidNumber => k_is)
    (case jq_InvalidNumber => k_is)
    (case ja_InvalidNumber => k_is)
    (case jk_InvalidNumber => k_is)
    (case jh_InvalidNumber => k_is)
    (case n_abs => k_is)
    (case n_all => k_is)
    (case n_bool => k_is)
    (case n_enumerate => k_is)
    (case n_int => k_is)
    (case n_isinstance => k_is)
    (case n_len => k_is)
    (case n_list => k_is)
    (case n_max => k_is)
    (case n_min => k_is)
    (case n_range => k_is)
    (case n_repr => k_is)
    (case n_sorted => k_is)
    (case n_str => k_is)
    (case n_tuple => k_is)
    (case n_zip => k_is)
    (case c_AGAINST => k_is)
    (case c_ALONG => k_is)
    (case c_DIGITS => k_is)
    (case c_GREAT => k_is)
    (case c_HUES => k_is)
    (case c_MAX_HUE => k_is)
    (case c_MAX_PLACES => k_is)
    (case c_MAX_SIGNS => k_is)
    (case c_MAX_TIES => k_is)
    (case c_MOST_DIGITS => k_is)
    (case c_PLACES => k_is)
#print axioms PySem.Challenge.cw_flowhues_k89_whole_texts_with_faults_holds

