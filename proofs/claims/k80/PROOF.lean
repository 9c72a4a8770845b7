import PyProof.Rows.All
import Wide.All
import OpenK.AllK
import Wide.FinOn
import HandS.ForMost
import HandS.Exc
import HandS.ExcOwn
import HandS.WordsExc
import HandS.Slots
import HandS.SlotsOwn
import HandS.Lambda
import HandS.Zip
import HandS.Conv
import HandS.Star
import HandS.FStr
import HandS.IsInst
import HandS.SortRule
import HandS.Wide
import HandS.TupAny
import HandS.TupLe
import HandS.Deep
import HandS.Style
import HandS.TupMul
import PyProof.Rows.ReprR
import HandS.RaiseMore
import HandS.WideMore
import HandS.Rev
import HandS.SortInts
import HandS.Ends
import HandS.TryMany
import KE.KExcSuper
import KE.KSuper
import HandS.ExcInit
import HandS.ExcField
import KE.KDflt
import KE.KNestM
import HandS.EndTab
import PyProof.ListStr
import PyProof.StrBlock2
import HandS.SetFor
import KE.SortKeyHeap
import KE.DataMinMax
import HandS.Dict
import PyProof.ZipIter
import PySem.Challenge.RW_flowhues_k80_errors_of_joins
set_option Elab.async false
set_option linter.all false
set_option maxRecDepth 100000
set_option maxHeartbeats 0
namespace F3
open PySem PySem.Spec
open PyProof.Rows L2
/-- deep values: what a Python value is, tuples and lists that are never changed written out -/
inductive D where
  | non | bl (b : Bool) | int (i : Int) | str (x : Str)
  | tup (ds : List D) | lst (ds : List D) | scr (ds : List D) | ins (c : Nat) (ds : List D) | dct (t : Bool) (ks ds : List D)
  | ref (i : Nat)
  | fn
/-- things that are changed -/
inductive AO where
  | lst (ds : List D) | ins (c : Nat) (fs : List (Option D)) | dct (t : Bool) (ks ds : List D) | fdct (t : Bool) (ks ds : List D) | dead
abbrev AH := List AO
abbrev Ev := List (Option D)
structure Xn where
  c : Nat
  args : List D
inductive Res (α : Type) where
  | ok (a : α) (A : AH) | ex (x : Xn) (A : AH) | stuck
@[reducible] def Res.bind {α β : Type} (r : Res α) (k : α → AH → Res β) : Res β :=
  match r with
  | .ok a A => k a A
  | .ex x A => .ex x A
  | .stuck => .stuck
/-- the ghost: where the changed things stand; whose an address is -/
structure Gh where
  ρ : List Addr
  o : Addr → Option (Option Nat)
/-- a lambda that a def got: its place, its code object, the code's name, the state at its making -/
structure Lm where
  f : Addr
  c : Addr
  q : Str
  γ : Gh
  H : Hp
/-- what of the text stands fixed: classes of instances, classes of errors, code tables -/
structure Gc where
  K : PySem.W.Frag
  cls : Nat → Option Addr
  xcl : Nat → Option Addr
  T : List (Addr × Str)
  xfl : Nat → Str
  lam : Option Lm
/-- a written list: what a heap without anything knows -/
def WrL (K : PySem.W.Frag) (a : Addr) (xs : List V) : Prop := SqL K (fun _ => none) a xs
theorem WrL.sq {K : PySem.W.Frag} {H : Hp} {a : Addr} {xs : List V} (h : WrL K a xs) : SqL K H a xs := by
  rcases h with (h | ⟨o, h⟩) | h
  · cases h
  · cases h
  · exact .inr h
def FxT (G : Gc) (γ : Gh) (H : Hp) (a : Addr) (xs : List V) : Prop := H a = some (.tup xs) ∧ γ.o a = none
def FxL (G : Gc) (γ : Gh) (H : Hp) (a : Addr) (xs : List V) : Prop := (Rd H a (.lst xs) ∧ γ.o a = none) ∨ WrL G.K a xs
theorem FxT.sq {G : Gc} {γ : Gh} {H : Hp} {a : Addr} {xs : List V} (h : FxT G γ H a xs) : SqT G.K H a xs := SqT.of h.1
theorem FxL.sq {G : Gc} {γ : Gh} {H : Hp} {a : Addr} {xs : List V} (h : FxL G γ H a xs) : SqL G.K H a xs := h.elim (fun h => .inl h.1) WrL.sq
def kD : Key → D
  | .inl i => .int i
  | .inr x => .str x
/-- u is the dict of these keys and values; t: the keys are tuples -/
def DK (t : Bool) (ks : List D) (vs : List V) (u : HO) : Prop := (t = false ∧ ∃ kvs : List (Key × V), u = .dK kvs ∧ kvs.map (fun p => kD p.1) = ks ∧ kvs.map (·.2) = vs) ∨
  (t = true ∧ ∃ kvs : List (List Key × V), u = .dT kvs ∧ kvs.map (fun p => D.tup (p.1.map kD)) = ks ∧ kvs.map (·.2) = vs)
/-- what a run leaves as it was: values; things put aside -/
structure Ext0 (γ : Gh) (H : Hp) (γ' : Gh) (H' : Hp) : Prop where
  ρ : ∀ (i : Nat) (a : Addr), γ.ρ[i]? = some a → γ'.ρ[i]? = some a
  keep : ∀ (a : Addr) (ob : HO), H a = some ob → γ.o a = none → (∀ ps, ob ≠ .tbl ps) → H' a = some ob ∧ γ'.o a = none
  frz : ∀ (a : Addr) (o : Obj) (u : HO), H a = some (.frz o u) → H' a = some (.frz o u)
theorem Ext0.trans {γ γ1 γ2 : Gh} {H H1 H2 : Hp} (a : Ext0 γ H γ1 H1) (b : Ext0 γ1 H1 γ2 H2) : Ext0 γ H γ2 H2 :=
  ⟨fun i x h => b.ρ i x (a.ρ i x h), fun x ob h n t => let ⟨h1, n1⟩ := a.keep x ob h n t; b.keep x ob h1 n1 t, fun x o u h => b.frz x o u (a.frz x o u h)⟩
mutual
def VR (G : Gc) (γ : Gh) (H : Hp) : D → V → Prop
  | .non, v => v = .non
  | .bl b, v => v = .bl b
  | .int i, v => v = .int i
  | .str x, v => v = .str x
  | .tup ds, v => ∃ a vs, v = .ref a ∧ FxT G γ H a vs ∧ VRs G γ H ds vs
  | .lst ds, v => ∃ a vs, v = .ref a ∧ H a = some (.lst vs) ∧ γ.o a = none ∧ VRs G γ H ds vs
  | .scr ds, v => ∃ a vs, v = .ref a ∧ FxL G γ H a vs ∧ VRs G γ H ds vs
  | .ins c ds, v => ∃ a C dx vs, v = .ref a ∧ γ.o a = none ∧ γ.o dx = none ∧ G.cls c = some C ∧ H a = some (SlX.SlO a C dx (vs.map some)) ∧ H dx = some (.xd []) ∧ VRs G γ H ds vs
  | .dct t ks ds, v => ∃ a o u vs, v = .ref a ∧ γ.o a = none ∧ H a = some (.frz o u) ∧ DK t ks vs u ∧ VRs G γ H ds vs
  | .ref i, v => ∃ a, v = .ref a ∧ γ.ρ[i]? = some a
  | .fn, v => ∃ L : Lm, G.lam = some L ∧ v = .ref L.f ∧ H L.c = some (LamX.CodeO L.c L.q) ∧ γ.o L.c = none ∧ Ext0 L.γ L.H γ H
def VRs (G : Gc) (γ : Gh) (H : Hp) : List D → List V → Prop
  | [], vs => vs = []
  | d :: ds, vs => ∃ v r, vs = v :: r ∧ VR G γ H d v ∧ VRs G γ H ds r
end
structure Ext (γ : Gh) (H : Hp) (γ' : Gh) (H' : Hp) : Prop extends Ext0 γ H γ' H' where
  hid : ∀ (a : Addr) (ob : HO), H a = some ob → γ.o a = some none → H' a = some ob ∧ γ'.o a = some none
theorem Ext.refl (γ : Gh) (H : Hp) : Ext γ H γ H := ⟨⟨fun _ _ h => h, fun _ _ h n _ => ⟨h, n⟩, fun _ _ _ h => h⟩, fun _ _ h n => ⟨h, n⟩⟩
theorem Ext.trans {γ γ1 γ2 : Gh} {H H1 H2 : Hp} (a : Ext γ H γ1 H1) (b : Ext γ1 H1 γ2 H2) : Ext γ H γ2 H2 :=
  ⟨⟨fun i x h => b.ρ i x (a.ρ i x h), fun x ob h n t => let ⟨h1, n1⟩ := a.keep x ob h n t; b.keep x ob h1 n1 t, fun x o u h => b.frz x o u (a.frz x o u h)⟩, fun x ob h n => let ⟨h1, n1⟩ := a.hid x ob h n; b.hid x ob h1 n1⟩
section
variable {G : Gc} {γ γ' : Gh} {H H' : Hp}
theorem Ext0.fxT (e : Ext0 γ H γ' H') {a : Addr} {xs : List V} (h : FxT G γ H a xs) : FxT G γ' H' a xs := e.keep _ _ h.1 h.2 (fun _ z => nomatch z)
theorem Ext0.fxL (e : Ext0 γ H γ' H') {a : Addr} {xs : List V} (h : FxL G γ H a xs) : FxL G γ' H' a xs := by
  rcases h with ⟨h | ⟨o, h⟩, n⟩ | h
  · obtain ⟨h1, n1⟩ := e.keep _ _ h n (fun _ z => nomatch z)
    exact .inl ⟨.inl h1, n1⟩
  · obtain ⟨h1, n1⟩ := e.keep _ _ h n (fun _ z => nomatch z)
    exact .inl ⟨.inr ⟨o, h1⟩, n1⟩
  · exact .inr h
theorem slO_tbl {a C dx : Addr} {vs : List (Option V)} : ∀ ps, SlX.SlO a C dx vs ≠ .tbl ps := fun ps z => by
  unfold SlX.SlO at z; cases z
mutual
theorem VR.ext0 (e : Ext0 γ H γ' H') : ∀ (d : D) (v : V), VR G γ H d v → VR G γ' H' d v
  | .non, v, h => by unfold VR at h ⊢; exact h
  | .bl b, v, h => by unfold VR at h ⊢; exact h
  | .int b, v, h => by unfold VR at h ⊢; exact h
  | .str b, v, h => by unfold VR at h ⊢; exact h
  | .tup ds, v, h => by
    unfold VR at h ⊢
    obtain ⟨a, vs, e1, f, r⟩ := h
    exact ⟨a, vs, e1, e.fxT f, VRs.ext0 e ds vs r⟩
  | .lst ds, v, h => by
    unfold VR at h ⊢
    obtain ⟨a, vs, e1, h1, n1, r⟩ := h
    obtain ⟨h2, n2⟩ := e.keep _ _ h1 n1 (fun _ z => nomatch z)
    exact ⟨a, vs, e1, h2, n2, VRs.ext0 e ds vs r⟩
  | .scr ds, v, h => by
    unfold VR at h ⊢
    obtain ⟨a, vs, e1, f, r⟩ := h
    exact ⟨a, vs, e1, e.fxL f, VRs.ext0 e ds vs r⟩
  | .ins c ds, v, h => by
    unfold VR at h ⊢
    obtain ⟨a, C, dx, vs, e1, n1, n2, hc, h1, h2, r⟩ := h
    obtain ⟨a1, a2⟩ := e.keep _ _ h1 n1 slO_tbl
    obtain ⟨b1, b2⟩ := e.keep _ _ h2 n2 (fun _ z => nomatch z)
    exact ⟨a, C, dx, vs, e1, a2, b2, hc, a1, b1, VRs.ext0 e ds vs r⟩
  | .dct t ks ds, v, h => by
    unfold VR at h ⊢
    obtain ⟨a, o, u, vs, e1, n1, h1, hk, r⟩ := h
    obtain ⟨a1, a2⟩ := e.keep _ _ h1 n1 (fun _ z => nomatch z)
    exact ⟨a, o, u, vs, e1, a2, a1, hk, VRs.ext0 e ds _ r⟩
  | .ref i, v, h => by
    unfold VR at h ⊢
    obtain ⟨a, e1, h⟩ := h
    exact ⟨a, e1, e.ρ _ _ h⟩
  | .fn, v, h => by
    unfold VR at h ⊢
    obtain ⟨L, e0, e1, h1, n1, e2⟩ := h
    obtain ⟨h2, n2⟩ := e.keep _ _ h1 n1 LamX.codeO_ne
    exact ⟨L, e0, e1, h2, n2, e2.trans e⟩
theorem VRs.ext0 (e : Ext0 γ H γ' H') : ∀ (ds : List D) (vs : List V), VRs G γ H ds vs → VRs G γ' H' ds vs
  | [], vs, h => by unfold VRs at h ⊢; exact h
  | d :: ds, vs, h => by
    unfold VRs at h ⊢
    obtain ⟨v, r, e1, h1, h2⟩ := h
    exact ⟨v, r, e1, VR.ext0 e d v h1, VRs.ext0 e ds r h2⟩
end
theorem VR.ext (e : Ext γ H γ' H') (d : D) (v : V) (h : VR G γ H d v) : VR G γ' H' d v := VR.ext0 e.toExt0 d v h
theorem VRs.ext (e : Ext γ H γ' H') (ds : List D) (vs : List V) (h : VRs G γ H ds vs) : VRs G γ' H' ds vs := VRs.ext0 e.toExt0 ds vs h
end
section
variable {G : Gc} {γ γ' : Gh} {H H' : Hp}
theorem VRs.length : ∀ {ds : List D} {vs : List V}, VRs G γ H ds vs → ds.length = vs.length
  | [], vs, h => by unfold VRs at h; subst h; rfl
  | d :: ds, vs, h => by
    unfold VRs at h
    obtain ⟨v, r, rfl, _, h2⟩ := h
    simp [VRs.length h2]
theorem VRs.nil : VRs G γ H [] [] := by unfold VRs; rfl
theorem VRs.cons {d : D} {v : V} {ds : List D} {vs : List V} (h : VR G γ H d v) (t : VRs G γ H ds vs) : VRs G γ H (d :: ds) (v :: vs) := by
  unfold VRs; exact ⟨v, vs, rfl, h, t⟩
theorem VRs.get : ∀ {ds : List D} {vs : List V} {i : Nat} {d : D}, VRs G γ H ds vs → ds[i]? = some d → ∃ v, vs[i]? = some v ∧ VR G γ H d v
  | [], _, _, _, _, e => by simp at e
  | d :: ds, vs, 0, x, h, e => by
    unfold VRs at h
    obtain ⟨v, r, rfl, h1, _⟩ := h
    simp at e; subst e
    exact ⟨v, rfl, h1⟩
  | d :: ds, vs, i + 1, x, h, e => by
    unfold VRs at h
    obtain ⟨v, r, rfl, _, h2⟩ := h
    simp at e
    obtain ⟨v', e', h'⟩ := VRs.get h2 e
    exact ⟨v', by simpa using e', h'⟩
theorem VRs.get' : ∀ {ds : List D} {vs : List V} {i : Nat} {v : V}, VRs G γ H ds vs → vs[i]? = some v → ∃ d, ds[i]? = some d ∧ VR G γ H d v
  | [], vs, i, v, h, e => by unfold VRs at h; subst h; simp at e
  | d :: ds, vs, 0, x, h, e => by
    unfold VRs at h
    obtain ⟨v, r, rfl, h1, _⟩ := h
    simp at e; subst e
    exact ⟨d, rfl, h1⟩
  | d :: ds, vs, i + 1, x, h, e => by
    unfold VRs at h
    obtain ⟨v, r, rfl, _, h2⟩ := h
    simp at e
    obtain ⟨v', e', h'⟩ := VRs.get' h2 e
    exact ⟨v', by simpa using e', h'⟩
theorem VRs.append : ∀ {ds es : List D} {vs ws : List V}, VRs G γ H ds vs → VRs G γ H es ws → VRs G γ H (ds ++ es) (vs ++ ws)
  | [], _, _, _, h, t => by unfold VRs at h; subst h; exact t
  | d :: ds, es, vs, ws, h, t => by
    unfold VRs at h
    obtain ⟨v, r, rfl, h1, h2⟩ := h
    exact VRs.cons h1 (VRs.append h2 t)
theorem VRs.take : ∀ {ds : List D} {vs : List V} (n : Nat), VRs G γ H ds vs → VRs G γ H (ds.take n) (vs.take n)
  | _, _, 0, _ => by simp; exact VRs.nil
  | [], vs, n + 1, h => by unfold VRs at h; subst h; simp; exact VRs.nil
  | d :: ds, vs, n + 1, h => by
    unfold VRs at h
    obtain ⟨v, r, rfl, h1, h2⟩ := h
    exact VRs.cons h1 (VRs.take n h2)
theorem VRs.drop : ∀ {ds : List D} {vs : List V} (n : Nat), VRs G γ H ds vs → VRs G γ H (ds.drop n) (vs.drop n)
  | _, _, 0, h => by simpa using h
  | [], vs, n + 1, h => by unfold VRs at h; subst h; simp; exact VRs.nil
  | d :: ds, vs, n + 1, h => by
    unfold VRs at h
    obtain ⟨v, r, rfl, h1, h2⟩ := h
    simpa using VRs.drop n h2
theorem VRs.set {d : D} {v : V} (hd : VR G γ H d v) : ∀ {ds : List D} {vs : List V} (n : Nat), VRs G γ H ds vs → VRs G γ H (ds.set n d) (vs.set n v)
  | [], vs, n, h => by unfold VRs at h; subst h; simp; exact VRs.nil
  | e :: ds, vs, 0, h => by
    unfold VRs at h
    obtain ⟨w, r, rfl, h1, h2⟩ := h
    exact VRs.cons hd h2
  | e :: ds, vs, n + 1, h => by
    unfold VRs at h
    obtain ⟨w, r, rfl, h1, h2⟩ := h
    exact VRs.cons h1 (VRs.set hd n h2)
/-- by a map of ints, of bools, of texts -/
theorem VRs.ints : ∀ (is : List Int), VRs G γ H (is.map D.int) (is.map V.int)
  | [] => VRs.nil
  | i :: is => VRs.cons (by unfold VR; rfl) (VRs.ints is)
theorem VRs.strs : ∀ (is : List Str), VRs G γ H (is.map D.str) (is.map V.str)
  | [] => VRs.nil
  | i :: is => VRs.cons (by unfold VR; rfl) (VRs.strs is)
end
/-- slots, as far as they are stored -/
def FRs (G : Gc) (γ : Gh) (H : Hp) : List (Option D) → List (Option V) → Prop
  | [], vs => vs = []
  | fo :: fs, vs => ∃ vo r, vs = vo :: r ∧ (match fo, vo with
    | none, none => True
    | some d, some v => VR G γ H d v
    | _, _ => False) ∧ FRs G γ H fs r
theorem FRs.ext {G : Gc} {γ γ' : Gh} {H H' : Hp} (e : Ext0 γ H γ' H') : ∀ {fs : List (Option D)} {vs : List (Option V)}, FRs G γ H fs vs → FRs G γ' H' fs vs
  | [], vs, h => h
  | fo :: fs, vs, h => by
    obtain ⟨vo, r, rfl, h1, h2⟩ := h
    refine ⟨vo, r, rfl, ?_, FRs.ext e h2⟩
    cases fo <;> cases vo <;> first | exact h1 | exact VR.ext0 e _ _ h1
def OR (G : Gc) (γ : Gh) (H : Hp) (i : Nat) : AO → Addr → Prop
  | .lst ds, a => ∃ vs, H a = some (.lst vs) ∧ VRs G γ H ds vs
  | .ins c fs, a => ∃ C dx vs, G.cls c = some C ∧ SlX.Slt H a C dx vs ∧ γ.o dx = some (some i) ∧ (dx ≠ a ∧ ∀ o u, H dx ≠ some (.frz o u)) ∧ FRs G γ H fs vs
  | .dct t ks ds, a => ∃ u vs, H a = some u ∧ DK t ks vs u ∧ VRs G γ H ds vs
  | .fdct t ks ds, a => ∃ o u vs, H a = some (.frz o u) ∧ DK t ks vs u ∧ VRs G γ H ds vs
  | .dead, _ => True
/-- a code table: its own place and its codes are no changed thing -/
def TabG (γ : Gh) (H : Hp) (T : List (Addr × Str)) : Prop := ∀ p ∈ T, γ.o p.1 = none ∧ ∃ ps : Array Value, H p.1 = some (.tbl ps) ∧ TriplesOk ps.toList ∧ ∀ (pos : Pos) (cv : Value), codeAmong pos ps.toList = some cv → ∃ c, cv = .ref c ∧ H c = some (LamX.CodeO c p.2) ∧ γ.o c = none
structure Rel (G : Gc) (γ : Gh) (A : AH) (H : Hp) : Prop where
  len : γ.ρ.length = A.length
  at_ : ∀ (i : Nat) (ob : AO), A[i]? = some ob → ∃ a, γ.ρ[i]? = some a ∧ γ.o a = some (some i) ∧ OR G γ H i ob a
  dom : ∀ (a : Addr) (x : Option Nat), γ.o a = some x → H a ≠ none ∧ ∀ i, x = some i → i < A.length
  tab : TabG γ H G.T
  tupo : ∀ (a : Addr) (xs : List V), H a = some (.tup xs) → γ.o a = none
section
variable {G : Gc} {γ : Gh} {H : Hp} {A : AH}
theorem TabG.upd_any {T : List (Addr × Str)} {a : Addr} {ob : HO} (t : TabG γ H T) (h : H a = none ∨ γ.o a ≠ none) : TabG γ (upd H a ob) T := fun p hp => by
  obtain ⟨n, ps, h1, h2, h3⟩ := t p hp
  have ne : ∀ {b o}, H b = some o → γ.o b = none → b ≠ a := fun {b o} e n z => by
    subst z
    rcases h with h | h
    · rw [h] at e; cases e
    · exact h n
  refine ⟨n, ps, by rw [upd_ne (ne h1 n)]; exact h1, h2, fun pos cv hc => ?_⟩
  obtain ⟨c, e1, e2, n2⟩ := h3 pos cv hc
  exact ⟨c, e1, by rw [upd_ne (ne e2 n2)]; exact e2, n2⟩
/-- a new thing that is never changed is laid -/
theorem Ext.laid {p : Addr} {ob : HO} (h : H p = none) : Ext γ H γ (upd H p ob) :=
  ⟨⟨fun _ _ e => e, fun b o e n _ => ⟨by rw [upd_ne (ne_of_none e h)]; exact e, n⟩, fun b o u e => by rw [upd_ne (ne_of_none e h)]; exact e⟩, fun b o e n => ⟨by rw [upd_ne (ne_of_none e h)]; exact e, n⟩⟩
theorem Rel.o_none (R : Rel G γ A H) {p : Addr} (h : H p = none) : γ.o p = none := by
  cases e : γ.o p with
  | none => rfl
  | some i => exact absurd h (R.dom p i e).1
theorem OR.ext {γ' : Gh} {H' : Hp} {i j : Nat} {ob : AO} {a : Addr} (e : Ext0 γ H γ' H') (ha : H' a = H a) (hd : ∀ dx, γ.o dx = some (some i) → H' dx = H dx ∧ γ'.o dx = some (some i)) (r : OR G γ H i ob a) : OR G γ' H' i ob a := by
  cases ob with
  | lst ds => obtain ⟨vs, h1, r⟩ := r; exact ⟨vs, by rw [ha]; exact h1, VRs.ext0 e _ _ r⟩
  | ins c fs =>
    obtain ⟨C, dx, vs, hc, hs, h1, hn, r⟩ := r
    obtain ⟨d1, d2⟩ := hd dx h1
    refine ⟨C, dx, vs, hc, ?_, d2, ⟨hn.1, fun o u => by rw [d1]; exact hn.2 o u⟩, r.ext e⟩
    rcases hs with ⟨q1, q2⟩ | ⟨q1, q2⟩
    · exact .inl ⟨by rw [ha]; exact q1, q2⟩
    · exact .inr ⟨by rw [ha]; exact q1, by rw [d1]; exact q2⟩
  | dct t ks ds => obtain ⟨u, vs, h1, h2, r⟩ := r; exact ⟨u, vs, by rw [ha]; exact h1, h2, VRs.ext0 e _ _ r⟩
  | fdct t ks ds => obtain ⟨o, u, vs, h1, h2, r⟩ := r; exact ⟨o, u, vs, by rw [ha]; exact h1, h2, VRs.ext0 e _ _ r⟩
  | dead => trivial
theorem Rel.laid {p : Addr} {ob : HO} (R : Rel G γ A H) (h : H p = none) : Rel G γ A (upd H p ob) := by
  have ne : ∀ b, H b ≠ none → b ≠ p := fun b q z => q (by rw [z]; exact h)
  refine ⟨R.len, fun i o e => ?_, fun a i e => ⟨?_, (R.dom a i e).2⟩, R.tab.upd_any (.inl h), fun a xs e => by
    by_cases z : a = p
    · subst z; exact R.o_none h
    · rw [upd_ne z] at e; exact R.tupo a xs e⟩
  · obtain ⟨a, e1, e2, r⟩ := R.at_ i o e
    exact ⟨a, e1, e2, r.ext (j := i) (Ext.laid h).toExt0 (by rw [upd_ne (ne a (R.dom a _ e2).1)]) fun dx q => ⟨by rw [upd_ne (ne dx (R.dom dx _ q).1)], q⟩⟩
  · by_cases z : a = p
    · subst z; rw [upd_same]; exact fun q => nomatch q
    · rw [upd_ne z]; exact (R.dom a i e).1
/-- a new thing that is changed later -/
def Gh.more (γ : Gh) (n : Nat) (p : Addr) : Gh := ⟨γ.ρ ++ [p], fun a => if a = p then some (some n) else γ.o a⟩
theorem Gh.more_same {n : Nat} {p : Addr} : (γ.more n p).o p = some (some n) := if_pos rfl
theorem Gh.more_ne {n : Nat} {p a : Addr} (h : a ≠ p) : (γ.more n p).o a = γ.o a := if_neg h
theorem Ext.more {p : Addr} {ob : HO} {n : Nat} (h : H p = none) : Ext γ H (γ.more n p) (upd H p ob) :=
  ⟨⟨fun i a e => by show (γ.ρ ++ [p])[i]? = some a; rw [List.getElem?_append_left (List.getElem?_eq_some_iff.mp e).1]; exact e, fun b o e n _ => ⟨by rw [upd_ne (ne_of_none e h)]; exact e, by rw [Gh.more_ne (ne_of_none e h)]; exact n⟩, fun b o u e => by rw [upd_ne (ne_of_none e h)]; exact e⟩,
    fun b o e n => ⟨by rw [upd_ne (ne_of_none e h)]; exact e, by rw [Gh.more_ne (ne_of_none e h)]; exact n⟩⟩
theorem Rel.more {p : Addr} {ob : HO} {ao : AO} (R : Rel G γ A H) (h : H p = none) (new : OR G (γ.more A.length p) (upd H p ob) A.length ao p) (nt : ∀ xs, ob ≠ .tup xs := by intro _ z; cases z) : Rel G (γ.more A.length p) (A ++ [ao]) (upd H p ob) := by
  have ne : ∀ b, H b ≠ none → b ≠ p := fun b q z => q (by rw [z]; exact h)
  have E : Ext γ H (γ.more A.length p) (upd H p ob) := Ext.more h
  refine ⟨by show (γ.ρ ++ [p]).length = _; rw [List.length_append, List.length_append, R.len]; rfl, fun i o e => ?_, fun a x e => ?_, fun q hq => ?_, fun a xs e => by
    by_cases z : a = p
    · subst z; rw [upd_same] at e; exact absurd (Option.some.inj e) (nt xs)
    · rw [upd_ne z] at e; rw [Gh.more_ne z]; exact R.tupo a xs e⟩
  · by_cases hi : i < A.length
    · rw [List.getElem?_append_left hi] at e
      obtain ⟨a, e1, e2, r⟩ := R.at_ i o e
      have na := ne a (R.dom a _ e2).1
      exact ⟨a, E.ρ i a e1, by rw [Gh.more_ne na]; exact e2, r.ext (j := i) E.toExt0 (by rw [upd_ne na]) fun dx q => ⟨by rw [upd_ne (ne dx (R.dom dx _ q).1)], by rw [Gh.more_ne (ne dx (R.dom dx _ q).1)]; exact q⟩⟩
    · rw [List.getElem?_append_right (by omega)] at e
      have e0 : i - A.length = 0 := by
        have := (List.getElem?_eq_some_iff.mp e).1
        simp at this; omega
      rw [e0] at e
      have hi2 : i = A.length := by omega
      subst hi2
      cases e
      refine ⟨p, ?_, Gh.more_same, new⟩
      show (γ.ρ ++ [p])[A.length]? = some p
      rw [← R.len]; simp
  · by_cases z : a = p
    · subst z
      rw [Gh.more_same] at e; cases e
      refine ⟨by rw [upd_same]; exact (fun q => nomatch q), fun i q => ?_⟩
      cases q
      rw [List.length_append]; simp
    · rw [Gh.more_ne z] at e
      refine ⟨by rw [upd_ne z]; exact (R.dom a x e).1, fun i q => ?_⟩
      have := (R.dom a x e).2 i q
      rw [List.length_append]; omega
  · obtain ⟨n, ps, h1, h2, h3⟩ := R.tab q hq
    have nq := ne q.1 (by rw [h1]; exact fun z => nomatch z)
    refine ⟨by rw [Gh.more_ne nq]; exact n, ps, by rw [upd_ne nq]; exact h1, h2, fun pos cv hc => ?_⟩
    obtain ⟨c, c1, c2, c3⟩ := h3 pos cv hc
    have nc := ne c (by rw [c2]; exact fun z => nomatch z)
    exact ⟨c, c1, by rw [upd_ne nc]; exact c2, by rw [Gh.more_ne nc]; exact c3⟩
/-- a thing is changed -/
theorem Ext.put {H' : Hp} {i : Nat} (h : ∀ b, γ.o b ≠ some (some i) → H' b = H b) (hf : ∀ b o u, γ.o b = some (some i) → H b = some (.frz o u) → H' b = some (.frz o u)) : Ext γ H γ H' :=
  ⟨⟨fun _ _ e => e, fun b o e n _ => ⟨by rw [h b (by rw [n]; exact fun z => nomatch z)]; exact e, n⟩, fun b o u e => by
      by_cases z : γ.o b = some (some i)
      · exact hf b o u z e
      · rw [h b z]; exact e⟩, fun b o e n => ⟨by rw [h b (by rw [n]; exact fun z => nomatch z)]; exact e, n⟩⟩
theorem Rel.put {H' : Hp} {i : Nat} {a : Addr} {ao : AO} (R : Rel G γ A H) (ha : γ.ρ[i]? = some a) (h : ∀ b, γ.o b ≠ some (some i) → H' b = H b) (hd : ∀ b, γ.o b = some (some i) → H' b ≠ none) (new : OR G γ H' i ao a) (ht : ∀ b xs, γ.o b = some (some i) → H' b ≠ some (.tup xs)) (hf : ∀ b o u, γ.o b = some (some i) → H b = some (.frz o u) → H' b = some (.frz o u)) : Rel G γ (A.set i ao) H' := by
  have E : Ext γ H γ H' := Ext.put h hf
  refine ⟨by rw [List.length_set]; exact R.len, fun j o e => ?_, fun b x e => ⟨?_, fun j q => by rw [List.length_set]; exact (R.dom b x e).2 j q⟩, fun q hq => ?_, fun b xs e => by
    by_cases z : γ.o b = some (some i)
    · exact absurd e (ht b xs z)
    · rw [h b z] at e; exact R.tupo b xs e⟩
  · by_cases z : i = j
    · subst z
      have hi : i < A.length := by
        have := (List.getElem?_eq_some_iff.mp ha).1
        rw [R.len] at this; exact this
      rw [List.getElem?_set_self hi] at e
      cases e
      obtain ⟨a', e1, e2, _⟩ := R.at_ i _ (List.getElem?_eq_getElem hi)
      rw [ha] at e1; cases e1
      exact ⟨a, ha, e2, new⟩
    · rw [List.getElem?_set_ne z] at e
      obtain ⟨b, e1, e2, r⟩ := R.at_ j o e
      have nb : ∀ c, γ.o c = some (some j) → γ.o c ≠ some (some i) := fun c q w => by rw [q] at w; cases w; exact z rfl
      exact ⟨b, e1, e2, r.ext (j := j) E.toExt0 (h b (nb b e2)) fun dx q => ⟨h dx (nb dx q), q⟩⟩
  · by_cases z : γ.o b = some (some i)
    · exact hd b z
    · rw [h b z]; exact (R.dom b x e).1
  · obtain ⟨n, ps, h1, h2, h3⟩ := R.tab q hq
    refine ⟨n, ps, by rw [h q.1 (by rw [n]; exact fun z => nomatch z)]; exact h1, h2, fun pos cv hc => ?_⟩
    obtain ⟨c, c1, c2, c3⟩ := h3 pos cv hc
    exact ⟨c, c1, by rw [h c (by rw [c3]; exact fun z => nomatch z)]; exact c2, c3⟩
end
/-- the names of a frame -/
def ER (G : Gc) (γ : Gh) (H : Hp) (env : Ev) (σ : L2.St) : Prop := ∀ (i : Nat) (d : D), env[i]? = some (some d) → ∃ v, σ[i]? = some (some v) ∧ VR G γ H d v
theorem ER.ext {G : Gc} {γ γ' : Gh} {H H' : Hp} {env : Ev} {σ : L2.St} (e : Ext γ H γ' H') (h : ER G γ H env σ) : ER G γ' H' env σ := fun j d q => by
  obtain ⟨v, e1, r⟩ := h j d q
  exact ⟨v, e1, VR.ext e d v r⟩
theorem ER.set {G : Gc} {γ : Gh} {H : Hp} {env : Ev} {σ : L2.St} {i : Nat} {d : D} {v : V} (h : ER G γ H env σ) (hl : env.length = σ.length) (r : VR G γ H d v) : ER G γ H (env.set i (some d)) (σ.set i (some v)) := fun j x q => by
  by_cases z : i = j
  · subst z
    by_cases hi : i < env.length
    · rw [List.getElem?_set_self hi] at q
      cases q
      exact ⟨v, List.getElem?_set_self (by omega), r⟩
    · rw [List.getElem?_eq_none (by simpa using hi)] at q; cases q
  · rw [List.getElem?_set_ne z] at q ⊢
    exact h j x q
structure St3 (G : Gc) (γ : Gh) (A : AH) (env : Ev) (H : Hp) (σ : L2.St) : Prop where
  rel : Rel G γ A H
  len : env.length = σ.length
  er : ER G γ H env σ
theorem St3.to {G : Gc} {γ γ' : Gh} {A A' : AH} {env : Ev} {H H' : Hp} {σ : L2.St} (S : St3 G γ A env H σ) (e : Ext γ H γ' H') (R : Rel G γ' A' H') : St3 G γ' A' env H' σ := ⟨R, S.len, S.er.ext e⟩
/-- an error as it lies: its class, its own dict -/
def XR (G : Gc) (γ : Gh) (H : Hp) (x : Xn) (cls : Value) (ad : Option Addr) : Prop := ∃ C, G.xcl x.c = some C ∧ cls = .ref C ∧
  ((x.args = [] ∧ ad = none) ∨ ∃ d a v, x.args = [d] ∧ ad = some a ∧ H a = some (.xd [(G.xfl x.c, v)]) ∧ γ.o a = none ∧ VR G γ H d v)
theorem XR.ext {G : Gc} {γ γ' : Gh} {H H' : Hp} {x : Xn} {cls : Value} {ad : Option Addr} (e : Ext γ H γ' H') (h : XR G γ H x cls ad) : XR G γ' H' x cls ad := by
  obtain ⟨C, h1, h2, h3 | ⟨d, a, v, h3, h4, h5, h6, h7⟩⟩ := h
  · exact ⟨C, h1, h2, .inl h3⟩
  · obtain ⟨k1, k2⟩ := e.keep a _ h5 h6 (fun _ z => nomatch z)
    exact ⟨C, h1, h2, .inr ⟨d, a, v, h3, h4, k1, k2, VR.ext e _ _ h7⟩⟩
abbrev WXe := Value → Option Addr → Hp → Prop
def Post {α : Type} (G : Gc) (γ : Gh) (H : Hp) (r : Res α) (Q : Gh → AH → Hp → α → Prop) (W : WXe) : Prop :=
  match r with
  | .ok d A' => ∀ γ' H', Ext γ H γ' H' → Rel G γ' A' H' → Q γ' A' H' d
  | .ex x A' => ∀ γ' H' cls ad, Ext γ H γ' H' → Rel G γ' A' H' → XR G γ' H' x cls ad → W cls ad H'
  | .stuck => False
theorem Post.ext {α : Type} {G : Gc} {γ γ' : Gh} {H H' : Hp} {r : Res α} {Q : Gh → AH → Hp → α → Prop} {W : WXe} (e : Ext γ H γ' H') (h : Post G γ H r Q W) : Post G γ' H' r Q W := by
  cases r with
  | ok d A => exact fun γ2 H2 e2 R => h γ2 H2 (e.trans e2) R
  | ex x A => exact fun γ2 H2 c a e2 R => h γ2 H2 c a (e.trans e2) R
  | stuck => exact h
theorem Post.bind {α β : Type} {G : Gc} {γ : Gh} {H : Hp} {r : Res α} {k : α → AH → Res β} {Q : Gh → AH → Hp → β → Prop} {R : Gh → AH → Hp → α → Prop} {W : WXe} (h : Post G γ H (r.bind k) Q W)
    (hk : ∀ d A1 γ1 H1, Ext γ H γ1 H1 → Rel G γ1 A1 H1 → Post G γ1 H1 (k d A1) Q W → R γ1 A1 H1 d) : Post G γ H r R W := by
  cases r with
  | ok d A => exact fun γ1 H1 e R1 => hk d A γ1 H1 e R1 (Post.ext e h)
  | ex x A => exact h
  | stuck => exact h
end F3
namespace F3
open PySem PySem.Spec
open PyProof.Rows L2
theorem PE.imp {X : Cx} {e : Expr} {t t' : TE} (h : PE X e t) (q : ∀ σ H Q, t' σ H Q → t σ H Q) : PE X e t' := ⟨fun pins s σ H Q I z => h.run pins s σ H Q I (q σ H Q z)⟩
theorem PT.imp {X : Cx} {e : Expr} {t t' : TT} (h : PT X e t) (q : ∀ σ H Q, t' σ H Q → t σ H Q) : PT X e t' := ⟨fun pins s σ H Q I z => h.run pins s σ H Q I (q σ H Q z)⟩
theorem PW.imp {X : Cx} {e : Expr} {t t' : TT} (h : PW X e t) (q : ∀ σ H Q, t' σ H Q → t σ H Q) : PW X e t' := ⟨fun w pins s σ H Q I z => h.run w pins s σ H Q I (q σ H Q z)⟩
theorem PA.imp {X : Cx} {e : List Expr} {t t' : TA} (h : PA X e t) (q : ∀ σ H Q, t' σ H Q → t σ H Q) : PA X e t' := ⟨fun p pins s σ H Q I z => h.run p pins s σ H Q I (q σ H Q z)⟩
theorem PS.imp {X : Cx} {e : Stmt} {t t' : TS} (h : PS X e t) (q : ∀ D σ H, t' D σ H → t D σ H) : PS X e t' := ⟨fun pins s σ H D I z => h.run pins s σ H D I (q D σ H z)⟩
theorem PSs.imp {X : Cx} {e : List Stmt} {t t' : TS} (h : PSs X e t) (q : ∀ D σ H, t' D σ H → t D σ H) : PSs X e t' := ⟨fun pins s σ H D I z => h.run pins s σ H D I (q D σ H z)⟩
/-- readings by a run over deep values -/
def tE (G : Gc) (W : WX) (f : Ev → AH → Res D) : TE := fun σ H Q => ∃ γ A env, St3 G γ A env H σ ∧ Post G γ H (f env A) (fun γ' _ H' d => ∀ v, VR G γ' H' d v → Q v H') (fun c a H' => W c a σ H')
def tB3 (G : Gc) (W : WX) (f : Ev → AH → Res Bool) : TT := fun σ H Q => ∃ γ A env, St3 G γ A env H σ ∧ Post G γ H (f env A) (fun _ _ H' b => Q b H') (fun c a H' => W c a σ H')
def tA (G : Gc) (W : WX) (f : Ev → AH → Res (List D)) : TA := fun σ H Q => ∃ γ A env, St3 G γ A env H σ ∧ Post G γ H (f env A) (fun γ' _ H' ds => ∀ vs, VRs G γ' H' ds vs → Q vs H') (fun c a H' => W c a σ H')
structure JE (X : Cx) (G : Gc) (W : WX) (e : Expr) (f : Ev → AH → Res D) : Prop where
  run : PE X e (tE G W f)
structure JT (X : Cx) (G : Gc) (W : WX) (e : Expr) (f : Ev → AH → Res Bool) : Prop where
  run : PT X e (tB3 G W f)
structure JW (X : Cx) (G : Gc) (W : WX) (e : Expr) (f : Ev → AH → Res Bool) : Prop where
  run : PW X e (tB3 G W f)
structure JA (X : Cx) (G : Gc) (W : WX) (es : List Expr) (f : Ev → AH → Res (List D)) : Prop where
  run : PA X es (tA G W f)
/-- what stands around -/
structure XO (X : Cx) (G : Gc) (W : WX) (k : Nat) : Prop where
  tk : Takes X W
  po : PassesOwn (model X.prog X.w) X.A X.env X.xe
  calm : X.calm = true
  room : Room k X.A
  gd : X.A.guards = some []
  gk : G.K = X.K
section
variable {X : Cx} {G : Gc} {W : WX} {k : Nat}
/-! ### names and constants -/
def sVar (i : Nat) : Ev → AH → Res D := fun env A => match env[i]? with
  | some (some d) => .ok d A
  | _ => .stuck
def sC (d : D) : Ev → AH → Res D := fun _ A => .ok d A
theorem je_var {x : Str} {pos : Pos} (i : Nat) (hN : X.N[i]? = some x) (hv : Vis X.env.scope x) (hd : (x == ("__debug__" : Str)) = false) (hcd : (x == ("__classdict__" : Str)) = false) : JE X G W (.Name x pos) (sVar i) := by
  refine ⟨PE.imp (pe_var hN hv hd hcd) fun σ H Q h => ?_⟩
  obtain ⟨γ, A, env, S, h⟩ := h
  unfold sVar at h
  cases e : env[i]? with
  | none => rw [e] at h; exact h.elim
  | some o =>
    cases o with
    | none => rw [e] at h; exact h.elim
    | some d =>
      rw [e] at h
      obtain ⟨v, e1, r⟩ := S.er i d e
      exact ⟨v, e1, h γ H (Ext.refl _ _) S.rel v r⟩
theorem tE_c {d : D} {v : V} {σ : L2.St} {H : Hp} {Q : VK} (hr : ∀ γ, VR G γ H d v) (h : tE G W (sC d) σ H Q) : Q v H := by
  obtain ⟨γ, A, env, S, h⟩ := h
  exact h γ H (Ext.refl _ _) S.rel v (hr γ)
theorem je_int {i j pos} : JE X G W (.Constant (.int i) j pos) (sC (.int i)) := ⟨PE.imp pe_int fun σ H Q h => tE_c (fun γ => by unfold VR; rfl) h⟩
theorem je_bl {b j pos} : JE X G W (.Constant (.bool b) j pos) (sC (.bl b)) := ⟨PE.imp pe_bl fun σ H Q h => tE_c (fun γ => by unfold VR; rfl) h⟩
theorem je_non {j pos} : JE X G W (.Constant .none j pos) (sC .non) := ⟨PE.imp pe_non fun σ H Q h => tE_c (fun γ => by unfold VR; rfl) h⟩
theorem je_str {x j pos} (y : Str) (h : x = y) : JE X G W (.Constant (.str x) j pos) (sC (.str y)) := by
  subst h
  exact ⟨PE.imp pe_str fun σ H Q h => tE_c (fun γ => by unfold VR; rfl) h⟩
/-- a module's constant: an int, a text -/
theorem je_globI {x : Str} {i : Int} {t : Tok} {pos : Pos} (hg : Gl X x) (hd : (x == ("__debug__" : Str)) = false) (hm : X.mg x = some (.int i t)) : JE X G W (.Name x pos) (sC (.int i)) :=
  ⟨PE.imp (pe_glob (v := .int i) hg hm ⟨t, rfl⟩ hd) fun σ H Q h => tE_c (fun γ => by unfold VR; rfl) h⟩
theorem je_globS {x : Str} {y : Str} {t : Tok} {pos : Pos} (hg : Gl X x) (hd : (x == ("__debug__" : Str)) = false) (hm : X.mg x = some (.str y t)) : JE X G W (.Name x pos) (sC (.str y)) :=
  ⟨PE.imp (pe_glob (v := .str y) hg hm ⟨t, rfl⟩ hd) fun σ H Q h => tE_c (fun γ => by unfold VR; rfl) h⟩
/-! ### two values -/
def sBin (g : D → D → AH → Res D) (fa fb : Ev → AH → Res D) : Ev → AH → Res D := fun env A => (fa env A).bind fun x A1 => (fb env A1).bind fun y A2 => g x y A2
def sUn (g : D → AH → Res D) (fa : Ev → AH → Res D) : Ev → AH → Res D := fun env A => (fa env A).bind fun x A1 => g x A1
/-- a reading of values by g -/
def OkV2 (G : Gc) (r : R2) (g : D → D → AH → Res D) : Prop := ∀ (γ : Gh) (A : AH) (H : Hp) (a b : D) (x y : V) (Q : VK) (Wx : WXe), Rel G γ A H → VR G γ H a x → VR G γ H b y → Post G γ H (g a b A) (fun γ' _ H' d => ∀ v, VR G γ' H' d v → Q v H') Wx → r x y H Q
theorem tOp_of {r : R2} {g : D → D → AH → Res D} {fa fb : Ev → AH → Res D} (hv : OkV2 G r g) {σ : L2.St} {H : Hp} {Q : VK} (h : tE G W (sBin g fa fb) σ H Q) : tOp r (tE G W fa) (tE G W fb) σ H Q := by
  obtain ⟨γ, A, env, S, h⟩ := h
  refine ⟨γ, A, env, S, Post.bind h fun x A1 γ1 H1 e1 R1 h1 v r1 => ?_⟩
  refine ⟨γ1, A1, env, S.to e1 R1, Post.bind h1 fun y A2 γ2 H2 e2 R2 h2 u r2 => ?_⟩
  exact hv γ2 A2 H2 x y v u Q _ R2 (VR.ext e2 _ _ r1) r2 h2
theorem je_bin {op : Operator} {a b : Expr} {pos : Pos} {r : R2} {g : D → D → AH → Res D} {fa fb : Ev → AH → Res D} (ho : OpR X (binaryOp op) r) (hv : OkV2 G r g) (ha : JE X G W a fa) (hb : JE X G W b fb) : JE X G W (.BinOp a op b pos) (sBin g fa fb) :=
  ⟨PE.imp (pe_op ho ha.run hb.run) fun σ H Q h => tOp_of hv h⟩
theorem je_cmp {op : CmpOp} {a b : Expr} {pos : Pos} {r : R2} {g : D → D → AH → Res D} {fa fb : Ev → AH → Res D} (ho : OpR X (compareOp op) r) (hv : OkV2 G r g) (hm : behindInMarks op b = false) (ha : JE X G W a fa) (hb : JE X G W b fb) : JE X G W (.Compare a [op] [b] pos) (sBin g fa fb) :=
  ⟨PE.imp (pe_cmpR ho ha.run hb.run hm) fun σ H Q h => tOp_of hv h⟩
/-- a bool's value as a test -/
def sTest (f : Ev → AH → Res D) : Ev → AH → Res Bool := fun env A => (f env A).bind fun d A1 => match d with
  | .bl b => .ok b A1
  | _ => .stuck
theorem tTest_of {t : TE} {f : Ev → AH → Res D} (ht : ∀ σ H Q, tE G W f σ H Q → t σ H Q) {σ : L2.St} {H : Hp} {Q : Bool → Hp → Prop} (h : tB3 G W (sTest f) σ H Q) : t σ H fun x H' => ∃ k, x = .bl k ∧ Q k H' := by
  obtain ⟨γ, A, env, S, h⟩ := h
  refine ht _ _ _ ⟨γ, A, env, S, Post.bind h fun x A1 γ1 H1 e1 R1 h1 v r1 => ?_⟩
  cases x with
  | bl b => unfold VR at r1; exact ⟨b, r1, h1 γ1 H1 (Ext.refl _ _) R1⟩
  | _ => exact h1.elim
theorem jt_cmp {op : CmpOp} {a b : Expr} {pos : Pos} {r : R2} {g : D → D → AH → Res D} {fa fb : Ev → AH → Res D} (ho : OpR X (compareOp op) r) (hv : OkV2 G r g) (hm : behindInMarks op b = false) (ha : JE X G W a fa) (hb : JE X G W b fb) : JT X G W (.Compare a [op] [b] pos) (sTest (sBin g fa fb)) :=
  ⟨PT.imp (pt_cmpR ho ha.run hb.run hm) fun σ H Q h => tTest_of (fun σ H Q h => tOp_of hv h) h⟩
theorem jt_val {e : Expr} {f : Ev → AH → Res D} (h : JE X G W e f) (he : ∀ whole, isTrue e X.env whole = (do let v ← whole; standAt e.pos; holding [v] (truthy v))) : JT X G W e (sTest f) :=
  ⟨PT.imp (pt_val h.run he) fun σ H Q h => tTest_of (fun σ H Q h => h) h⟩
/-- a op b op' c -/
def sChain (g g' : D → D → AH → Res D) (fa fb fc : Ev → AH → Res D) : Ev → AH → Res D := fun env A => (fa env A).bind fun x A1 => (fb env A1).bind fun y A2 => (g x y A2).bind fun z A3 => match z with
  | .bl true => (fc env A3).bind fun w A4 => g' y w A4
  | .bl false => .ok (.bl false) A3
  | _ => .stuck
theorem tChain_of {r r' : R2} {g g' : D → D → AH → Res D} {fa fb fc : Ev → AH → Res D} (hv : OkV2 G r g) (hv' : OkV2 G r' g') {σ : L2.St} {H : Hp} {Q : VK} (h : tE G W (sChain g g' fa fb fc) σ H Q) : tChain r r' (tE G W fa) (tE G W fb) (tE G W fc) σ H Q := by
  obtain ⟨γ, A, env, S, h⟩ := h
  refine ⟨γ, A, env, S, Post.bind h fun x A1 γ1 H1 e1 R1 h1 v r1 => ?_⟩
  refine ⟨γ1, A1, env, S.to e1 R1, Post.bind h1 fun y A2 γ2 H2 e2 R2 h2 u r2 => ?_⟩
  refine hv γ2 A2 H2 x y v u _ _ R2 (VR.ext e2 _ _ r1) r2 (Post.bind h2 fun z A3 γ3 H3 e3 R3 h3 p r3 => ?_)
  cases z with
  | bl b =>
    unfold VR at r3
    refine ⟨b, r3, ?_⟩
    cases b with
    | true =>
      rw [if_pos rfl]
      refine ⟨γ3, A3, env, ((S.to e1 R1).to e2 R2).to e3 R3, Post.bind h3 fun w A4 γ4 H4 e4 R4 h4 q r4 => ?_⟩
      exact hv' γ4 A4 H4 y w u q Q _ R4 (VR.ext (e3.trans e4) _ _ r2) r4 h4
    | false =>
      rw [if_neg Bool.false_ne_true]
      exact h3 γ3 H3 (Ext.refl _ _) R3 _ (by unfold VR; rfl)
  | _ => exact h3.elim
theorem je_chain {op op' : CmpOp} {a b c : Expr} {pos : Pos} {r r' : R2} {g g' : D → D → AH → Res D} {fa fb fc : Ev → AH → Res D} (ho : OpR X (compareOp op) r) (ho' : OpR X (compareOp op') r') (hv : OkV2 G r g) (hv' : OkV2 G r' g') (hm : lastMarks [op, op'] [b, c] = false)
    (ha : JE X G W a fa) (hb : JE X G W b fb) (hc : JE X G W c fc) : JE X G W (.Compare a [op, op'] [b, c] pos) (sChain g g' fa fb fc) :=
  ⟨PE.imp (pe_chain ho ho' ha.run hb.run hc.run hm) fun σ H Q h => tChain_of hv hv' h⟩
theorem jt_chain {op op' : CmpOp} {a b c : Expr} {pos : Pos} {r r' : R2} {g g' : D → D → AH → Res D} {fa fb fc : Ev → AH → Res D} (ho : OpR X (compareOp op) r) (ho' : OpR X (compareOp op') r') (hv : OkV2 G r g) (hv' : OkV2 G r' g') (hm : lastMarks [op, op'] [b, c] = false)
    (ha : JE X G W a fa) (hb : JE X G W b fb) (hc : JE X G W c fc) : JT X G W (.Compare a [op, op'] [b, c] pos) (sTest (sChain g g' fa fb fc)) :=
  ⟨PT.imp (pt_chain ho ho' ha.run hb.run hc.run hm) fun σ H Q h => tTest_of (fun σ H Q h => tChain_of hv hv' h) h⟩
/-! ### and, or, not -/
def sAndT (f g : Ev → AH → Res Bool) : Ev → AH → Res Bool := fun env A => (f env A).bind fun c A1 => match c with
  | true => g env A1
  | false => .ok false A1
def sOrT (f g : Ev → AH → Res Bool) : Ev → AH → Res Bool := fun env A => (f env A).bind fun c A1 => match c with
  | true => .ok true A1
  | false => g env A1
def sNotT (f : Ev → AH → Res Bool) : Ev → AH → Res Bool := fun env A => (f env A).bind fun c A1 => .ok (!c) A1
theorem jt_w {e : Expr} {f : Ev → AH → Res Bool} (h : JW X G W e f) : JT X G W e f := ⟨h.run.pt⟩
theorem jw_and1 {a : Expr} {pos : Pos} {f : Ev → AH → Res Bool} (h : JT X G W a f) : JW X G W (.BoolOp .And [a] pos) f := ⟨pw_and1 h.run⟩
theorem jw_or1 {a : Expr} {pos : Pos} {f : Ev → AH → Res Bool} (h : JT X G W a f) : JW X G W (.BoolOp .Or [a] pos) f := ⟨pw_or1 h.run⟩
theorem jw_and {a b : Expr} {rest : List Expr} {pos : Pos} {f g : Ev → AH → Res Bool} (ha : JT X G W a f) (hb : JW X G W (.BoolOp .And (b :: rest) pos) g) : JW X G W (.BoolOp .And (a :: b :: rest) pos) (sAndT f g) := by
  refine ⟨PW.imp (pw_and ha.run hb.run) fun σ H Q h => ?_⟩
  obtain ⟨γ, A, env, S, h⟩ := h
  refine ⟨γ, A, env, S, Post.bind h fun c A1 γ1 H1 e1 R1 h1 => ?_⟩
  cases c with
  | true => rw [if_pos rfl]; exact ⟨γ1, A1, env, S.to e1 R1, h1⟩
  | false => rw [if_neg Bool.false_ne_true]; exact h1 γ1 H1 (Ext.refl _ _) R1
theorem jw_or {a b : Expr} {rest : List Expr} {pos : Pos} {f g : Ev → AH → Res Bool} (ha : JT X G W a f) (hb : JW X G W (.BoolOp .Or (b :: rest) pos) g) : JW X G W (.BoolOp .Or (a :: b :: rest) pos) (sOrT f g) := by
  refine ⟨PW.imp (pw_or ha.run hb.run) fun σ H Q h => ?_⟩
  obtain ⟨γ, A, env, S, h⟩ := h
  refine ⟨γ, A, env, S, Post.bind h fun c A1 γ1 H1 e1 R1 h1 => ?_⟩
  cases c with
  | true => rw [if_pos rfl]; exact h1 γ1 H1 (Ext.refl _ _) R1
  | false => rw [if_neg Bool.false_ne_true]; exact ⟨γ1, A1, env, S.to e1 R1, h1⟩
theorem jt_not {a : Expr} {pos : Pos} {f : Ev → AH → Res Bool} (ha : JT X G W a f) : JT X G W (.UnaryOp .Not a pos) (sNotT f) := by
  refine ⟨PT.imp (pt_not ha.run) fun σ H Q h => ?_⟩
  obtain ⟨γ, A, env, S, h⟩ := h
  exact ⟨γ, A, env, S, Post.bind h fun c A1 γ1 H1 e1 R1 h1 => h1 γ1 H1 (Ext.refl _ _) R1⟩
/-- .. as values: all but the last a bool -/
def sAndV (f g : Ev → AH → Res D) : Ev → AH → Res D := fun env A => (f env A).bind fun c A1 => match c with
  | .bl true => g env A1
  | .bl false => .ok (.bl false) A1
  | _ => .stuck
def sOrV (f g : Ev → AH → Res D) : Ev → AH → Res D := fun env A => (f env A).bind fun c A1 => match c with
  | .bl true => .ok (.bl true) A1
  | .bl false => g env A1
  | _ => .stuck
def sNotV (f : Ev → AH → Res D) : Ev → AH → Res D := fun env A => (f env A).bind fun c A1 => match c with
  | .bl b => .ok (.bl (!b)) A1
  | _ => .stuck
theorem je_one {op} {a : Expr} {pos : Pos} {f : Ev → AH → Res D} (h : JE X G W a f) : JE X G W (.BoolOp op [a] pos) f := ⟨pe_one h.run⟩
theorem je_and {a b : Expr} {rest : List Expr} {pos : Pos} {f g : Ev → AH → Res D} (ha : JE X G W a f) (hb : JE X G W (.BoolOp .And (b :: rest) pos) g) : JE X G W (.BoolOp .And (a :: b :: rest) pos) (sAndV f g) := by
  refine ⟨PE.imp (pe_and ha.run hb.run) fun σ H Q h => ?_⟩
  obtain ⟨γ, A, env, S, h⟩ := h
  refine ⟨γ, A, env, S, Post.bind h fun c A1 γ1 H1 e1 R1 h1 v r1 => ?_⟩
  cases c with
  | bl b =>
    unfold VR at r1
    refine ⟨b, r1, ?_⟩
    cases b with
    | true => rw [if_pos rfl]; exact ⟨γ1, A1, env, S.to e1 R1, h1⟩
    | false => rw [if_neg Bool.false_ne_true]; exact h1 γ1 H1 (Ext.refl _ _) R1 _ (by unfold VR; rfl)
  | _ => exact h1.elim
theorem je_or {a b : Expr} {rest : List Expr} {pos : Pos} {f g : Ev → AH → Res D} (ha : JE X G W a f) (hb : JE X G W (.BoolOp .Or (b :: rest) pos) g) : JE X G W (.BoolOp .Or (a :: b :: rest) pos) (sOrV f g) := by
  refine ⟨PE.imp (pe_or ha.run hb.run) fun σ H Q h => ?_⟩
  obtain ⟨γ, A, env, S, h⟩ := h
  refine ⟨γ, A, env, S, Post.bind h fun c A1 γ1 H1 e1 R1 h1 v r1 => ?_⟩
  cases c with
  | bl b =>
    unfold VR at r1
    refine ⟨b, r1, ?_⟩
    cases b with
    | false => rw [if_neg Bool.false_ne_true]; exact ⟨γ1, A1, env, S.to e1 R1, h1⟩
    | true => rw [if_pos rfl]; exact h1 γ1 H1 (Ext.refl _ _) R1 _ (by unfold VR; rfl)
  | _ => exact h1.elim
theorem je_not {a : Expr} {pos : Pos} {f : Ev → AH → Res D} (ha : JE X G W a f) : JE X G W (.UnaryOp .Not a pos) (sNotV f) := by
  refine ⟨PE.imp (pe_not ha.run) fun σ H Q h => ?_⟩
  obtain ⟨γ, A, env, S, h⟩ := h
  refine ⟨γ, A, env, S, Post.bind h fun c A1 γ1 H1 e1 R1 h1 v r1 => ?_⟩
  cases c with
  | bl b =>
    unfold VR at r1
    exact ⟨b, r1, h1 γ1 H1 (Ext.refl _ _) R1 _ (by unfold VR; rfl)⟩
  | _ => exact h1.elim
def sIf (c : Ev → AH → Res Bool) (f g : Ev → AH → Res D) : Ev → AH → Res D := fun env A => (c env A).bind fun b A1 => match b with
  | true => f env A1
  | false => g env A1
theorem je_if {c a b : Expr} {pos : Pos} {fc : Ev → AH → Res Bool} {f g : Ev → AH → Res D} (hc : JT X G W c fc) (ha : JE X G W a f) (hb : JE X G W b g) : JE X G W (.IfExp c a b pos) (sIf fc f g) := by
  refine ⟨PE.imp (pe_ifExp hc.run ha.run hb.run) fun σ H Q h => ?_⟩
  obtain ⟨γ, A, env, S, h⟩ := h
  refine ⟨γ, A, env, S, Post.bind h fun c A1 γ1 H1 e1 R1 h1 => ?_⟩
  cases c with
  | true => rw [if_pos rfl]; exact ⟨γ1, A1, env, S.to e1 R1, h1⟩
  | false => rw [if_neg Bool.false_ne_true]; exact ⟨γ1, A1, env, S.to e1 R1, h1⟩
/-! ### lists of arguments -/
def sNil : Ev → AH → Res (List D) := fun _ A => .ok [] A
def sCons (f : Ev → AH → Res D) (g : Ev → AH → Res (List D)) : Ev → AH → Res (List D) := fun env A => (f env A).bind fun d A1 => (g env A1).bind fun ds A2 => .ok (d :: ds) A2
/-- a list as it stands, a tuple -/
def asL (A : AH) : D → Option (List D)
  | .tup ds => some ds
  | .lst ds => some ds
  | .scr ds => some ds
  | .ref i => match A[i]? with
    | some (.lst ds) => some ds
    | _ => none
  | _ => none
def sStar (f : Ev → AH → Res D) (g : Ev → AH → Res (List D)) : Ev → AH → Res (List D) := fun env A => (f env A).bind fun d A1 => match asL A1 d with
  | some xs => (g env A1).bind fun ds A2 => .ok (xs ++ ds) A2
  | none => .stuck
theorem asL_at {γ : Gh} {A : AH} {H : Hp} {d : D} {v : V} {ds : List D} (R : Rel G γ A H) (h : VR G γ H d v) (e : asL A d = some ds) : ∃ a vs, v = .ref a ∧ VRs G γ H ds vs ∧ (SqL G.K H a vs ∨ SqT G.K H a vs) := by
  cases d with
  | tup xs => unfold VR at h; obtain ⟨a, vs, e1, f, r⟩ := h; cases e; exact ⟨a, vs, e1, r, .inr f.sq⟩
  | lst xs => unfold VR at h; obtain ⟨a, vs, e1, f, n, r⟩ := h; cases e; exact ⟨a, vs, e1, r, .inl (SqL.of f)⟩
  | scr xs => unfold VR at h; obtain ⟨a, vs, e1, f, r⟩ := h; cases e; exact ⟨a, vs, e1, r, .inl f.sq⟩
  | ref i =>
    unfold VR at h
    obtain ⟨a, e1, e2⟩ := h
    unfold asL at e
    simp only at e
    split at e
    · rename_i xs q
      cases e
      obtain ⟨a', h1, h2, vs, h3, h4⟩ := R.at_ i _ q
      rw [e2] at h1; cases h1
      exact ⟨a, vs, e1, h4, .inl (SqL.of h3)⟩
    · cases e
  | _ => cases e
/-- a list as it stands -/
def asQ (A : AH) : D → Option (List D)
  | .lst ds => some ds
  | .scr ds => some ds
  | .ref i => match A[i]? with
    | some (.lst ds) => some ds
    | _ => none
  | _ => none
theorem asQ_at {γ : Gh} {A : AH} {H : Hp} {d : D} {v : V} {ds : List D} (R : Rel G γ A H) (h : VR G γ H d v) (e : asQ A d = some ds) : ∃ a vs, v = .ref a ∧ VRs G γ H ds vs ∧ SqL G.K H a vs := by
  cases d with
  | lst xs => unfold VR at h; obtain ⟨a, vs, e1, f, n, r⟩ := h; cases e; exact ⟨a, vs, e1, r, SqL.of f⟩
  | scr xs => unfold VR at h; obtain ⟨a, vs, e1, f, r⟩ := h; cases e; exact ⟨a, vs, e1, r, f.sq⟩
  | ref i =>
    unfold VR at h
    obtain ⟨a, e1, e2⟩ := h
    unfold asQ at e
    simp only at e
    split at e
    · rename_i xs q
      cases e
      obtain ⟨a', h1, h2, vs, h3, h4⟩ := R.at_ i _ q
      rw [e2] at h1; cases h1
      exact ⟨a, vs, e1, h4, SqL.of h3⟩
    · cases e
  | _ => cases e
theorem ja_nil : JA X G W [] sNil := by
  refine ⟨PA.imp pa_nil fun σ H Q h => ?_⟩
  obtain ⟨γ, A, env, S, h⟩ := h
  exact h γ H (Ext.refl _ _) S.rel [] VRs.nil
theorem ja_cons {e : Expr} {es : List Expr} {f : Ev → AH → Res D} {g : Ev → AH → Res (List D)} (ha : JE X G W e f) (hb : JA X G W es g) (hs : starEach (e :: es) X.env = (false, eval e X.env) :: starEach es X.env := by rfl) : JA X G W (e :: es) (sCons f g) := by
  refine ⟨PA.imp (pa_cons ha.run hb.run hs) fun σ H Q h => ?_⟩
  obtain ⟨γ, A, env, S, h⟩ := h
  refine ⟨γ, A, env, S, Post.bind h fun c A1 γ1 H1 e1 R1 h1 v r1 => ?_⟩
  refine ⟨γ1, A1, env, S.to e1 R1, Post.bind h1 fun y A2 γ2 H2 e2 R2 h2 vs r2 => ?_⟩
  exact h2 γ2 H2 (Ext.refl _ _) R2 _ (VRs.cons (VR.ext e2 _ _ r1) r2)
theorem ja_star (o : XO X G W k) {e : Expr} {p : Pos} {es : List Expr} {f : Ev → AH → Res D} {g : Ev → AH → Res (List D)} (ha : JE X G W e f) (hb : JA X G W es g) (hs : starEach (.Starred e p :: es) X.env = (true, eval e X.env) :: starEach es X.env := by rfl) : JA X G W (.Starred e p :: es) (sStar f g) := by
  refine ⟨PA.imp (StX.pa_star ha.run hb.run hs) fun σ H Q h => ?_⟩
  obtain ⟨γ, A, env, S, h⟩ := h
  refine ⟨γ, A, env, S, Post.bind h fun c A1 γ1 H1 e1 R1 h1 v r1 => ?_⟩
  cases q : asL A1 c with
  | none => rw [q] at h1; exact h1.elim
  | some xs =>
    rw [q] at h1
    obtain ⟨a, vs, e2, r2, hq⟩ := asL_at R1 r1 q
    rw [← o.gk]
    refine ⟨a, vs, e2, hq.symm, γ1, A1, env, S.to e1 R1, Post.bind h1 fun y A2 γ2 H2 e2 R2 h2 ws r3 => ?_⟩
    exact h2 γ2 H2 (Ext.refl _ _) R2 _ ((VRs.ext e2 _ _ r2).append r3)
/-! ### displays -/
theorem Post.new {α : Type} {γ : Gh} {A : AH} {H : Hp} {Q : Gh → AH → Hp → α → Prop} {Wx : WXe} {d : α} {p : Addr} {ob : HO} (R : Rel G γ A H) (hp : H p = none) (h : Post G γ H (.ok d A) Q Wx) : Q γ A (upd H p ob) d :=
  h γ _ (Ext.laid hp) (R.laid hp)
def sTup (f : Ev → AH → Res (List D)) : Ev → AH → Res D := fun env A => (f env A).bind fun ds A1 => if ds.length ≤ sizeLine then .ok (.tup ds) A1 else .stuck
def sLst (f : Ev → AH → Res (List D)) : Ev → AH → Res D := fun env A => (f env A).bind fun ds A1 => if ds.length ≤ sizeLine then .ok (.lst ds) A1 else .stuck
/-- a list that is changed later -/
def sLstM (f : Ev → AH → Res (List D)) : Ev → AH → Res D := fun env A => (f env A).bind fun ds A1 => if ds.length ≤ sizeLine then .ok (.ref A1.length) (A1 ++ [.lst ds]) else .stuck
theorem VR.newT {γ : Gh} {A : AH} {H : Hp} {p : Addr} {ds : List D} {vs : List V} (R : Rel G γ A H) (hp : H p = none) (r : VRs G γ H ds vs) : VR G γ (upd H p (.tup vs)) (.tup ds) (.ref p) := by
  unfold VR
  exact ⟨p, vs, rfl, ⟨upd_same, R.o_none hp⟩, VRs.ext (Ext.laid hp) _ _ r⟩
theorem VR.newL {γ : Gh} {A : AH} {H : Hp} {p : Addr} {ds : List D} {vs : List V} (R : Rel G γ A H) (hp : H p = none) (r : VRs G γ H ds vs) : VR G γ (upd H p (.lst vs)) (.lst ds) (.ref p) := by
  unfold VR
  exact ⟨p, vs, rfl, upd_same, R.o_none hp, VRs.ext (Ext.laid hp) _ _ r⟩
theorem je_tup {es : List Expr} {x1} {pos : Pos} {f : Ev → AH → Res (List D)} (h : JA X G W es f) : JE X G W (.Tuple es x1 pos) (sTup f) := by
  refine ⟨PE.imp (pe_tup h.run) fun σ H Q h => ?_⟩
  obtain ⟨γ, A, env, S, h⟩ := h
  refine ⟨γ, A, env, S, Post.bind h fun ds A1 γ1 H1 e1 R1 h1 vs r1 => ?_⟩
  split at h1
  · rename_i hz
    exact ⟨by rw [← r1.length]; exact hz, fun p hp => Post.new (ob := .tup vs) R1 hp h1 _ (VR.newT R1 hp r1)⟩
  · exact h1.elim
theorem je_lst {es : List Expr} {pos : Pos} {f : Ev → AH → Res (List D)} (h : JA X G W es f) : JE X G W (.List es pos) (sLst f) := by
  refine ⟨PE.imp (pe_lst h.run) fun σ H Q h => ?_⟩
  obtain ⟨γ, A, env, S, h⟩ := h
  refine ⟨γ, A, env, S, Post.bind h fun ds A1 γ1 H1 e1 R1 h1 vs r1 => ?_⟩
  split at h1
  · rename_i hz
    exact ⟨by rw [← r1.length]; exact hz, fun p hp => Post.new (ob := .lst vs) R1 hp h1 _ (VR.newL R1 hp r1)⟩
  · exact h1.elim
/-- [..], changed later -/
theorem je_lstM {es : List Expr} {pos : Pos} {f : Ev → AH → Res (List D)} (h : JA X G W es f) : JE X G W (.List es pos) (sLstM f) := by
  refine ⟨PE.imp (pe_lst h.run) fun σ H Q h => ?_⟩
  obtain ⟨γ, A, env, S, h⟩ := h
  refine ⟨γ, A, env, S, Post.bind h fun ds A1 γ1 H1 e1 R1 h1 vs r1 => ?_⟩
  split at h1
  · rename_i hz
    refine ⟨by rw [← r1.length]; exact hz, fun p hp => ?_⟩
    have E : Ext γ1 H1 (γ1.more A1.length p) (upd H1 p (.lst vs)) := Ext.more hp
    refine h1 _ _ E (R1.more hp ⟨vs, upd_same, VRs.ext E _ _ r1⟩) _ ?_
    unfold VR
    refine ⟨p, rfl, ?_⟩
    show (γ1.ρ ++ [p])[A1.length]? = some p
    rw [← R1.len]; simp
  · exact h1.elim
end
end F3
namespace F3
open PySem PySem.Spec
open PyProof.Rows L2
/-- what a statement ends with -/
inductive SR where
  | nx (env : Ev) (A : AH) | rt (d : D) (A : AH) | bk (env : Ev) (A : AH) | ct (env : Ev) (A : AH) | ex (x : Xn) (env : Ev) (A : AH) | stuck
def PostS (G : Gc) (γ : Gh) (H : Hp) (r : SR) (E : Ends) (W : WX) : Prop :=
  match r with
  | .nx env A' => ∀ γ' H' σ', Ext γ H γ' H' → St3 G γ' A' env H' σ' → E.nx σ' H'
  | .rt d A' => ∀ γ' H' v, Ext γ H γ' H' → Rel G γ' A' H' → VR G γ' H' d v → E.rt v H'
  | .bk env A' => ∀ γ' H' σ', Ext γ H γ' H' → St3 G γ' A' env H' σ' → E.bk σ' H'
  | .ct env A' => ∀ γ' H' σ', Ext γ H γ' H' → St3 G γ' A' env H' σ' → E.ct σ' H'
  | .ex x env A' => ∀ γ' H' σ' cls ad, Ext γ H γ' H' → St3 G γ' A' env H' σ' → XR G γ' H' x cls ad → W cls ad σ' H'
  | .stuck => False
theorem PostS.ext {G : Gc} {γ γ' : Gh} {H H' : Hp} {r : SR} {E : Ends} {W : WX} (e : Ext γ H γ' H') (h : PostS G γ H r E W) : PostS G γ' H' r E W := by
  cases r with
  | nx env A => exact fun γ2 H2 σ e2 S => h γ2 H2 σ (e.trans e2) S
  | rt d A => exact fun γ2 H2 v e2 R r => h γ2 H2 v (e.trans e2) R r
  | bk env A => exact fun γ2 H2 σ e2 S => h γ2 H2 σ (e.trans e2) S
  | ct env A => exact fun γ2 H2 σ e2 S => h γ2 H2 σ (e.trans e2) S
  | ex x env A => exact fun γ2 H2 σ c a e2 S => h γ2 H2 σ c a (e.trans e2) S
  | stuck => exact h
/-- a value's run within a statement -/
def lft {α : Type} (r : Res α) (env : Ev) (k : α → AH → SR) : SR :=
  match r with
  | .ok a A => k a A
  | .ex x A => .ex x env A
  | .stuck => .stuck
theorem PostS.lft {α : Type} {G : Gc} {γ : Gh} {H : Hp} {A : AH} {env : Ev} {σ : L2.St} {r : Res α} {k : α → AH → SR} {E : Ends} {W : WX} {R : Gh → AH → Hp → α → Prop} (S : St3 G γ A env H σ) (h : PostS G γ H (lft r env k) E W)
    (hk : ∀ d A1 γ1 H1, Ext γ H γ1 H1 → Rel G γ1 A1 H1 → PostS G γ1 H1 (k d A1) E W → R γ1 A1 H1 d) : Post G γ H r R (fun c a H' => W c a σ H') := by
  cases r with
  | ok d A1 => exact fun γ1 H1 e R1 => hk d A1 γ1 H1 e R1 (PostS.ext e h)
  | ex x A1 => exact fun γ1 H1 c a e R1 xr => h γ1 H1 σ c a e (S.to e R1) xr
  | stuck => exact h
def tS3 (G : Gc) (W : WX) (g : Ev → AH → SR) : TS := fun E σ H => ∃ γ A env, St3 G γ A env H σ ∧ PostS G γ H (g env A) E W
structure JS (X : Cx) (G : Gc) (W : WX) (st : Stmt) (g : Ev → AH → SR) : Prop where
  run : PS X st (tS3 G W g)
structure JB (X : Cx) (G : Gc) (W : WX) (st : List Stmt) (g : Ev → AH → SR) : Prop where
  run : PSs X st (tS3 G W g)
section
variable {X : Cx} {G : Gc} {W : WX} {k : Nat}
def bNil : Ev → AH → SR := fun env A => .nx env A
def bSeq (f g : Ev → AH → SR) : Ev → AH → SR := fun env A => match f env A with
  | .nx env1 A1 => g env1 A1
  | r => r
theorem jb_nil : JB X G W [] bNil := by
  refine ⟨PSs.imp pss_nil fun E σ H h => ?_⟩
  obtain ⟨γ, A, env, S, h⟩ := h
  exact h γ H σ (Ext.refl _ _) S
theorem tSeq_of {f g : Ev → AH → SR} {E : Ends} {σ : L2.St} {H : Hp} (h : tS3 G W (bSeq f g) E σ H) : tSeq (tS3 G W f) (tS3 G W g) E σ H := by
  obtain ⟨γ, A, env, S, h⟩ := h
  refine ⟨γ, A, env, S, ?_⟩
  unfold bSeq at h
  cases q : f env A with
  | nx env1 A1 =>
    rw [q] at h
    exact fun γ1 H1 σ1 e1 S1 => ⟨γ1, A1, env1, S1, PostS.ext e1 h⟩
  | _ => rw [q] at h; exact h
theorem jb_cons {st : Stmt} {rest : List Stmt} {f g : Ev → AH → SR} (h1 : JS X G W st f) (h2 : JB X G W rest g) : JB X G W (st :: rest) (bSeq f g) := ⟨PSs.imp (pss_cons h1.run h2.run) fun E σ H h => tSeq_of h⟩
theorem jb_one {st : Stmt} {f : Ev → AH → SR} (h1 : JS X G W st f) : JB X G W [st] f := ⟨pss_one h1.run⟩
theorem js_pass {pos : Pos} : JS X G W (.Pass pos) bNil := by
  refine ⟨PS.imp ps_pass fun E σ H h => ?_⟩
  obtain ⟨γ, A, env, S, h⟩ := h
  exact h γ H σ (Ext.refl _ _) S
/-- what is never reached -/
def bStuck : Ev → AH → SR := fun _ _ => .stuck
theorem js_never {st : Stmt} : JS X G W st bStuck := by
  refine ⟨PS.imp ps_never fun E σ H h => ?_⟩
  obtain ⟨γ, A, env, S, h⟩ := h
  exact h
def bRet (f : Ev → AH → Res D) : Ev → AH → SR := fun env A => lft (f env A) env fun d A1 => .rt d A1
theorem js_ret {e : Expr} {pos : Pos} {f : Ev → AH → Res D} (h : JE X G W e f) : JS X G W (.Return (some e) pos) (bRet f) := by
  refine ⟨PS.imp (ps_ret h.run) fun E σ H h => ?_⟩
  obtain ⟨γ, A, env, S, h⟩ := h
  exact ⟨γ, A, env, S, PostS.lft S h fun d A1 γ1 H1 e R h1 v r => h1 γ1 H1 v (Ext.refl _ _) R r⟩
def bExpr (f : Ev → AH → Res D) : Ev → AH → SR := fun env A => lft (f env A) env fun _ A1 => .nx env A1
theorem js_expr {e : Expr} {pos : Pos} {f : Ev → AH → Res D} (h : JE X G W e f) (hs : swapsWith e none pos.line X.env = pure false := by rfl) : JS X G W (.Expr e pos) (bExpr f) := by
  refine ⟨PS.imp (ps_expr h.run hs) fun E σ H h => ?_⟩
  obtain ⟨γ, A, env, S, h⟩ := h
  exact ⟨γ, A, env, S, PostS.lft S h fun d A1 γ1 H1 e R h1 v r => h1 γ1 H1 σ (Ext.refl _ _) (S.to e R)⟩
def bIf (c : Ev → AH → Res Bool) (f g : Ev → AH → SR) : Ev → AH → SR := fun env A => lft (c env A) env fun b A1 => match b with
  | true => f env A1
  | false => g env A1
theorem js_if {c : Expr} {a b : List Stmt} {pos : Pos} {fc : Ev → AH → Res Bool} {f g : Ev → AH → SR} (hc : JT X G W c fc) (ha : JB X G W a f) (hb : JB X G W b g) : JS X G W (.If c a b pos) (bIf fc f g) := by
  refine ⟨PS.imp (ps_if hc.run ha.run hb.run) fun E σ H h => ?_⟩
  obtain ⟨γ, A, env, S, h⟩ := h
  refine ⟨γ, A, env, S, PostS.lft S h fun d A1 γ1 H1 e R h1 => ?_⟩
  cases d with
  | true => rw [if_pos rfl]; exact ⟨γ1, A1, env, S.to e R, h1⟩
  | false => rw [if_neg Bool.false_ne_true]; exact ⟨γ1, A1, env, S.to e R, h1⟩
/-! ### targets -/
/-- st: the names stored; js: their places -/
structure JG (X : Cx) (G : Gc) (tg : Expr) (js : List Nat) (st : Ev → D → Option Ev) : Prop where
  run : PG X tg (fun v σ H Q => ∃ γ A env d env', St3 G γ A env H σ ∧ VR G γ H d v ∧ st env d = some env' ∧ ∀ σ', St3 G γ A env' H σ' → σ'.length = σ.length → (∀ j, j ∉ js → σ'[j]? = σ[j]?) → Q σ' H)
structure JGs (X : Cx) (G : Gc) (tgs : List Expr) (js : List Nat) (st : Ev → List D → Option Ev) : Prop where
  run : PGs X tgs (fun vs σ H Q => ∃ γ A env ds env', St3 G γ A env H σ ∧ VRs G γ H ds vs ∧ st env ds = some env' ∧ ∀ σ', St3 G γ A env' H σ' → σ'.length = σ.length → (∀ j, j ∉ js → σ'[j]? = σ[j]?) → Q σ' H)
theorem PG.imp {X : Cx} {e : Expr} {t t' : TG} (h : PG X e t) (q : ∀ v σ H Q, t' v σ H Q → t v σ H Q) : PG X e t' := ⟨fun pins s σ H v u Q I r z => h.run pins s σ H v u Q I r (q v σ H Q z)⟩
theorem PGs.imp {X : Cx} {e : List Expr} {t t' : TGs} (h : PGs X e t) (q : ∀ v σ H Q, t' v σ H Q → t v σ H Q) : PGs X e t' := ⟨fun pins s σ H v u Q I r z => h.run pins s σ H v u Q I r (q v σ H Q z)⟩
def gNm (i : Nat) : Ev → D → Option Ev := fun env d => some (env.set i (some d))
def gEnd : Ev → List D → Option Ev := fun env ds => match ds with
  | [] => some env
  | _ => none
def gMore (g : Ev → D → Option Ev) (gs : Ev → List D → Option Ev) : Ev → List D → Option Ev := fun env ds => match ds with
  | d :: r => (g env d).bind fun env1 => gs env1 r
  | [] => none
def gTp (gs : Ev → List D → Option Ev) : Ev → D → Option Ev := fun env d => match d with
  | .tup ds => gs env ds
  | _ => none
theorem jg_name {x : Str} {pos : Pos} (i : Nat) (hN : X.N.Nodup) (hi : X.N[i]? = some x) (hx : Loc X.env.scope x) (hf : X.fn x = true ∨ X.env.scope.names.lookup x = some .local) : JG X G (.Name x pos) [i] (gNm i) := by
  refine ⟨PG.imp (pg_name hN hi hx hf) fun v σ H Q h => ?_⟩
  obtain ⟨γ, A, env, d, env', S, r, e, h⟩ := h
  cases e
  exact h _ ⟨S.rel, by simp [S.len], S.er.set S.len r⟩ (by simp) fun j hj => List.getElem?_set_ne (fun z => hj (by simp [z]))
theorem jgs_nil : JGs X G [] [] gEnd := by
  refine ⟨PGs.imp pgs_nil fun vs σ H Q h => ?_⟩
  obtain ⟨γ, A, env, ds, env', S, r, e, h⟩ := h
  cases ds with
  | nil =>
    cases e
    unfold VRs at r
    exact ⟨r, h σ S rfl fun _ _ => rfl⟩
  | cons d ds => cases e
theorem jgs_cons {e : Expr} {es : List Expr} {js ks : List Nat} {g : Ev → D → Option Ev} {gs : Ev → List D → Option Ev} (h1 : JG X G e js g) (h2 : JGs X G es ks gs) (hs : (assignEach (e :: es) X.env).map (·.2) = assign e X.env :: (assignEach es X.env).map (·.2) := by rfl) :
    JGs X G (e :: es) (js ++ ks) (gMore g gs) := by
  refine ⟨PGs.imp (pgs_cons h1.run h2.run hs) fun vs σ H Q h => ?_⟩
  obtain ⟨γ, A, env, ds, env', S, r, e, h⟩ := h
  cases ds with
  | nil => cases e
  | cons d ds =>
    unfold VRs at r
    obtain ⟨v, rs, rfl, r1, r2⟩ := r
    obtain ⟨env1, e1, e2⟩ := Option.bind_eq_some_iff.mp (show (g env d).bind _ = some env' from e)
    refine ⟨v, rs, rfl, γ, A, env, d, env1, S, r1, e1, fun σ1 S1 l1 k1 => ?_⟩
    refine ⟨γ, A, env1, ds, env', S1, r2, e2, fun σ2 S2 l2 k2 => h σ2 S2 (l2.trans l1) fun j hj => ?_⟩
    rw [List.mem_append, not_or] at hj
    exact (k2 j hj.2).trans (k1 j hj.1)
theorem jg_tup (hc : X.calm = true) (hk : G.K = X.K) {es : List Expr} {kk : Nat} {pos : Pos} {js : List Nat} {gs : Ev → List D → Option Ev} (n : Nat) (h : JGs X G es js gs) (hg : ∀ env ds env', gs env ds = some env' → ds.length = n)
    (hn : (assignEach es X.env).length = n := by rfl) (hst : (assignEach es X.env).findIdx? (·.1) = none := by rfl) : JG X G (.Tuple es kk pos) js (gTp gs) := by
  refine ⟨PG.imp (pg_tup hc h.run hn hst) fun v σ H Q h => ?_⟩
  obtain ⟨γ, A, env, d, env', S, r, e, h⟩ := h
  cases d with
  | tup ds =>
    unfold VR at r
    obtain ⟨a, vs, e1, f, r⟩ := r
    have e : gs env ds = some env' := e
    exact ⟨a, vs, e1, hk ▸ f.sq, by rw [← r.length]; exact hg _ _ _ e, γ, A, env, ds, env', S, r, e, h⟩
  | _ => cases e
theorem gEnd_len : ∀ env ds env', gEnd env ds = some env' → ds.length = 0 := fun env ds env' e => by
  cases ds with
  | nil => rfl
  | cons _ _ => cases e
theorem gMore_len {n : Nat} {g : Ev → D → Option Ev} {gs : Ev → List D → Option Ev} (h : ∀ env ds env', gs env ds = some env' → ds.length = n) : ∀ env ds env', gMore g gs env ds = some env' → ds.length = n + 1 := fun env ds env' e => by
  cases ds with
  | nil => cases e
  | cons d ds =>
    obtain ⟨env1, e1, e2⟩ := Option.bind_eq_some_iff.mp (show (g env d).bind _ = some env' from e)
    rw [List.length_cons, h _ _ _ e2]
/-- name = e; a, b = e -/
def bSet (st : Ev → D → Option Ev) (f : Ev → AH → Res D) : Ev → AH → SR := fun env A => lft (f env A) env fun d A1 => match st env d with
  | some env1 => .nx env1 A1
  | none => .stuck
theorem js_asg {tg e : Expr} {pos : Pos} {js : List Nat} {st : Ev → D → Option Ev} {f : Ev → AH → Res D} (he : JE X G W e f) (hg : JG X G tg js st) (hs : swapsWithSole [tg] e pos.line X.env = pure false := by rfl) (hw : swappedStores [tg] e X.env = pure none := by rfl)
    (h1 : (assignEach [tg] X.env).map (·.2) = [assign tg X.env] := by rfl) : JS X G W (.Assign [tg] e pos) (bSet st f) := by
  refine ⟨PS.imp (ps_asg he.run hg.run hs hw h1) fun E σ H h => ?_⟩
  obtain ⟨γ, A, env, S, h⟩ := h
  refine ⟨γ, A, env, S, PostS.lft S h fun d A1 γ1 H1 e1 R1 h1 v r1 => ?_⟩
  cases q : st env d with
  | none => rw [q] at h1; exact h1.elim
  | some env1 =>
    rw [q] at h1
    exact ⟨γ1, A1, env, d, env1, S.to e1 R1, r1, q, fun σ1 S1 _ _ => h1 γ1 H1 σ1 (Ext.refl _ _) S1⟩
/-- a, b = x, y with two local names -/
def bPar (i j : Nat) (f : Ev → AH → Res (List D)) : Ev → AH → SR := fun env A => lft (f env A) env fun ds A1 => match ds with
  | [x, y] => .nx ((env.set i (some x)).set j (some y)) A1
  | _ => .stuck
theorem js_par (o : XO X G W k) {i j : Nat} {x y : Str} {a b : Expr} {f : Ev → AH → Res (List D)} {px py pt : Pos} {kt k2 pt2} {pos : Pos} (hN : X.N.Nodup) (hi : X.N[i]? = some x) (hj : X.N[j]? = some y) (hij : i ≠ j)
    (hx : X.env.scope.names.lookup x = some .local) (hy : X.env.scope.names.lookup y = some .local) (ha : JA X G W [a, b] f)
    (hw : swappedStores [.Tuple [.Name x px, .Name y py] kt pt] (.Tuple [a, b] k2 pt2) X.env = pure (some [x, y]))
    (hs : swapsWithSole [.Tuple [.Name x px, .Name y py] kt pt] (.Tuple [a, b] k2 pt2) pos.line X.env = pure false := by rfl) :
    JS X G W (.Assign [.Tuple [.Name x px, .Name y py] kt pt] (.Tuple [a, b] k2 pt2) pos) (bPar i j f) := by
  refine ⟨PS.imp (ps_par o.calm hN hi hj hij hx hy ha.run hw hs) fun E σ H h => ?_⟩
  obtain ⟨γ, A, env, S, h⟩ := h
  refine ⟨γ, A, env, S, PostS.lft S h fun d A1 γ1 H1 e1 R1 h1 vs r1 => ?_⟩
  match d, h1, r1 with
  | [x, y], h1, r1 =>
    unfold VRs at r1
    obtain ⟨v, rs, rfl, q1, r2⟩ := r1
    unfold VRs at r2
    obtain ⟨u, rs, rfl, q2, r3⟩ := r2
    unfold VRs at r3
    subst r3
    have S1 := S.to e1 R1
    exact ⟨v, u, rfl, h1 γ1 H1 _ (Ext.refl _ _) ⟨R1, by simp [S.len], (S1.er.set S1.len q1).set (by simp [S.len]) q2⟩⟩
  | [], h1, _ => exact h1.elim
  | [_], h1, _ => exact h1.elim
  | _ :: _ :: _ :: _, h1, _ => exact h1.elim
/-! ### what is walked -/
def Yl (G : Gc) (γ0 : Gh) (H0 : Hp) (J : It) (ds : List D) : Prop := ∀ (i : Nat) (γ : Gh) (H : Hp) (A : AH), Ext0 γ0 H0 γ H → Rel G γ A H →
  (∀ d, ds[i]? = some d → J.go i H ∧ ∀ x H', J.yld i H x H' → Ext γ H γ H' ∧ Rel G γ A H' ∧ VR G γ H' d x) ∧ (ds.length ≤ i → J.stop i H)
structure JI (X : Cx) (G : Gc) (W : WX) (tg iter : Expr) (f : Ev → AH → Res (List D)) : Prop where
  run : PI X tg iter (fun σ H R => ∃ γ A env, St3 G γ A env H σ ∧ Post G γ H (f env A) (fun γ' _ H' ds => ∀ J, Yl G γ' H' J ds → R J H') (fun c a H' => W c a σ H'))
theorem PI.imp {X : Cx} {tg e : Expr} {t t' : TI} (h : PI X tg e t) (q : ∀ σ H R, t' σ H R → t σ H R) : PI X tg e t' := ⟨fun pins s σ H R I z => h.run pins s σ H R I (q σ H R z)⟩
/-! ### for -/
def forL (st : Ev → D → Option Ev) (body : Ev → AH → SR) : List D → Ev → AH → SR
  | [], env, A => .nx env A
  | d :: ds, env, A => match st env d with
    | none => .stuck
    | some env1 => match body env1 A with
      | .nx env2 A2 => forL st body ds env2 A2
      | .ct env2 A2 => forL st body ds env2 A2
      | .bk env2 A2 => .nx env2 A2
      | r => r
def bFor (fi : Ev → AH → Res (List D)) (st : Ev → D → Option Ev) (body : Ev → AH → SR) : Ev → AH → SR := fun env A => lft (fi env A) env fun ds A1 => forL st body ds env A1
theorem js_for (o : XO X G W k) {tg iter : Expr} {body : List Stmt} {pos : Pos} {js : List Nat} {fi : Ev → AH → Res (List D)} {st : Ev → D → Option Ev} {b : Ev → AH → SR} (hi : JI X G W tg iter fi) (hg : JG X G tg js st) (hb : JB X G W body b)
    (hfs : ∀ x, foldedSetIterable iter X.env x = pure x := by intro _; rfl) : JS X G W (.For tg iter body [] pos) (bFor fi st b) := by
  refine ⟨PS.imp (ps_for o.po o.calm hi.run hg.run hb.run hfs) fun E σ H h => ?_⟩
  obtain ⟨γ, A, env, S, h⟩ := h
  refine ⟨γ, A, env, S, PostS.lft S h fun ds A1 γ1 H1 e1 R1 h1 J hJ => ?_⟩
  refine ⟨fun i m σ' H' => m = ds.length - i ∧ ∃ γ' A' env', Ext γ1 H1 γ' H' ∧ St3 G γ' A' env' H' σ' ∧ PostS G γ' H' (forL st b (ds.drop i) env' A') E W, ⟨ds.length, by simp, γ1, A1, env, Ext.refl _ _, S.to e1 R1, by simpa using h1⟩, ?_⟩
  rintro i m σ2 H2 ⟨rfl, γ2, A2, env2, e2, S2, h2⟩
  obtain ⟨y1, y2⟩ := hJ i γ2 H2 A2 e2.toExt0 S2.rel
  by_cases hlt : i < ds.length
  · obtain ⟨g1, g2⟩ := y1 ds[i] (List.getElem?_eq_getElem hlt)
    rw [List.drop_eq_getElem_cons hlt] at h2
    unfold forL at h2
    refine .inr ⟨g1, fun σ' H' => ∃ γ' A' env', Ext γ1 H1 γ' H' ∧ St3 G γ' A' env' H' σ' ∧ PostS G γ' H' (forL st b (ds.drop (i + 1)) env' A') E W, fun σ' H' q => ⟨ds.length - (i + 1), by omega, rfl, q⟩, fun x H3 hy => ?_⟩
    obtain ⟨e3, R3, r3⟩ := g2 x H3 hy
    cases q : st env2 ds[i] with
    | none => rw [q] at h2; exact h2.elim
    | some env3 =>
      rw [q] at h2
      simp only at h2
      refine ⟨γ2, A2, env2, ds[i], env3, S2.to e3 R3, r3, q, fun σ3 S3 _ _ => ⟨γ2, A2, env3, S3, ?_⟩⟩
      have e23 := e2.trans e3
      have h3 := PostS.ext e3 h2
      cases q3 : b env3 A2 with
      | nx env4 A4 =>
        rw [q3] at h3
        exact fun γ4 H4 σ4 e4 S4 => ⟨γ4, A4, env4, e23.trans e4, S4, PostS.ext e4 h3⟩
      | ct env4 A4 =>
        rw [q3] at h3
        exact fun γ4 H4 σ4 e4 S4 => ⟨γ4, A4, env4, e23.trans e4, S4, PostS.ext e4 h3⟩
      | bk env4 A4 => rw [q3] at h3; exact h3
      | rt d A4 => rw [q3] at h3; exact h3
      | ex x env4 A4 => rw [q3] at h3; exact h3
      | stuck => rw [q3] at h3; exact h3
  · refine .inl ⟨y2 (by omega), ?_⟩
    rw [List.drop_eq_nil_of_le (by omega)] at h2
    exact h2 γ2 H2 σ2 (Ext.refl _ _) S2
/-! ### while -/
def whileL (c : Ev → AH → Res Bool) (body : Ev → AH → SR) : Nat → Ev → AH → SR
  | 0, _, _ => .stuck
  | n + 1, env, A => lft (c env A) env fun b A1 => match b with
    | false => .nx env A1
    | true => match body env A1 with
      | .nx env2 A2 => whileL c body n env2 A2
      | .ct env2 A2 => whileL c body n env2 A2
      | .bk env2 A2 => .nx env2 A2
      | r => r
theorem js_while (o : XO X G W k) {c : Expr} {body : List Stmt} {pos : Pos} {fc : Ev → AH → Res Bool} {b : Ev → AH → SR} (n : Nat) (hc : JT X G W c fc) (hb : JB X G W body b) : JS X G W (.While c body [] pos) (whileL fc b n) := by
  refine ⟨PS.imp (ps_while o.po hc.run hb.run) fun E σ H h => ?_⟩
  obtain ⟨γ, A, env, S, h⟩ := h
  refine ⟨fun m σ' H' => ∃ γ' A' env', St3 G γ' A' env' H' σ' ∧ PostS G γ' H' (whileL fc b m env' A') E W, ⟨n, γ, A, env, S, h⟩, ?_⟩
  rintro m σ2 H2 ⟨γ2, A2, env2, S2, h2⟩
  cases m with
  | zero => exact h2.elim
  | succ m =>
    unfold whileL at h2
    refine ⟨γ2, A2, env2, S2, PostS.lft S2 h2 fun d A3 γ3 H3 e3 R3 h3 => ?_⟩
    cases d with
    | false =>
      rw [if_neg Bool.false_ne_true]
      exact h3 γ3 H3 σ2 (Ext.refl _ _) (S2.to e3 R3)
    | true =>
      rw [if_pos rfl]
      refine ⟨fun σ' H' => ∃ γ' A' env', St3 G γ' A' env' H' σ' ∧ PostS G γ' H' (whileL fc b m env' A') E W, fun σ' H' q => ⟨m, Nat.lt_succ_self _, q⟩, γ3, A3, env2, S2.to e3 R3, ?_⟩
      simp only at h3
      cases q3 : b env2 A3 with
      | nx env4 A4 =>
        rw [q3] at h3
        exact fun γ4 H4 σ4 e4 S4 => ⟨γ4, A4, env4, S4, PostS.ext e4 h3⟩
      | ct env4 A4 =>
        rw [q3] at h3
        exact fun γ4 H4 σ4 e4 S4 => ⟨γ4, A4, env4, S4, PostS.ext e4 h3⟩
      | bk env4 A4 => rw [q3] at h3; exact h3
      | rt d A4 => rw [q3] at h3; exact h3
      | ex x env4 A4 => rw [q3] at h3; exact h3
      | stuck => rw [q3] at h3; exact h3
theorem js_break {pos : Pos} : JS X G W (.Break pos) (fun env A => .bk env A) := by
  refine ⟨PS.imp ps_break fun E σ H h => ?_⟩
  obtain ⟨γ, A, env, S, h⟩ := h
  exact h γ H σ (Ext.refl _ _) S
theorem js_continue {pos : Pos} : JS X G W (.Continue pos) (fun env A => .ct env A) := by
  refine ⟨PS.imp ps_continue fun E σ H h => ?_⟩
  obtain ⟨γ, A, env, S, h⟩ := h
  exact h γ H σ (Ext.refl _ _) S
end
end F3
namespace F3
open PySem PySem.Spec
open PyProof.Rows L2
/-! ### list comprehensions: the new list is put aside while it grows -/
def Gh.hide (γ : Gh) (p : Addr) : Gh := ⟨γ.ρ, fun a => if a = p then some none else γ.o a⟩
def Gh.show (γ : Gh) (p : Addr) : Gh := ⟨γ.ρ, fun a => if a = p then none else γ.o a⟩
section
variable {G : Gc} {γ γ' : Gh} {H H' : Hp} {A : AH} {p : Addr}
theorem Gh.hide_same : (γ.hide p).o p = some none := if_pos rfl
theorem Gh.hide_ne {a : Addr} (h : a ≠ p) : (γ.hide p).o a = γ.o a := if_neg h
theorem Gh.show_same : (γ.show p).o p = none := if_pos rfl
theorem Gh.show_ne {a : Addr} (h : a ≠ p) : (γ.show p).o a = γ.o a := if_neg h
theorem Ext.hide {ob : HO} (h : H p = none) : Ext γ H (γ.hide p) (upd H p ob) :=
  ⟨⟨fun _ _ e => e, fun b o e n _ => ⟨by rw [upd_ne (ne_of_none e h)]; exact e, by rw [Gh.hide_ne (ne_of_none e h)]; exact n⟩, fun b o u e => by rw [upd_ne (ne_of_none e h)]; exact e⟩, fun b o e n => ⟨by rw [upd_ne (ne_of_none e h)]; exact e, by rw [Gh.hide_ne (ne_of_none e h)]; exact n⟩⟩
/-- γ' is γ but for p, H' is H but for p; p is no table, no code, no changed thing -/
theorem Rel.aside (R : Rel G γ A H) (hρ : γ'.ρ = γ.ρ) (ho : ∀ b, b ≠ p → γ'.o b = γ.o b) (hH : ∀ b, b ≠ p → H' b = H b) (e0 : Ext0 γ H γ' H') (np : ∀ i, γ.o p ≠ some (some i)) (np' : ∀ i, γ'.o p ≠ some (some i)) (hp : H' p ≠ none) (nt : H p = none ∨ γ.o p = some none) (tp : ∀ xs, H' p = some (.tup xs) → γ'.o p = none) : Rel G γ' A H' := by
  have nk : ∀ {b o}, H b = some o → γ.o b = none → b ≠ p := fun {b o} e n z => by
    subst z
    rcases nt with q | q
    · rw [q] at e; cases e
    · rw [q] at n; cases n
  refine ⟨by rw [hρ]; exact R.len, fun i o e => ?_, fun a x e => ?_, fun q hq => ?_, fun a xs e => by
    by_cases z : a = p
    · subst z; exact tp xs e
    · rw [hH a z] at e; rw [ho a z]; exact R.tupo a xs e⟩
  · obtain ⟨a, e1, e2, r⟩ := R.at_ i o e
    have na : a ≠ p := fun z => np i (by rw [← z]; exact e2)
    refine ⟨a, by rw [hρ]; exact e1, by rw [ho a na]; exact e2, r.ext (j := i) e0 (hH a na) fun dx q => ?_⟩
    have nd : dx ≠ p := fun z => np i (by rw [← z]; exact q)
    exact ⟨hH dx nd, by rw [ho dx nd]; exact q⟩
  · by_cases z : a = p
    · subst z
      refine ⟨hp, fun i q => ?_⟩
      subst q
      exact absurd e (np' i)
    · rw [ho a z] at e
      exact ⟨by rw [hH a z]; exact (R.dom a x e).1, (R.dom a x e).2⟩
  · obtain ⟨n, ps, h1, h2, h3⟩ := R.tab q hq
    have nq := nk h1 n
    refine ⟨by rw [ho _ nq]; exact n, ps, by rw [hH _ nq]; exact h1, h2, fun pos cv hc => ?_⟩
    obtain ⟨c, c1, c2, c3⟩ := h3 pos cv hc
    have nc := nk c2 c3
    exact ⟨c, c1, by rw [hH _ nc]; exact c2, by rw [ho _ nc]; exact c3⟩
theorem Rel.hide {ob : HO} (R : Rel G γ A H) (h : H p = none) (nt : ∀ xs, ob ≠ .tup xs := by intro _ z; cases z) : Rel G (γ.hide p) A (upd H p ob) := by
  have n0 := R.o_none h
  exact R.aside rfl (fun b hb => Gh.hide_ne hb) (fun b hb => upd_ne hb) (Ext.hide h).toExt0 (fun i z => by rw [n0] at z; cases z) (fun i z => by rw [Gh.hide_same] at z; cases z) (by rw [upd_same]; exact (fun q => nomatch q)) (.inl h) (fun xs e => by rw [upd_same] at e; exact absurd (Option.some.inj e) (nt xs))
/-- what is put aside grows -/
theorem Rel.grow {ob o0 : HO} (R : Rel G γ A H) (h : γ.o p = some none) (hp : H p = some o0) (hn : ∀ o u, o0 ≠ .frz o u := by intro _ _ z; cases z) (nt : ∀ xs, ob ≠ .tup xs := by intro _ z; cases z) : Rel G γ A (upd H p ob) := by
  have e0 : Ext0 γ H γ (upd H p ob) := ⟨fun _ _ e => e, fun b o e n _ => ⟨by rw [upd_ne (fun z => by rw [z, h] at n; cases n)]; exact e, n⟩, fun b o u e => by
    by_cases z : b = p
    · subst z; rw [hp] at e; exact absurd (Option.some.inj e) (hn o u)
    · rw [upd_ne z]; exact e⟩
  exact R.aside rfl (fun _ _ => rfl) (fun b hb => upd_ne hb) e0 (fun i z => by rw [h] at z; cases z) (fun i z => by rw [h] at z; cases z) (by rw [upd_same]; exact (fun q => nomatch q)) (.inr h) (fun xs e => by rw [upd_same] at e; exact absurd (Option.some.inj e) (nt xs))
theorem Ext0.grow {ob o0 : HO} (h : γ.o p = some none) (hp : H p = some o0) (hn : ∀ o u, o0 ≠ .frz o u := by intro _ _ z; cases z) : Ext0 γ H γ (upd H p ob) := ⟨fun _ _ e => e, fun b o e n _ => ⟨by rw [upd_ne (fun z => by rw [z, h] at n; cases n)]; exact e, n⟩, fun b o u e => by
    by_cases z : b = p
    · subst z; rw [hp] at e; exact absurd (Option.some.inj e) (hn o u)
    · rw [upd_ne z]; exact e⟩
theorem Ext0.show (h : γ.o p = some none) : Ext0 γ H (γ.show p) H := ⟨fun _ _ e => e, fun b o e n _ => ⟨e, by rw [Gh.show_ne (fun z => by rw [z, h] at n; cases n)]; exact n⟩, fun _ _ _ e => e⟩
theorem Rel.show (R : Rel G γ A H) (h : γ.o p = some none) : Rel G (γ.show p) A H :=
  R.aside rfl (fun b hb => Gh.show_ne hb) (fun _ _ => rfl) (Ext0.show h) (fun i z => by rw [h] at z; cases z) (fun i z => by rw [Gh.show_same] at z; cases z) (R.dom p _ h).1 (.inr h) (fun _ _ => Gh.show_same)
end
/-- the block's own names forgotten -/
def wip : List Nat → Ev → Ev
  | [], env => env
  | v :: vs, env => (wip vs env).set v none
theorem wip_length (env : Ev) : ∀ vs : List Nat, (wip vs env).length = env.length
  | [] => rfl
  | v :: vs => by unfold wip; rw [List.length_set, wip_length env vs]
theorem wip_er {G : Gc} {γ : Gh} {H : Hp} {env : Ev} {σ : L2.St} (h : ER G γ H env σ) : ∀ vs : List Nat, ER G γ H (wip vs env) (wipe σ vs)
  | [] => h
  | v :: vs => fun i d q => by
    have ih := wip_er h vs
    unfold wip at q
    unfold wipe
    by_cases z : v = i
    · subst z
      by_cases hi : v < (wip vs env).length
      · rw [List.getElem?_set_self hi] at q; cases q
      · rw [List.getElem?_eq_none (by simpa using hi)] at q; cases q
    · rw [List.getElem?_set_ne z] at q ⊢
      exact ih i d q
theorem wipe_get (σ : L2.St) (j : Nat) : ∀ vs : List Nat, (wipe σ vs)[j]? = if j ∈ vs ∧ j < σ.length then some none else σ[j]?
  | [] => by simp [wipe]
  | v :: vs => by
    unfold wipe
    by_cases z : v = j
    · subst z
      by_cases hi : v < σ.length
      · rw [List.getElem?_set_self (by rw [wipe_length]; exact hi)]; simp [hi]
      · rw [List.getElem?_eq_none (by simp [wipe_length]; omega)]
        simp [hi]
    · rw [List.getElem?_set_ne z, wipe_get σ j vs]
      have : (j ∈ v :: vs) ↔ (j ∈ vs) := by simp [Ne.symm z]
      simp only [this]
theorem wipe_eq {σ σ' : L2.St} {js vs : List Nat} (hl : σ'.length = (wipe σ vs).length) (h : ∀ j, j ∉ js → σ'[j]? = (wipe σ vs)[j]?) (hj : ∀ j ∈ js, j ∈ vs) : wipe σ' vs = wipe σ vs := by
  rw [wipe_length] at hl
  apply List.ext_getElem?
  intro j
  rw [wipe_get, wipe_get, hl]
  by_cases q : j ∈ vs ∧ j < σ.length
  · rw [if_pos q, if_pos q]
  · rw [if_neg q, if_neg q]
    by_cases m : j ∈ js
    · have hv := hj j m
      have : ¬ j < σ.length := fun z => q ⟨hv, z⟩
      rw [List.getElem?_eq_none (by omega), List.getElem?_eq_none (by omega)]
    · rw [h j m, wipe_get, if_neg q]
def compL (st : Ev → D → Option Ev) (t : Ev → AH → Res Bool) (f : Ev → AH → Res D) : List D → Ev → AH → Res (List D)
  | [], _, A => .ok [] A
  | d :: ds, env, A => match st env d with
    | none => .stuck
    | some env1 => match t env1 A with
      | .ok true A1 => match f env1 A1 with
        | .ok x A2 => (compL st t f ds env A2).bind fun xs A3 => .ok (x :: xs) A3
        | _ => .stuck
      | .ok false A1 => compL st t f ds env A1
      | _ => .stuck
def sComp (vs : List Nat) (fi : Ev → AH → Res (List D)) (st : Ev → D → Option Ev) (t : Ev → AH → Res Bool) (f : Ev → AH → Res D) : Ev → AH → Res (List D) := fun env A => (fi env A).bind fun ds A1 => if ds.length ≤ sizeLine then compL st t f ds (wip vs env) A1 else .stuck
def sLC (vs : List Nat) (fi : Ev → AH → Res (List D)) (st : Ev → D → Option Ev) (t : Ev → AH → Res Bool) (f : Ev → AH → Res D) : Ev → AH → Res D := fun env A => (sComp vs fi st t f env A).bind fun ds A1 => .ok (.lst ds) A1
def tTrue : Ev → AH → Res Bool := fun _ A => .ok true A
abbrev W0 : WX := fun _ _ _ _ => False
structure JTs (X : Cx) (G : Gc) (W : WX) (es : List Expr) (f : Ev → AH → Res Bool) : Prop where
  run : PTs X es (tB3 G W f)
section
variable {X : Cx} {G : Gc} {W : WX} {k : Nat}
theorem jts_nil : JTs X G W [] tTrue := by
  refine ⟨⟨fun pins s σ H Q I h => ?_⟩⟩
  obtain ⟨γ, A, env, S, h⟩ := h
  exact pts_nil.run pins s σ H Q I (h γ H (Ext.refl _ _) S.rel)
theorem jts_one {e : Expr} {f : Ev → AH → Res Bool} (h : JT X G W e f) : JTs X G W [e] f := ⟨pts_one h.run⟩
/-- the block's run in the reading of HandS -/
theorem comp_core {σ : L2.St} {vs js : List Nat} {st : Ev → D → Option Ev} {t : Ev → AH → Res Bool} {f : Ev → AH → Res D} {g : TG} {tt : TT} {te : TE} {J : It} {ds : List D} {γ1 : Gh} {A1 : AH} {H1 : Hp} {env : Ev} {Q : VK} {Wx : WXe}
    (hg : ∀ (v : V) (σ : L2.St) (H : Hp) (Q : L2.St → Hp → Prop), (∃ γ A env d env', St3 G γ A env H σ ∧ VR G γ H d v ∧ st env d = some env' ∧ ∀ σ', St3 G γ A env' H σ' → σ'.length = σ.length → (∀ j, j ∉ js → σ'[j]? = σ[j]?) → Q σ' H) → g v σ H Q)
    (ht : ∀ σ H Q, tB3 G W0 t σ H Q → tt σ H Q) (he : ∀ σ H Q, tE G W0 f σ H Q → te σ H Q) (hj : ∀ j ∈ js, j ∈ vs) (S : St3 G γ1 A1 env H1 σ) (hJ : Yl G γ1 H1 J ds) (hz : ds.length ≤ sizeLine)
    (h : Post G γ1 H1 (compL st t f ds (wip vs env) A1) (fun γ' A' H' ds' => ∀ v, VR G γ' H' (.lst ds') v → Q v H') Wx) :
    ∀ D, H1 D = none → ∃ W : Nat → Nat → Hp → Prop, (∃ m, W 0 m (upd H1 D (.lst []))) ∧ ∀ i m H, W i m H →
      (J.stop i H ∧ Q (.ref D) H) ∨ (J.go i H ∧ ∃ Nx : Hp → Prop, (∀ H', Nx H' → ∃ m', m' < m ∧ W (i + 1) m' H') ∧ ∀ x H', J.yld i H x H' → g x (wipe σ vs) H' fun σ2 H2 => wipe σ2 vs = wipe σ vs ∧ tt σ2 H2 fun b H3 =>
        if b = true then te σ2 H3 fun y H4 => ∃ acc, H4 D = some (.lst acc) ∧ acc.length < sizeLine ∧ Nx (upd H4 D (.lst (acc ++ [y]))) else Nx H3) := by
  intro DD hD
  let Wn : Nat → Hp → Prop := fun i H => i ≤ ds.length ∧ ∃ γ A acc accV, Ext γ1 H1 γ H ∧ Rel G γ A H ∧ γ.o DD = some none ∧ H DD = some (.lst accV) ∧ VRs G γ H acc accV ∧ acc.length ≤ i ∧
    ∃ r, compL st t f (ds.drop i) (wip vs env) A = r ∧ Post G γ1 H1 (r.bind fun xs A3 => .ok (acc ++ xs) A3) (fun γ' A' H' ds' => ∀ v, VR G γ' H' (.lst ds') v → Q v H') Wx
  refine ⟨fun i m H => m = ds.length - i ∧ Wn i H, ⟨ds.length, by simp, Nat.zero_le _, γ1.hide DD, A1, [], [], Ext.hide hD, S.rel.hide hD, Gh.hide_same, upd_same, VRs.nil, Nat.le_refl _, _, rfl, ?_⟩, ?_⟩
  · rw [List.drop_zero]
    cases q : compL st t f ds (wip vs env) A1 with
    | ok xs A3 => rw [q] at h; simpa [Res.bind] using h
    | ex x A3 => rw [q] at h; exact h
    | stuck => rw [q] at h; exact h
  · rintro i m H ⟨rfl, hi, γ, A, acc, accV, e, R, ho, hH, rv, hl, r, hr, hp⟩
    obtain ⟨y1, y2⟩ := hJ i γ H A e.toExt0 R
    by_cases hlt : i < ds.length
    · obtain ⟨g1, g2⟩ := y1 ds[i] (List.getElem?_eq_getElem hlt)
      rw [List.drop_eq_getElem_cons hlt] at hr
      unfold compL at hr
      refine .inr ⟨g1, Wn (i + 1), fun H' q => ⟨ds.length - (i + 1), by omega, rfl, q⟩, fun x H2 hy => ?_⟩
      obtain ⟨e2, R2, r2⟩ := g2 x H2 hy
      have S2 : St3 G γ A (wip vs env) H2 (wipe σ vs) := ⟨R2, by rw [wip_length, wipe_length]; exact S.len, wip_er ((S.er.ext e).ext e2) vs⟩
      cases q : st (wip vs env) ds[i] with
      | none => rw [q] at hr; subst hr; exact hp.elim
      | some env1 =>
        rw [q] at hr
        simp only at hr
        refine hg x _ H2 _ ⟨γ, A, wip vs env, ds[i], env1, S2, r2, q, fun σ3 S3 l3 k3 => ⟨wipe_eq l3 k3 hj, ?_⟩⟩
        cases q2 : t env1 A with
        | ex z A3 => rw [q2] at hr; subst hr; exact hp.elim
        | stuck => rw [q2] at hr; subst hr; exact hp.elim
        | ok b A3 =>
          rw [q2] at hr
          refine ht _ _ _ ⟨γ, A, env1, S3, ?_⟩
          rw [q2]
          intro γ3 H3 e3 R3
          obtain ⟨hD2, _⟩ := e2.hid DD _ hH ho
          obtain ⟨hD3, ho3⟩ := e3.hid DD _ hD2 ho
          have rv3 := VRs.ext e3 _ _ (VRs.ext e2 _ _ rv)
          cases b with
          | false =>
            rw [if_neg Bool.false_ne_true]
            exact ⟨hlt, γ3, A3, acc, accV, (e.trans e2).trans e3, R3, ho3, hD3, rv3, by omega, r, hr, hp⟩
          | true =>
            rw [if_pos rfl]
            simp only at hr
            refine he _ _ _ ⟨γ3, A3, env1, S3.to e3 R3, ?_⟩
            cases q3 : f env1 A3 with
            | ex z A4 => rw [q3] at hr; subst hr; exact hp.elim
            | stuck => rw [q3] at hr; subst hr; exact hp.elim
            | ok y A4 =>
              rw [q3] at hr
              intro γ4 H4 e4 R4 v r4
              obtain ⟨hD4, ho4⟩ := e4.hid DD _ hD3 ho3
              have rv4 := VRs.ext e4 _ _ rv3
              have e0 : Ext0 γ4 H4 γ4 (upd H4 DD (.lst (accV ++ [v]))) := Ext0.grow ho4 hD4
              refine ⟨accV, hD4, by rw [← rv4.length]; omega, hlt, γ4, A4, acc ++ [y], accV ++ [v], ?_, R4.grow ho4 hD4, ho4, upd_same, (VRs.ext0 e0 _ _ rv4).append (VRs.cons (VR.ext0 e0 _ _ r4) VRs.nil), by rw [List.length_append]; simp; omega, _, rfl, ?_⟩
              · have eb := ((e.trans e2).trans e3).trans e4
                have nD : ∀ b o, H1 b = some o → b ≠ DD := fun b o q => ne_of_none q hD
                exact ⟨⟨eb.ρ, fun b o q n tt => ⟨by rw [upd_ne (nD b o q)]; exact (eb.keep b o q n tt).1, (eb.keep b o q n tt).2⟩, fun b o u q => by rw [upd_ne (nD b _ q)]; exact eb.frz _ _ _ q⟩, fun b o q n => ⟨by rw [upd_ne (nD b o q)]; exact (eb.hid b o q n).1, (eb.hid b o q n).2⟩⟩
              · subst hr
                simp only at hp
                cases q4 : compL st t f (ds.drop (i + 1)) (wip vs env) A4 with
                | ok xs A5 => rw [q4] at hp; simpa [Res.bind] using hp
                | ex z A5 => rw [q4] at hp; exact hp
                | stuck => rw [q4] at hp; exact hp
    · have hi2 : i = ds.length := by omega
      refine .inl ⟨y2 (by omega), ?_⟩
      rw [List.drop_eq_nil_of_le (by omega)] at hr
      unfold compL at hr
      subst hr
      simp only [Res.bind, List.append_nil] at hp
      have e5 : Ext γ1 H1 (γ.show DD) H := by
        have nD : ∀ b o, H1 b = some o → b ≠ DD := fun b o q => ne_of_none q hD
        exact ⟨⟨e.ρ, fun b o q n tt => ⟨(e.keep b o q n tt).1, by rw [Gh.show_ne (nD b o q)]; exact (e.keep b o q n tt).2⟩, fun b o u q => e.frz _ _ _ q⟩, fun b o q n => ⟨(e.hid b o q n).1, by rw [Gh.show_ne (nD b o q)]; exact (e.hid b o q n).2⟩⟩
      refine hp (γ.show DD) H e5 (R.show ho) (.ref DD) ?_
      unfold VR
      exact ⟨DD, accV, rfl, hH, Gh.show_same, VRs.ext0 (Ext0.show ho) _ _ rv⟩
/-- a list comprehension, as a value that is never changed -/
theorem je_comp (o : XO X G W k) {elt tg iter : Expr} {ifs : List Expr} {scope : Scope} {own : List (Str × Nat)} {pos : Pos} {js : List Nat} {fi : Ev → AH → Res (List D)} {st : Ev → D → Option Ev} {t : Ev → AH → Res Bool} {f : Ev → AH → Res D}
    (hN : X.N.Nodup) (hi : JI X G W tg iter fi) (ok : BlkOk X.N X.env.scope scope own)
    (hg : ∀ (s : Shared) (H : Hp) (C : Addr) (cl : List (Str × Addr)) (fp : List Addr), JG (X.blk s H scope (compEnvC scope cl C X.env) fp) G tg js st)
    (ht : ∀ (s : Shared) (H : Hp) (C : Addr) (cl : List (Str × Addr)) (fp : List Addr), JTs (X.blk s H scope (compEnvC scope cl C X.env) fp) G W0 ifs t)
    (he : ∀ (s : Shared) (H : Hp) (C : Addr) (cl : List (Str × Addr)) (fp : List Addr), JE (X.blk s H scope (compEnvC scope cl C X.env) fp) G W0 elt f)
    (hj : (js.all fun j => (own.map (·.2)).contains j) = true)
    (hfs : ∀ x, foldedSetIterable iter X.env x = pure x := by intro _; rfl) :
    JE X G W (.ListComp elt [⟨tg, iter, ifs, 0⟩] scope pos) (sLC (own.map (·.2)) fi st t f) := by
  refine ⟨PE.imp (pe_lc o.calm hN hi.run ok (fun s H C cl fp => (hg s H C cl fp).run) (fun s H C cl fp => (ht s H C cl fp).run) (fun s H C cl fp => (he s H C cl fp).run) hfs) fun σ H Q h => ?_⟩
  obtain ⟨γ, A, env, S, h⟩ := h
  have hj' : ∀ j ∈ js, j ∈ own.map (·.2) := fun j q => by simpa using List.all_eq_true.mp hj j q
  refine ⟨γ, A, env, S, ?_⟩
  have h' : Post G γ H ((fi env A).bind fun ds A1 => (if ds.length ≤ sizeLine then compL st t f ds (wip (own.map (·.2)) env) A1 else .stuck).bind fun ds A1 => .ok (D.lst ds) A1) (fun γ' _ H' d => ∀ v, VR G γ' H' d v → Q v H') (fun c a H' => W c a σ H') := by
    unfold sLC sComp at h
    cases q : fi env A with
    | ok ds A1 => rw [q] at h; exact h
    | ex x A1 => rw [q] at h; exact h
    | stuck => rw [q] at h; exact h
  refine Post.bind h' fun ds A1 γ1 H1 e1 R1 h1 J hJ => ?_
  by_cases hz : ds.length ≤ sizeLine
  · rw [if_pos hz] at h1
    refine comp_core (js := js) (st := st) (t := t) (f := f) (Wx := fun c a H' => W c a σ H') (fun v σ H Q h => h) (fun σ H Q h => h) (fun σ H Q h => h) hj' (S.to e1 R1) hJ hz ?_
    cases q : compL st t f ds (wip (own.map (·.2)) env) A1 with
    | ok xs A3 => rw [q] at h1; exact h1
    | ex x A3 => rw [q] at h1; exact h1
    | stuck => rw [q] at h1; exact h1
  · rw [if_neg hz] at h1; exact h1.elim
end
end F3
namespace F3
open PySem PySem.Spec
open PyProof.Rows L2
/-! ### ==, reckoned quickly -/
def natsB : List Nat → List Nat → Bool
  | [], [] => true
  | a :: as, b :: bs => Nat.beq a b && natsB as bs
  | _, _ => false
theorem natsB_iff : ∀ a b : List Nat, natsB a b = true ↔ a = b
  | [], [] => by simp [natsB]
  | [], _ :: _ => by simp [natsB]
  | _ :: _, [] => by simp [natsB]
  | a :: as, b :: bs => by
    have := natsB_iff as bs
    simp [natsB, this]
def strB (x y : Str) : Bool := natsB x.cps.toList y.cps.toList
theorem strB_eq (x y : Str) : strB x y = (x == y) := by
  have : strB x y = true ↔ (x == y) = true := by
    rw [beq_iff_eq]
    unfold strB
    rw [natsB_iff]
    constructor
    · intro h
      cases x; cases y
      simpa using h
    · intro h; rw [h]
  cases h1 : strB x y <;> cases h2 : (x == y) <;> simp_all
mutual
def eqvF : PyData → PyData → Bool
  | .str x, b => match b with
    | .str y => strB x y
    | _ => false
  | .list xs, b => match b with
    | .list ys => eqvFs xs ys
    | _ => false
  | .tuple xs, b => match b with
    | .tuple ys => eqvFs xs ys
    | _ => false
  | .none, b => PyData.eqv .none b
  | .bool x, b => PyData.eqv (.bool x) b
  | .int x, b => PyData.eqv (.int x) b
  | .dict x, b => PyData.eqv (.dict x) b
def eqvFs : List PyData → List PyData → Bool
  | [], ys => match ys with
    | [] => true
    | _ => false
  | x :: xs, ys => match ys with
    | y :: ys => eqvF x y && eqvFs xs ys
    | [] => false
end
mutual
theorem eqvF_eq : ∀ a b : PyData, eqvF a b = PyData.eqv a b
  | .str x, b => by cases b <;> simp only [eqvF, PyData.eqv, strB_eq]
  | .list xs, b => by
    cases b with
    | list ys => simp only [eqvF, PyData.eqv, eqvFs_eq xs ys]
    | _ => simp only [eqvF, PyData.eqv]
  | .tuple xs, b => by
    cases b with
    | tuple ys => simp only [eqvF, PyData.eqv, eqvFs_eq xs ys]
    | _ => simp only [eqvF, PyData.eqv]
  | .none, b => by simp only [eqvF]
  | .bool x, b => by simp only [eqvF]
  | .int x, b => by simp only [eqvF]
  | .dict x, b => by simp only [eqvF]
theorem eqvFs_eq : ∀ xs ys : List PyData, eqvFs xs ys = PyData.eqvAll xs ys
  | [], [] => by simp only [eqvFs, PyData.eqvAll]
  | [], _ :: _ => by simp only [eqvFs, PyData.eqvAll]
  | x :: xs, [] => by simp only [eqvFs, PyData.eqvAll]
  | x :: xs, y :: ys => by simp only [eqvFs, PyData.eqvAll, eqvF_eq x y, eqvFs_eq xs ys]
end
end F3
namespace F3
open PySem PySem.Spec
open PyProof.Rows L2
/-! ### as plain data -/
mutual
def toP : D → Option PyData
  | .non => some .none
  | .bl b => some (.bool b)
  | .int i => some (.int i)
  | .str x => some (.str x)
  | .tup ds => (toPs ds).map .tuple
  | .lst ds => (toPs ds).map .list
  | _ => none
def toPs : List D → Option (List PyData)
  | [] => some []
  | d :: ds => match toP d, toPs ds with
    | some p, some ps => some (p :: ps)
    | _, _ => none
end
def topD (A : AH) : D → D
  | .ref i => match A[i]? with
    | some (.lst ds) => .lst ds
    | _ => .ref i
  | d => d
section
variable {G : Gc} {γ : Gh} {H : Hp} {A : AH}
mutual
theorem VR.dp : ∀ (d : D) (v : V) (p : PyData), VR G γ H d v → toP d = some p → Dp G.K H v p
  | .non, v, p, h, e => by unfold VR at h; unfold toP at e; cases e; subst h; exact .non
  | .bl b, v, p, h, e => by unfold VR at h; unfold toP at e; cases e; subst h; exact .bl b
  | .int b, v, p, h, e => by unfold VR at h; unfold toP at e; cases e; subst h; exact .int b
  | .str b, v, p, h, e => by unfold VR at h; unfold toP at e; cases e; subst h; exact .str b
  | .tup ds, v, p, h, e => by
    unfold VR at h; unfold toP at e
    obtain ⟨a, vs, rfl, f, r⟩ := h
    obtain ⟨ps, e1, e2⟩ := Option.map_eq_some_iff.mp e
    subst e2
    exact .tup f.sq (VRs.dp ds vs ps r e1)
  | .lst ds, v, p, h, e => by
    unfold VR at h; unfold toP at e
    obtain ⟨a, vs, rfl, f, n, r⟩ := h
    obtain ⟨ps, e1, e2⟩ := Option.map_eq_some_iff.mp e
    subst e2
    exact .lst (SqL.of f) (VRs.dp ds vs ps r e1)
  | .scr ds, v, p, h, e => by unfold toP at e; cases e
  | .ins c ds, v, p, h, e => by unfold toP at e; cases e
  | .dct _ ks ds, v, p, h, e => by unfold toP at e; cases e
  | .ref i, v, p, h, e => by unfold toP at e; cases e
theorem VRs.dp : ∀ (ds : List D) (vs : List V) (ps : List PyData), VRs G γ H ds vs → toPs ds = some ps → DpAll G.K H vs ps
  | [], vs, ps, h, e => by unfold VRs at h; unfold toPs at e; cases e; subst h; exact .nil
  | d :: ds, vs, ps, h, e => by
    unfold VRs at h; unfold toPs at e
    obtain ⟨v, r, rfl, h1, h2⟩ := h
    cases q1 : toP d with
    | none => rw [q1] at e; cases e
    | some p =>
      cases q2 : toPs ds with
      | none => rw [q1, q2] at e; cases e
      | some qs =>
        rw [q1, q2] at e
        cases e
        exact .cons (VR.dp d v p h1 q1) (VRs.dp ds r qs h2 q2)
end
theorem VR.dpA {d : D} {v : V} {p : PyData} (R : Rel G γ A H) (h : VR G γ H d v) (e : toP (topD A d) = some p) : Dp G.K H v p := by
  cases d with
  | ref i =>
    unfold topD at e
    simp only at e
    split at e
    · rename_i ds q
      unfold VR at h
      obtain ⟨a, rfl, e1⟩ := h
      obtain ⟨a', h1, h2, vs, h3, h4⟩ := R.at_ i _ q
      rw [e1] at h1; cases h1
      unfold toP at e
      obtain ⟨ps, e2, e3⟩ := Option.map_eq_some_iff.mp e
      subst e3
      exact .lst (SqL.of h3) (VRs.dp ds vs ps h4 e2)
    · unfold toP at e; cases e
  | _ => exact VR.dp _ v p h e
end
def pureB (o : Option Bool) (A : AH) : Res D := match o with
  | some b => .ok (.bl b) A
  | none => .stuck
theorem pureB_of {G : Gc} {γ : Gh} {H : Hp} {A : AH} {o : Option Bool} {Q : VK} {Wx : WXe} (R : Rel G γ A H) (h : Post G γ H (pureB o A) (fun γ' _ H' d => ∀ v, VR G γ' H' d v → Q v H') Wx) : ∃ b, o = some b ∧ Q (.bl b) H := by
  cases o with
  | none => exact h.elim
  | some b => exact ⟨b, rfl, h γ H (Ext.refl _ _) R _ (by unfold VR; rfl)⟩
theorem ok_here {G : Gc} {γ : Gh} {H : Hp} {A : AH} {d : D} {v : V} {Q : VK} {Wx : WXe} (R : Rel G γ A H) (hv : VR G γ H d v) (h : Post G γ H (.ok d A) (fun γ' _ H' d => ∀ v, VR G γ' H' d v → Q v H') Wx) : Q v H := h γ H (Ext.refl _ _) R v hv
/-! ### ==, != -/
def eqP (A : AH) (x y : D) : Option Bool := match toP (topD A x), toP (topD A y) with
  | some d, some e => if SeqAt.shaped d && SeqAt.shaped e then some (eqvF d e) else none
  | _, _ => none
def gEq (x y : D) (A : AH) : Res D := pureB (eqP A x y) A
def gNe (x y : D) (A : AH) : Res D := pureB ((eqP A x y).map (!·)) A
theorem eqP_some {A : AH} {x y : D} {b : Bool} (h : eqP A x y = some b) : ∃ d e, toP (topD A x) = some d ∧ toP (topD A y) = some e ∧ SeqAt.shaped d = true ∧ SeqAt.shaped e = true ∧ PyData.eqv d e = b := by
  unfold eqP at h
  simp only [eqvF_eq] at h
  split at h
  · rename_i d e q1 q2
    split at h
    · rename_i hs
      rw [Bool.and_eq_true] at hs
      exact ⟨d, e, q1, q2, hs.1, hs.2, Option.some.inj h⟩
    · cases h
  · cases h
theorem ok_eq {G : Gc} {K : PySem.W.Frag} (hk : G.K = K) : OkV2 G (rEqD K) gEq := fun γ A H a b x y Q Wx R r1 r2 h => by
  obtain ⟨c, e, q⟩ := pureB_of R h
  obtain ⟨d, e', h1, h2, s1, s2, h3⟩ := eqP_some e
  subst hk
  exact ⟨d, e', r1.dpA R h1, r2.dpA R h2, s1, s2, by rw [h3]; exact q⟩
theorem ok_ne {G : Gc} {K : PySem.W.Frag} (hk : G.K = K) : OkV2 G (rNeD K) gNe := fun γ A H a b x y Q Wx R r1 r2 h => by
  obtain ⟨c, e, q⟩ := pureB_of R h
  obtain ⟨c', e1, e2⟩ := Option.map_eq_some_iff.mp e
  obtain ⟨d, e', h1, h2, s1, s2, h3⟩ := eqP_some e1
  subst hk
  exact ⟨d, e', r1.dpA R h1, r2.dpA R h2, s1, s2, by rw [h3, e2]; exact q⟩
/-! ### is -/
def gIs (x y : D) (A : AH) : Res D := match x, y with
  | .bl a, .bl b => .ok (.bl (decide (a = b))) A
  | .non, .non => .ok (.bl true) A
  | _, .non => .ok (.bl false) A
  | _, _ => .stuck
def gIsNot (x y : D) (A : AH) : Res D := match x, y with
  | .bl a, .bl b => .ok (.bl (!decide (a = b))) A
  | .non, .non => .ok (.bl false) A
  | _, .non => .ok (.bl true) A
  | _, _ => .stuck
def rIsU : R2 := fun x y H Q => rIsB x y H Q ∨ (y = .non ∧ Q (.bl (decide (x = .non))) H)
def rIsNotU : R2 := fun x y H Q => rNotB x y H Q ∨ (y = .non ∧ Q (.bl (!decide (x = .non))) H)
theorem op_is {X : Cx} : OpR X (compareOp .Is) rIsU := OpR.or op_isBl op_isN
theorem op_isNot {X : Cx} : OpR X (compareOp .IsNot) rIsNotU := OpR.or op_notBl op_notN
theorem VR.non_iff {G : Gc} {γ : Gh} {H : Hp} {d : D} {v : V} (r : VR G γ H d v) (n : d ≠ .non) : v ≠ .non := fun z => by
  subst z
  cases d with
  | non => exact n rfl
  | bl _ => unfold VR at r; cases r
  | int _ => unfold VR at r; cases r
  | str _ => unfold VR at r; cases r
  | tup _ => unfold VR at r; obtain ⟨a, vs, e, _⟩ := r; cases e
  | lst _ => unfold VR at r; obtain ⟨a, vs, e, _⟩ := r; cases e
  | scr _ => unfold VR at r; obtain ⟨a, vs, e, _⟩ := r; cases e
  | ins _ _ => unfold VR at r; obtain ⟨a, _, _, vs, e, _⟩ := r; cases e
  | dct _ _ _ => unfold VR at r; obtain ⟨a, _, _, _, e, _⟩ := r; cases e
  | ref _ => unfold VR at r; obtain ⟨a, e, _⟩ := r; cases e
  | fn => unfold VR at r; obtain ⟨_, _, e, _⟩ := r; cases e
theorem ok_is {G : Gc} : OkV2 G rIsU gIs := fun γ A H a b x y Q Wx R r1 r2 h => by
  unfold gIs at h
  split at h
  · unfold VR at r1 r2; subst r1; subst r2
    exact .inl ⟨_, _, rfl, rfl, ok_here R (by unfold VR; rfl) h⟩
  · unfold VR at r1 r2; subst r1; subst r2
    exact .inr ⟨rfl, by simpa using ok_here (v := .bl true) R (by unfold VR; rfl) h⟩
  · rename_i hn
    unfold VR at r2; subst r2
    exact .inr ⟨rfl, by rw [decide_eq_false (r1.non_iff fun z => hn z)]; exact ok_here (v := .bl false) R (by unfold VR; rfl) h⟩
  · exact h.elim
theorem ok_isNot {G : Gc} : OkV2 G rIsNotU gIsNot := fun γ A H a b x y Q Wx R r1 r2 h => by
  unfold gIsNot at h
  split at h
  · unfold VR at r1 r2; subst r1; subst r2
    exact .inl ⟨_, _, rfl, rfl, ok_here R (by unfold VR; rfl) h⟩
  · unfold VR at r1 r2; subst r1; subst r2
    exact .inr ⟨rfl, by simpa using ok_here (v := .bl false) R (by unfold VR; rfl) h⟩
  · rename_i hn
    unfold VR at r2; subst r2
    exact .inr ⟨rfl, by rw [decide_eq_false (r1.non_iff fun z => hn z)]; exact ok_here (v := .bl true) R (by unfold VR; rfl) h⟩
  · exact h.elim
/-! ### <, <=, >, >= -/
def dints : List D → Option (List Int)
  | [] => some []
  | .int i :: ds => (dints ds).map (i :: ·)
  | _ :: _ => none
theorem ints_map : ∀ {ds : List D} {ns : List Int}, dints ds = some ns → ds = ns.map D.int
  | [], ns, e => by unfold dints at e; cases e; rfl
  | d :: ds, ns, e => by
    cases d with
    | int i =>
      unfold dints at e
      obtain ⟨ms, e1, rfl⟩ := Option.map_eq_some_iff.mp e
      rw [ints_map e1]; rfl
    | _ => unfold dints at e; cases e
theorem VRs.intsV {G : Gc} {γ : Gh} {H : Hp} : ∀ {ns : List Int} {vs : List V}, VRs G γ H (ns.map D.int) vs → vs = ns.map V.int
  | [], vs, h => by simp only [List.map_nil] at h; unfold VRs at h; exact h
  | n :: ns, vs, h => by
    simp only [List.map_cons] at h
    unfold VRs at h
    obtain ⟨v, r, rfl, h1, h2⟩ := h
    unfold VR at h1
    subst h1
    rw [VRs.intsV h2]; rfl
def gLt (x y : D) (A : AH) : Res D := match x, y with
  | .int i, .int j => .ok (.bl (decide (i < j))) A
  | .tup a, .tup b => match dints a, dints b with
    | some ns, some ms => .ok (.bl (HT.lexLt ns ms)) A
    | _, _ => .stuck
  | _, _ => .stuck
def gCmpI (p : Int → Int → Bool) (x y : D) (A : AH) : Res D := match x, y with
  | .int i, .int j => .ok (.bl (p i j)) A
  | _, _ => .stuck
def rLtU (K : PySem.W.Frag) : R2 := fun x y H Q => rI0 (fun i j => .bl (decide (i < j))) x y H Q ∨ rLtT K x y H Q
theorem op_ltU {X : Cx} (hu : X.A.units < cLine) : OpR X (compareOp .Lt) (rLtU X.K) := OpR.or op_lt (op_ltT hu)
theorem ok_lt {G : Gc} {K : PySem.W.Frag} (hk : G.K = K) : OkV2 G (rLtU K) gLt := fun γ A H a b x y Q Wx R r1 r2 h => by
  unfold gLt at h
  split at h
  · unfold VR at r1 r2; subst r1; subst r2
    exact .inl ⟨_, _, rfl, rfl, ok_here R (by unfold VR; rfl) h⟩
  · split at h
    · rename_i ns ms e1 e2
      rw [ints_map e1] at r1
      rw [ints_map e2] at r2
      unfold VR at r1 r2
      obtain ⟨a1, vs, rfl, f1, q1⟩ := r1
      obtain ⟨a2, ws, rfl, f2, q2⟩ := r2
      rw [VRs.intsV q1] at f1
      rw [VRs.intsV q2] at f2
      subst hk
      exact .inr ⟨a1, a2, ns, ms, rfl, rfl, f1.sq, f2.sq, ok_here R (by unfold VR; rfl) h⟩
    · exact h.elim
  · exact h.elim
theorem ok_cmpI {G : Gc} {p : Int → Int → Bool} : OkV2 G (rI0 fun i j => .bl (p i j)) (gCmpI p) := fun γ A H a b x y Q Wx R r1 r2 h => by
  unfold gCmpI at h
  split at h
  · unfold VR at r1 r2; subst r1; subst r2
    exact ⟨_, _, rfl, rfl, ok_here R (by unfold VR; rfl) h⟩
  · exact h.elim
def leL (ns ms : List Int) : Bool := Ob.lexAt (fun j => decide (ns.getD j 0 = ms.getD j 0)) (fun j => decide (ns.getD j 0 ≤ ms.getD j 0)) (decide (ns.length ≤ ms.length)) 0 (min ns.length ms.length)
def gLe (x y : D) (A : AH) : Res D := match x, y with
  | .int i, .int j => .ok (.bl (decide (i ≤ j))) A
  | .tup a, .tup b => match dints a, dints b with
    | some ns, some ms => .ok (.bl (leL ns ms)) A
    | _, _ => .stuck
  | _, _ => .stuck
def rLeU (K : PySem.W.Frag) : R2 := fun x y H Q => rI0 (fun i j => .bl (decide (i ≤ j))) x y H Q ∨ rLeT K x y H Q
theorem op_leU {X : Cx} (hu : X.A.units < cLine) : OpR X (compareOp .LtE) (rLeU X.K) := OpR.or op_le (op_leT hu)
theorem ok_le {G : Gc} {K : PySem.W.Frag} (hk : G.K = K) : OkV2 G (rLeU K) gLe := fun γ A H a b x y Q Wx R r1 r2 h => by
  unfold gLe at h
  split at h
  · unfold VR at r1 r2; subst r1; subst r2
    exact .inl ⟨_, _, rfl, rfl, ok_here R (by unfold VR; rfl) h⟩
  · split at h
    · rename_i ns ms e1 e2
      rw [ints_map e1] at r1
      rw [ints_map e2] at r2
      unfold VR at r1 r2
      obtain ⟨a1, vs, rfl, f1, q1⟩ := r1
      obtain ⟨a2, ws, rfl, f2, q2⟩ := r2
      rw [VRs.intsV q1] at f1
      rw [VRs.intsV q2] at f2
      subst hk
      exact .inr ⟨a1, a2, ns, ms, rfl, rfl, f1.sq, f2.sq, ok_here R (by unfold VR; rfl) h⟩
    · exact h.elim
  · exact h.elim
abbrev gGt := gCmpI fun i j => decide (j < i)
abbrev gGe := gCmpI fun i j => decide (j ≤ i)
/-! ### in, not in -/
def signIn (y z : Str) : Bool := match y.cps.toList with
  | [c] => decide (c ∈ z.cps.toList)
  | _ => !(Builtin.Str.occurrences z y 0 z.length 1).isEmpty
def inP (A : AH) (x y : D) : Option Bool := match topD A y with
  | .str z => match x with
    | .str a => some (signIn a z)
    | _ => none
  | .lst ds => match toP (topD A x), toPs ds with
    | some d, some es => if SeqAt.shaped d && SeqAt.shaped (.list es) then some (es.any fun z => eqvF z d) else none
    | _, _ => none
  | .tup ds => match toP (topD A x), toPs ds with
    | some d, some es => if SeqAt.shaped d && SeqAt.shaped (.tuple es) then some (es.any fun z => eqvF z d) else none
    | _, _ => none
  | _ => none
def gIn (x y : D) (A : AH) : Res D := pureB (inP A x y) A
def gNotIn (x y : D) (A : AH) : Res D := pureB ((inP A x y).map (!·)) A
def rInT (K : PySem.W.Frag) (n : Bool) : R2 := fun x y H Q => ∃ d ds, Dp K H x d ∧ Dp K H y (.tuple ds) ∧ SeqAt.shaped d = true ∧ SeqAt.shaped (.tuple ds) = true ∧ Q (.bl (n ^^ ds.any fun z => PyData.eqv z d)) H
theorem room_tup {A : Around} {d : PyData} {ds : List PyData} (h : SeqAt.shaped d = true) (hu : A.units + 65 < cLine) : A.units + 1 + min (PyData.depthAll ds) d.depth < cLine := by
  have := SeqAt.depth_of_shaped h
  omega
theorem op_inT {X : Cx} (hu : X.A.units + 65 < cLine) : OpR X (compareOp .In) (rInT X.K false) := by
  rintro pins s σ H x y v u Q I rx ry ⟨d, ds, hd, he, sd, se, q⟩
  obtain ⟨as, r1⟩ := Dp.reads I d x v hd rx
  obtain ⟨bs, r2⟩ := Dp.reads I (.tuple ds) y u he ry
  rw [Bool.false_xor] at q
  exact SeqAt.in_tuple_reads r2 r1 (SeqAt.canLay_of_shaped se) (SeqAt.canLay_of_shaped sd) (room_tup sd hu) ⟨.bl _, H, I, rfl, q⟩
theorem op_notInT {X : Cx} (hu : X.A.units + 65 < cLine) : OpR X (compareOp .NotIn) (rInT X.K true) := by
  rintro pins s σ H x y v u Q I rx ry ⟨d, ds, hd, he, sd, se, q⟩
  obtain ⟨as, r1⟩ := Dp.reads I d x v hd rx
  obtain ⟨bs, r2⟩ := Dp.reads I (.tuple ds) y u he ry
  rw [Bool.true_xor] at q
  exact SeqAt.notIn_tuple_reads r2 r1 (SeqAt.canLay_of_shaped se) (SeqAt.canLay_of_shaped sd) (room_tup sd hu) ⟨.bl _, H, I, rfl, q⟩
def rInStr (n : Bool) : R2 := fun x y H Q => ∃ a z, x = .str a ∧ y = .str z ∧ Q (.bl (n ^^ signIn a z)) H
theorem occ_of {X : Cx} {op : CmpOp} {n : Bool} (h1 : OpR X (compareOp op) (fun x y H Q => ∃ i j, x = .str i ∧ y = .str j ∧ Q (.bl (n ^^ !(Builtin.Str.occurrences j i 0 j.length 1).isEmpty)) H))
    (h2 : OpR X (compareOp op) (fun x y H Q => ∃ (c : Nat) (z : Str), x = .str ⟨#[c]⟩ ∧ y = .str z ∧ Q (.bl (n ^^ decide (c ∈ z.cps.toList))) H)) : OpR X (compareOp op) (rInStr n) := by
  rintro pins s σ H x y v u Q I rx ry ⟨a, z, rfl, rfl, q⟩
  by_cases hc : ∃ c, a.cps.toList = [c]
  · obtain ⟨c, hc⟩ := hc
    have ea : a = ⟨#[c]⟩ := by
      obtain ⟨ar⟩ := a
      have : ar = #[c] := by apply Array.toList_inj.mp; simpa using hc
      rw [this]
    unfold signIn at q
    rw [hc] at q
    exact h2 pins s σ H _ _ v u Q I rx ry ⟨c, z, by rw [ea], rfl, q⟩
  · refine h1 pins s σ H _ _ v u Q I rx ry ⟨a, z, rfl, rfl, ?_⟩
    unfold signIn at q
    split at q
    · rename_i c e; exact absurd ⟨c, e⟩ hc
    · exact q
theorem op_inStr {X : Cx} : OpR X (compareOp .In) (rInStr false) := by
  refine occ_of ?_ ?_
  · rintro pins s σ H x y v u Q I rx ry ⟨i, j, e1, e2, q⟩
    exact op_in_str pins s σ H x y v u Q I rx ry ⟨i, j, e1, e2, by simpa using q⟩
  · rintro pins s σ H x y v u Q I rx ry ⟨i, j, e1, e2, q⟩
    exact op_in_sign pins s σ H x y v u Q I rx ry ⟨i, j, e1, e2, by simpa using q⟩
theorem op_notInStr {X : Cx} : OpR X (compareOp .NotIn) (rInStr true) := by
  refine occ_of ?_ ?_
  · rintro pins s σ H x y v u Q I rx ry ⟨i, j, e1, e2, q⟩
    exact op_notIn_str pins s σ H x y v u Q I rx ry ⟨i, j, e1, e2, by simpa using q⟩
  · rintro pins s σ H x y v u Q I rx ry ⟨i, j, e1, e2, q⟩
    exact op_notIn_sign pins s σ H x y v u Q I rx ry ⟨i, j, e1, e2, by simpa using q⟩
def rInU (K : PySem.W.Frag) : R2 := fun x y H Q => (rInD K x y H Q ∨ rInT K false x y H Q) ∨ rInStr false x y H Q
def rNotInU (K : PySem.W.Frag) : R2 := fun x y H Q => (rNotInD K x y H Q ∨ rInT K true x y H Q) ∨ rInStr true x y H Q
theorem op_inU {X : Cx} (hu : X.A.units + 65 < cLine) : OpR X (compareOp .In) (rInU X.K) := OpR.or (OpR.or (op_inD hu) (op_inT hu)) op_inStr
theorem op_notInU {X : Cx} (hu : X.A.units + 65 < cLine) : OpR X (compareOp .NotIn) (rNotInU X.K) := OpR.or (OpR.or (op_notInD hu) (op_notInT hu)) op_notInStr
theorem inP_some {G : Gc} {γ : Gh} {H : Hp} {A : AH} {a b : D} {x y : V} {c : Bool} (R : Rel G γ A H) (r1 : VR G γ H a x) (r2 : VR G γ H b y) (h : inP A a b = some c) :
    (∃ u z, x = .str u ∧ y = .str z ∧ signIn u z = c) ∨ ∃ d es, Dp G.K H x d ∧ SeqAt.shaped d = true ∧ (es.any fun z => PyData.eqv z d) = c ∧ ((Dp G.K H y (.list es) ∧ SeqAt.shaped (.list es) = true) ∨ (Dp G.K H y (.tuple es) ∧ SeqAt.shaped (.tuple es) = true)) := by
  unfold inP at h
  simp only [eqvF_eq] at h
  split at h
  · rename_i z e
    have e2 : b = .str z := by
      cases b with
      | ref i => unfold topD at e; simp only at e; split at e <;> cases e
      | _ => exact e
    subst e2
    split at h
    · rename_i u
      unfold VR at r1 r2
      exact .inl ⟨u, z, r1, r2, Option.some.inj h⟩
    · cases h
  · rename_i ds e
    split at h
    · rename_i d es q1 q2
      split at h
      · rename_i hs
        rw [Bool.and_eq_true] at hs
        refine .inr ⟨d, es, r1.dpA R q1, hs.1, Option.some.inj h, .inl ⟨r2.dpA R ?_, hs.2⟩⟩
        rw [e]; unfold toP; rw [q2]; rfl
      · cases h
    · cases h
  · rename_i ds e
    split at h
    · rename_i d es q1 q2
      split at h
      · rename_i hs
        rw [Bool.and_eq_true] at hs
        refine .inr ⟨d, es, r1.dpA R q1, hs.1, Option.some.inj h, .inr ⟨r2.dpA R ?_, hs.2⟩⟩
        rw [e]; unfold toP; rw [q2]; rfl
      · cases h
    · cases h
  · cases h
theorem ok_in {G : Gc} {K : PySem.W.Frag} (hk : G.K = K) : OkV2 G (rInU K) gIn := fun γ A H a b x y Q Wx R r1 r2 h => by
  obtain ⟨c, e, q⟩ := pureB_of R h
  subst hk
  rcases inP_some R r1 r2 e with ⟨u, z, e1, e2, e3⟩ | ⟨d, es, h1, h2, h3, ⟨h4, h5⟩ | ⟨h4, h5⟩⟩
  · exact .inr ⟨u, z, e1, e2, by rw [e3]; simpa using q⟩
  · exact .inl (.inl ⟨d, es, h1, h4, h2, h5, by rw [h3]; exact q⟩)
  · exact .inl (.inr ⟨d, es, h1, h4, h2, h5, by rw [h3]; simpa using q⟩)
theorem ok_notIn {G : Gc} {K : PySem.W.Frag} (hk : G.K = K) : OkV2 G (rNotInU K) gNotIn := fun γ A H a b x y Q Wx R r1 r2 h => by
  obtain ⟨c0, e0, q⟩ := pureB_of R h
  obtain ⟨c, e, e'⟩ := Option.map_eq_some_iff.mp e0
  subst hk; subst e'
  rcases inP_some R r1 r2 e with ⟨u, z, e1, e2, e3⟩ | ⟨d, es, h1, h2, h3, ⟨h4, h5⟩ | ⟨h4, h5⟩⟩
  · exact .inr ⟨u, z, e1, e2, by rw [e3]; simpa using q⟩
  · exact .inl (.inl ⟨d, es, h1, h4, h2, h5, by rw [h3]; exact q⟩)
  · exact .inl (.inr ⟨d, es, h1, h4, h2, h5, by rw [h3]; simpa using q⟩)
/-! ### + - * // % ** -/
/-- a list that may be read and joined -/
def asM (A : AH) : D → Option (List D)
  | .lst ds => some ds
  | .ref i => match A[i]? with
    | some (.lst ds) => some ds
    | _ => none
  | _ => none
theorem asM_at {G : Gc} {γ : Gh} {A : AH} {H : Hp} {d : D} {v : V} {ds : List D} (R : Rel G γ A H) (h : VR G γ H d v) (e : asM A d = some ds) : ∃ a vs, v = .ref a ∧ VRs G γ H ds vs ∧ H a = some (.lst vs) := by
  cases d with
  | lst xs => unfold VR at h; obtain ⟨a, vs, e1, f, n, r⟩ := h; cases e; exact ⟨a, vs, e1, r, f⟩
  | ref i =>
    unfold VR at h
    obtain ⟨a, e1, e2⟩ := h
    unfold asM at e
    simp only at e
    split at e
    · rename_i xs q
      cases e
      obtain ⟨a', h1, h2, vs, h3, h4⟩ := R.at_ i _ q
      rw [e2] at h1; cases h1
      exact ⟨a, vs, e1, h4, h3⟩
    · cases e
  | _ => cases e
def gAdd (x y : D) (A : AH) : Res D := match x, y with
  | .int i, .int j => .ok (.int (i + j)) A
  | .int i, .bl b => .ok (.int (i + b2i b)) A
  | .str i, .str j => if i.length + j.length ≤ sizeLine then .ok (.str (i ++ j)) A else .stuck
  | .tup a, .tup b => if a.length + b.length ≤ sizeLine then .ok (.tup (a ++ b)) A else .stuck
  | x, y => match asM A x, asM A y with
    | some a, some b => if a.length + b.length ≤ sizeLine then .ok (.lst (a ++ b)) A else .stuck
    | _, _ => .stuck
def rAddU (K : PySem.W.Frag) : R2 := fun x y H Q => (((rI0 (fun i j => .int (i + j)) x y H Q ∨ ∃ i k, x = .int i ∧ y = .bl k ∧ Q (.int (i + b2i k)) H) ∨ ∃ i j, x = .str i ∧ y = .str j ∧ i.length + j.length ≤ sizeLine ∧ Q (.str (i ++ j)) H) ∨ rCatA K x y H Q) ∨ rCat x y H Q
theorem op_addU {X : Cx} : OpR X (binaryOp .Add) (rAddU X.K) := OpR.or (OpR.or (OpR.or (OpR.or op_add op_add_ib) op_add_str) op_catA) op_cat
theorem ok_add {G : Gc} {K : PySem.W.Frag} (hk : G.K = K) : OkV2 G (rAddU K) gAdd := fun γ A H a b x y Q Wx R r1 r2 h => by
  unfold gAdd at h
  subst hk
  split at h
  · unfold VR at r1 r2; subst r1; subst r2
    exact .inl (.inl (.inl (.inl ⟨_, _, rfl, rfl, ok_here R (by unfold VR; rfl) h⟩)))
  · unfold VR at r1 r2; subst r1; subst r2
    exact .inl (.inl (.inl (.inr ⟨_, _, rfl, rfl, ok_here R (by unfold VR; rfl) h⟩)))
  · split at h
    · rename_i hz
      unfold VR at r1 r2; subst r1; subst r2
      exact .inl (.inl (.inr ⟨_, _, rfl, rfl, hz, ok_here R (by unfold VR; rfl) h⟩))
    · exact h.elim
  · split at h
    · rename_i hz
      have r1' := r1
      have r2' := r2
      unfold VR at r1 r2
      obtain ⟨a1, vs, rfl, f1, q1⟩ := r1
      obtain ⟨a2, ws, rfl, f2, q2⟩ := r2
      refine .inl (.inr ⟨a1, a2, vs, ws, rfl, rfl, f1.sq, f2.sq, by rw [← q1.length, ← q2.length]; exact hz, ?_⟩)
      have nil : ∀ {ds : List D} {us : List V}, VRs G γ H ds us → us = [] → ds = [] := fun {ds us} q e => by
        have := q.length
        rw [e] at this
        exact List.length_eq_zero_iff.mp this
      refine ⟨fun e => ?_, fun e1 e2 => ?_, fun e1 e2 p hp => ?_⟩
      · have := nil q1 e
        subst this
        exact ok_here R r2' h
      · have := nil q2 e2
        subst this
        rw [List.append_nil] at h
        exact ok_here R r1' h
      · exact Post.new (ob := .tup (vs ++ ws)) R hp h _ (VR.newT R hp (q1.append q2))
    · exact h.elim
  · split at h
    · rename_i e1 e2
      split at h
      · rename_i hz
        obtain ⟨a1, vs, rfl, q1, f1⟩ := asM_at R r1 e1
        obtain ⟨a2, ws, rfl, q2, f2⟩ := asM_at R r2 e2
        exact .inr ⟨a1, a2, vs, ws, rfl, rfl, f1, f2, by rw [← q1.length, ← q2.length]; exact hz, fun p hp => Post.new (ob := .lst (vs ++ ws)) R hp h _ (VR.newL R hp (q1.append q2))⟩
      · exact h.elim
    · exact h.elim
end F3
namespace F3
open PySem PySem.Spec
open PyProof.Rows L2
/-! ### - * // % ** and the signs -/
def gSub (x y : D) (A : AH) : Res D := match x, y with
  | .int i, .int j => .ok (.int (i - j)) A
  | _, _ => .stuck
theorem ok_sub {G : Gc} : OkV2 G (rI0 fun i j => .int (i - j)) gSub := fun γ A H a b x y Q Wx R r1 r2 h => by
  unfold gSub at h
  split at h
  · unfold VR at r1 r2; subst r1; subst r2
    exact ⟨_, _, rfl, rfl, ok_here R (by unfold VR; rfl) h⟩
  · exact h.elim
/-- the items so many times -/
def timesL (k : Nat) (ds : List D) : List D := (List.replicate k ds).flatten
theorem VRs.times {G : Gc} {γ : Gh} {H : Hp} {ds : List D} {vs : List V} (h : VRs G γ H ds vs) : ∀ k, VRs G γ H (timesL k ds) (List.replicate k vs).flatten
  | 0 => VRs.nil
  | k + 1 => by
    unfold timesL
    rw [List.replicate_succ, List.replicate_succ, List.flatten_cons, List.flatten_cons]
    exact h.append (VRs.times h k)
def gMul (x y : D) (A : AH) : Res D := match x, y with
  | .int i, .int j => if i.natAbs.log2 + j.natAbs.log2 < 1000000 then .ok (.int (i * j)) A else .stuck
  | .tup ds, .int k => if ds.isEmpty = false ∧ 2 ≤ k ∧ k ≤ 1000 ∧ ds.length ≤ 1000 then .ok (.tup (timesL k.toNat ds)) A else .stuck
  | .lst ds, .int k => if -(2 ^ 63) ≤ k ∧ k < 2 ^ 63 ∧ ds.length * k.toNat ≤ sizeLine then .ok (.lst (timesL k.toNat ds)) A else .stuck
  | _, _ => .stuck
def rMulU (K : PySem.W.Frag) : R2 := fun x y H Q => (rI CMulW (fun i j => .int (i * j)) x y H Q ∨ rRepT K x y H Q) ∨ rRep x y H Q
theorem op_mulU {X : Cx} : OpR X (binaryOp .Mult) (rMulU X.K) := OpR.or (OpR.or op_mulW op_repT) op_rep
theorem ok_mul {G : Gc} {K : PySem.W.Frag} (hk : G.K = K) : OkV2 G (rMulU K) gMul := fun γ A H a b x y Q Wx R r1 r2 h => by
  unfold gMul at h
  subst hk
  split at h
  · split at h
    · rename_i hz
      unfold VR at r1 r2; subst r1; subst r2
      exact .inl (.inl ⟨_, _, rfl, rfl, hz, ok_here R (by unfold VR; rfl) h⟩)
    · exact h.elim
  · split at h
    · rename_i ds k hz
      unfold VR at r1 r2; subst r2
      obtain ⟨a1, vs, rfl, f1, q1⟩ := r1
      have hl := q1.length
      have ne : vs ≠ [] := fun z => by
        rw [z] at hl
        have := List.length_eq_zero_iff.mp hl
        rw [this] at hz; exact absurd hz.1 (by simp)
      refine .inl (.inr ⟨a1, k, vs, rfl, rfl, f1.sq, ne, hz.2.1, hz.2.2.1, by omega, fun p hp => Post.new (ob := .tup _) R hp h _ (VR.newT R hp (q1.times _))⟩)
    · exact h.elim
  · split at h
    · rename_i ds k hz
      unfold VR at r1 r2; subst r2
      obtain ⟨a1, vs, rfl, f1, n1, q1⟩ := r1
      have hl := q1.length
      exact .inr ⟨a1, k, vs, rfl, rfl, f1, hz.1, hz.2.1, by rw [← hl]; exact hz.2.2, fun p hp => Post.new (ob := .lst _) R hp h _ (VR.newL R hp (q1.times _))⟩
    · exact h.elim
  · exact h.elim
def gFdiv (x y : D) (A : AH) : Res D := match x, y with
  | .int i, .int j => if 0 < j ∧ j.natAbs.log2 < 9000 then .ok (.int (i / j)) A else .stuck
  | _, _ => .stuck
theorem ok_fdiv {G : Gc} : OkV2 G (rI CDivW fun i j => .int (i / j)) gFdiv := fun γ A H a b x y Q Wx R r1 r2 h => by
  unfold gFdiv at h
  split at h
  · split at h
    · rename_i hz
      unfold VR at r1 r2; subst r1; subst r2
      exact ⟨_, _, rfl, rfl, hz, ok_here R (by unfold VR; rfl) h⟩
    · exact h.elim
  · exact h.elim
def gMod (x y : D) (A : AH) : Res D := match x, y with
  | .int i, .int j => if 0 < j then .ok (.int (i % j)) A else .stuck
  | _, _ => .stuck
theorem ok_mod {G : Gc} : OkV2 G (rI (fun _ j => 0 < j) fun i j => .int (i % j)) gMod := fun γ A H a b x y Q Wx R r1 r2 h => by
  unfold gMod at h
  split at h
  · split at h
    · rename_i hz
      unfold VR at r1 r2; subst r1; subst r2
      exact ⟨_, _, rfl, rfl, hz, ok_here R (by unfold VR; rfl) h⟩
    · exact h.elim
  · exact h.elim
def gPow (x y : D) (A : AH) : Res D := match x, y with
  | .int i, .int j => if 0 ≤ j ∧ j ≤ 1000000 ∧ i.natAbs < 2 ^ 64 then .ok (.int (i ^ j.toNat)) A else .stuck
  | _, _ => .stuck
theorem ok_pow {G : Gc} : OkV2 G (rI CPow fun i j => .int (i ^ j.toNat)) gPow := fun γ A H a b x y Q Wx R r1 r2 h => by
  unfold gPow at h
  split at h
  · split at h
    · rename_i hz
      unfold VR at r1 r2; subst r1; subst r2
      exact ⟨_, _, rfl, rfl, hz, ok_here R (by unfold VR; rfl) h⟩
    · exact h.elim
  · exact h.elim
def gNeg (x : D) (A : AH) : Res D := match x with
  | .int i => .ok (.int (-i)) A
  | _ => .stuck
section
variable {X : Cx} {G : Gc} {W : WX} {k : Nat} {a b : Expr} {pos : Pos} {fa fb : Ev → AH → Res D}
theorem je_neg (ha : JE X G W a fa) : JE X G W (.UnaryOp .USub a pos) (sUn gNeg fa) := by
  refine ⟨PE.imp (pe_un un_neg ha.run) fun σ H Q h => ?_⟩
  obtain ⟨γ, A, env, S, h⟩ := h
  refine ⟨γ, A, env, S, Post.bind h fun x A1 γ1 H1 e1 R1 h1 v r1 => ?_⟩
  unfold gNeg at h1
  split at h1
  · unfold VR at r1; subst r1
    exact ⟨_, rfl, ok_here R1 (by unfold VR; rfl) h1⟩
  · exact h1.elim
/-! ### the rules of operators in short -/
theorem je_add (o : XO X G W k) (ha : JE X G W a fa) (hb : JE X G W b fb) : JE X G W (.BinOp a .Add b pos) (sBin gAdd fa fb) := je_bin op_addU (ok_add o.gk) ha hb
theorem je_sub (ha : JE X G W a fa) (hb : JE X G W b fb) : JE X G W (.BinOp a .Sub b pos) (sBin gSub fa fb) := je_bin op_sub ok_sub ha hb
theorem je_mul (o : XO X G W k) (ha : JE X G W a fa) (hb : JE X G W b fb) : JE X G W (.BinOp a .Mult b pos) (sBin gMul fa fb) := je_bin op_mulU (ok_mul o.gk) ha hb
theorem je_fdiv (ha : JE X G W a fa) (hb : JE X G W b fb) : JE X G W (.BinOp a .FloorDiv b pos) (sBin gFdiv fa fb) := je_bin op_fdivW ok_fdiv ha hb
theorem je_mod (ha : JE X G W a fa) (hb : JE X G W b fb) : JE X G W (.BinOp a .Mod b pos) (sBin gMod fa fb) := je_bin op_mod ok_mod ha hb
theorem je_pow (ha : JE X G W a fa) (hb : JE X G W b fb) : JE X G W (.BinOp a .Pow b pos) (sBin gPow fa fb) := je_bin op_pow ok_pow ha hb
theorem XO.u64 (o : XO X G W k) : X.A.units + 64 < cLine := o.room.units
theorem XO.u65 (o : XO X G W k) : X.A.units + 65 < cLine := by have := o.room.un; omega
theorem XO.u0 (o : XO X G W k) : X.A.units < cLine := o.room.units0
/-- a comparison's operator, what it reckons, its rule -/
structure CO (X : Cx) (G : Gc) (op : CmpOp) (g : D → D → AH → Res D) : Prop where
  ex : ∃ r, OpR X (compareOp op) r ∧ OkV2 G r g
theorem XO.eq (o : XO X G W k) : CO X G .Eq gEq := ⟨_, op_eqD o.u64, ok_eq o.gk⟩
theorem XO.ne (o : XO X G W k) : CO X G .NotEq gNe := ⟨_, op_neD o.u64, ok_ne o.gk⟩
theorem XO.lt (o : XO X G W k) : CO X G .Lt gLt := ⟨_, op_ltU o.u0, ok_lt o.gk⟩
theorem XO.le (o : XO X G W k) : CO X G .LtE gLe := ⟨_, op_leU o.u0, ok_le o.gk⟩
theorem XO.gt (o : XO X G W k) : CO X G .Gt gGt := ⟨_, op_gt, ok_cmpI⟩
theorem XO.ge (o : XO X G W k) : CO X G .GtE gGe := ⟨_, op_ge, ok_cmpI⟩
theorem XO.is (o : XO X G W k) : CO X G .Is gIs := ⟨_, op_is, ok_is⟩
theorem XO.isNot (o : XO X G W k) : CO X G .IsNot gIsNot := ⟨_, op_isNot, ok_isNot⟩
theorem XO.in_ (o : XO X G W k) : CO X G .In gIn := ⟨_, op_inU o.u65, ok_in o.gk⟩
theorem XO.notIn (o : XO X G W k) : CO X G .NotIn gNotIn := ⟨_, op_notInU o.u65, ok_notIn o.gk⟩
theorem jec {op : CmpOp} {g : D → D → AH → Res D} (c : CO X G op g) (hm : behindInMarks op b = false) (ha : JE X G W a fa) (hb : JE X G W b fb) : JE X G W (.Compare a [op] [b] pos) (sBin g fa fb) := by
  obtain ⟨r, h1, h2⟩ := c.ex
  exact je_cmp h1 h2 hm ha hb
theorem jtc {op : CmpOp} {g : D → D → AH → Res D} (c : CO X G op g) (hm : behindInMarks op b = false) (ha : JE X G W a fa) (hb : JE X G W b fb) : JT X G W (.Compare a [op] [b] pos) (sTest (sBin g fa fb)) := by
  obtain ⟨r, h1, h2⟩ := c.ex
  exact jt_cmp h1 h2 hm ha hb
theorem jec2 {c : Expr} {fc : Ev → AH → Res D} {op op' : CmpOp} {g g' : D → D → AH → Res D} (c1 : CO X G op g) (c2 : CO X G op' g') (hm : lastMarks [op, op'] [b, c] = false) (ha : JE X G W a fa) (hb : JE X G W b fb) (hc : JE X G W c fc) : JE X G W (.Compare a [op, op'] [b, c] pos) (sChain g g' fa fb fc) := by
  obtain ⟨r, h1, h2⟩ := c1.ex
  obtain ⟨r', h3, h4⟩ := c2.ex
  exact je_chain h1 h3 h2 h4 hm ha hb hc
theorem jtc2 {c : Expr} {fc : Ev → AH → Res D} {op op' : CmpOp} {g g' : D → D → AH → Res D} (c1 : CO X G op g) (c2 : CO X G op' g') (hm : lastMarks [op, op'] [b, c] = false) (ha : JE X G W a fa) (hb : JE X G W b fb) (hc : JE X G W c fc) : JT X G W (.Compare a [op, op'] [b, c] pos) (sTest (sChain g g' fa fb fc)) := by
  obtain ⟨r, h1, h2⟩ := c1.ex
  obtain ⟨r', h3, h4⟩ := c2.ex
  exact jt_chain h1 h3 h2 h4 hm ha hb hc
/-! ### items and slices -/
def gIx (x y : D) (A : AH) : Res D := match y with
  | .int i => match x with
    | .str z => if z.length ≤ sizeLine then match atI z.cps.toList i with
      | some c => .ok (.str ⟨#[c]⟩) A
      | none => .stuck
      else .stuck
    | x => match asL A x with
      | some ds => match atI ds i with
        | some d => .ok d A
        | none => .stuck
      | none => .stuck
  | _ => .stuck
theorem VRs.atI {γ : Gh} {H : Hp} {ds : List D} {vs : List V} {i : Int} {d : D} (h : VRs G γ H ds vs) (e : atI ds i = some d) : ∃ v, L2.atI vs i = some v ∧ VR G γ H d v := by
  unfold L2.atI at e ⊢
  rw [← h.length]
  obtain ⟨j, e1, e2⟩ := Option.bind_eq_some_iff.mp e
  obtain ⟨v, e3, r⟩ := h.get e2
  exact ⟨v, by rw [e1]; exact e3, r⟩
theorem IxR.or {r r' : R2} (h : IxR X r) (h' : IxR X r') : IxR X (fun x y H Q => r x y H Q ∨ r' x y H Q) := fun val sl pins s σ H x y v u Q I rx ry q hs => by
  rcases q with q | q
  · exact h val sl pins s σ H x y v u Q I rx ry q hs
  · exact h' val sl pins s σ H x y v u Q I rx ry q hs
theorem ix_all (gk : G.K = X.K) : ∃ r, IxR X r ∧ OkV2 G r gIx := by
  refine ⟨_, IxR.or (IxR.or ix_list ix_tup) ix_str, fun γ A H a b x y Q Wx R r1 r2 h => ?_⟩
  rw [← gk]
  unfold gIx at h
  split at h
  · rename_i i
    unfold VR at r2; subst r2
    split at h
    · rename_i z
      unfold VR at r1; subst r1
      split at h
      · rename_i hz
        split at h
        · rename_i c e
          exact .inr ⟨z, i, c, rfl, rfl, hz, e, ok_here R (by unfold VR; rfl) h⟩
        · exact h.elim
      · exact h.elim
    · split at h
      · rename_i ds e
        obtain ⟨p, vs, rfl, rv, hq⟩ := asL_at R r1 e
        split at h
        · rename_i d e2
          obtain ⟨v, e3, r⟩ := rv.atI e2
          rcases hq with hq | hq
          · exact .inl (.inl ⟨p, vs, i, v, rfl, rfl, hq, e3, ok_here R r h⟩)
          · exact .inl (.inr ⟨p, vs, i, v, rfl, rfl, hq, e3, ok_here R r h⟩)
        · exact h.elim
      · exact h.elim
  · exact h.elim
theorem je_ix (o : XO X G W k) (ha : JE X G W a fa) (hb : JE X G W b fb) (hp : PlainIx b) : JE X G W (.Subscript a b pos) (sBin gIx fa fb) := by
  obtain ⟨r, h1, h2⟩ := ix_all (G := G) o.gk
  exact ⟨PE.imp (pe_ix h1 ha.run hb.run hp) fun σ H Q h => tOp_of h2 h⟩
structure JO (X : Cx) (G : Gc) (W : WX) (e : Option Expr) (f : Ev → AH → Res (Option Int)) : Prop where
  run : PO X e (fun σ H Q => ∃ γ A env, St3 G γ A env H σ ∧ Post G γ H (f env A) (fun _ _ H' d => Q d H') (fun c a H' => W c a σ H'))
def oNone : Ev → AH → Res (Option Int) := fun _ A => .ok none A
def oSome (f : Ev → AH → Res D) : Ev → AH → Res (Option Int) := fun env A => (f env A).bind fun d A1 => match d with
  | .int i => .ok (some i) A1
  | _ => .stuck
theorem jo_none : JO X G W none oNone := by
  refine ⟨⟨fun pins s σ H Q I h => ?_⟩⟩
  obtain ⟨γ, A, env, S, h⟩ := h
  exact po_none.run pins s σ H Q I (h γ H (Ext.refl _ _) S.rel)
theorem jo_some (ha : JE X G W a fa) : JO X G W (some a) (oSome fa) := by
  refine ⟨⟨fun pins s σ H Q I h => ?_⟩⟩
  obtain ⟨γ, A, env, S, h⟩ := h
  refine (po_some ha.run).run pins s σ H Q I ⟨γ, A, env, S, Post.bind h fun x A1 γ1 H1 e1 R1 h1 v r1 => ?_⟩
  split at h1
  · unfold VR at r1
    exact ⟨_, r1, h1 γ1 H1 (Ext.refl _ _) R1⟩
  · exact h1.elim
def cutD (ds : List D) (lo hi : Option Int) : List D := (ds.drop (HT.sIx ds.length 0 lo)).take (HT.sIx ds.length ds.length hi - HT.sIx ds.length 0 lo)
theorem VRs.cut {γ : Gh} {H : Hp} {ds : List D} {vs : List V} (h : VRs G γ H ds vs) (lo hi : Option Int) : VRs G γ H (cutD ds lo hi) (cutV vs lo hi) := by
  unfold cutD cutV
  rw [h.length]
  exact (h.drop _).take _
def gSl (lo hi : Option Int) (x : D) (A : AH) : Res D := match x with
  | .str z => if z.length ≤ sizeLine then .ok (.str (cutS z lo hi)) A else .stuck
  | .tup ds => .ok (.tup (cutD ds lo hi)) A
  | x => match asQ A x with
    | some ds => .ok (.lst (cutD ds lo hi)) A
    | none => .stuck
def sSlice (fa : Ev → AH → Res D) (fl fh : Ev → AH → Res (Option Int)) : Ev → AH → Res D := fun env A => (fa env A).bind fun x A1 => (fl env A1).bind fun lo A2 => (fh env A2).bind fun hi A3 => gSl lo hi x A3
theorem SlR.or {r r' : V → Option Int → Option Int → Hp → VK → Prop} (h : SlR X r) (h' : SlR X r') : SlR X (fun x lo hi H Q => r x lo hi H Q ∨ r' x lo hi H Q) := fun pins s σ H x v vl vu lo hi sl Q I rx hs pl pu q => by
  rcases q with q | q
  · exact h pins s σ H x v vl vu lo hi sl Q I rx hs pl pu q
  · exact h' pins s σ H x v vl vu lo hi sl Q I rx hs pl pu q
theorem je_slice (o : XO X G W k) {lo hi : Option Expr} {p2 : Pos} {fl fh : Ev → AH → Res (Option Int)} (ha : JE X G W a fa) (hl : JO X G W lo fl) (hh : JO X G W hi fh) : JE X G W (.Subscript a (.Slice lo hi none p2) pos) (sSlice fa fl fh) := by
  refine ⟨PE.imp (pe_slice (SlR.or (SlR.or sl_list sl_tupA) sl_str) ha.run hl.run hh.run) fun σ H Q h => ?_⟩
  obtain ⟨γ, A, env, S, h⟩ := h
  refine ⟨γ, A, env, S, Post.bind h fun x A1 γ1 H1 e1 R1 h1 v r1 => ?_⟩
  refine ⟨γ1, A1, env, S.to e1 R1, Post.bind h1 fun l A2 γ2 H2 e2 R2 h2 => ?_⟩
  refine ⟨γ2, A2, env, (S.to e1 R1).to e2 R2, Post.bind h2 fun u A3 γ3 H3 e3 R3 h3 => ?_⟩
  have r3 := VR.ext (e2.trans e3) _ _ r1
  rw [← o.gk]
  unfold gSl at h3
  split at h3
  · split at h3
    · rename_i z hz
      unfold VR at r3; subst r3
      exact .inr ⟨z, rfl, hz, ok_here R3 (by unfold VR; rfl) h3⟩
    · exact h3.elim
  · rename_i ds
    have r4 := r3
    unfold VR at r3
    obtain ⟨p, vs, rfl, f, rv⟩ := r3
    refine .inl (.inr ⟨p, vs, rfl, f.sq, fun z => ?_, fun z q hq => Post.new (ob := .tup _) R3 hq h3 _ (VR.newT R3 hq (rv.cut _ _))⟩)
    have hw : cutD ds l u = ds := by
      unfold cutD
      rw [rv.length, z.1, z.2, List.drop_zero, List.take_of_length_le (by rw [rv.length]; omega)]
    rw [hw] at h3
    exact ok_here R3 r4 h3
  · rename_i hns hnt
    split at h3
    · rename_i ds e
      obtain ⟨p, vs, rfl, rv, hq⟩ := asQ_at R3 r3 e
      exact .inl (.inl ⟨p, vs, rfl, hq, fun q hq => Post.new (ob := .lst _) R3 hq h3 _ (VR.newL R3 hq (rv.cut _ _))⟩)
    · exact h3.elim
end
end F3
namespace F3
open PySem PySem.Spec
open PyProof.Rows L2
/-! ### repr, reckoned quickly -/
def digN : Nat → Nat → List Nat → List Nat
  | 0, _, acc => acc
  | f + 1, n, acc => if n < 10 then (48 + n) :: acc else digN f (n / 10) ((48 + n % 10) :: acc)
def natL (n : Nat) : List Nat := digN (n.log2 + 1) n []
def intL (i : Int) : List Nat := match i with
  | .ofNat n => natL n
  | .negSucc n => 45 :: natL (n + 1)
theorem digC (n : Nat) (h : n < 10) : (Nat.digitChar n).toNat = 48 + n := by
  have : ∀ m, m < 10 → (Nat.digitChar m).toNat = 48 + m := by decide
  exact this n h
theorem dig_core : ∀ (f F n : Nat) (acc : List Char), 1 ≤ f → n < 10 ^ f → n < F → (Nat.toDigitsCore 10 F n acc).map Char.toNat = digN f n (acc.map Char.toNat)
  | 0, F, n, acc, h0, h, hF => by omega
  | f + 1, F, n, acc, h0, h, hF => by
    obtain ⟨F, rfl⟩ : ∃ F', F = F' + 1 := ⟨F - 1, by omega⟩
    unfold Nat.toDigitsCore digN
    by_cases h10 : n < 10
    · rw [if_pos h10]
      have e1 : n / 10 = 0 := Nat.div_eq_of_lt h10
      have e2 : n % 10 = n := Nat.mod_eq_of_lt h10
      simp only [e1, e2, if_true, List.map_cons, digC n h10]
    · rw [if_neg h10]
      have e1 : n / 10 ≠ 0 := by omega
      have hf : 1 ≤ f := by
        rcases Nat.eq_zero_or_pos f with z | z
        · subst z; simp at h; omega
        · exact z
      simp only [e1, if_false]
      rw [dig_core f F (n / 10) _ hf (by rw [Nat.pow_succ] at h; omega) (by omega), List.map_cons, digC _ (Nat.mod_lt _ (by decide))]
theorem natL_eq (n : Nat) : (Nat.toDigits 10 n).map Char.toNat = natL n := by
  unfold Nat.toDigits natL
  refine dig_core _ _ n [] (by omega) ?_ (Nat.lt_succ_self n)
  have h := Nat.lt_log2_self (n := n)
  exact Nat.lt_of_lt_of_le h (Nat.pow_le_pow_left (by decide) _)
theorem int_text (i : Int) : Str.ofString (toString i) = ⟨(intL i).toArray⟩ := by
  rw [Str.ofString_eq_toList]
  congr 1
  congr 1
  have nt : ∀ n : Nat, (Nat.repr n).toList = Nat.toDigits 10 n := fun n => by rw [Nat.repr_eq_ofList_toDigits]; simp
  cases i with
  | ofNat n =>
    show (Nat.repr n).toList.map Char.toNat = natL n
    rw [nt, natL_eq]
  | negSucc n =>
    show ("-" ++ Nat.repr (n + 1)).toList.map Char.toNat = 45 :: natL (n + 1)
    rw [String.toList_append, List.map_append, nt, natL_eq]
    rfl
def joinL : List (List Nat) → List Nat
  | [] => []
  | x :: r => match r with
    | [] => x
    | _ :: _ => x ++ 44 :: 32 :: joinL r
mutual
def repL : PyData → List Nat
  | .none => [78, 111, 110, 101]
  | .bool b => match b with
    | true => [84, 114, 117, 101]
    | false => [70, 97, 108, 115, 101]
  | .int i => intL i
  | .str x => (reprText x).cps.toList
  | .list xs => 91 :: (joinL (repLs xs) ++ [93])
  | .tuple xs => 40 :: (joinL (repLs xs) ++ match xs with
    | [_] => [44, 41]
    | _ => [41])
  | .dict kvs => (PyData.dict kvs).shown.cps.toList
def repLs : List PyData → List (List Nat)
  | [] => []
  | x :: xs => repL x :: repLs xs
end
def rep (d : PyData) : Str := ⟨(repL d).toArray⟩
theorem str_of {x : Str} {l : List Nat} (h : x.cps.toList = l) : x = ⟨l.toArray⟩ := by
  cases x with
  | mk c =>
    subst h
    simp
theorem app_l (a b : Str) : (a ++ b).cps.toList = a.cps.toList ++ b.cps.toList := by rw [Str.cps_append, Array.toList_append]
theorem join_l : ∀ ts : List Str, (Str.join ", " ts).cps.toList = joinL (ts.map fun t => t.cps.toList)
  | [] => rfl
  | [x] => rfl
  | x :: y :: r => by
    show ((x ++ ", ") ++ Str.join ", " (y :: r)).cps.toList = _
    rw [app_l, app_l, join_l (y :: r)]
    have e : ((", " : String) : Str).cps.toList = [44, 32] := by decide +kernel
    rw [e, List.append_assoc]
    rfl
mutual
theorem repL_eq : ∀ d : PyData, d.shown.cps.toList = repL d
  | .none => by rw [PyData.shown_none]; decide +kernel
  | .bool b => by rw [PyData.shown_bool]; cases b <;> decide +kernel
  | .int i => by rw [PyData.shown_int]; unfold repL; rw [int_text]
  | .str x => by rw [PyData.shown_str]; unfold repL; rfl
  | .list xs => by
    rw [PyData.shown_list, app_l, app_l, join_l]
    have e1 : (("[" : String) : Str).cps.toList = [91] := by decide +kernel
    have e2 : (("]" : String) : Str).cps.toList = [93] := by decide +kernel
    unfold repL
    rw [e1, e2, repLs_eq xs]
    rfl
  | .tuple xs => by
    rw [PyData.shown_tuple, app_l, app_l, join_l]
    have e1 : (("(" : String) : Str).cps.toList = [40] := by decide +kernel
    have e2 : ((if xs.length == 1 then ",)" else ")" : String) : Str).cps.toList = (match xs with
      | [_] => [44, 41]
      | _ => [41]) := by
      match xs with
      | [] => decide +kernel
      | [_] => exact (by decide +kernel : ((",)" : String) : Str).cps.toList = [44, 41])
      | a :: b :: r =>
        rw [if_neg (by simp)]
        exact (by decide +kernel : ((")" : String) : Str).cps.toList = [41])
    unfold repL
    rw [e1, e2, repLs_eq xs]
    rfl
  | .dict kvs => by unfold repL; rfl
theorem repLs_eq : ∀ ds : List PyData, (PyData.shownAll ds).map (fun t => t.cps.toList) = repLs ds
  | [] => by rw [PyData.shownAll_nil]; rfl
  | d :: ds => by rw [PyData.shownAll_cons, List.map_cons, repL_eq d, repLs_eq ds]; rfl
end
theorem rep_eq (d : PyData) : rep d = d.shown := (str_of (repL_eq d)).symm
end F3
namespace F3
open PySem PySem.Spec
open PyProof.Rows L2
/-! ### built-ins by values -/
def OkC (G : Gc) (r : List V → Hp → VK → Prop) (g : List D → AH → Res D) : Prop := ∀ (γ : Gh) (A : AH) (H : Hp) (ds : List D) (vs : List V) (Q : VK) (Wx : WXe), Rel G γ A H → VRs G γ H ds vs → Post G γ H (g ds A) (fun γ' _ H' d => ∀ v, VR G γ' H' d v → Q v H') Wx → r vs H Q
def sCall (g : List D → AH → Res D) (f : Ev → AH → Res (List D)) : Ev → AH → Res D := fun env A => (f env A).bind fun ds A1 => g ds A1
structure CB (X : Cx) (G : Gc) (fn : Value) (g : List D → AH → Res D) : Prop where
  ex : ∃ r, CallR X fn r ∧ OkC G r g
theorem VRs.one {G : Gc} {γ : Gh} {H : Hp} {d : D} {vs : List V} (h : VRs G γ H [d] vs) : ∃ v, vs = [v] ∧ VR G γ H d v := by
  unfold VRs at h
  obtain ⟨v, r, rfl, h1, h2⟩ := h
  unfold VRs at h2
  subst h2
  exact ⟨v, rfl, h1⟩
theorem VRs.two {G : Gc} {γ : Gh} {H : Hp} {d e : D} {vs : List V} (h : VRs G γ H [d, e] vs) : ∃ v w, vs = [v, w] ∧ VR G γ H d v ∧ VR G γ H e w := by
  unfold VRs at h
  obtain ⟨v, r, rfl, h1, h2⟩ := h
  obtain ⟨w, rfl, h3⟩ := VRs.one h2
  exact ⟨v, w, rfl, h1, h3⟩
theorem CallR.or {X : Cx} {f : Value} {r r' : List V → Hp → VK → Prop} (h : CallR X f r) (h' : CallR X f r') : CallR X f (fun xs H Q => r xs H Q ∨ r' xs H Q) := by
  intro pins s σ H xs us Q I rx q
  rcases q with q | q
  · exact h pins s σ H xs us Q I rx q
  · exact h' pins s σ H xs us Q I rx q
section
variable {X : Cx} {G : Gc} {W : WX} {k : Nat}
theorem tCB_of {r : List V → Hp → VK → Prop} {g : List D → AH → Res D} {f : Ev → AH → Res (List D)} (hv : OkC G r g) {σ : L2.St} {H : Hp} {Q : VK} (h : tE G W (sCall g f) σ H Q) : tCB r (tA G W f) σ H Q := by
  obtain ⟨γ, A, env, S, h⟩ := h
  exact ⟨γ, A, env, S, Post.bind h fun ds A1 γ1 H1 e1 R1 h1 vs r1 => hv γ1 A1 H1 ds vs Q _ R1 r1 h1⟩
theorem je_callB {id : String} {x : Str} {p pos : Pos} {e : Expr} {es : List Expr} {g : List D → AH → Res D} {f : Ev → AH → Res (List D)} (c : CB X G (.builtin id) g) (hg : Gl X x) (hm : X.mg x = none) (hv : bootBuiltins x = some (.builtin id)) (ha : JA X G W (e :: es) f)
    (hn : x ≠ "__name__") (hdb : (x == ("__debug__" : Str)) = false) (he : starEach (e :: es) X.env = (false, eval e X.env) :: starEach es X.env := by rfl) (hpl : (backTo pos (starEach es X.env)).any (·.1) = false := by rfl) : JE X G W (.Call (.Name x p) (e :: es) [] pos) (sCall g f) := by
  obtain ⟨r, h1, h2⟩ := c.ex
  exact ⟨PE.imp (pe_callB h1 hg hm hv ha.run hn hdb he hpl) fun σ H Q h => tCB_of h2 h⟩
theorem je_callTy {T : String} {x : Str} {p pos : Pos} {e : Expr} {es : List Expr} {g : List D → AH → Res D} {f : Ev → AH → Res (List D)} (c : CB X G (.type T) g) (hg : Gl X x) (hm : X.mg x = none) (hv : bootBuiltins x = some (.type T)) (ha : JA X G W (e :: es) f)
    (hn : x ≠ "__name__") (hdb : (x == ("__debug__" : Str)) = false) (he : starEach (e :: es) X.env = (false, eval e X.env) :: starEach es X.env := by rfl) (hpl : (backTo pos (starEach es X.env)).any (·.1) = false := by rfl) : JE X G W (.Call (.Name x p) (e :: es) [] pos) (sCall g f) := by
  obtain ⟨r, h1, h2⟩ := c.ex
  exact ⟨PE.imp (pe_callTy h1 hg hm hv ha.run hn hdb he hpl) fun σ H Q h => tCB_of h2 h⟩
/-- len -/
def gLen (ds : List D) (A : AH) : Res D := match ds with
  | [.str z] => if z.length ≤ sizeLine then .ok (.int z.length) A else .stuck
  | [d] => match asL A d with
    | some xs => .ok (.int xs.length) A
    | none => .stuck
  | _ => .stuck
theorem XO.len (o : XO X G W k) : CB X G (.builtin "len") gLen := by
  refine ⟨_, call_len, fun γ A H ds vs Q Wx R r h => ?_⟩
  unfold gLen at h
  split at h
  · obtain ⟨v, rfl, r1⟩ := r.one
    split at h
    · rename_i hz
      unfold VR at r1; subst r1
      exact ⟨_, _, rfl, ⟨hz, rfl⟩, ok_here R (by unfold VR; rfl) h⟩
    · exact h.elim
  · obtain ⟨v, rfl, r1⟩ := r.one
    split at h
    · rename_i xs e
      obtain ⟨a, us, rfl, rv, hq⟩ := asL_at R r1 e
      rw [o.gk] at hq
      refine ⟨_, us.length, rfl, ?_, by rw [← rv.length]; exact ok_here R (by unfold VR; rfl) h⟩
      rcases hq with hq | hq
      · exact .inl ⟨us, hq, rfl⟩
      · exact .inr ⟨us, hq, rfl⟩
    · exact h.elim
  · exact h.elim
/-- all, any -/
def dbls : List D → Option (List Bool)
  | [] => some []
  | .bl i :: ds => (dbls ds).map (i :: ·)
  | _ :: _ => none
theorem dbls_map : ∀ {ds : List D} {ns : List Bool}, dbls ds = some ns → ds = ns.map D.bl
  | [], ns, e => by unfold dbls at e; cases e; rfl
  | d :: ds, ns, e => by
    cases d with
    | bl i =>
      unfold dbls at e
      obtain ⟨ms, e1, rfl⟩ := Option.map_eq_some_iff.mp e
      rw [dbls_map e1]; rfl
    | _ => unfold dbls at e; cases e
theorem VRs.blsV {γ : Gh} {H : Hp} : ∀ {ns : List Bool} {vs : List V}, VRs G γ H (ns.map D.bl) vs → vs = ns.map V.bl
  | [], vs, h => by simp only [List.map_nil] at h; unfold VRs at h; exact h
  | n :: ns, vs, h => by
    simp only [List.map_cons] at h
    unfold VRs at h
    obtain ⟨v, r, rfl, h1, h2⟩ := h
    unfold VR at h1
    subst h1
    rw [VRs.blsV h2]; rfl
def gAll (ds : List D) (A : AH) : Res D := match ds with
  | [d] => match (asQ A d).bind dbls with
    | some bs => .ok (.bl (bs.all id)) A
    | none => .stuck
  | _ => .stuck
def gAny (ds : List D) (A : AH) : Res D := match ds with
  | [d] => match (asQ A d).bind dbls with
    | some bs => .ok (.bl (bs.any id)) A
    | none => .stuck
  | _ => .stuck
theorem bls_at {γ : Gh} {A : AH} {H : Hp} {d : D} {v : V} {bs : List Bool} (R : Rel G γ A H) (h : VR G γ H d v) (e : (asQ A d).bind dbls = some bs) : ∃ a, v = .ref a ∧ SqL G.K H a (bs.map V.bl) := by
  obtain ⟨xs, e1, e2⟩ := Option.bind_eq_some_iff.mp e
  obtain ⟨a, us, rfl, rv, hq⟩ := asQ_at R h e1
  rw [dbls_map e2] at rv
  rw [VRs.blsV rv] at hq
  exact ⟨a, rfl, hq⟩
theorem XO.all (o : XO X G W k) : CB X G (.builtin "all") gAll := by
  refine ⟨_, cr_all o.calm, fun γ A H ds vs Q Wx R r h => ?_⟩
  unfold gAll at h
  split at h
  · obtain ⟨v, rfl, r1⟩ := r.one
    split at h
    · rename_i bs e
      obtain ⟨a, rfl, hq⟩ := bls_at R r1 e
      rw [o.gk] at hq
      exact ⟨a, bs, rfl, hq, ok_here R (by unfold VR; rfl) h⟩
    · exact h.elim
  · exact h.elim
theorem XO.any (o : XO X G W k) : CB X G (.builtin "any") gAny := by
  refine ⟨_, cr_any o.calm, fun γ A H ds vs Q Wx R r h => ?_⟩
  unfold gAny at h
  split at h
  · obtain ⟨v, rfl, r1⟩ := r.one
    split at h
    · rename_i bs e
      obtain ⟨a, rfl, hq⟩ := bls_at R r1 e
      rw [o.gk] at hq
      exact ⟨a, bs, rfl, hq, ok_here R (by unfold VR; rfl) h⟩
    · exact h.elim
  · exact h.elim
def gAbs (ds : List D) (A : AH) : Res D := match ds with
  | [.int i] => .ok (.int (if i < 0 then -i else i)) A
  | _ => .stuck
theorem cb_abs : CB X G (.builtin "abs") gAbs := by
  refine ⟨_, call_abs, fun γ A H ds vs Q Wx R r h => ?_⟩
  unfold gAbs at h
  split at h
  · obtain ⟨v, rfl, r1⟩ := r.one
    unfold VR at r1; subst r1
    exact ⟨_, rfl, ok_here R (by unfold VR; rfl) h⟩
  · exact h.elim
def gMax2 (ds : List D) (A : AH) : Res D := match ds with
  | [.int i, .int j] => .ok (.int (if j > i then j else i)) A
  | _ => .stuck
def gMin2 (ds : List D) (A : AH) : Res D := match ds with
  | [.int i, .int j] => .ok (.int (if j < i then j else i)) A
  | _ => .stuck
theorem XO.max2 (o : XO X G W k) : CB X G (.builtin "max") gMax2 := by
  refine ⟨_, call_max2 o.calm, fun γ A H ds vs Q Wx R r h => ?_⟩
  unfold gMax2 at h
  split at h
  · obtain ⟨v, w, rfl, r1, r2⟩ := r.two
    unfold VR at r1 r2; subst r1; subst r2
    exact ⟨_, _, rfl, ok_here R (by unfold VR; rfl) h⟩
  · exact h.elim
theorem XO.min2 (o : XO X G W k) : CB X G (.builtin "min") gMin2 := by
  refine ⟨_, call_min2 o.calm, fun γ A H ds vs Q Wx R r h => ?_⟩
  unfold gMin2 at h
  split at h
  · obtain ⟨v, w, rfl, r1, r2⟩ := r.two
    unfold VR at r1 r2; subst r1; subst r2
    exact ⟨_, _, rfl, ok_here R (by unfold VR; rfl) h⟩
  · exact h.elim
def gInt (ds : List D) (A : AH) : Res D := match ds with
  | [.int i] => .ok (.int i) A
  | [.bl b] => .ok (.int (if b = true then 1 else 0)) A
  | [.str a] => match PySem.intText? a with
    | some n => if a.length ≤ 640 then .ok (.int n) A else .stuck
    | none => .stuck
  | _ => .stuck
theorem cb_int : CB X G (.type "int") gInt := by
  refine ⟨_, CallR.or call_int1 call_int_str, fun γ A H ds vs Q Wx R r h => ?_⟩
  unfold gInt at h
  split at h
  · obtain ⟨v, rfl, r1⟩ := r.one
    unfold VR at r1; subst r1
    exact .inl (.inl ⟨_, rfl, ok_here R (by unfold VR; rfl) h⟩)
  · obtain ⟨v, rfl, r1⟩ := r.one
    unfold VR at r1; subst r1
    exact .inl (.inr ⟨_, rfl, ok_here R (by unfold VR; rfl) h⟩)
  · obtain ⟨v, rfl, r1⟩ := r.one
    unfold VR at r1; subst r1
    split at h
    · rename_i n e
      split at h
      · rename_i hz
        exact .inr ⟨_, n, rfl, e, hz, ok_here R (by unfold VR; rfl) h⟩
      · exact h.elim
    · exact h.elim
  · exact h.elim
def gStr (ds : List D) (A : AH) : Res D := match ds with
  | [.int i] => if i.natAbs.log2 < 1920 then .ok (.str (toString i)) A else .stuck
  | [.str a] => .ok (.str a) A
  | _ => .stuck
theorem cb_str : CB X G (.type "str") gStr := by
  refine ⟨_, CallR.or call_str_int SkE.call_str_str, fun γ A H ds vs Q Wx R r h => ?_⟩
  unfold gStr at h
  split at h
  · obtain ⟨v, rfl, r1⟩ := r.one
    unfold VR at r1; subst r1
    split at h
    · rename_i hz
      exact .inl ⟨_, rfl, hz, ok_here R (by unfold VR; rfl) h⟩
    · exact h.elim
  · obtain ⟨v, rfl, r1⟩ := r.one
    unfold VR at r1; subst r1
    exact .inr ⟨_, rfl, ok_here R (by unfold VR; rfl) h⟩
  · exact h.elim
/-- tuple(x), list(x) -/
def gTuple (ds : List D) (A : AH) : Res D := match ds with
  | [.tup xs] => .ok (.tup xs) A
  | [d] => match asQ A d with
    | some xs => .ok (.tup xs) A
    | none => .stuck
  | _ => .stuck
theorem XO.tuple (o : XO X G W k) : CB X G (.type "tuple") gTuple := by
  refine ⟨_, call_tuple_of, fun γ A H ds vs Q Wx R r h => ?_⟩
  unfold gTuple at h
  rw [← o.gk]
  split at h
  · obtain ⟨v, rfl, r1⟩ := r.one
    have r2 := r1
    unfold VR at r1
    obtain ⟨a, us, rfl, f, rv⟩ := r1
    exact ⟨a, us, rfl, .inr ⟨f.sq, ok_here R r2 h⟩⟩
  · obtain ⟨v, rfl, r1⟩ := r.one
    split at h
    · rename_i xs e
      obtain ⟨a, us, rfl, rv, hq⟩ := asQ_at R r1 e
      exact ⟨a, us, rfl, .inl ⟨hq, fun q hq => Post.new (ob := .tup _) R hq h _ (VR.newT R hq rv)⟩⟩
    · exact h.elim
  · exact h.elim
def gList (ds : List D) (A : AH) : Res D := match ds with
  | [d] => match asL A d with
    | some xs => .ok (.lst xs) A
    | none => .stuck
  | _ => .stuck
/-- repr -/
def reprP (A : AH) (x : D) : Option Str := match toP (topD A x) with
  | some d => if d.showable && !d.hasDict && decide (d.depth ≤ 60) && decide ((rep d).length ≤ sizeLine) then some (rep d) else none
  | none => none
def gRepr (ds : List D) (A : AH) : Res D := match ds with
  | [d] => match reprP A d with
    | some z => .ok (.str z) A
    | none => .stuck
  | _ => .stuck
def rRepr (K : PySem.W.Frag) : List V → Hp → VK → Prop := fun vs H Q => ∃ x d, vs = [x] ∧ Dp K H x d ∧ d.showable = true ∧ d.hasDict = false ∧ d.depth ≤ 60 ∧ d.shown.length ≤ sizeLine ∧ Q (.str d.shown) H
theorem call_reprL (hgd : X.A.guards = some []) (hu : X.A.units + 65 < cLine) : CallR X (.builtin "repr") (rRepr X.K) := by
  rintro pins s σ H xs us Q I r ⟨x, d, rfl, hd, h1, h2, h3, h4, q⟩
  obtain ⟨u, rfl, ru⟩ := r.one
  have ref : ∀ a, x = .ref a → wpAny (model X.prog X.w) X.A (call (.builtin "repr") [u]) (EP X pins σ Q) X.xe s := fun a e => by
    subst e
    obtain ⟨as, rd⟩ := Dp.reads I d _ u hd ru
    obtain rfl : u = Value.ref a := ru
    exact repr_of_reads' rd h1 (PyData.noDict_hsm h2) hgd (by omega) (fun _ _ e => e) (fun h' u tk hk => ⟨.str d.shown, H, I.kept hk, ⟨_, rfl⟩, q⟩) h4
  cases hd with
  | non => cases ru; exact P.repr_of_none ⟨.str _, H, I.tok _, ⟨_, rfl⟩, by simpa only [PyData.shown] using q⟩
  | bl b => cases ru; exact P.repr_of_bool ⟨.str _, H, I.tok _, ⟨_, rfl⟩, by simpa only [PyData.shown] using q⟩
  | int i =>
    obtain ⟨t, rfl⟩ := ru
    have h1' : i.natAbs.log2 < 1920 := by unfold PyData.showable at h1; exact of_decide_eq_true h1
    exact P.repr_of_int h1' ⟨.str _, H, I.tok _, ⟨_, rfl⟩, by simpa only [PyData.shown] using q⟩
  | str z =>
    obtain ⟨t, rfl⟩ := ru
    exact P.repr_of_str ⟨.str _, H, I.tok _, ⟨_, rfl⟩, by simpa only [PyData.shown] using q⟩ (by simpa only [PyData.shown] using h4)
  | lst _ _ => exact ref _ rfl
  | tup _ _ => exact ref _ rfl
theorem cb_reprL (hgd : X.A.guards = some []) (hu : X.A.units + 65 < cLine) (gk : G.K = X.K) : CB X G (.builtin "repr") gRepr := by
  refine ⟨_, call_reprL hgd hu, fun γ A H ds vs Q Wx R r h => ?_⟩
  unfold gRepr at h
  split at h
  · obtain ⟨v, rfl, r1⟩ := r.one
    split at h
    · rename_i z e
      unfold reprP at e
      split at e
      · rename_i d e1
        rw [rep_eq] at e
        split at e
        · rename_i hs
          simp only [Bool.and_eq_true, Bool.not_eq_true', decide_eq_true_eq] at hs
          cases e
          exact ⟨v, d, rfl, gk ▸ r1.dpA R e1, hs.1.1.1, hs.1.1.2, hs.1.2, hs.2, ok_here R (by unfold VR; rfl) h⟩
        · cases e
      · cases e
    · exact h.elim
  · exact h.elim
theorem XO.repr (o : XO X G W k) : CB X G (.builtin "repr") gRepr := cb_reprL o.gd o.u65 o.gk
/-! ### methods of texts -/
def dstrs : List D → Option (List Str)
  | [] => some []
  | .str i :: ds => (dstrs ds).map (i :: ·)
  | _ :: _ => none
theorem dstrs_map : ∀ {ds : List D} {ns : List Str}, dstrs ds = some ns → ds = ns.map D.str
  | [], ns, e => by unfold dstrs at e; cases e; rfl
  | d :: ds, ns, e => by
    cases d with
    | str i =>
      unfold dstrs at e
      obtain ⟨ms, e1, rfl⟩ := Option.map_eq_some_iff.mp e
      rw [dstrs_map e1]; rfl
    | _ => unfold dstrs at e; cases e
theorem VRs.strsV {γ : Gh} {H : Hp} : ∀ {ns : List Str} {vs : List V}, VRs G γ H (ns.map D.str) vs → vs = ns.map V.str
  | [], vs, h => by simp only [List.map_nil] at h; unfold VRs at h; exact h
  | n :: ns, vs, h => by
    simp only [List.map_cons] at h
    unfold VRs at h
    obtain ⟨v, r, rfl, h1, h2⟩ := h
    unfold VR at h1
    subst h1
    rw [VRs.strsV h2]; rfl
/-- what a method of texts is called on: evaluated first, a text -/
def sM1 (g : Str → D → AH → Res D) (fa fb : Ev → AH → Res D) : Ev → AH → Res D := fun env A => (fa env A).bind fun x A1 => match x with
  | .str a => (fb env A1).bind fun y A2 => g a y A2
  | _ => .stuck
def mSplit (a : Str) (y : D) (A : AH) : Res D := match y with
  | .str b => if (b.length == 0) = false ∧ a.length + 2 ≤ sizeLine then .ok (.lst ((Txt.split a b).map .str)) A else .stuck
  | _ => .stuck
def mJoin (a : Str) (y : D) (A : AH) : Res D := match (asL A y).bind dstrs with
  | some ys => if (ys.map (·.length)).sum + ys.length * a.length ≤ 16777216 then .ok (.str (Txt.join a ys)) A else .stuck
  | none => .stuck
theorem je_split {a b : Expr} {apos pos : Pos} {fa fb : Ev → AH → Res D} (ha : JE X G W a fa) (hb : JE X G W b fb) (hs : starEach [b] X.env = [(false, eval b X.env)] := by rfl) (hbase : attributeBase a "split" X.env (eval a X.env) = eval a X.env := by rfl)
    (hline : (apos.endLine == pos.line) = true := by rfl) : JE X G W (.Call (.Attribute a "split" apos) [b] [] pos) (sM1 mSplit fa fb) := by
  refine ⟨PE.imp (pe_split ha.run hb.run hs hbase hline) fun σ H Q h => ?_⟩
  obtain ⟨γ, A, env, S, h⟩ := h
  refine ⟨γ, A, env, S, Post.bind h fun x A1 γ1 H1 e1 R1 h1 v r1 => ?_⟩
  split at h1
  · rename_i z
    unfold VR at r1; subst r1
    refine ⟨⟨z, rfl⟩, γ1, A1, env, S.to e1 R1, Post.bind h1 fun y A2 γ2 H2 e2 R2 h2 w r2 => ?_⟩
    unfold mSplit at h2
    split at h2
    · rename_i b
      split at h2
      · rename_i hz
        unfold VR at r2; subst r2
        refine ⟨z, b, rfl, rfl, hz.1, hz.2, fun p hp => Post.new (ob := .lst _) R2 hp h2 _ (VR.newL R2 hp (VRs.strs _))⟩
      · exact h2.elim
    · exact h2.elim
  · exact h1.elim
theorem je_join (o : XO X G W k) {a b : Expr} {apos pos : Pos} {fa fb : Ev → AH → Res D} (ha : JE X G W a fa) (hb : JE X G W b fb) (hs : starEach [b] X.env = [(false, eval b X.env)] := by rfl) (hbase : attributeBase a "join" X.env (eval a X.env) = eval a X.env := by rfl)
    (hline : (apos.endLine == pos.line) = true := by rfl) : JE X G W (.Call (.Attribute a "join" apos) [b] [] pos) (sM1 mJoin fa fb) := by
  refine ⟨PE.imp (pe_join ha.run hb.run hs hbase hline) fun σ H Q h => ?_⟩
  obtain ⟨γ, A, env, S, h⟩ := h
  refine ⟨γ, A, env, S, Post.bind h fun x A1 γ1 H1 e1 R1 h1 v r1 => ?_⟩
  split at h1
  · rename_i z
    unfold VR at r1; subst r1
    refine ⟨⟨z, rfl⟩, γ1, A1, env, S.to e1 R1, Post.bind h1 fun y A2 γ2 H2 e2 R2 h2 w r2 => ?_⟩
    unfold mJoin at h2
    split at h2
    · rename_i ys e
      split at h2
      · rename_i hz
        obtain ⟨xs, e3, e4⟩ := Option.bind_eq_some_iff.mp e
        obtain ⟨p, us, rfl, rv, hq⟩ := asL_at R2 r2 e3
        rw [dstrs_map e4] at rv
        rw [VRs.strsV rv, o.gk] at hq
        exact ⟨z, p, ys, rfl, rfl, hq, hz, ok_here R2 (by unfold VR; rfl) h2⟩
      · exact h2.elim
    · exact h2.elim
  · exact h1.elim
/-! ### f-strings -/
def sFmt (f : Ev → AH → Res D) : Ev → AH → Res D := fun env A => (f env A).bind fun d A1 => match d with
  | .str y => if y.length ≤ sizeLine then .ok (.str y) A1 else .stuck
  | .int i => if i.natAbs.log2 < 1920 then .ok (.str (toString i)) A1 else .stuck
  | _ => .stuck
theorem je_fmt {e : Expr} {pos : Pos} {f : Ev → AH → Res D} (h : JE X G W e f) : JE X G W (.FormattedValue e (-1) none pos) (sFmt f) := by
  refine ⟨PE.imp (pe_fmt h.run) fun σ H Q h => ?_⟩
  obtain ⟨γ, A, env, S, h⟩ := h
  refine ⟨γ, A, env, S, Post.bind h fun x A1 γ1 H1 e1 R1 h1 v r1 => ?_⟩
  split at h1
  · split at h1
    · rename_i hz
      unfold VR at r1; subst r1
      exact .inl ⟨_, rfl, hz, ok_here R1 (by unfold VR; rfl) h1⟩
    · exact h1.elim
  · split at h1
    · rename_i hz
      unfold VR at r1; subst r1
      exact .inr ⟨_, rfl, hz, ok_here R1 (by unfold VR; rfl) h1⟩
    · exact h1.elim
  · exact h1.elim
def fsL : List (Ev → AH → Res D) → Str → Ev → AH → Res D
  | [], acc, _, A => .ok (.str acc) A
  | f :: fs, acc, env, A => (f env A).bind fun d A1 => match d with
    | .str y => if (acc ++ y).length ≤ sizeLine then fsL fs (acc ++ y) env A1 else .stuck
    | _ => .stuck
inductive JJ (X : Cx) (G : Gc) (W : WX) : List Expr → List (Ev → AH → Res D) → Prop where
  | nil : JJ X G W [] []
  | cons {e : Expr} {f : Ev → AH → Res D} {es : List Expr} {fs : List (Ev → AH → Res D)} (h : JE X G W e f) (r : JJ X G W es fs) : JJ X G W (e :: es) (f :: fs)
theorem JJ.pj {es : List Expr} {fs : List (Ev → AH → Res D)} (h : JJ X G W es fs) : PJ X es (fs.map (tE G W)) := by
  induction h with
  | nil => exact .nil
  | cons h r ih => exact .cons h.run ih
theorem fsL_of {σ : L2.St} {Q : VK} : ∀ (fs : List (Ev → AH → Res D)) (acc : Str) (γ : Gh) (A : AH) (env : Ev) (H : Hp), St3 G γ A env H σ → Post G γ H (fsL fs acc env A) (fun γ' _ H' d => ∀ v, VR G γ' H' d v → Q v H') (fun c a H' => W c a σ H') →
    tJs (fs.map (tE G W)) acc σ H fun out H1 => Q (.str out) H1
  | [], acc, γ, A, env, H, S, h => ok_here S.rel (by unfold VR; rfl) h
  | f :: fs, acc, γ, A, env, H, S, h => by
    unfold fsL at h
    refine ⟨γ, A, env, S, Post.bind h fun x A1 γ1 H1 e1 R1 h1 v r1 => ?_⟩
    split at h1
    · rename_i y
      split at h1
      · rename_i hz
        unfold VR at r1; subst r1
        exact ⟨y, rfl, hz, fsL_of fs (acc ++ y) γ1 A1 env H1 (S.to e1 R1) h1⟩
      · exact h1.elim
    · exact h1.elim
theorem je_joined {v1 v2 : Expr} {rest : List Expr} {fs : List (Ev → AH → Res D)} {pos : Pos} (h : JJ X G W (v1 :: v2 :: rest) fs) : JE X G W (.JoinedStr (v1 :: v2 :: rest) pos) (fsL fs Str.empty) := by
  refine ⟨PE.imp (pe_joined h.pj) fun σ H Q h => ?_⟩
  obtain ⟨γ, A, env, S, h⟩ := h
  exact fsL_of fs Str.empty γ A env H S h
/-! ### what is walked -/
def iOf (f : Ev → AH → Res D) : Ev → AH → Res (List D) := fun env A => (f env A).bind fun d A1 => match d with
  | .tup ds => .ok ds A1
  | .lst ds => .ok ds A1
  | .str z => .ok (z.cps.toList.map fun c => .str ⟨#[c]⟩) A1
  | _ => .stuck
theorem PI.or {tg e : Expr} {t t' : TI} (h : PI X tg e t) (h' : PI X tg e t') : PI X tg e (fun σ H R => t σ H R ∨ t' σ H R) := ⟨fun pins s σ H R I z => z.elim (fun z => h.run pins s σ H R I z) fun z => h'.run pins s σ H R I z⟩
theorem yl_list {γ : Gh} {H : Hp} {a : Addr} {ds : List D} {vs : List V} (h : H a = some (.lst vs)) (n : γ.o a = none) (r : VRs G γ H ds vs) (K : PySem.W.Frag) : Yl G γ H (Itl K a) ds := by
  intro i γ' H' A e R
  obtain ⟨h', n'⟩ := e.keep a _ h n (fun _ z => nomatch z)
  refine ⟨fun d q => ?_, fun q => ⟨vs, SqL.of h', by rw [← r.length]; exact q⟩⟩
  obtain ⟨v, e1, rv⟩ := r.get q
  refine ⟨⟨vs, v, SqL.of h', e1⟩, fun x H2 hy => ?_⟩
  obtain ⟨rfl, hx⟩ := hy
  have := hx vs (SqL.of h')
  rw [e1] at this
  cases this
  exact ⟨Ext.refl _ _, R, VR.ext0 e _ _ rv⟩
end
end F3
namespace F3
open PySem PySem.Spec
open PyProof.Rows L2
section
variable {X : Cx} {G : Gc} {W : WX} {k : Nat}
theorem yl_tup {γ : Gh} {H : Hp} {a : Addr} {ds : List D} {vs : List V} (f : FxT G γ H a vs) (r : VRs G γ H ds vs) : Yl G γ H (Itt G.K a) ds := by
  intro i γ' H' A e R
  have f' := e.fxT f
  refine ⟨fun d q => ?_, fun q => ⟨vs, f'.sq, by rw [← r.length]; exact q⟩⟩
  obtain ⟨v, e1, rv⟩ := r.get q
  refine ⟨⟨vs, v, f'.sq, e1⟩, fun x H2 hy => ?_⟩
  obtain ⟨rfl, hx⟩ := hy
  have := hx vs f'.sq
  rw [e1] at this
  cases this
  exact ⟨Ext.refl _ _, R, VR.ext0 e _ _ rv⟩
theorem yl_str {γ : Gh} {H : Hp} (z : Str) : Yl G γ H (Its z) (z.cps.toList.map fun c => .str ⟨#[c]⟩) := by
  intro i γ' H' A e R
  refine ⟨fun d q => ?_, fun q => (by simpa using q : z.cps.size ≤ i)⟩
  rw [List.getElem?_map] at q
  obtain ⟨c, q1, rfl⟩ := Option.map_eq_some_iff.mp q
  have q2 : z.cps[i]? = some c := by simpa using q1
  refine ⟨(Array.getElem?_eq_some_iff.mp q2).1, fun x H2 hy => ?_⟩
  obtain ⟨rfl, c', e1, rfl⟩ := hy
  rw [q2] at e1; cases e1
  exact ⟨Ext.refl _ _, R, by unfold VR; rfl⟩
theorem ji_of (o : XO X G W k) {tg e : Expr} {f : Ev → AH → Res D} (h : JE X G W e f) : JI X G W tg e (iOf f) := by
  refine ⟨PI.imp (PI.or (PI.or (pi_list h.run) (pi_tup h.run)) (pi_str h.run)) fun σ H R hw => ?_⟩
  obtain ⟨γ, A, env, S, hw⟩ := hw
  unfold iOf at hw
  cases q : f env A with
  | ex x A1 =>
    rw [q] at hw
    exact .inl (.inl ⟨γ, A, env, S, by rw [q]; exact hw⟩)
  | stuck => rw [q] at hw; exact hw.elim
  | ok d A1 =>
    rw [q] at hw
    cases d with
    | tup ds =>
      refine .inl (.inr ⟨γ, A, env, S, ?_⟩)
      rw [q]
      intro γ1 H1 e1 R1 v r1
      unfold VR at r1
      obtain ⟨a, vs, rfl, f, rv⟩ := r1
      exact ⟨a, rfl, ⟨vs, o.gk ▸ f.sq⟩, hw γ1 H1 e1 R1 _ (o.gk ▸ yl_tup f rv)⟩
    | lst ds =>
      refine .inl (.inl ⟨γ, A, env, S, ?_⟩)
      rw [q]
      intro γ1 H1 e1 R1 v r1
      unfold VR at r1
      obtain ⟨a, vs, rfl, f, n, rv⟩ := r1
      exact ⟨a, rfl, ⟨vs, SqL.of f⟩, hw γ1 H1 e1 R1 _ (yl_list f n rv X.K)⟩
    | str z =>
      refine .inr ⟨γ, A, env, S, ?_⟩
      rw [q]
      intro γ1 H1 e1 R1 v r1
      unfold VR at r1
      exact ⟨z, r1, hw γ1 H1 e1 R1 _ (yl_str z)⟩
    | _ => exact hw.elim
/-- range -/
def rngL (lo c : Int) : Nat → List D
  | 0 => []
  | n + 1 => .int lo :: rngL (lo + c) c n
theorem rngL_get (c : Int) : ∀ (n : Nat) (lo : Int) (i : Nat), (rngL lo c n)[i]? = if i < n then some (.int (lo + i * c)) else none
  | 0, lo, i => by simp [rngL]
  | n + 1, lo, 0 => by simp [rngL]
  | n + 1, lo, i + 1 => by
    have ih := rngL_get c n (lo + c) i
    simp only [rngL, List.getElem?_cons_succ, ih, Nat.add_lt_add_iff_right]
    split
    · congr 2
      rw [Int.natCast_add, Int.add_mul]
      omega
    · rfl
theorem rngL_length (c : Int) : ∀ (n : Nat) (lo : Int), (rngL lo c n).length = n
  | 0, _ => rfl
  | n + 1, lo => by simp [rngL, rngL_length c n]
theorem yl_rng {γ : Gh} {H : Hp} (lo : Int) (n : Nat) : Yl G γ H (Itr lo n) (rngL lo 1 n) := by
  intro i γ' H' A e R
  refine ⟨fun d q => ?_, fun q => by rw [rngL_length] at q; exact q⟩
  rw [rngL_get] at q
  split at q
  · rename_i hi
    cases q
    refine ⟨hi, fun x H2 hy => ?_⟩
    obtain ⟨rfl, rfl⟩ := hy
    exact ⟨Ext.refl _ _, R, by unfold VR; rw [Int.mul_one]⟩
  · cases q
def iRange1 (f : Ev → AH → Res (List D)) : Ev → AH → Res (List D) := fun env A => (f env A).bind fun ds A1 => match ds with
  | [.int j] => if j.natAbs < 2 ^ 62 then .ok (rngL 0 1 j.toNat) A1 else .stuck
  | _ => .stuck
def iRange2 (f : Ev → AH → Res (List D)) : Ev → AH → Res (List D) := fun env A => (f env A).bind fun ds A1 => match ds with
  | [.int i, .int j] => if i.natAbs < 2 ^ 62 ∧ j.natAbs < 2 ^ 62 then .ok (rngL i 1 (j - i).toNat) A1 else .stuck
  | _ => .stuck
theorem ji_range1 {tg a : Expr} {p pos : Pos} {f : Ev → AH → Res (List D)} (hg : Gl X "range") (hm : X.mg "range" = none) (ha : JA X G W [a] f) (hs : starEach [a] X.env = [(false, eval a X.env)] := by rfl) : JI X G W tg (.Call (.Name "range" p) [a] [] pos) (iRange1 f) := by
  refine ⟨PI.imp (pi_range1 hg hm ha.run hs) fun σ H R hw => ?_⟩
  obtain ⟨γ, A, env, S, hw⟩ := hw
  refine ⟨γ, A, env, S, Post.bind hw fun ds A1 γ1 H1 e1 R1 h1 vs r1 => ?_⟩
  split at h1
  · obtain ⟨v, rfl, r2⟩ := r1.one
    split at h1
    · rename_i hz
      unfold VR at r2; subst r2
      exact ⟨_, rfl, by omega, by omega, h1 γ1 H1 (Ext.refl _ _) R1 _ (yl_rng 0 _)⟩
    · exact h1.elim
  · exact h1.elim
theorem ji_range2 {tg a b : Expr} {p pos : Pos} {f : Ev → AH → Res (List D)} (hg : Gl X "range") (hm : X.mg "range" = none) (ha : JA X G W [a, b] f) (hs : starEach [a, b] X.env = [(false, eval a X.env), (false, eval b X.env)] := by rfl) (hs2 : starEach [b] X.env = [(false, eval b X.env)] := by rfl) :
    JI X G W tg (.Call (.Name "range" p) [a, b] [] pos) (iRange2 f) := by
  refine ⟨PI.imp (pi_range2 hg hm ha.run hs hs2) fun σ H R hw => ?_⟩
  obtain ⟨γ, A, env, S, hw⟩ := hw
  refine ⟨γ, A, env, S, Post.bind hw fun ds A1 γ1 H1 e1 R1 h1 vs r1 => ?_⟩
  split at h1
  · obtain ⟨v, w, rfl, r2, r3⟩ := r1.two
    split at h1
    · rename_i hz
      unfold VR at r2 r3; subst r2; subst r3
      exact ⟨_, _, rfl, ⟨by omega, by omega, by omega, by omega⟩, h1 γ1 H1 (Ext.refl _ _) R1 _ (yl_rng _ _)⟩
    · exact h1.elim
  · exact h1.elim
/-- zip -/
def zipD : List D → List D → List D
  | x :: xs, y :: ys => .tup [x, y] :: zipD xs ys
  | _, _ => []
theorem zipD_get : ∀ (xs ys : List D) (i : Nat) (d : D), (zipD xs ys)[i]? = some d → ∃ x y, xs[i]? = some x ∧ ys[i]? = some y ∧ d = .tup [x, y]
  | [], ys, i, d, h => by simp [zipD] at h
  | x :: xs, [], i, d, h => by simp [zipD] at h
  | x :: xs, y :: ys, 0, d, h => by simp [zipD] at h; exact ⟨x, y, rfl, rfl, h.symm⟩
  | x :: xs, y :: ys, i + 1, d, h => by
    simp [zipD] at h
    obtain ⟨a, b, h1, h2, h3⟩ := zipD_get xs ys i d h
    exact ⟨a, b, by simpa using h1, by simpa using h2, h3⟩
theorem zipD_length : ∀ (xs ys : List D), (zipD xs ys).length = min xs.length ys.length
  | [], ys => by simp [zipD]
  | x :: xs, [] => by simp [zipD]
  | x :: xs, y :: ys => by simp [zipD, zipD_length xs ys]
theorem new_pair {γ : Gh} {A : AH} {H : Hp} {T : Addr} {d e : D} {v w : V} (R : Rel G γ A H) (hT : H T = none) (h1 : VR G γ H d v) (h2 : VR G γ H e w) : Ext γ H γ (upd H T (.tup [v, w])) ∧ Rel G γ A (upd H T (.tup [v, w])) ∧ VR G γ (upd H T (.tup [v, w])) (.tup [d, e]) (.ref T) :=
  ⟨Ext.laid hT, R.laid hT, VR.newT R hT (VRs.cons h1 (VRs.cons h2 VRs.nil))⟩
theorem yl_zipL {γ : Gh} {H : Hp} {a b : Addr} {ds es : List D} {vs ws : List V} (h : H a = some (.lst vs)) (n : γ.o a = none) (r : VRs G γ H ds vs) (h' : H b = some (.lst ws)) (n' : γ.o b = none) (r' : VRs G γ H es ws) (K : PySem.W.Frag) : Yl G γ H (Itz K a b) (zipD ds es) := by
  intro i γ' H' A e R
  obtain ⟨q, _⟩ := e.keep a _ h n (fun _ z => nomatch z)
  obtain ⟨q', _⟩ := e.keep b _ h' n' (fun _ z => nomatch z)
  refine ⟨fun d z => ?_, fun z => ⟨vs, ws, SqL.of q, SqL.of q', by rw [zipD_length] at z; rw [← r.length, ← r'.length]; omega⟩⟩
  obtain ⟨x, y, z1, z2, rfl⟩ := zipD_get _ _ _ _ z
  obtain ⟨v, e1, rv⟩ := r.get z1
  obtain ⟨w, e2, rw'⟩ := r'.get z2
  refine ⟨⟨vs, ws, v, w, SqL.of q, SqL.of q', e1, e2⟩, fun u H2 hy => ?_⟩
  obtain ⟨T, x', y', rfl, hT, rfl, hx, hy⟩ := hy
  have k1 := hx vs (SqL.of q)
  have k2 := hy ws (SqL.of q')
  rw [e1] at k1; cases k1
  rw [e2] at k2; cases k2
  exact new_pair R hT (VR.ext0 e _ _ rv) (VR.ext0 e _ _ rw')
theorem yl_zipT {γ : Gh} {H : Hp} {a b : Addr} {ds es : List D} {vs ws : List V} (f : FxT G γ H a vs) (r : VRs G γ H ds vs) (f' : FxT G γ H b ws) (r' : VRs G γ H es ws) : Yl G γ H (RZ.ItzT G.K a b) (zipD ds es) := by
  intro i γ' H' A e R
  have q := (e.fxT f).sq
  have q' := (e.fxT f').sq
  refine ⟨fun d z => ?_, fun z => ⟨vs, ws, q, q', by rw [zipD_length] at z; rw [← r.length, ← r'.length]; omega⟩⟩
  obtain ⟨x, y, z1, z2, rfl⟩ := zipD_get _ _ _ _ z
  obtain ⟨v, e1, rv⟩ := r.get z1
  obtain ⟨w, e2, rw'⟩ := r'.get z2
  refine ⟨⟨vs, ws, v, w, q, q', e1, e2⟩, fun u H2 hy => ?_⟩
  obtain ⟨T, x', y', rfl, hT, rfl, hx, hy⟩ := hy
  have k1 := hx vs q
  have k2 := hy ws q'
  rw [e1] at k1; cases k1
  rw [e2] at k2; cases k2
  exact new_pair R hT (VR.ext0 e _ _ rv) (VR.ext0 e _ _ rw')
def iZip2 (f : Ev → AH → Res (List D)) : Ev → AH → Res (List D) := fun env A => (f env A).bind fun ds A1 => match ds with
  | [.tup xs, .tup ys] => .ok (zipD xs ys) A1
  | [.lst xs, .lst ys] => .ok (zipD xs ys) A1
  | _ => .stuck
theorem ji_zip (o : XO X G W k) {e e2 : Expr} {p pos tpos : Pos} {elts : List Expr} {kk : Nat} {f : Ev → AH → Res (List D)} (hg : Gl X "zip") (hm : X.mg "zip" = none) (ha : JA X G W [e, e2] f)
    (hs : starEach [e, e2] X.env = (false, eval e X.env) :: starEach [e2] X.env := by rfl) (hs2 : ((backTo pos (starEach [e2] X.env)).any fun x => x.fst) = false := by rfl) : JI X G W (.Tuple elts kk tpos) (.Call (.Name "zip" p) [e, e2] [] pos) (iZip2 f) := by
  refine ⟨PI.imp (RZ.pi_zipA hg hm ha.run hs hs2) fun σ H R hw => ?_⟩
  obtain ⟨γ, A, env, S, hw⟩ := hw
  refine ⟨γ, A, env, S, Post.bind hw fun ds A1 γ1 H1 e1 R1 h1 vs r1 => ?_⟩
  split at h1
  · obtain ⟨v, w, rfl, r2, r3⟩ := r1.two
    unfold VR at r2 r3
    obtain ⟨a, us, rfl, f1, q1⟩ := r2
    obtain ⟨b, ws, rfl, f2, q2⟩ := r3
    exact ⟨a, b, us, ws, rfl, .inr ⟨o.gk ▸ f1.sq, o.gk ▸ f2.sq, h1 γ1 H1 (Ext.refl _ _) R1 _ (o.gk ▸ yl_zipT f1 q1 f2 q2)⟩⟩
  · obtain ⟨v, w, rfl, r2, r3⟩ := r1.two
    unfold VR at r2 r3
    obtain ⟨a, us, rfl, f1, n1, q1⟩ := r2
    obtain ⟨b, ws, rfl, f2, n2, q2⟩ := r3
    exact ⟨a, b, us, ws, rfl, .inl ⟨SqL.of f1, SqL.of f2, h1 γ1 H1 (Ext.refl _ _) R1 _ (yl_zipL f1 n1 q1 f2 n2 q2 X.K)⟩⟩
  · exact h1.elim
/-- enumerate of a list -/
def enumD : Nat → List D → List D
  | _, [] => []
  | i, d :: ds => .tup [.int i, d] :: enumD (i + 1) ds
theorem enumD_get : ∀ (ds : List D) (n i : Nat) (d : D), (enumD n ds)[i]? = some d → ∃ x, ds[i]? = some x ∧ d = .tup [.int ((n + i : Nat) : Int), x]
  | [], n, i, d, h => by simp [enumD] at h
  | x :: xs, n, 0, d, h => by simp [enumD] at h; exact ⟨x, rfl, h.symm⟩
  | x :: xs, n, i + 1, d, h => by
    simp [enumD] at h
    obtain ⟨a, h1, h2⟩ := enumD_get xs (n + 1) i d h
    exact ⟨a, by simpa using h1, by rw [h2]; congr 3; omega⟩
theorem enumD_length : ∀ (ds : List D) (n : Nat), (enumD n ds).length = ds.length
  | [], _ => rfl
  | d :: ds, n => by simp [enumD, enumD_length ds]
theorem yl_enum {γ : Gh} {H : Hp} {a : Addr} {ds : List D} {vs : List V} (h : H a = some (.lst vs)) (n : γ.o a = none) (r : VRs G γ H ds vs) (K : PySem.W.Frag) : Yl G γ H (Ite K a) (enumD 0 ds) := by
  intro i γ' H' A e R
  obtain ⟨q, _⟩ := e.keep a _ h n (fun _ z => nomatch z)
  refine ⟨fun d z => ?_, fun z => ⟨vs, SqL.of q, by rw [enumD_length] at z; rw [← r.length]; exact z⟩⟩
  obtain ⟨x, z1, rfl⟩ := enumD_get _ _ _ _ z
  obtain ⟨v, e1, rv⟩ := r.get z1
  refine ⟨⟨vs, v, SqL.of q, e1⟩, fun u H2 hy => ?_⟩
  obtain ⟨T, x', rfl, hT, rfl, hx⟩ := hy
  have k1 := hx vs (SqL.of q)
  rw [e1] at k1; cases k1
  rw [Nat.zero_add]
  exact new_pair R hT (by unfold VR; rfl) (VR.ext0 e _ _ rv)
def iEnum1 (f : Ev → AH → Res (List D)) : Ev → AH → Res (List D) := fun env A => (f env A).bind fun ds A1 => match ds with
  | [.lst xs] => .ok (enumD 0 xs) A1
  | _ => .stuck
theorem ji_enum {e : Expr} {p pos tpos : Pos} {elts : List Expr} {kk : Nat} {f : Ev → AH → Res (List D)} (hg : Gl X "enumerate") (hm : X.mg "enumerate" = none) (ha : JA X G W [e] f) (hs : starEach [e] X.env = [(false, eval e X.env)] := by rfl) :
    JI X G W (.Tuple elts kk tpos) (.Call (.Name "enumerate" p) [e] [] pos) (iEnum1 f) := by
  refine ⟨PI.imp (pi_enum hg hm ha.run hs) fun σ H R hw => ?_⟩
  obtain ⟨γ, A, env, S, hw⟩ := hw
  refine ⟨γ, A, env, S, Post.bind hw fun ds A1 γ1 H1 e1 R1 h1 vs r1 => ?_⟩
  split at h1
  · obtain ⟨v, rfl, r2⟩ := r1.one
    unfold VR at r2
    obtain ⟨a, us, rfl, f1, n1, q1⟩ := r2
    exact ⟨a, us, rfl, SqL.of f1, h1 γ1 H1 (Ext.refl _ _) R1 _ (yl_enum f1 n1 q1 X.K)⟩
  · exact h1.elim
/-! ### lists that are changed -/
theorem put_list {γ : Gh} {A : AH} {H : Hp} {i : Nat} {v : V} {ds ds' : List D} {vs' : List V} (R : Rel G γ A H) (h : VR G γ H (.ref i) v) (e : A[i]? = some (.lst ds)) :
    ∃ a vs, v = .ref a ∧ H a = some (.lst vs) ∧ VRs G γ H ds vs ∧ (VRs G γ H ds' vs' → Ext γ H γ (upd H a (.lst vs')) ∧ Rel G γ (A.set i (.lst ds')) (upd H a (.lst vs'))) := by
  unfold VR at h
  obtain ⟨a, rfl, h1⟩ := h
  obtain ⟨a', h2, h3, vs, h4, h5⟩ := R.at_ i _ e
  rw [h1] at h2; cases h2
  refine ⟨a, vs, rfl, h4, h5, fun r => ?_⟩
  have fz : ∀ b o u, γ.o b = some (some i) → H b = some (.frz o u) → upd H a (.lst vs') b = some (.frz o u) := fun b o u _ e => by
    by_cases z : b = a
    · subst z; rw [h4] at e; cases e
    · rw [upd_ne z]; exact e
  have E : Ext γ H γ (upd H a (.lst vs')) := Ext.put (i := i) (fun b hb => upd_ne fun z => hb (by rw [z]; exact h3)) fz
  refine ⟨E, R.put h1 (fun b hb => upd_ne fun z => hb (by rw [z]; exact h3)) (fun b hb => ?_) ⟨vs', upd_same, VRs.ext E _ _ r⟩ (fun b xs hb e => by
    by_cases z : b = a
    · subst z; rw [upd_same] at e; cases e
    · rw [upd_ne z] at e; rw [R.tupo b xs e] at hb; cases hb) fz⟩
  by_cases z : b = a
  · subst z; rw [upd_same]; exact (fun q => nomatch q)
  · rw [upd_ne z]; exact (R.dom b _ hb).1
/-- xs.append(e) -/
def sAppend (fa fb : Ev → AH → Res D) : Ev → AH → Res D := fun env A => (fa env A).bind fun x A1 => match x with
  | .ref i => match A1[i]? with
    | some (.lst _) => (fb env A1).bind fun d A2 => match A2[i]? with
      | some (.lst ds) => if ds.length < sizeLine then .ok .non (A2.set i (.lst (ds ++ [d]))) else .stuck
      | _ => .stuck
    | _ => .stuck
  | _ => .stuck
theorem je_append (o : XO X G W k) {a b : Expr} {apos cpos : Pos} {fa fb : Ev → AH → Res D} (ha : JE X G W a fa) (hb : JE X G W b fb) (hbase : attributeBase a "append" X.env (eval a X.env) = eval a X.env := by rfl)
    (hfew : ((backTo cpos (starEach [b] X.env)).all (fun x => !x.1) && (backToKw cpos (keywordEach [] X.env)).all (fun x => x.1.isSome)
      && decide ([b].length + ([] : List Keyword).length + (if ([] : List Keyword).isEmpty then 0 else 1) < 30)) = true := by rfl)
    (hline : (apos.endLine == cpos.line) = true := by rfl) (hs : starEach [b] X.env = (false, eval b X.env) :: starEach [] X.env := by rfl) (hplain : (backTo cpos (starEach [] X.env)).any (·.1) = false := by rfl) :
    JE X G W (.Call (.Attribute a "append" apos) [b] [] cpos) (sAppend fa fb) := by
  refine ⟨PE.imp (pe_bm F.plainAttrs_list F.slot_list_append F.type_list_append mt_append ha.run (pa_cons hb.run pa_nil hs) hbase hfew hline hs hplain) fun σ H Q h => ?_⟩
  obtain ⟨γ, A, env, S, h⟩ := h
  refine ⟨γ, A, env, S, Post.bind h fun x A1 γ1 H1 e1 R1 h1 v r1 => ?_⟩
  split at h1
  · rename_i i
    split at h1
    · rename_i ds0 q0
      obtain ⟨a0, vs0, rfl, hl0, _, _⟩ := put_list (ds' := []) (vs' := []) R1 r1 q0
      refine ⟨.inl ⟨rfl, vs0, SqL.of hl0⟩, γ1, A1, env, S.to e1 R1, Post.bind h1 fun d A2 γ2 H2 e2 R2 h2 w r2 => ?_⟩
      have r1' := VR.ext e2 _ _ r1
      split at h2
      · rename_i ds q
        split at h2
        · rename_i hz
          obtain ⟨a1, vs, e3, hl, rv, put⟩ := put_list (ds' := ds ++ [d]) (vs' := vs0) R2 r1' q
          cases e3
          obtain ⟨a2, vs2, e3, hl2, rv2, put⟩ := put_list (ds' := ds ++ [d]) (vs' := vs ++ [w]) R2 r1' q
          cases e3
          rw [hl] at hl2; cases hl2
          obtain ⟨E, R3⟩ := put (rv.append (VRs.cons r2 VRs.nil))
          exact ⟨a0, vs, w, rfl, rfl, hl, by rw [← rv.length]; exact hz, h2 γ2 _ E R3 _ (by unfold VR; rfl)⟩
        · exact h2.elim
      · exact h2.elim
    · exact h1.elim
  · exact h1.elim
/-- xs[i] = e -/
def bStore (fo fi fe : Ev → AH → Res D) : Ev → AH → SR := fun env A => lft (fe env A) env fun d A1 => lft (fo env A1) env fun x A2 => lft (fi env A2) env fun y A3 => match x, y with
  | .ref r, .int n => match A3[r]? with
    | some (.lst ds) => match ixN ds.length n with
      | some j => .nx env (A3.set r (.lst (ds.set j d)))
      | none => .stuck
    | _ => .stuck
  | _, _ => .stuck
theorem js_store {ob ix e : Expr} {pos spos : Pos} {fo fi fe : Ev → AH → Res D} (ho : JE X G W ob fo) (hi : JE X G W ix fi) (he : JE X G W e fe) (ha : ∀ v, assign (.Subscript ob ix spos) X.env v = (do
      let ov ← holding [v] (eval ob X.env)
      let iv ← holding [v, ov] (eval ix X.env)
      standAt spos
      holding [v, ov, iv] (setItem ov iv v)
      release [v, ov, iv] []) := by intro _; rfl)
    (hs : swapsWithSole [.Subscript ob ix spos] e pos.line X.env = pure false := by rfl) (hw : swappedStores [.Subscript ob ix spos] e X.env = pure none := by rfl) (h1 : (assignEach [.Subscript ob ix spos] X.env).map (·.2) = [assign (.Subscript ob ix spos) X.env] := by rfl) :
    JS X G W (.Assign [.Subscript ob ix spos] e pos) (bStore fo fi fe) := by
  refine ⟨PS.imp (ps_asg he.run (pg_sub ho.run hi.run set_list ha) hs hw h1) fun E σ H h => ?_⟩
  obtain ⟨γ, A, env, S, h⟩ := h
  refine ⟨γ, A, env, S, PostS.lft S h fun d A1 γ1 H1 e1 R1 h1 v r1 => ?_⟩
  have S1 := S.to e1 R1
  refine ⟨γ1, A1, env, S1, PostS.lft S1 h1 fun x A2 γ2 H2 e2 R2 h2 p r2 => ?_⟩
  have S2 := S1.to e2 R2
  refine ⟨γ2, A2, env, S2, PostS.lft S2 h2 fun y A3 γ3 H3 e3 R3 h3 q r3 => ?_⟩
  have S3 := S2.to e3 R3
  split at h3
  · rename_i r n
    split at h3
    · rename_i ds q1
      split at h3
      · rename_i j q2
        unfold VR at r3; subst r3
        have rv := VR.ext (e2.trans e3) _ _ r1
        obtain ⟨a0, vs, rfl, hl, rvs, _⟩ := put_list (ds' := ds) (vs' := []) R3 (VR.ext e3 _ _ r2) q1
        obtain ⟨a1, vs1, e4, hl1, rvs1, put⟩ := put_list (ds' := ds.set j d) (vs' := vs.set j v) R3 (VR.ext e3 _ _ r2) q1
        cases e4
        rw [hl] at hl1; cases hl1
        obtain ⟨E', R4⟩ := put (rvs.set rv j)
        exact ⟨a0, vs, n, j, rfl, rfl, hl, by rw [← rvs.length]; exact q2, h3 γ3 _ σ E' (S3.to E' R4)⟩
      · exact h3.elim
    · exact h3.elim
  · exact h3.elim
end
end F3
namespace F3
open PySem PySem.Spec
open PyProof.Rows L2
/-! ### behind a def: what it made is changed no more -/
def frzL (f : D → Option D) : List D → Option (List D)
  | [] => some []
  | d :: ds => match f d, frzL f ds with
    | some e, some es => some (e :: es)
    | _, _ => none
def allSome : List (Option D) → Option (List D)
  | [] => some []
  | some d :: r => (allSome r).map (d :: ·)
  | none :: _ => none
def frz (A : AH) (n : Nat) : Nat → D → Option D
  | 0, _ => none
  | k + 1, d => match d with
    | .tup ds => (frzL (frz A n k) ds).map .tup
    | .lst ds => (frzL (frz A n k) ds).map .lst
    | .scr ds => (frzL (frz A n k) ds).map .scr
    | .ins c ds => (frzL (frz A n k) ds).map (.ins c)
    | .dct t ks ds => (frzL (frz A n k) ds).map (.dct t ks)
    | .ref i => if i < n then some (.ref i) else match A[i]? with
      | some (.lst ds) => (frzL (frz A n k) ds).map .lst
      | some (.ins c fs) => match fs, allSome fs with
        | _ :: _, some ds => (frzL (frz A n k) ds).map (.ins c)
        | _, _ => none
      | some (.fdct t ks ds) => (frzL (frz A n k) ds).map (.dct t ks)
      | _ => none
    | .fn => none
    | d => some d
mutual
def below (n : Nat) : D → Bool
  | .ref i => decide (i < n)
  | .tup ds => belows n ds
  | .lst ds => belows n ds
  | .scr ds => belows n ds
  | .ins _ ds => belows n ds
  | .dct _ _ ds => belows n ds
  | .fn => false
  | _ => true
def belows (n : Nat) : List D → Bool
  | [] => true
  | d :: ds => below n d && belows n ds
end
def belowF (n : Nat) : List (Option D) → Bool
  | [] => true
  | some d :: r => below n d && belowF n r
  | none :: r => belowF n r
def belowO (n : Nat) : AO → Bool
  | .lst ds => belows n ds
  | .ins _ fs => belowF n fs
  | .dct _ _ ds => belows n ds
  | .fdct _ _ ds => belows n ds
  | .dead => true
def belowsO (n : Nat) : List AO → Bool
  | [] => true
  | o :: r => belowO n o && belowsO n r
/-- what a def hands back: its own lists laid still, its own things forgotten -/
def clean (n : Nat) (d : D) (A : AH) : Res D :=
  if A.length = n then .ok d A else
    match frz A n 30 d with
    | some d' => if belowsO n (A.take n) then .ok d' (A.take n) else .ok d A
    | none => .ok d A
def Gh.cut (γ : Gh) (n : Nat) : Gh := ⟨γ.ρ.take n, fun a => match γ.o a with
  | some (some i) => if i < n then some (some i) else none
  | x => x⟩
section
variable {G : Gc} {γ : Gh} {H : Hp} {A : AH} {n : Nat}
theorem cut_none {a : Addr} (h : γ.o a = none) : (γ.cut n).o a = none := by show (match γ.o a with | some (some i) => _ | x => x) = none; rw [h]
theorem cut_hid {a : Addr} (h : γ.o a = some none) : (γ.cut n).o a = some none := by show (match γ.o a with | some (some i) => _ | x => x) = some none; rw [h]
theorem cut_lt {a : Addr} {i : Nat} (h : γ.o a = some (some i)) (hi : i < n) : (γ.cut n).o a = some (some i) := by
  show (match γ.o a with | some (some i) => if i < n then some (some i) else none | x => x) = some (some i)
  rw [h]; exact if_pos hi
theorem cut_ge {a : Addr} {i : Nat} (h : γ.o a = some (some i)) (hi : n ≤ i) : (γ.cut n).o a = none := by
  show (match γ.o a with | some (some i) => if i < n then some (some i) else none | x => x) = none
  rw [h]; exact if_neg (by omega)
theorem cut_some {a : Addr} {x : Option Nat} (h : (γ.cut n).o a = some x) : γ.o a = some x ∧ ∀ i, x = some i → i < n := by
  cases e : γ.o a with
  | none => rw [cut_none e] at h; cases h
  | some y =>
    cases y with
    | none => rw [cut_hid e] at h; cases h; exact ⟨rfl, fun _ z => nomatch z⟩
    | some i =>
      by_cases hi : i < n
      · rw [cut_lt e hi] at h; cases h; exact ⟨rfl, fun j z => by cases z; exact hi⟩
      · rw [cut_ge e (by omega)] at h; cases h
theorem cut_fxT {a : Addr} {xs : List V} (h : FxT G γ H a xs) : FxT G (γ.cut n) H a xs := ⟨h.1, cut_none h.2⟩
theorem cut_fxL {a : Addr} {xs : List V} (h : FxL G γ H a xs) : FxL G (γ.cut n) H a xs := h.elim (fun h => .inl ⟨h.1, cut_none h.2⟩) .inr
mutual
theorem VR.below : ∀ (d : D) (v : V), VR G γ H d v → below n d = true → VR G (γ.cut n) H d v
  | .non, v, h, _ => by unfold VR at h ⊢; exact h
  | .bl b, v, h, _ => by unfold VR at h ⊢; exact h
  | .int b, v, h, _ => by unfold VR at h ⊢; exact h
  | .str b, v, h, _ => by unfold VR at h ⊢; exact h
  | .tup ds, v, h, b => by
    unfold VR at h ⊢; unfold F3.below at b
    obtain ⟨a, vs, e1, f, r⟩ := h
    exact ⟨a, vs, e1, cut_fxT f, VRs.below ds vs r b⟩
  | .lst ds, v, h, b => by
    unfold VR at h ⊢; unfold F3.below at b
    obtain ⟨a, vs, e1, f, n0, r⟩ := h
    exact ⟨a, vs, e1, f, cut_none n0, VRs.below ds vs r b⟩
  | .scr ds, v, h, b => by
    unfold VR at h ⊢; unfold F3.below at b
    obtain ⟨a, vs, e1, f, r⟩ := h
    exact ⟨a, vs, e1, cut_fxL f, VRs.below ds vs r b⟩
  | .ins c ds, v, h, b => by
    unfold VR at h ⊢; unfold F3.below at b
    obtain ⟨a, C, dx, vs, e1, n1, n2, hc, h1, h2, r⟩ := h
    exact ⟨a, C, dx, vs, e1, cut_none n1, cut_none n2, hc, h1, h2, VRs.below ds vs r b⟩
  | .dct t ks ds, v, h, b => by
    unfold VR at h ⊢; unfold F3.below at b
    obtain ⟨a, o, u, vs, e1, n1, h1, hk, r⟩ := h
    exact ⟨a, o, u, vs, e1, cut_none n1, h1, hk, VRs.below ds _ r b⟩
  | .ref i, v, h, b => by
    unfold VR at h ⊢; unfold F3.below at b
    obtain ⟨a, e1, h⟩ := h
    refine ⟨a, e1, ?_⟩
    show (γ.ρ.take n)[i]? = some a
    rw [List.getElem?_take_of_lt (of_decide_eq_true b)]; exact h
  | .fn, v, h, b => by cases b
theorem VRs.below : ∀ (ds : List D) (vs : List V), VRs G γ H ds vs → belows n ds = true → VRs G (γ.cut n) H ds vs
  | [], vs, h, _ => by unfold VRs at h ⊢; exact h
  | d :: ds, vs, h, b => by
    unfold VRs at h ⊢; unfold belows at b
    rw [Bool.and_eq_true] at b
    obtain ⟨v, r, e1, h1, h2⟩ := h
    exact ⟨v, r, e1, VR.below d v h1 b.1, VRs.below ds r h2 b.2⟩
end
theorem FRs.below : ∀ {fs : List (Option D)} {vs : List (Option V)}, FRs G γ H fs vs → belowF n fs = true → FRs G (γ.cut n) H fs vs
  | [], vs, h, _ => h
  | none :: fs, vs, h, b => by
    obtain ⟨vo, r, rfl, h1, h2⟩ := h
    exact ⟨vo, r, rfl, by cases vo <;> exact h1, FRs.below h2 b⟩
  | some d :: fs, vs, h, b => by
    obtain ⟨vo, r, rfl, h1, h2⟩ := h
    unfold belowF at b
    rw [Bool.and_eq_true] at b
    refine ⟨vo, r, rfl, ?_, FRs.below h2 b.2⟩
    cases vo with
    | none => exact h1
    | some v => exact VR.below d v h1 b.1
theorem belowsO_at : ∀ {l : List AO} {i : Nat} {o : AO}, belowsO n l = true → l[i]? = some o → belowO n o = true
  | [], i, o, _, e => by simp at e
  | x :: l, 0, o, b, e => by
    unfold belowsO at b; rw [Bool.and_eq_true] at b
    simp at e; subst e; exact b.1
  | x :: l, i + 1, o, b, e => by
    unfold belowsO at b; rw [Bool.and_eq_true] at b
    exact belowsO_at b.2 (by simpa using e)
theorem Rel.cut (R : Rel G γ A H) (b : belowsO n (A.take n) = true) : Rel G (γ.cut n) (A.take n) H := by
  refine ⟨by show (γ.ρ.take n).length = _; rw [List.length_take, List.length_take, R.len], fun i o e => ?_, fun a x e => ?_, fun q hq => ?_, fun a xs e => cut_none (R.tupo a xs e)⟩
  · have hi : i < n := by
      have := (List.getElem?_eq_some_iff.mp e).1
      rw [List.length_take] at this; omega
    have bo := belowsO_at b e
    rw [List.getElem?_take_of_lt hi] at e
    obtain ⟨a, e1, e2, r⟩ := R.at_ i o e
    refine ⟨a, by show (γ.ρ.take n)[i]? = some a; rw [List.getElem?_take_of_lt hi]; exact e1, cut_lt e2 hi, ?_⟩
    cases o with
    | lst ds => obtain ⟨vs, h1, r⟩ := r; exact ⟨vs, h1, VRs.below _ _ r bo⟩
    | ins c fs =>
      obtain ⟨C, dx, vs, hc, hs, h1, hn, r⟩ := r
      exact ⟨C, dx, vs, hc, hs, cut_lt h1 hi, hn, FRs.below r bo⟩
    | dct t ks ds => obtain ⟨u, vs, h1, h2, r⟩ := r; exact ⟨u, vs, h1, h2, VRs.below _ _ r bo⟩
    | fdct t ks ds => obtain ⟨o, u, vs, h1, h2, r⟩ := r; exact ⟨o, u, vs, h1, h2, VRs.below _ _ r bo⟩
    | dead => trivial
  · obtain ⟨h1, h2⟩ := cut_some e
    obtain ⟨h3, h4⟩ := R.dom a x h1
    refine ⟨h3, fun i z => ?_⟩
    have := h2 i z
    have := h4 i z
    rw [List.length_take]; omega
  · obtain ⟨n0, ps, h1, h2, h3⟩ := R.tab q hq
    refine ⟨cut_none n0, ps, h1, h2, fun pos cv hc => ?_⟩
    obtain ⟨c, c1, c2, c3⟩ := h3 pos cv hc
    exact ⟨c, c1, c2, cut_none c3⟩
theorem FRs.all : ∀ {fs : List (Option D)} {vs : List (Option V)} {ds : List D}, FRs G γ H fs vs → allSome fs = some ds → ∃ us, vs = us.map some ∧ VRs G γ H ds us
  | [], vs, ds, h, e => by unfold allSome at e; cases e; exact ⟨[], h, VRs.nil⟩
  | none :: fs, vs, ds, h, e => by unfold allSome at e; cases e
  | some d :: fs, vs, ds, h, e => by
    unfold allSome at e
    obtain ⟨es, e1, rfl⟩ := Option.map_eq_some_iff.mp e
    obtain ⟨vo, r, rfl, h1, h2⟩ := h
    obtain ⟨us, rfl, h3⟩ := FRs.all h2 e1
    cases vo with
    | none => exact h1.elim
    | some v => exact ⟨v :: us, rfl, VRs.cons h1 h3⟩
theorem frzL_of {f : D → Option D} (hf : ∀ d d' v, f d = some d' → VR G γ H d v → VR G (γ.cut n) H d' v) : ∀ {ds ds' : List D} {vs : List V}, frzL f ds = some ds' → VRs G γ H ds vs → VRs G (γ.cut n) H ds' vs
  | [], ds', vs, e, h => by unfold frzL at e; cases e; unfold VRs at h ⊢; exact h
  | d :: ds, ds', vs, e, h => by
    unfold frzL at e
    unfold VRs at h
    obtain ⟨v, r, rfl, h1, h2⟩ := h
    cases q1 : f d with
    | none => rw [q1] at e; cases e
    | some d1 =>
      cases q2 : frzL f ds with
      | none => rw [q1, q2] at e; cases e
      | some es =>
        rw [q1, q2] at e; cases e
        exact VRs.cons (hf d d1 v q1 h1) (frzL_of hf q2 h2)
theorem frz_of (R : Rel G γ A H) : ∀ (k : Nat) (d d' : D) (v : V), frz A n k d = some d' → VR G γ H d v → VR G (γ.cut n) H d' v
  | 0, d, d', v, e, h => by unfold frz at e; cases e
  | k + 1, d, d', v, e, h => by
    have ih := fun d d' v => frz_of R k d d' v
    unfold frz at e
    cases d with
    | non => cases e; unfold VR at h ⊢; exact h
    | bl _ => cases e; unfold VR at h ⊢; exact h
    | int _ => cases e; unfold VR at h ⊢; exact h
    | str _ => cases e; unfold VR at h ⊢; exact h
    | fn => cases e
    | tup ds =>
      obtain ⟨es, e1, rfl⟩ := Option.map_eq_some_iff.mp e
      unfold VR at h ⊢
      obtain ⟨a, vs, e2, f, r⟩ := h
      exact ⟨a, vs, e2, cut_fxT f, frzL_of ih e1 r⟩
    | lst ds =>
      obtain ⟨es, e1, rfl⟩ := Option.map_eq_some_iff.mp e
      unfold VR at h ⊢
      obtain ⟨a, vs, e2, f, n0, r⟩ := h
      exact ⟨a, vs, e2, f, cut_none n0, frzL_of ih e1 r⟩
    | scr ds =>
      obtain ⟨es, e1, rfl⟩ := Option.map_eq_some_iff.mp e
      unfold VR at h ⊢
      obtain ⟨a, vs, e2, f, r⟩ := h
      exact ⟨a, vs, e2, cut_fxL f, frzL_of ih e1 r⟩
    | ins c ds =>
      obtain ⟨es, e1, rfl⟩ := Option.map_eq_some_iff.mp e
      unfold VR at h ⊢
      obtain ⟨a, C, dx, vs, e2, n1, n2, hc, h1, h2, r⟩ := h
      exact ⟨a, C, dx, vs, e2, cut_none n1, cut_none n2, hc, h1, h2, frzL_of ih e1 r⟩
    | dct t ks ds =>
      obtain ⟨es, e1, rfl⟩ := Option.map_eq_some_iff.mp e
      unfold VR at h ⊢
      obtain ⟨a, o, u, vs, e2, n1, h1, hk, r⟩ := h
      exact ⟨a, o, u, vs, e2, cut_none n1, h1, hk, frzL_of ih e1 r⟩
    | ref i =>
      simp only at e
      unfold VR at h
      obtain ⟨a, rfl, h0⟩ := h
      split at e
      · rename_i hi
        cases e
        unfold VR
        exact ⟨a, rfl, by show (γ.ρ.take n)[i]? = some a; rw [List.getElem?_take_of_lt hi]; exact h0⟩
      · rename_i hi
        have hi : n ≤ i := by omega
        split at e
        · rename_i ds q
          obtain ⟨es, e1, rfl⟩ := Option.map_eq_some_iff.mp e
          obtain ⟨a', k1, k2, vs, k3, k4⟩ := R.at_ i _ q
          rw [h0] at k1; cases k1
          unfold VR
          exact ⟨a, vs, rfl, k3, cut_ge k2 hi, frzL_of ih e1 k4⟩
        · rename_i c fs q
          split at e
          · rename_i fo fr ds e0
            obtain ⟨es, e1, rfl⟩ := Option.map_eq_some_iff.mp e
            obtain ⟨a', k1, k2, C, dx, vs, hc, hs, k5, k6, k7⟩ := R.at_ i _ q
            rw [h0] at k1; cases k1
            obtain ⟨us, rfl, rv⟩ := FRs.all k7 e0
            unfold VR
            rcases hs with ⟨_, z⟩ | ⟨z1, z2⟩
            · exfalso
              obtain ⟨vo, r, z2, _⟩ := k7
              rw [z] at z2; cases z2
            · exact ⟨a, C, dx, us, rfl, cut_ge k2 hi, cut_ge k5 hi, hc, z1, z2, frzL_of ih e1 rv⟩
          · cases e
        · rename_i t ks ds q
          obtain ⟨es, e1, rfl⟩ := Option.map_eq_some_iff.mp e
          obtain ⟨a', k1, k2, o, u, vs, r1, r2, r3⟩ := R.at_ i _ q
          rw [h0] at k1; cases k1
          unfold VR
          exact ⟨a, o, u, vs, rfl, cut_ge k2 hi, r1, r2, frzL_of ih e1 r3⟩
        · cases e
theorem Ext.cut {γ0 : Gh} {A0 : AH} {H0 : Hp} (R0 : Rel G γ0 A0 H0) (e : Ext γ0 H0 γ H) (hn : A0.length = n) : Ext γ0 H0 (γ.cut n) H := by
  refine ⟨⟨fun i a q => ?_, fun a ob q z t => ⟨(e.keep a ob q z t).1, cut_none (e.keep a ob q z t).2⟩, fun a o u q => e.frz _ _ _ q⟩, fun a ob q z => ⟨(e.hid a ob q z).1, cut_hid (e.hid a ob q z).2⟩⟩
  have hi : i < n := by
    have := (List.getElem?_eq_some_iff.mp q).1
    rw [R0.len] at this; omega
  show (γ.ρ.take n)[i]? = some a
  rw [List.getElem?_take_of_lt hi]; exact e.ρ i a q
/-- the run of a def, cleaned -/
theorem Post.clean {γ0 : Gh} {A0 : AH} {H0 : Hp} {d : D} {A1 : AH} {Q : VK} {Wx : WXe} (R0 : Rel G γ0 A0 H0) (h : Post G γ0 H0 (clean A0.length d A1) (fun γ' _ H' d => ∀ v, VR G γ' H' d v → Q v H') Wx) :
    ∀ γ' H' v, Ext γ0 H0 γ' H' → Rel G γ' A1 H' → VR G γ' H' d v → Q v H' := by
  intro γ' H' v e R r
  unfold F3.clean at h
  split at h
  · exact h γ' H' e R v r
  · split at h
    · rename_i d' q
      split at h
      · rename_i b
        exact h (γ'.cut A0.length) H' (e.cut R0 rfl) (R.cut b) v (frz_of R _ _ _ _ q r)
      · exact h γ' H' e R v r
    · exact h γ' H' e R v r
theorem XR.cut (R : Rel G γ A H) {x : Xn} {args : List D} {cls : Value} {ad : Option Addr} (h : XR G γ H x cls ad) (e : frzL (frz A n 30) x.args = some args) : XR G (γ.cut n) H ⟨x.c, args⟩ cls ad := by
  obtain ⟨C, h1, h2, h3 | ⟨d, a, v, h3, h4, h5, h5', h6⟩⟩ := h
  · rw [h3.1] at e
    unfold frzL at e
    cases e
    exact ⟨C, h1, h2, .inl ⟨rfl, h3.2⟩⟩
  · rw [h3] at e
    unfold frzL at e
    cases q : frz A n 30 d with
    | none => rw [q] at e; cases e
    | some d' =>
      rw [q] at e
      cases e
      exact ⟨C, h1, h2, .inr ⟨d', a, v, rfl, h4, h5, cut_none h5', frz_of R _ _ _ _ q h6⟩⟩
/-- .. of an error -/
def cleanX (n : Nat) (x : Xn) (A : AH) : Res D :=
  if A.length = n then .ex x A else
    match frzL (frz A n 30) x.args with
    | some args => if belowsO n (A.take n) then .ex ⟨x.c, args⟩ (A.take n) else .ex x A
    | none => .ex x A
theorem Post.cleanX {γ0 : Gh} {A0 : AH} {H0 : Hp} {x : Xn} {A1 : AH} {Q : Gh → AH → Hp → D → Prop} {Wx : WXe} (R0 : Rel G γ0 A0 H0) (h : Post G γ0 H0 (cleanX A0.length x A1) Q Wx) :
    ∀ γ' H' cls ad, Ext γ0 H0 γ' H' → Rel G γ' A1 H' → XR G γ' H' x cls ad → Wx cls ad H' := by
  intro γ' H' cls ad e R r
  unfold F3.cleanX at h
  split at h
  · exact h γ' H' cls ad e R r
  · split at h
    · rename_i args q
      split at h
      · rename_i b
        exact h (γ'.cut A0.length) H' cls ad (e.cut R0 rfl) (R.cut b) (r.cut R q)
      · exact h γ' H' cls ad e R r
    · exact h γ' H' cls ad e R r
end
end F3
namespace F3
open PySem PySem.Spec
open PyProof.Rows L2
/-! ### what a def does, whatever stands around -/
def FnG (P : Program) (w : World) (K : PySem.W.Frag) (mg : Str → Option Value) (base : Heap) (G : Gc) (k : Nat) (f : Addr) (m : List D → AH → Res D) : Prop :=
  ∀ (A : Around) (outer : List Env) (s : Shared) (H : Hp) (us : List Value) (vs : List V) (ds : List D) (γ : Gh) (Ah : AH) (Q : VK) (E : XK), Room k A → A.guards = some [] → Env0 P w K mg base A outer s H → Vals vs us → Rel G γ Ah H → VRs G γ H ds vs →
    Post G γ H (m ds Ah) (fun γ' _ H' d => ∀ v, VR G γ' H' d v → Q v H') E → codeAny (model P w) A (.call (.ref f) ⟨us, []⟩) (CR (L2.CX P w) outer P w H s Q E) s
theorem FnG.mono {P : Program} {w : World} {K : PySem.W.Frag} {mg : Str → Option Value} {base : Heap} {G : Gc} {j k : Nat} {f : Addr} {m : List D → AH → Res D} (F : FnG P w K mg base G j f m) (h : j ≤ k) : FnG P w K mg base G k f m :=
  fun A outer s H us vs ds γ Ah Q E hr => F A outer s H us vs ds γ Ah Q E (hr.mono h)
/-- a def's run: its names, how many are parameters, its body -/
def runF (n p : Nat) (g : Ev → AH → SR) (ds : List D) (A : AH) : Res D :=
  if ds.length = p then
    match g (ds.map some ++ List.replicate (n - p) none) A with
    | .nx _ A1 => clean A.length .non A1
    | .rt d A1 => clean A.length d A1
    | .ex x _ A1 => cleanX A.length x A1
    | _ => .stuck
  else .stuck
section
variable {P : Program} {w : World} {K : PySem.W.Frag} {mg : Str → Option Value} {base : Heap} {G : Gc}
theorem er_start {γ : Gh} {H : Hp} {ds : List D} {vs : List V} {n : Nat} (h : VRs G γ H ds vs) (N : List Str) (hp : N.length - vs.length = n) : ER G γ H (ds.map some ++ List.replicate n none) (L2.start N vs) := by
  intro i d e
  unfold L2.start
  by_cases hi : i < ds.length
  · rw [List.getElem?_append_left (by simpa using hi), List.getElem?_map] at e
    obtain ⟨d', e1, e2⟩ := Option.map_eq_some_iff.mp e
    cases e2
    obtain ⟨v, e3, r⟩ := h.get e1
    refine ⟨v, ?_, r⟩
    rw [List.getElem?_append_left (by rw [List.length_map, ← h.length]; exact hi), List.getElem?_map, e3]; rfl
  · rw [List.getElem?_append_right (by simpa using hi), List.getElem?_replicate] at e
    split at e <;> cases e
theorem fnG_of {x qual : Str} {st : Stmt} {f : Addr} {fd : FuncData} {N ps : List Str} {k : Nat} {g : Ev → AH → SR} (F : Fun K x qual st f fd) (Sc : FnScope N ps (defScope st)) (hK : G.K = K)
    (hb : ∀ (kV doc pm : Value) (an : Option Addr) (cdv ct : Value) (us : List Value), us.length = ps.length → bindArgs (PySem.W.fnOf x qual (defArgs st) (defBody st) (defScope st) .none kV doc pm an cdv ct) ⟨us, []⟩ = pure (ps.zip us))
    (body : ∀ (cdv : Value) (A : Around) (outer : List Env) (s : Shared) (H : Hp) (E : XK), XO (cxOf (L2.CX P w) P w K mg base N qual (defScope st) f cdv A outer s H E) G (fun c d _ H => E c d H) k →
      JB (cxOf (L2.CX P w) P w K mg base N qual (defScope st) f cdv A outer s H E) G (fun c d _ H => E c d H) (defBody st) g) :
    FnG P w K mg base G (k + 1) f (runF N.length ps.length g) := by
  intro A outer s H us vs ds γ Ah Q E hr hg e0 r R rv h
  obtain ⟨oc, od, kV, doc, pm, an, cdv, ct, osl, rfl, lk, hcd⟩ := F.ex
  unfold runF at h
  by_cases hl : ds.length = ps.length
  · rw [if_pos hl] at h
    have hlv : vs.length = ps.length := by rw [← rv.length]; exact hl
    have hNp : ps.length ≤ N.length := by have := congrArg List.length Sc.pre; rw [List.length_take] at this; omega
    refine LamX.run_ofS (N := N) (us := us) (vs := vs) lk hcd Sc hr e0 (.of_eq (hb _ _ _ _ _ _ us (by rw [← r.length]; exact hlv))) r hlv fun hr' => ?_
    have o : XO (cxOf (L2.CX P w) P w K mg base N qual (defScope st) f cdv A outer s H E) G (fun c d _ H => E c d H) k :=
      ⟨takes_of rfl rfl rfl rfl, passes_of rfl, rfl, hr', hg, hK⟩
    refine ⟨_, (body cdv A outer s H E o).run, γ, Ah, ds.map some ++ List.replicate (N.length - ps.length) none, ⟨R, ?_, er_start rv N (by rw [hlv])⟩, ?_⟩
    · unfold L2.start
      simp only [List.length_append, List.length_map, List.length_replicate]
      omega
    · cases q : g (ds.map some ++ List.replicate (N.length - ps.length) none) Ah with
      | nx env1 A1 =>
        rw [q] at h
        exact fun γ' H' σ' e S => Post.clean R h γ' H' .non e S.rel (by unfold VR; rfl)
      | rt d A1 =>
        rw [q] at h
        exact fun γ' H' v e R' r' => Post.clean R h γ' H' v e R' r'
      | ex x env1 A1 =>
        rw [q] at h
        exact fun γ' H' σ' cls ad e S xr => Post.cleanX R h γ' H' cls ad e S.rel xr
      | bk env1 A1 => rw [q] at h; exact h.elim
      | ct env1 A1 => rw [q] at h; exact h.elim
      | stuck => rw [q] at h; exact h.elim
  · rw [if_neg hl] at h; exact h.elim
end
section
variable {X : Cx} {G : Gc} {W : WX} {k j : Nat}
/-- the callee runs from a body -/
theorem run_fg {pins : List (Addr × Obj)} {σ : L2.St} {H : Hp} {s : Shared} {Q : VK} {f : Addr} {us : List Value} {vs : List V} {ds : List D} {γ : Gh} {Ah : AH} {m : List D → AH → Res D} (o : XO X G W k) (F : FnG X.prog X.w X.K X.mg X.base G k f m) (I : Inv X pins σ H s) (r : Vals vs us) (R : Rel G γ Ah H) (rv : VRs G γ H ds vs)
    (h : Post G γ H (m ds Ah) (fun γ' _ H' d => ∀ v, VR G γ' H' d v → Q v H') (fun c a H' => W c a σ H')) : wpAny (model X.prog X.w) X.A (call (.ref f) us) (EP X pins σ Q) X.xe s := by
  refine wpAny_call (codeAny_mono (F X.A X.stack s H us vs ds γ Ah Q (WE W σ) o.room o.gd I.env0 r R rv h) fun z s' hq => ?_)
  cases z with
  | error e => exact passAt o.tk σ _ _ _ _ _ I hq
  | ok fl =>
    cases fl with
    | ret u => exact I.after hq
    | _ => exact False.elim hq
theorem je_call (o : XO X G W k) {f : Addr} {x : Str} {p pos : Pos} {e : Expr} {es : List Expr} {m : List D → AH → Res D} {fa : Ev → AH → Res (List D)} (F : FnG X.prog X.w X.K X.mg X.base G j f m) (hj : j ≤ k) (hg : Gl X x) (hm : X.mg x = some (.ref f)) (hk : PySem.W.keepIn X.K (.ref f) = true)
    (ha : JA X G W (e :: es) fa) (hdb : (x == ("__debug__" : Str)) = false) (he : starEach (e :: es) X.env = (false, eval e X.env) :: starEach es X.env := by rfl) (hpl : (backTo pos (starEach es X.env)).any (·.1) = false := by rfl) : JE X G W (.Call (.Name x p) (e :: es) [] pos) (sCall m fa) := by
  refine ⟨⟨fun pins s σ H Q I h => ?_⟩⟩
  obtain ⟨γ, A, env, S, h⟩ := h
  refine wpAny_Call_Name_kw (ld_glob I hg hm ?_ hdb)
  refine PySem.W.callWith_K (h₀ := X.base) I.ok.mod.kin hk (thn (ha.run.run pos pins s σ H (fun vs H1 => ∃ γ1 A1 ds, Rel G γ1 A1 H1 ∧ VRs G γ1 H1 ds vs ∧ Post G γ1 H1 (m ds A1) (fun γ' _ H' d => ∀ v, VR G γ' H' d v → Q v H') (fun c a H' => W c a σ H')) I
    ⟨γ, A, env, S, Post.bind h fun ds A1 γ1 H1 e1 R1 h1 vs r1 => ⟨γ1, A1, ds, R1, r1, h1⟩⟩) fun us s1 ⟨vs, H1, I1, r, γ1, A1, ds, R1, r1, h1⟩ => ⟨I1.kIn, ?_⟩) he hpl
  exact run_fg o (F.mono hj) I1 r R1 r1 h1
theorem je_call0 (o : XO X G W k) {f : Addr} {x : Str} {p pos : Pos} {m : List D → AH → Res D} (F : FnG X.prog X.w X.K X.mg X.base G j f m) (hj : j ≤ k) (hg : Gl X x) (hm : X.mg x = some (.ref f)) (hk : PySem.W.keepIn X.K (.ref f) = true)
    (hdb : (x == ("__debug__" : Str)) = false) : JE X G W (.Call (.Name x p) [] [] pos) (sCall m sNil) := by
  refine ⟨⟨fun pins s σ H Q I h => ?_⟩⟩
  obtain ⟨γ, A, env, S, h⟩ := h
  refine wpAny_Call_Name_kw (ld_glob I hg hm ?_ hdb)
  exact PySem.W.callWith_K0 I.kIn hk (run_fg (us := []) o (F.mono hj) I .nil S.rel VRs.nil h)
/-! ### classes with slots -/
/-- what stands of the class numbered c -/
structure SC (G : Gc) (K : PySem.W.Frag) (c : Nat) (C : Addr) : Prop where
  cls : G.cls c = some C
  sc : SlX.SCls K C
/-- e.f, f the i-th slot -/
def gFld (c i : Nat) (x : D) (A : AH) : Res D := match x with
  | .ins c' ds => if c' = c then match ds[i]? with
    | some d => .ok d A
    | none => .stuck
    else .stuck
  | .ref r => match A[r]? with
    | some (.ins c' fs) => if c' = c then match fs[i]? with
      | some (some d) => .ok d A
      | _ => .stuck
      else .stuck
    | _ => .stuck
  | _ => .stuck
theorem FRs.get {γ : Gh} {H : Hp} : ∀ {fs : List (Option D)} {vs : List (Option V)} {i : Nat} {d : D}, FRs G γ H fs vs → fs[i]? = some (some d) → ∃ v, vs[i]? = some (some v) ∧ VR G γ H d v
  | [], _, _, _, _, e => by simp at e
  | fo :: fs, vs, 0, d, h, e => by
    obtain ⟨vo, r, rfl, h1, h2⟩ := h
    simp at e; subst e
    cases vo with
    | none => exact h1.elim
    | some v => exact ⟨v, rfl, h1⟩
  | fo :: fs, vs, i + 1, d, h, e => by
    obtain ⟨vo, r, rfl, h1, h2⟩ := h
    obtain ⟨v, e1, r⟩ := FRs.get h2 (by simpa using e)
    exact ⟨v, by simpa using e1, r⟩
theorem je_fld (o : XO X G W k) {c i : Nat} {C p : Addr} {f : Str} {e : Expr} {pos : Pos} {fa : Ev → AH → Res D} (T : SC G X.K c C) (t : SlX.Slot1 X.K C f p i) (ha : JE X G W e fa) (hb : attributeBase e f X.env (eval e X.env) = eval e X.env := by rfl) : JE X G W (.Attribute e f pos) (sUn (gFld c i) fa) := by
  refine ⟨PE.imp (SlX.pe_sl ha.run hb) fun σ H Q h => ?_⟩
  obtain ⟨γ, A, env, S, h⟩ := h
  refine ⟨γ, A, env, S, Post.bind h fun x A1 γ1 H1 e1 R1 h1 v r1 => ?_⟩
  unfold gFld at h1
  split at h1
  · rename_i c' ds
    split at h1
    · rename_i hc
      subst hc
      split at h1
      · rename_i d q
        unfold VR at r1
        obtain ⟨a, C', dx, vs, rfl, n1, n2, hC, k1, k2, rv⟩ := r1
        rw [T.cls] at hC; cases hC
        obtain ⟨u, q1, q2⟩ := rv.get q
        exact ⟨a, C, dx, p, vs.map some, i, u, rfl, .inr ⟨k1, k2⟩, T.sc, t, by rw [List.getElem?_map, q1]; rfl, ok_here R1 q2 h1⟩
      · exact h1.elim
    · exact h1.elim
  · rename_i r
    split at h1
    · rename_i c' fs q
      split at h1
      · rename_i hc
        subst hc
        split at h1
        · rename_i d q2
          unfold VR at r1
          obtain ⟨a, rfl, q3⟩ := r1
          obtain ⟨a', k1, k2, C', dx, vs, hC, hs, k3, k4, rv⟩ := R1.at_ _ _ q
          rw [q3] at k1; cases k1
          rw [T.cls] at hC; cases hC
          obtain ⟨u, q4, q5⟩ := FRs.get rv q2
          exact ⟨a, C, dx, p, vs, i, u, rfl, hs, T.sc, t, q4, ok_here R1 q5 h1⟩
        · exact h1.elim
      · exact h1.elim
    · exact h1.elim
  · exact h1.elim
/-- slots stored -/
def putD (i : Nat) (d : D) (fs : List (Option D)) : List (Option D) := (fs ++ List.replicate (i + 1 - fs.length) none).set i (some d)
theorem FRs.length {γ : Gh} {H : Hp} : ∀ {fs : List (Option D)} {vs : List (Option V)}, FRs G γ H fs vs → fs.length = vs.length
  | [], vs, h => by have : vs = [] := h; subst this; rfl
  | fo :: fs, vs, h => by
    obtain ⟨vo, r, rfl, h1, h2⟩ := h
    simp [FRs.length h2]
theorem FRs.pad {γ : Gh} {H : Hp} : ∀ (n : Nat), FRs G γ H (List.replicate n none) (List.replicate n none)
  | 0 => rfl
  | n + 1 => ⟨none, List.replicate n none, rfl, trivial, FRs.pad n⟩
theorem FRs.append {γ : Gh} {H : Hp} : ∀ {fs gs : List (Option D)} {vs ws : List (Option V)}, FRs G γ H fs vs → FRs G γ H gs ws → FRs G γ H (fs ++ gs) (vs ++ ws)
  | [], gs, vs, ws, h, t => by have : vs = [] := h; subst this; exact t
  | fo :: fs, gs, vs, ws, h, t => by
    obtain ⟨vo, r, rfl, h1, h2⟩ := h
    exact ⟨vo, r ++ ws, rfl, h1, FRs.append h2 t⟩
theorem FRs.set {γ : Gh} {H : Hp} {d : D} {v : V} (hd : VR G γ H d v) : ∀ {fs : List (Option D)} {vs : List (Option V)} (n : Nat), FRs G γ H fs vs → FRs G γ H (fs.set n (some d)) (vs.set n (some v))
  | [], vs, n, h => by have : vs = [] := h; subst this; simp; rfl
  | fo :: fs, vs, 0, h => by
    obtain ⟨vo, r, rfl, h1, h2⟩ := h
    exact ⟨some v, r, rfl, hd, h2⟩
  | fo :: fs, vs, n + 1, h => by
    obtain ⟨vo, r, rfl, h1, h2⟩ := h
    exact ⟨vo, r.set n (some v), rfl, h1, FRs.set hd n h2⟩
theorem FRs.put {γ : Gh} {H : Hp} {d : D} {v : V} {fs : List (Option D)} {vs : List (Option V)} (h : FRs G γ H fs vs) (hd : VR G γ H d v) (i : Nat) : FRs G γ H (putD i d fs) (SlX.putS i v vs) := by
  unfold putD SlX.putS
  rw [FRs.length h]
  exact FRs.set hd i (FRs.append h (FRs.pad _))
theorem put_slot {γ : Gh} {A : AH} {H : Hp} {r c i : Nat} {fs : List (Option D)} {d : D} {v u : V} {C : Addr} (R : Rel G γ A H) (h : VR G γ H (.ref r) v) (e : A[r]? = some (.ins c fs)) (hC : G.cls c = some C) (hd : VR G γ H d u) :
    ∃ a dx vs, v = .ref a ∧ SlX.Slt H a C dx vs ∧ Ext γ H γ (SlX.slH H a C dx (SlX.putS i u vs)) ∧ Rel G γ (A.set r (.ins c (putD i d fs))) (SlX.slH H a C dx (SlX.putS i u vs)) := by
  unfold VR at h
  obtain ⟨a, rfl, h1⟩ := h
  obtain ⟨a', h2, h3, C', dx, vs, hC', hs, h4, h5, rv⟩ := R.at_ r _ e
  rw [h1] at h2; cases h2
  rw [hC] at hC'; cases hC'
  have off : ∀ b, γ.o b ≠ some (some r) → SlX.slH H a C dx (SlX.putS i u vs) b = H b := fun b hb => SlX.slH_ne (fun z => hb (by rw [z]; exact h3)) fun z => hb (by rw [z]; exact h4)
  have fz : ∀ b o w, γ.o b = some (some r) → H b = some (.frz o w) → SlX.slH H a C dx (SlX.putS i u vs) b = some (.frz o w) := fun b o w _ e => by
    by_cases z1 : b = a
    · subst z1; rcases hs with ⟨q, _⟩ | ⟨q, _⟩ <;> (rw [q] at e; first | cases e | (unfold SlX.SlO at e; cases e))
    · by_cases z2 : b = dx
      · subst z2; rcases hs with ⟨q, w⟩ | ⟨q, w⟩
        · exact absurd e (h5.2 _ _)
        · rw [w] at e; cases e
      · rw [SlX.slH_ne z1 z2]; exact e
  have E : Ext γ H γ (SlX.slH H a C dx (SlX.putS i u vs)) := Ext.put off fz
  refine ⟨a, dx, vs, rfl, hs, E, R.put h1 off (fun b hb => ?_) ⟨C, dx, SlX.putS i u vs, hC, SlX.slH_slt h5.1, h4, ⟨h5.1, fun o w => by unfold SlX.slH; rw [upd_ne h5.1, upd_same]; exact fun z => nomatch z⟩, (FRs.put rv hd i).ext E.toExt0⟩ (fun b xs hb e => by
    by_cases z1 : b = a
    · subst z1; unfold SlX.slH at e; rw [upd_same] at e; cases e
    · by_cases z2 : b = dx
      · subst z2; unfold SlX.slH at e; rw [upd_ne z1, upd_same] at e; cases e
      · rw [SlX.slH_ne z1 z2] at e; rw [R.tupo b xs e] at hb; cases hb) fz⟩
  by_cases z1 : b = a
  · subst z1; unfold SlX.slH; rw [upd_same]; exact (fun q => nomatch q)
  · by_cases z2 : b = dx
    · subst z2; unfold SlX.slH; rw [upd_ne z1, upd_same]; exact (fun q => nomatch q)
    · rw [SlX.slH_ne z1 z2]; exact (R.dom b _ hb).1
/-- self.f = e -/
def bFld (c i : Nat) (fo fe : Ev → AH → Res D) : Ev → AH → SR := fun env A => lft (fe env A) env fun d A1 => lft (fo env A1) env fun x A2 => match x with
  | .ref r => match A2[r]? with
    | some (.ins c' fs) => if c' = c then .nx env (A2.set r (.ins c (putD i d fs))) else .stuck
    | _ => .stuck
  | _ => .stuck
theorem js_fld {c i : Nat} {C p : Addr} {f : Str} {ob e : Expr} {pos pos' : Pos} {fo fe : Ev → AH → Res D} (T : SC G X.K c C) (t : SlX.Slot1 X.K C f p i) (ho : JE X G W ob fo) (he : JE X G W e fe)
    (hs : swapsWith e (some (.Attribute ob f pos')) pos.line X.env = pure false := by rfl) : JS X G W (.Assign [.Attribute ob f pos'] e pos) (bFld c i fo fe) := by
  refine ⟨PS.imp (SlX.ps_sl ho.run he.run hs) fun E σ H h => ?_⟩
  obtain ⟨γ, A, env, S, h⟩ := h
  refine ⟨γ, A, env, S, PostS.lft S h fun d A1 γ1 H1 e1 R1 h1 v r1 => ?_⟩
  have S1 := S.to e1 R1
  refine ⟨γ1, A1, env, S1, PostS.lft S1 h1 fun x A2 γ2 H2 e2 R2 h2 u r2 => ?_⟩
  have S2 := S1.to e2 R2
  split at h2
  · rename_i r
    split at h2
    · rename_i c' fs q
      split at h2
      · rename_i hc
        subst hc
        obtain ⟨a, dx, vs, rfl, hsl, E', R3⟩ := put_slot (i := i) R2 r2 q T.cls (VR.ext e2 _ _ r1)
        exact ⟨a, C, dx, p, vs, i, rfl, hsl, T.sc, t, h2 γ2 _ σ E' (S2.to E' R3)⟩
      · exact h2.elim
    · exact h2.elim
  · exact h2.elim
end
end F3
namespace F3
open PySem PySem.Spec
open PyProof.Rows L2
/-! ### self.f, self.g = x, y -/
structure JGA (X : Cx) (G : Gc) (tg : Expr) (g : Ev → AH → D → Option AH) : Prop where
  run : PG X tg (fun v σ H Q => ∃ γ A env d A', St3 G γ A env H σ ∧ VR G γ H d v ∧ g env A d = some A' ∧ ∀ γ' H', Ext γ H γ' H' → St3 G γ' A' env H' σ → Q σ H')
structure JGAs (X : Cx) (G : Gc) (tgs : List Expr) (g : Ev → AH → List D → Option AH) : Prop where
  run : PGs X tgs (fun vs σ H Q => ∃ γ A env ds A', St3 G γ A env H σ ∧ VRs G γ H ds vs ∧ g env A ds = some A' ∧ ∀ γ' H', Ext γ H γ' H' → St3 G γ' A' env H' σ → Q σ H')
def aFld (c i : Nat) (fo : Ev → AH → Res D) : Ev → AH → D → Option AH := fun env A d => match fo env A with
  | .ok (.ref r) A1 => match A1[r]? with
    | some (.ins c' fs) => if c' = c then some (A1.set r (.ins c (putD i d fs))) else none
    | _ => none
  | _ => none
def aEnd : Ev → AH → List D → Option AH := fun _ A ds => match ds with
  | [] => some A
  | _ => none
def aMore (g : Ev → AH → D → Option AH) (gs : Ev → AH → List D → Option AH) : Ev → AH → List D → Option AH := fun env A ds => match ds with
  | d :: r => (g env A d).bind fun A1 => gs env A1 r
  | [] => none
section
variable {X : Cx} {G : Gc} {W : WX} {k j : Nat}
theorem pg_attr {ob : Expr} {f : Str} {pos : Pos} {to : TE} (ho : PE X ob to) : PG X (.Attribute ob f pos) (fun v σ H Q => to σ H fun x H1 => ∃ a C dx p vs i, x = .ref a ∧ SlX.Slt H1 a C dx vs ∧ SlX.SCls X.K C ∧ SlX.Slot1 X.K C f p i ∧ Q σ (SlX.slH H1 a C dx (SlX.putS i v vs))) := by
  refine ⟨fun pins s σ H v u Q I r h => ?_⟩
  rw [assign_Attribute]
  refine wpAny_bind (wpAny_holding (thn (ho.run pins s σ H _ I h) fun ov s1 hv => ?_))
  obtain ⟨x, H1, I1, rx, a, C, dx, p, vs, i, rfl, hsl, c, t, q⟩ := hv
  obtain rfl : ov = Value.ref a := rx
  refine wpAny_bind (wpAny_standAt (wpAny_bind (wpAny_holding (SlX.setslot_ok I1 hsl c t r fun s2 I2 => ?_))))
  exact wpAny_release ⟨σ, _, I2, q⟩
theorem jga_fld {c i : Nat} {C p : Addr} {f : Str} {ob : Expr} {pos : Pos} {fo : Ev → AH → Res D} (T : SC G X.K c C) (t : SlX.Slot1 X.K C f p i) (ho : JE X G W0 ob fo) : JGA X G (.Attribute ob f pos) (aFld c i fo) := by
  refine ⟨PG.imp (pg_attr ho.run) fun v σ H Q h => ?_⟩
  obtain ⟨γ, A, env, d, A', S, r, e, h⟩ := h
  unfold aFld at e
  split at e
  · rename_i n A1 q0
    split at e
    · rename_i c' fs q
      split at e
      · rename_i hc
        subst hc
        cases e
        refine ⟨γ, A, env, S, ?_⟩
        rw [q0]
        intro γ1 H1 e1 R1 u r1
        obtain ⟨a, dx, vs, rfl, hsl, E', R3⟩ := put_slot (i := i) R1 r1 q T.cls (VR.ext e1 _ _ r)
        exact ⟨a, C, dx, p, vs, i, rfl, hsl, T.sc, t, h γ1 _ (e1.trans E') ((S.to e1 R1).to E' R3)⟩
      · cases e
    · cases e
  · cases e
theorem jgas_nil : JGAs X G [] aEnd := by
  refine ⟨PGs.imp pgs_nil fun vs σ H Q h => ?_⟩
  obtain ⟨γ, A, env, ds, A', S, r, e, h⟩ := h
  cases ds with
  | nil =>
    cases e
    unfold VRs at r
    exact ⟨r, h γ H (Ext.refl _ _) S⟩
  | cons d ds => cases e
theorem jgas_cons {e : Expr} {es : List Expr} {g : Ev → AH → D → Option AH} {gs : Ev → AH → List D → Option AH} (h1 : JGA X G e g) (h2 : JGAs X G es gs) (hs : (assignEach (e :: es) X.env).map (·.2) = assign e X.env :: (assignEach es X.env).map (·.2) := by rfl) : JGAs X G (e :: es) (aMore g gs) := by
  refine ⟨PGs.imp (pgs_cons h1.run h2.run hs) fun vs σ H Q h => ?_⟩
  obtain ⟨γ, A, env, ds, A', S, r, e, h⟩ := h
  cases ds with
  | nil => cases e
  | cons d ds =>
    unfold VRs at r
    obtain ⟨v, rs, rfl, r1, r2⟩ := r
    obtain ⟨A1, e1, e2⟩ := Option.bind_eq_some_iff.mp (show (g env A d).bind _ = some A' from e)
    refine ⟨v, rs, rfl, γ, A, env, d, A1, S, r1, e1, fun γ1 H1 e3 S1 => ?_⟩
    exact ⟨γ1, A1, env, ds, A', S1, VRs.ext e3 _ _ r2, e2, fun γ2 H2 e4 S2 => h γ2 H2 (e3.trans e4) S2⟩
theorem aMore_len {n : Nat} {g : Ev → AH → D → Option AH} {gs : Ev → AH → List D → Option AH} (h : ∀ env A ds A', gs env A ds = some A' → ds.length = n) : ∀ env A ds A', aMore g gs env A ds = some A' → ds.length = n + 1 := fun env A ds A' e => by
  cases ds with
  | nil => cases e
  | cons d ds =>
    obtain ⟨A1, e1, e2⟩ := Option.bind_eq_some_iff.mp (show (g env A d).bind _ = some A' from e)
    rw [List.length_cons, h _ _ _ _ e2]
theorem aEnd_len : ∀ env A ds A', aEnd env A ds = some A' → ds.length = 0 := fun env A ds A' e => by
  cases ds with
  | nil => rfl
  | cons _ _ => cases e
def bFlds (gs : Ev → AH → List D → Option AH) (f : Ev → AH → Res D) : Ev → AH → SR := fun env A => lft (f env A) env fun d A1 => match d with
  | .tup ds => match gs env A1 ds with
    | some A2 => .nx env A2
    | none => .stuck
  | _ => .stuck
theorem js_flds (o : XO X G W k) {es : List Expr} {e : Expr} {kk : Nat} {tpos pos : Pos} {gs : Ev → AH → List D → Option AH} {f : Ev → AH → Res D} (n : Nat) (hg : JGAs X G es gs) (hl : ∀ env A ds A', gs env A ds = some A' → ds.length = n) (he : JE X G W e f)
    (hn : (assignEach es X.env).length = n := by rfl) (hst : (assignEach es X.env).findIdx? (·.1) = none := by rfl)
    (hs : swapsWithSole [.Tuple es kk tpos] e pos.line X.env = pure false := by rfl) (hw : swappedStores [.Tuple es kk tpos] e X.env = pure none := by rfl) (h1 : (assignEach [.Tuple es kk tpos] X.env).map (·.2) = [assign (.Tuple es kk tpos) X.env] := by rfl) :
    JS X G W (.Assign [.Tuple es kk tpos] e pos) (bFlds gs f) := by
  refine ⟨PS.imp (ps_asg he.run (pg_tup o.calm hg.run hn hst) hs hw h1) fun E σ H h => ?_⟩
  obtain ⟨γ, A, env, S, h⟩ := h
  refine ⟨γ, A, env, S, PostS.lft S h fun d A1 γ1 H1 e1 R1 h1 v r1 => ?_⟩
  split at h1
  · rename_i ds
    split at h1
    · rename_i A2 q
      unfold VR at r1
      obtain ⟨a, vs, rfl, f1, rv⟩ := r1
      exact ⟨a, vs, rfl, o.gk ▸ f1.sq, by rw [← rv.length]; exact hl _ _ _ _ q, γ1, A1, env, ds, A2, S.to e1 R1, rv, q, fun γ2 H2 e2 S2 => h1 γ2 H2 σ e2 S2⟩
    · exact h1.elim
  · exact h1.elim
/-! ### isinstance -/
/-- the built-in type of a value -/
def tyD (A : AH) : D → Option String
  | .non => some "NoneType"
  | .bl _ => some "bool"
  | .int _ => some "int"
  | .str _ => some "str"
  | .tup _ => some "tuple"
  | .lst _ => some "list"
  | .dct t _ _ => match t with
    | false => some "dict"
    | true => none
  | .ref i => match A[i]? with
    | some (.lst _) => some "list"
    | some (.dct _ _ _) => some "dict"
    | _ => none
  | _ => none
theorem tyD_at {γ : Gh} {A : AH} {H : Hp} {d : D} {v : V} {t : String} (R : Rel G γ A H) (h : VR G γ H d v) (e : tyD A d = some t) : TyX G.K H v (.type t) := by
  cases d with
  | non => unfold VR at h; subst h; cases e; exact .base .non
  | bl _ => unfold VR at h; subst h; cases e; exact .base (.bl _)
  | int _ => unfold VR at h; subst h; cases e; exact .base (.int _)
  | str _ => unfold VR at h; subst h; cases e; exact .base (.str _)
  | tup _ => unfold VR at h; obtain ⟨a, vs, rfl, f, _⟩ := h; cases e; exact .base (.tup f.1)
  | lst _ => unfold VR at h; obtain ⟨a, vs, rfl, f, _⟩ := h; cases e; exact .base (.lst f)
  | scr _ => cases e
  | ins _ _ => cases e
  | fn => cases e
  | dct t _ _ =>
    unfold VR at h
    cases t with
    | true => cases e
    | false =>
      obtain ⟨a, o, u, vs, rfl, _, h1, ⟨_, kvs, rfl, _⟩ | ⟨z, _⟩, _⟩ := h
      · cases e; exact .fDict h1
      · cases z
  | ref i =>
    unfold VR at h
    obtain ⟨a, rfl, h0⟩ := h
    unfold tyD at e
    simp only at e
    split at e
    · rename_i q
      obtain ⟨a', k1, k2, vs, k3, k4⟩ := R.at_ i _ q
      rw [h0] at k1; cases k1; cases e
      exact .base (.lst k3)
    · rename_i q
      obtain ⟨a', k1, k2, u, vs, h1, r, _⟩ := R.at_ i _ q
      rw [h0] at k1; cases k1; cases e
      rcases r with ⟨_, kvs, rfl, _⟩ | ⟨_, kvs, rfl, _⟩
      · exact .base (.dK h1)
      · exact .base (.dT h1)
    · cases e
def isiB (t T : String) : Bool := t == T || (t == "bool" && T == "int")
/-- the classes asked by the program are among these -/
def gIsiB (T : String) (d : D) (A : AH) : Res D := match d with
  | .ins _ _ => .ok (.bl false) A
  | .ref r => match A[r]? with
    | some (.ins _ _) => .ok (.bl false) A
    | _ => match tyD A (.ref r) with
      | some t => .ok (.bl (isiB t T)) A
      | none => .stuck
  | d => match tyD A d with
    | some t => .ok (.bl (isiB t T)) A
    | none => .stuck
/-- what isinstance with a built-in class T asks -/
structure IsB (G : Gc) (K : PySem.W.Frag) (T : String) : Prop where
  bt : ∀ t ∈ (["NoneType", "bool", "int", "str", "tuple", "list", "dict"] : List String), PySem.W.kitOne K (.type t) (.type T) = some (isiB t T)
  own : ∀ c C, G.cls c = some C → SlX.SCls K C ∧ SlX.SIsi K C ∧ PySem.W.kitOne K (.ref C) (.type T) = some false
def rIsiU (K : PySem.W.Frag) (T : String) : List V → Hp → VK → Prop := fun xs H Q => rIsi K xs H Q ∨ SlX.rIsiSl K (.type T) xs H Q
theorem tyD_mem {A : AH} {d : D} {t : String} (e : tyD A d = some t) : t ∈ (["NoneType", "bool", "int", "str", "tuple", "list", "dict"] : List String) := by
  unfold tyD at e
  split at e <;> first
    | (cases e; simp; done)
    | (split at e <;> first | (cases e; simp; done) | cases e)
    | cases e
def sIsiB (T : String) (f : Ev → AH → Res D) : Ev → AH → Res D := sUn (gIsiB T) f
theorem je_isiB (o : XO X G W k) {T : String} {x y : Str} {p p2 pos : Pos} {e : Expr} {f : Ev → AH → Res D} (B : IsB G X.K T) (he : JE X G W e f) (hg : Gl X x) (hm : X.mg x = none) (hv : bootBuiltins x = some (.builtin "isinstance")) (hn : x ≠ "__name__") (hdb : (x == ("__debug__" : Str)) = false)
    (hg2 : Gl X y) (hm2 : X.mg y = none) (hv2 : bootBuiltins y = some (.type T)) (hn2 : y ≠ "__name__") (hdb2 : (y == ("__debug__" : Str)) = false)
    (hs : starEach [e, .Name y p2] X.env = (false, eval e X.env) :: starEach [.Name y p2] X.env := by rfl) (hs2 : starEach [.Name y p2] X.env = (false, eval (.Name y p2) X.env) :: starEach [] X.env := by rfl) (hpl : (backTo pos (starEach [.Name y p2] X.env)).any (·.1) = false := by rfl) :
    JE X G W (.Call (.Name x p) [e, .Name y p2] [] pos) (sIsiB T f) := by
  refine ⟨PE.imp (pe_callB (CallR.or call_isi (SlX.call_isiSl (.type T))) hg hm hv (pa_cons he.run (pa_cons (pe_bltn (v := .ty T) hg2 hm2 hv2 rfl hn2 hdb2) pa_nil hs2) hs) hn hdb hs hpl) fun σ H Q h => ?_⟩
  obtain ⟨γ, A, env, S, h⟩ := h
  refine ⟨γ, A, env, S, Post.bind h fun d A1 γ1 H1 e1 R1 h1 v r1 => ?_⟩
  have one : ∀ w, RelV (.ty T) w → w = Value.type T := fun w z => z
  have bti : ∀ t, tyD A1 d = some t → Q (.bl (isiB t T)) H1 → rIsi X.K [v, .ty T] H1 Q ∨ SlX.rIsiSl X.K (.type T) [v, .ty T] H1 Q := fun t q z =>
    .inl ⟨v, .ty T, .type t, .type T, _, rfl, .ty T, o.gk ▸ tyD_at R1 r1 q, B.bt t (tyD_mem q), z⟩
  have insi : ∀ a C dx vs, v = .ref a → SlX.Slt H1 a C dx vs → (∃ c, G.cls c = some C) → Q (.bl false) H1 → rIsi X.K [v, .ty T] H1 Q ∨ SlX.rIsiSl X.K (.type T) [v, .ty T] H1 Q := fun a C dx vs ev hsl hc z => by
    obtain ⟨c, hc⟩ := hc
    obtain ⟨q1, q2, q3⟩ := B.own c C hc
    exact .inr ⟨a, C, dx, vs, .ty T, false, by rw [ev], rfl, one, hsl, q1, q2, q3, z⟩
  unfold gIsiB at h1
  split at h1
  · unfold VR at r1
    obtain ⟨a, C, dx, vs, rfl, n1, n2, hc, k1, k2, _⟩ := r1
    exact insi a C dx _ rfl (.inr ⟨k1, k2⟩) ⟨_, hc⟩ (ok_here R1 (by unfold VR; rfl) h1)
  · split at h1
    · rename_i r c fs q
      unfold VR at r1
      obtain ⟨a, rfl, h0⟩ := r1
      obtain ⟨a', k1, k2, C, dx, vs, hC, hsl, _⟩ := R1.at_ _ _ q
      rw [h0] at k1; cases k1
      exact insi a C dx vs rfl hsl ⟨_, hC⟩ (ok_here R1 (by unfold VR; rfl) h1)
    · split at h1
      · rename_i t q
        exact bti t q (ok_here R1 (by unfold VR; rfl) h1)
      · exact h1.elim
  · split at h1
    · rename_i t q
      exact bti t q (ok_here R1 (by unfold VR; rfl) h1)
    · exact h1.elim
/-- isinstance with an own class -/
def gIsiO (c : Nat) (d : D) (A : AH) : Res D := match d with
  | .ins c' _ => .ok (.bl (c' == c)) A
  | .ref r => match A[r]? with
    | some (.ins c' _) => .ok (.bl (c' == c)) A
    | _ => match tyD A (.ref r) with
      | some _ => .ok (.bl false) A
      | none => .stuck
  | d => match tyD A d with
    | some _ => .ok (.bl false) A
    | none => .stuck
structure IsO (G : Gc) (K : PySem.W.Frag) (c : Nat) (C : Addr) : Prop where
  bt : ∀ t ∈ (["NoneType", "bool", "int", "str", "tuple", "list", "dict"] : List String), PySem.W.kitOne K (.type t) (.ref C) = some false
  own : ∀ c' C', G.cls c' = some C' → SlX.SCls K C' ∧ SlX.SIsi K C' ∧ PySem.W.kitOne K (.ref C') (.ref C) = some (c' == c)
def sIsiO (c : Nat) (f : Ev → AH → Res D) : Ev → AH → Res D := sUn (gIsiO c) f
theorem je_isiO (o : XO X G W k) {c : Nat} {C : Addr} {x y : Str} {p p2 pos : Pos} {e : Expr} {f : Ev → AH → Res D} (B : IsO G X.K c C) (he : JE X G W e f) (hg : Gl X x) (hm : X.mg x = none) (hv : bootBuiltins x = some (.builtin "isinstance")) (hn : x ≠ "__name__") (hdb : (x == ("__debug__" : Str)) = false)
    (hg2 : Gl X y) (hm2 : X.mg y = some (.ref C)) (hdb2 : (y == ("__debug__" : Str)) = false)
    (hs : starEach [e, .Name y p2] X.env = (false, eval e X.env) :: starEach [.Name y p2] X.env := by rfl) (hs2 : starEach [.Name y p2] X.env = (false, eval (.Name y p2) X.env) :: starEach [] X.env := by rfl) (hpl : (backTo pos (starEach [.Name y p2] X.env)).any (·.1) = false := by rfl) :
    JE X G W (.Call (.Name x p) [e, .Name y p2] [] pos) (sIsiO c f) := by
  refine ⟨PE.imp (pe_callB (CallR.or call_isi (SlX.call_isiSl (.ref C))) hg hm hv (pa_cons he.run (pa_cons (pe_glob (v := .ref C) hg2 hm2 rfl hdb2) pa_nil hs2) hs) hn hdb hs hpl) fun σ H Q h => ?_⟩
  obtain ⟨γ, A, env, S, h⟩ := h
  refine ⟨γ, A, env, S, Post.bind h fun d A1 γ1 H1 e1 R1 h1 v r1 => ?_⟩
  have one : ∀ w, RelV (.ref C) w → w = Value.ref C := fun w z => z
  have bti : ∀ t, tyD A1 d = some t → Q (.bl false) H1 → rIsi X.K [v, .ref C] H1 Q ∨ SlX.rIsiSl X.K (.ref C) [v, .ref C] H1 Q := fun t q z =>
    .inl ⟨v, .ref C, .type t, .ref C, _, rfl, .own C, o.gk ▸ tyD_at R1 r1 q, B.bt t (tyD_mem q), z⟩
  have insi : ∀ a C' dx vs c', v = .ref a → SlX.Slt H1 a C' dx vs → G.cls c' = some C' → Q (.bl (c' == c)) H1 → rIsi X.K [v, .ref C] H1 Q ∨ SlX.rIsiSl X.K (.ref C) [v, .ref C] H1 Q := fun a C' dx vs c' ev hsl hc z => by
    obtain ⟨q1, q2, q3⟩ := B.own c' C' hc
    exact .inr ⟨a, C', dx, vs, .ref C, _, by rw [ev], rfl, one, hsl, q1, q2, q3, z⟩
  unfold gIsiO at h1
  split at h1
  · unfold VR at r1
    obtain ⟨a, C', dx, vs, rfl, n1, n2, hc, k1, k2, _⟩ := r1
    exact insi a C' dx _ _ rfl (.inr ⟨k1, k2⟩) hc (ok_here R1 (by unfold VR; rfl) h1)
  · split at h1
    · rename_i r c' fs q
      unfold VR at r1
      obtain ⟨a, rfl, h0⟩ := r1
      obtain ⟨a', k1, k2, C', dx, vs, hC, hsl, _⟩ := R1.at_ _ _ q
      rw [h0] at k1; cases k1
      exact insi a C' dx vs _ rfl hsl hC (ok_here R1 (by unfold VR; rfl) h1)
    · split at h1
      · rename_i t q
        exact bti t q (ok_here R1 (by unfold VR; rfl) h1)
      · exact h1.elim
  · split at h1
    · rename_i t q
      exact bti t q (ok_here R1 (by unfold VR; rfl) h1)
    · exact h1.elim
end
end F3
namespace F3
open PySem PySem.Spec
open PyProof.Rows L2
/-! ### an instance is made -/
section
variable {G : Gc} {γ : Gh} {H : Hp} {A : AH} {n : Nat} {p dx : Addr} {ob od : HO}
/-- a changed thing in two places -/
def Gh.more2 (γ : Gh) (n : Nat) (p dx : Addr) : Gh := ⟨γ.ρ ++ [p], fun a => if a = p ∨ a = dx then some (some n) else γ.o a⟩
theorem Gh.more2_in {a : Addr} (h : a = p ∨ a = dx) : (γ.more2 n p dx).o a = some (some n) := if_pos h
theorem Gh.more2_out {a : Addr} (h : a ≠ p) (h' : a ≠ dx) : (γ.more2 n p dx).o a = γ.o a := if_neg fun z => z.elim h h'
theorem Ext.more2 (h : H p = none) (hd : H dx = none) : Ext γ H (γ.more2 n p dx) (upd (upd H dx od) p ob) := by
  have off : ∀ b o, H b = some o → upd (upd H dx od) p ob b = some o ∧ (γ.more2 n p dx).o b = γ.o b := fun b o e => by
    have b1 := ne_of_none e h
    have b2 := ne_of_none e hd
    exact ⟨by rw [upd_ne b1, upd_ne b2]; exact e, Gh.more2_out b1 b2⟩
  refine ⟨⟨fun i a e => ?_, fun b o e z _ => ?_, fun b o u e => (off b _ e).1⟩, fun b o e z => ?_⟩
  · show (γ.ρ ++ [p])[i]? = some a
    rw [List.getElem?_append_left (List.getElem?_eq_some_iff.mp e).1]; exact e
  · obtain ⟨q1, q2⟩ := off b o e; exact ⟨q1, by rw [q2]; exact z⟩
  · obtain ⟨q1, q2⟩ := off b o e; exact ⟨q1, by rw [q2]; exact z⟩
theorem Rel.more2 {ao : AO} (R : Rel G γ A H) (h : H p = none) (hd : H dx = none) (new : OR G (γ.more2 A.length p dx) (upd (upd H dx od) p ob) A.length ao p) (nt : ∀ xs, ob ≠ .tup xs := by intro _ z; cases z) (nt' : ∀ xs, od ≠ .tup xs := by intro _ z; cases z) : Rel G (γ.more2 A.length p dx) (A ++ [ao]) (upd (upd H dx od) p ob) := by
  have E : Ext γ H (γ.more2 A.length p dx) (upd (upd H dx od) p ob) := Ext.more2 h hd
  have np : ∀ b, H b ≠ none → b ≠ p := fun b q z => q (by rw [z]; exact h)
  have nd : ∀ b, H b ≠ none → b ≠ dx := fun b q z => q (by rw [z]; exact hd)
  have off : ∀ b, H b ≠ none → upd (upd H dx od) p ob b = H b := fun b q => by rw [upd_ne (np b q), upd_ne (nd b q)]
  have oof : ∀ b, H b ≠ none → (γ.more2 A.length p dx).o b = γ.o b := fun b q => Gh.more2_out (np b q) (nd b q)
  refine ⟨by show (γ.ρ ++ [p]).length = _; rw [List.length_append, List.length_append, R.len]; rfl, fun i o e => ?_, fun a x e => ?_, fun q hq => ?_, fun a xs e => by
    by_cases z1 : a = p
    · subst z1; rw [upd_same] at e; exact absurd (Option.some.inj e) (nt xs)
    · by_cases z2 : a = dx
      · subst z2; rw [upd_ne z1, upd_same] at e; exact absurd (Option.some.inj e) (nt' xs)
      · rw [upd_ne z1, upd_ne z2] at e; rw [Gh.more2_out z1 z2]; exact R.tupo a xs e⟩
  · by_cases hi : i < A.length
    · rw [List.getElem?_append_left hi] at e
      obtain ⟨a, e1, e2, r⟩ := R.at_ i o e
      have na := (R.dom a _ e2).1
      exact ⟨a, E.ρ i a e1, by rw [oof a na]; exact e2, r.ext (j := i) E.toExt0 (off a na) fun y q => ⟨off y (R.dom y _ q).1, by rw [oof y (R.dom y _ q).1]; exact q⟩⟩
    · rw [List.getElem?_append_right (by omega)] at e
      have hi2 : i = A.length := by
        have := (List.getElem?_eq_some_iff.mp e).1
        simp at this; omega
      subst hi2
      rw [Nat.sub_self] at e
      cases e
      refine ⟨p, ?_, Gh.more2_in (.inl rfl), new⟩
      show (γ.ρ ++ [p])[A.length]? = some p
      rw [← R.len]; simp
  · by_cases z : a = p ∨ a = dx
    · rw [Gh.more2_in z] at e; cases e
      refine ⟨?_, fun i q => by cases q; rw [List.length_append]; simp⟩
      by_cases z1 : a = p
      · subst z1; rw [upd_same]; exact fun q => nomatch q
      · have z2 := z.resolve_left z1
        subst z2; rw [upd_ne z1, upd_same]; exact fun q => nomatch q
    · rw [Gh.more2_out (fun w => z (.inl w)) fun w => z (.inr w)] at e
      obtain ⟨d1, d2⟩ := R.dom a x e
      exact ⟨by rw [off a d1]; exact d1, fun i q => by have := d2 i q; rw [List.length_append]; omega⟩
  · obtain ⟨n, ps, h1, h2, h3⟩ := R.tab q hq
    have nq : H q.1 ≠ none := by rw [h1]; exact fun z => nomatch z
    refine ⟨by rw [oof _ nq]; exact n, ps, by rw [off _ nq]; exact h1, h2, fun pos cv hc => ?_⟩
    obtain ⟨c, c1, c2, c3⟩ := h3 pos cv hc
    have nc : H c ≠ none := by rw [c2]; exact fun z => nomatch z
    exact ⟨c, c1, by rw [off _ nc]; exact c2, by rw [oof _ nc]; exact c3⟩
end
/-- C(..): m is what __init__ does -/
def mMake (c : Nat) (m : List D → AH → Res D) (ds : List D) (A : AH) : Res D := match m (.ref A.length :: ds) (A ++ [.ins c []]) with
  | .ok .non A1 => clean A.length (.ref A.length) A1
  | .ex x A1 => cleanX A.length x A1
  | _ => .stuck
section
variable {X : Cx} {G : Gc} {W : WX} {k j c : Nat} {f C : Addr} {m : List D → AH → Res D}
theorem guards_make {A : Around} {us : List Value} : (A.under (.builtin "type.__call__" ⟨.ref C :: us, []⟩)).guards = A.guards := by
  first | rfl | simp [Around.under, Code.guards, pushGuards, Code.isGuard, guardIds]
theorem run_mk {pins : List (Addr × Obj)} {σ : L2.St} {H : Hp} {s : Shared} {Q : VK} {us : List Value} {vs : List V} {ds : List D} {γ : Gh} {Ah : AH} (o : XO X G W k) (M : Mk X.K C f) (hC : G.cls c = some C) (F : FnG X.prog X.w X.K X.mg X.base G j f m) (hj : j + 1 ≤ k) (I : Inv X pins σ H s)
    (r : Vals vs us) (R : Rel G γ Ah H) (rv : VRs G γ H ds vs) (h : Post G γ H (mMake c m ds Ah) (fun γ' _ H' d => ∀ v, VR G γ' H' d v → Q v H') (fun c a H' => W c a σ H')) : wpAny (model X.prog X.w) X.A (call (.ref C) us) (EP X pins σ Q) X.xe s := by
  have n1 : H (s.heap.objs.size + 1) = none := I.hok.fresh (Nat.le_succ _)
  have n0 : H s.heap.objs.size = none := I.hok.fresh (Nat.le_refl _)
  have ne : s.heap.objs.size ≠ s.heap.objs.size + 1 := Nat.ne_of_lt (Nat.lt_succ_self _)
  have I2 := Inv.made (C := C) I
  have E2 : Ext γ H (γ.more2 Ah.length (s.heap.objs.size + 1) s.heap.objs.size) (upd (upd H s.heap.objs.size (.own (s.heap.objs.size + 1))) (s.heap.objs.size + 1) (.ins C s.heap.objs.size [])) := Ext.more2 n1 n0
  have R2 : Rel G _ (Ah ++ [.ins c []]) _ := R.more2 (od := .own (s.heap.objs.size + 1)) (ob := .ins C s.heap.objs.size []) n1 n0 ⟨C, s.heap.objs.size, [], hC, .inl ⟨upd_same, rfl⟩, Gh.more2_in (.inr rfl), ⟨ne, fun o u => by rw [upd_ne ne, upd_same]; exact fun z => nomatch z⟩, rfl⟩
  have hself : ∀ H', VR G (γ.more2 Ah.length (s.heap.objs.size + 1) s.heap.objs.size) H' (.ref Ah.length) (.ref (s.heap.objs.size + 1)) := fun H' => by
    unfold VR
    refine ⟨_, rfl, ?_⟩
    show (γ.ρ ++ [s.heap.objs.size + 1])[Ah.length]? = _
    rw [← R.len]; simp
  have r2 : Vals (V.ref (s.heap.objs.size + 1) :: vs) (Value.ref (s.heap.objs.size + 1) :: us) := .cons rfl r
  have rv2 : VRs G (γ.more2 Ah.length (s.heap.objs.size + 1) s.heap.objs.size) (upd (upd H s.heap.objs.size (.own (s.heap.objs.size + 1))) (s.heap.objs.size + 1) (.ins C s.heap.objs.size [])) (.ref Ah.length :: ds) (V.ref (s.heap.objs.size + 1) :: vs) := VRs.cons (hself _) (VRs.ext E2 _ _ rv)
  refine wpAny_call (make_map (f := f) I.kIn M.makes M.init (beq_iff_eq.mp M.fn) (codeAny_mono (F _ X.stack _ _ _ _ _ _ _ (fun v H' => v = .non ∧ Q (.ref (s.heap.objs.size + 1)) H') (WE W σ) ((o.room.mono hj).make C us []) (by rw [guards_make]; exact o.gd) (I2.env0.make C us []) r2 R2 rv2 ?_) fun z s' hq => ?_))
  · unfold mMake at h
    split at h
    · rename_i A1 q
      rw [q]
      intro γ' H' e R' v rn
      unfold VR at rn
      exact ⟨rn, Post.clean R h γ' H' _ (E2.trans e) R' (VR.ext e _ _ (hself _))⟩
    · rename_i x A1 q
      rw [q]
      exact fun γ' H' cls ad e R' xr => Post.cleanX R h γ' H' cls ad (E2.trans e) R' xr
    · exact h.elim
  · cases z with
    | error e => exact passAt o.tk σ _ _ _ _ _ I2 hq
    | ok fl =>
      cases fl with
      | ret u =>
        obtain ⟨v, H', I3, rx, ev, q3⟩ := I2.after hq
        subst ev
        exact ⟨rx, ⟨V.ref (s.heap.objs.size + 1), H', I3, rfl, q3⟩⟩
      | _ => exact False.elim hq
theorem je_mk (o : XO X G W k) {x : Str} {p pos : Pos} {e : Expr} {es : List Expr} {fa : Ev → AH → Res (List D)} (M : Mk X.K C f) (hC : G.cls c = some C) (F : FnG X.prog X.w X.K X.mg X.base G j f m) (hj : j + 1 ≤ k) (hg : Gl X x) (hm : X.mg x = some (.ref C))
    (ha : JA X G W (e :: es) fa) (hdb : (x == ("__debug__" : Str)) = false) (he : starEach (e :: es) X.env = (false, eval e X.env) :: starEach es X.env := by rfl) (hpl : (backTo pos (starEach es X.env)).any (·.1) = false := by rfl) : JE X G W (.Call (.Name x p) (e :: es) [] pos) (sCall (mMake c m) fa) := by
  refine ⟨⟨fun pins s σ H Q I h => ?_⟩⟩
  obtain ⟨γ, A, env, S, h⟩ := h
  refine wpAny_Call_Name_kw (ld_glob I hg hm ?_ hdb)
  refine PySem.W.callWith_K (h₀ := X.base) I.ok.mod.kin M.kp (thn (ha.run.run pos pins s σ H (fun vs H1 => ∃ γ1 A1 ds, Rel G γ1 A1 H1 ∧ VRs G γ1 H1 ds vs ∧ Post G γ1 H1 (mMake c m ds A1) (fun γ' _ H' d => ∀ v, VR G γ' H' d v → Q v H') (fun c a H' => W c a σ H')) I
    ⟨γ, A, env, S, Post.bind h fun ds A1 γ1 H1 e1 R1 h1 vs r1 => ⟨γ1, A1, ds, R1, r1, h1⟩⟩) fun us s1 ⟨vs, H1, I1, r, γ1, A1, ds, R1, r1, h1⟩ => ⟨I1.kIn, ?_⟩) he hpl
  exact run_mk o M hC F hj I1 r R1 r1 h1
/-! ### a property -/
/-- whose instance a value is -/
def insC (A : AH) : D → Option Nat
  | .ins c _ => some c
  | .ref r => match A[r]? with
    | some (.ins c _) => some c
    | _ => none
  | _ => none
theorem insC_at {γ : Gh} {A : AH} {H : Hp} {d : D} {v : V} (R : Rel G γ A H) (h : VR G γ H d v) (e : insC A d = some c) (hC : G.cls c = some C) : ∃ a dx vs, v = .ref a ∧ SlX.Slt H a C dx vs := by
  cases d with
  | ins c' ds =>
    cases e
    unfold VR at h
    obtain ⟨a, C', dx, vs, rfl, n1, n2, hC', k1, k2, _⟩ := h
    rw [hC] at hC'; cases hC'
    exact ⟨a, dx, vs.map some, rfl, .inr ⟨k1, k2⟩⟩
  | ref r =>
    unfold VR at h
    obtain ⟨a, rfl, h0⟩ := h
    unfold insC at e
    simp only at e
    split at e
    · rename_i c' fs q
      cases e
      obtain ⟨a', k1, k2, C', dx, vs, hC', hsl, _⟩ := R.at_ _ _ q
      rw [h0] at k1; cases k1
      rw [hC] at hC'; cases hC'
      exact ⟨a, dx, vs, rfl, hsl⟩
    · cases e
  | _ => cases e
/-- what a property of the class C asks -/
structure PropAt (K : PySem.W.Frag) (C : Addr) (f : Str) (p g : Addr) : Prop where
  sc : SlX.SCls K C
  at_ : PySem.W.findIn K (.ref C) f = some (some (.ref p))
  get : PySem.W.specialIn K (.ref p) "__get__" = some (some (.builtin "property.__get__"))
  tk : PySem.W.takesIn K (.ref p) = some true
  rc : ∃ rest, PySem.W.recIn K p "property" = some (.ref g :: rest)
def gProp (c : Nat) (m : List D → AH → Res D) (x : D) (A : AH) : Res D := if insC A x = some c then match m [x] A with
  | .ok d A1 => .ok d A1
  | _ => .stuck
  else .stuck
theorem je_prop (o : XO X G W k) {fn : Str} {e : Expr} {pos : Pos} {fa : Ev → AH → Res D} {p g : Addr} (P : PropAt X.K C fn p g) (hC : G.cls c = some C) (F : FnG X.prog X.w X.K X.mg X.base G j g m) (hj : j + 1 ≤ k) (he : JE X G W e fa) (hb : attributeBase e fn X.env (eval e X.env) = eval e X.env := by rfl) :
    JE X G W (.Attribute e fn pos) (sUn (gProp c m) fa) := by
  refine ⟨⟨fun pins s σ H Q I h => ?_⟩⟩
  obtain ⟨γ, A, env, S, h⟩ := h
  refine attr_of hb (thn (he.run.run pins s σ H (fun v H1 => ∃ γ1 A1 d, Rel G γ1 A1 H1 ∧ VR G γ1 H1 d v ∧ Post G γ1 H1 (gProp c m d A1) (fun γ' _ H' d => ∀ v, VR G γ' H' d v → Q v H') (fun c a H' => W c a σ H')) I
    ⟨γ, A, env, S, Post.bind h fun d A1 γ1 H1 e1 R1 h1 v r1 => ⟨γ1, A1, d, R1, r1, h1⟩⟩) fun u s1 ⟨v, H1, I1, ru, γ1, A1, d, R1, r1, h1⟩ => ?_)
  unfold gProp at h1
  split at h1
  · rename_i hi
    obtain ⟨a, dx, vs, rfl, hsl⟩ := insC_at R1 r1 hi hC
    obtain rfl : u = Value.ref a := ru
    obtain ⟨sl, od, _, J, _⟩ := SlX.slt_inst I1 hsl
    obtain ⟨rest, hrec⟩ := P.rc
    have I2 : Inv X pins σ H1 { s1 with toks := s1.toks + 1 } := I1.tok (s1.toks + 1)
    refine PySem.W.get_bind I1.kIn J (PySem.W.plainGet_of (P.sc.get fn)).1 (PySem.W.findObj_data P.sc.ic P.at_ P.get P.tk) (PySem.W.plainGet_of (P.sc.get fn)).2 (wpAny_call (PySem.W.prop_get (s := { s1 with toks := s1.toks + 1 }) I1.kIn hrec ?_))
    refine codeAny_mono (F X.A.in1 X.stack { s1 with toks := s1.toks + 1 } H1 [.ref a] [.ref a] [d] γ1 A1 Q (fun _ _ _ => False) (o.room.mono hj).in1 o.gd I2.env0.in1 (.cons rfl .nil) R1 (VRs.cons r1 VRs.nil) ?_) fun z s' hq => ?_
    · cases q : m [d] A1 with
      | ok d2 A2 => rw [q] at h1; exact h1
      | ex x A2 => rw [q] at h1; exact h1.elim
      | stuck => rw [q] at h1; exact h1.elim
    · cases z with
      | error e =>
        obtain ⟨a, B, H', cls, d, _, _, _, _, _, _, _, z⟩ := hq
        exact z.elim
      | ok fl =>
        cases fl with
        | ret u =>
          obtain ⟨v, H', I3, rv, q⟩ := I2.after hq
          exact wpAny_of_eq (PySem.W.handedOut_of (handed_of rv)) ⟨v, H', I3, rv, q⟩
        | _ => exact False.elim hq
  · exact h1.elim
end
end F3
namespace F3
open PySem PySem.Spec
open PyProof.Rows L2
/-! ### == and != of a class with its own __eq__ -/
section
variable {M : Model} {A : Around} {E : Value → Shared → Prop} {s : Shared} {K : PySem.W.Frag} {x C g : Addr} {y : Value} {ox : Obj} {od : Option Obj}
theorem ne_slot (X : K.In s.heap) (I : PySem.W.InstAt s.heap x ox C od) (hs : PySem.W.findIn K (.ref C) "__eq__" = some (some (.ref g))) (hf : PySem.W.isFn K (.ref g) = true) (hu : A.units < cLine) {Q : Fin → Shared → Prop}
    (hcall : wpAny M A (call (.ref g) [.ref x, y]) (fun v s' => ∃ b, v = .bool b ∧ Q (.done (.ret (.bool (!b)))) s') E s) : wpAny M A (Builtin.«object.__ne__» ⟨[.ref x, y], []⟩) Q E s := by
  unfold Builtin.«object.__ne__»
  repeat (first
    | with_reducible refine wpAny_cRoomFor hu ?_
    | (refine wpAny_bind (m := callSpecialIfBound? (.ref x) (Str.ofString "__eq__") [y])
        (PySem.W.ifBound_K X I hs hf (wpAny_mono hcall (fun r s' hr => by
          obtain ⟨b, rfl, hq⟩ := hr
          repeat (first | exact hq | exact wpAny_pure hq | exact wpAny_truthy_bool hq | (refine wpAny_bind (m := truthy (.bool _)) (wpAny_truthy_bool ?_)) | wp_step)) fun _ _ e => e)))
    | wp_step)
theorem ne_check (X : K.In s.heap) (I : PySem.W.InstAt s.heap x ox C od) (hb : PySem.W.subIn K (.ref C) (.type "object") = some true) {Q : Unit → Shared → Prop} (hq : Q () s) :
    wpAny M A (checkBuiltinCall "object.__ne__" ⟨[.ref x, y], []⟩) Q E s := by
  simp only [checkBuiltinCall, PySem.F.cmpKind_ne, PySem.F.cmpSplit_ne]
  refine wpAny_bind ?_
  unfold isInstance
  refine wpAny_bind (I.type.here ((PySem.W.looks_subIn X hb).here ?_))
  show wpAny M A _ _ E s
  repeat (first
    | (simp only [if_true]; fail_if_success trivial)
    | wp_step)
  exact hq
theorem ne_try {prog : Program} {w : World} (X : K.In s.heap) (I : PySem.W.InstAt s.heap x ox C od) (hb : PySem.W.subIn K (.ref C) (.type "object") = some true) (hs : PySem.W.findIn K (.ref C) "__eq__" = some (some (.ref g))) (hf : PySem.W.isFn K (.ref g) = true)
    (hn : PySem.W.findIn K (.ref C) "__ne__" = some (some (.builtin "object.__ne__"))) (hu : A.units + 1 < cLine) {Q : Option Value → Shared → Prop}
    (hcall : wpAny (model prog w) A.in1 (call (.ref g) [.ref x, y]) (fun v s' => ∃ b, v = .bool b ∧ Q (some (.bool (!b))) s') E s) : wpAny (model prog w) A (tryCompare (.ref x) "__ne__" y) Q E s := by
  have body : wpAny (model prog w) A (call (.builtin "object.__ne__") [.ref x, y]) (fun v s' => ∃ b, v = .bool b ∧ Q (some (.bool b)) s') E s := by
    refine wpAny_call (codeAny_call_builtin PySem.F.cmp_object.ne.plain PySem.F.cmpEntry_ne (ne_check X I hb (ne_slot (A := A.in1) X I hs hf hu (wpAny_mono hcall (fun v s' hv => ?_) fun _ _ e => e))))
    obtain ⟨b, rfl, hq⟩ := hv
    exact ⟨b, rfl, ⟨!b, rfl, hq⟩⟩
  unfold tryCompare
  refine wpAny_bind (m := callSpecialIfBound? (.ref x) "__ne__" [y]) ?_
  refine wpAny_mono (Q := fun r s' => ∃ b, r = some (.bool b) ∧ Q (some (.bool b)) s') ?_ (fun r s' ⟨b, e, q⟩ => by subst e; exact wpAny_pure q) fun _ _ e => e
  simp only [callSpecialIfBound?, bindSpecialIfBound?]
  refine wpAny_holding (wpAny_bind (wpAny_bind (wpAny_bind (I.type.here ((PySem.W.looks_findIn X hn).here ?_)))))
  refine wpAny_bind (wpAny_askSetting (wpAny_ite ?_))
  simp only [PySem.F.cmp_object.ne.bind]
  have fin : wpAny (model prog w) A (call (.builtin "object.__ne__") ([.ref x] ++ [y]) >>= fun v => pure (some v)) (fun r s' => ∃ b, r = some (.bool b) ∧ Q (some (.bool b)) s') E s :=
    wpAny_bind (wpAny_mono body (fun v s' ⟨b, e, q⟩ => wpAny_pure ⟨b, by rw [e], q⟩) fun _ _ e => e)
  split
  · exact wpAny_bind (wpAny_pure (wpAny_pure fin))
  · exact wpAny_tryCatch (wpAny_bind (wpAny_pure (wpAny_pure fin)))
theorem ne_rich {prog : Program} {w : World} {tb : Value} (X : K.In s.heap) (I : PySem.W.InstAt s.heap x ox C od) (hy : PySem.W.Looks (model prog w) s.heap (typeOf y) tb) (ht : PySem.W.notFirst K C tb = true) (hb : PySem.W.subIn K (.ref C) (.type "object") = some true) (hs : PySem.W.findIn K (.ref C) "__eq__" = some (some (.ref g))) (hf : PySem.W.isFn K (.ref g) = true)
    (hn : PySem.W.findIn K (.ref C) "__ne__" = some (some (.builtin "object.__ne__"))) (hu : A.units + 1 < cLine) {Q : Value → Shared → Prop}
    (hcall : wpAny (model prog w) A.in1 (call (.ref g) [.ref x, y]) (fun v s' => ∃ b, v = .bool b ∧ Q (.bool (!b)) s') E s) : wpAny (model prog w) A (richCompare .NotEq (.ref x) y) Q E s := by
  have one : wpAny (model prog w) A (tryCompare (.ref x) "__ne__" y) (fun r s' => ∃ b, r = some (.bool b) ∧ Q (.bool b) s') E s :=
    ne_try X I hb hs hf hn hu (wpAny_mono hcall (fun v s' ⟨b, e, q⟩ => ⟨b, e, !b, rfl, q⟩) fun _ _ e => e)
  unfold richCompare
  simp only [oneThing_ref]
  refine wpAny_holding (wpAny_bind (wpAny_cRoomFor (Nat.lt_of_succ_lt hu) ?_))
  rw [cmpInfo_NotEq]
  dsimp only
  refine wpAny_bind (I.type.here (wpAny_bind (hy.here ?_)))
  split
  · rename_i q
    have e : PySem.W.subIn K tb (.ref C) = some false := by
      rcases Bool.or_eq_true_iff.mp ht with e | e
      · rw [beq_iff_eq.mp e] at q; simp at q
      · exact beq_iff_eq.mp e
    refine wpAny_bind ((PySem.W.looks_subIn X e).here ?_)
    simp only [Bool.false_eq_true, if_false]
    refine wpAny_bind (wpAny_mono one (fun r s' ⟨b, e, q⟩ => ?_) fun _ _ e => e)
    subst e
    exact wpAny_pure q
  · refine wpAny_bind (wpAny_pure ?_)
    simp only [Bool.false_eq_true, if_false]
    refine wpAny_bind (wpAny_mono one (fun r s' ⟨b, e, q⟩ => ?_) fun _ _ e => e)
    subst e
    exact wpAny_pure q
end
/-! ### .. as rules -/
/-- what the class at C has of ==: its own def at g -/
structure EqAt (K : PySem.W.Frag) (C g : Addr) : Prop where
  eq : PySem.W.findIn K (.ref C) "__eq__" = some (some (.ref g))
  ne : PySem.W.findIn K (.ref C) "__ne__" = some (some (.builtin "object.__ne__"))
  fn : PySem.W.isFn K (.ref g) = true
  ob : PySem.W.subIn K (.ref C) (.type "object") = some true
/-- the def's answer; n: turned about -/
def gOwnEq (c : Nat) (m : List D → AH → Res D) (n : Bool) (x y : D) (A : AH) : Res D := if insC A x = some c then (if insC A y = some c then (match m [x, y] A with
  | .ok (.bl b) A1 => .ok (.bl (n ^^ b)) A1
  | _ => .stuck) else .stuck) else .stuck
def rOwnG (G : Gc) (c : Nat) (m : List D → AH → Res D) (n : Bool) : R2 := fun x y H Q => ∃ γ A a b, Rel G γ A H ∧ VR G γ H a x ∧ VR G γ H b y ∧ Post G γ H (gOwnEq c m n a b A) (fun γ' _ H' d => ∀ v, VR G γ' H' d v → Q v H') (fun _ _ _ => False)
section
variable {X : Cx} {G : Gc} {W : WX} {k j c : Nat} {g C : Addr} {m : List D → AH → Res D}
theorem own_call {A : Around} {pins : List (Addr × Obj)} {σ : L2.St} {H : Hp} {s : Shared} {n : Bool} {a b : Addr} {x y : D} {γ : Gh} {Ah : AH} {Q : VK} (F : FnG X.prog X.w X.K X.mg X.base G j g m) (hr : Room j A) (hg : A.guards = some []) (e0 : Env0 X.prog X.w X.K X.mg X.base A X.stack s H) (I : Inv X pins σ H s)
    (R : Rel G γ Ah H) (r1 : VR G γ H x (.ref a)) (r2 : VR G γ H y (.ref b)) (h : Post G γ H (gOwnEq c m n x y Ah) (fun γ' _ H' d => ∀ v, VR G γ' H' d v → Q v H') (fun _ _ _ => False)) {Ex : Value → Shared → Prop} :
    wpAny (model X.prog X.w) A (call (.ref g) [.ref a, .ref b]) (fun v s' => ∃ z, v = .bool z ∧ EP X pins σ Q (.bool (n ^^ z)) s') Ex s := by
  refine wpAny_call (codeAny_mono (F A X.stack s H [.ref a, .ref b] [.ref a, .ref b] [x, y] γ Ah (fun v H' => ∃ z, v = .bl z ∧ Q (.bl (n ^^ z)) H') (fun _ _ _ => False) hr hg e0 (.cons rfl (.cons rfl .nil)) R (VRs.cons r1 (VRs.cons r2 VRs.nil)) ?_) fun z s' hq => ?_)
  · unfold gOwnEq at h
    split at h
    · split at h
      · split at h
        · rename_i z A1 q
          rw [q]
          intro γ' H' e R' v rv
          unfold VR at rv
          exact ⟨z, rv, h γ' H' e R' _ (by unfold VR; rfl)⟩
        · exact h.elim
      · exact h.elim
    · exact h.elim
  · cases z with
    | error e =>
      obtain ⟨a, B, H', cls, d, _, _, _, _, _, _, _, z⟩ := hq
      exact z.elim
    | ok fl =>
      cases fl with
      | ret u =>
        obtain ⟨v, H', I3, rv, z, ez, q⟩ := I.after hq
        subst ez
        exact ⟨z, rv, .bl (n ^^ z), H', I3, rfl, q⟩
      | _ => exact False.elim hq
theorem op_ownG (o : XO X G W k) {op : CmpOp} {n : Bool} (T : EqAt X.K C g) (hC : G.cls c = some C) (F : FnG X.prog X.w X.K X.mg X.base G j g m) (hj : j + 1 ≤ k) (hop : (op = .Eq ∧ n = false) ∨ (op = .NotEq ∧ n = true)) : OpR X (compareOp op) (rOwnG G c m n) := by
  intro pins s σ H x y v u Q I rx ry h
  obtain ⟨γ, A, a, b, R, r1, r2, h⟩ := h
  have h0 := h
  unfold gOwnEq at h
  split at h
  · rename_i h1
    split at h
    · rename_i h2
      obtain ⟨p, dx, vs, rfl, s1⟩ := insC_at R r1 h1 hC
      obtain ⟨q, dy, ws, rfl, s2⟩ := insC_at R r2 h2 hC
      cases (show v = Value.ref p from rx)
      cases (show u = Value.ref q from ry)
      obtain ⟨sl, od, _, J, _⟩ := SlX.slt_inst I s1
      obtain ⟨sl', od', _, J', _⟩ := SlX.slt_inst I s2
      obtain ⟨mF, hF⟩ := I.fr
      have nf : PySem.W.notFirst X.K C (.ref C) = true := by simp [PySem.W.notFirst]
      rcases hop with ⟨rfl, rfl⟩ | ⟨rfl, rfl⟩
      · show wpAny _ _ (richCompare .Eq _ _) _ _ _
        refine PySem.W.cmp_K (op := .Eq) (tb := .ref C) o.u0 hF I.ok.mod.kin J J'.type nf T.eq T.fn ?_
        refine wpAny_mono (own_call F (o.room.mono (by omega)) o.gd I.env0 I R r1 r2 h0) (fun w s' z => ?_) fun _ _ e => e
        obtain ⟨z, rfl, q⟩ := z
        rw [Bool.false_xor] at q
        exact q
      · show wpAny _ _ (richCompare .NotEq _ _) _ _ _
        refine ne_rich I.kIn J J'.type nf T.ob T.eq T.fn T.ne (by have := o.u64; omega) ?_
        refine wpAny_mono (own_call F (o.room.mono hj).in1 o.gd I.env0.in1 I R r1 r2 h0) (fun w s' z => ?_) fun _ _ e => e
        obtain ⟨z, rfl, q⟩ := z
        rw [Bool.true_xor] at q
        exact ⟨z, rfl, q⟩
    · exact h.elim
  · exact h.elim
/-- == of data, or by the class's own def -/
def gEqO (c : Nat) (m : List D → AH → Res D) (x y : D) (A : AH) : Res D := if insC A x = some c then gOwnEq c m false x y A else gEq x y A
def gNeO (c : Nat) (m : List D → AH → Res D) (x y : D) (A : AH) : Res D := if insC A x = some c then gOwnEq c m true x y A else gNe x y A
theorem post_noex {γ : Gh} {H : Hp} {A : AH} {n : Bool} {x y : D} {Q : Gh → AH → Hp → D → Prop} {Wx : WXe} (h : Post G γ H (gOwnEq c m n x y A) Q Wx) : Post G γ H (gOwnEq c m n x y A) Q (fun _ _ _ => False) := by
  unfold gOwnEq at h ⊢
  split at h
  · rename_i h1
    rw [if_pos h1]
    split at h
    · rename_i h2
      rw [if_pos h2]
      split at h
      · rename_i z A1 q
        exact h
      · exact h.elim
    · exact h.elim
  · exact h.elim
theorem XO.eqO (o : XO X G W k) (T : EqAt X.K C g) (hC : G.cls c = some C) (F : FnG X.prog X.w X.K X.mg X.base G j g m) (hj : j + 1 ≤ k) : CO X G .Eq (gEqO c m) := by
  refine ⟨_, OpR.or (op_ownG o (n := false) T hC F hj (.inl ⟨rfl, rfl⟩)) (op_eqD o.u64), fun γ A H a b x y Q Wx R r1 r2 h => ?_⟩
  unfold gEqO at h
  split at h
  · exact .inl ⟨γ, A, a, b, R, r1, r2, post_noex h⟩
  · exact .inr (ok_eq o.gk γ A H a b x y Q Wx R r1 r2 h)
theorem XO.neO (o : XO X G W k) (T : EqAt X.K C g) (hC : G.cls c = some C) (F : FnG X.prog X.w X.K X.mg X.base G j g m) (hj : j + 1 ≤ k) : CO X G .NotEq (gNeO c m) := by
  refine ⟨_, OpR.or (op_ownG o (n := true) T hC F hj (.inr ⟨rfl, rfl⟩)) (op_neD o.u64), fun γ A H a b x y Q Wx R r1 r2 h => ?_⟩
  unfold gNeO at h
  split at h
  · exact .inl ⟨γ, A, a, b, R, r1, r2, post_noex h⟩
  · exact .inr (ok_ne o.gk γ A H a b x y Q Wx R r1 r2 h)
end
end F3
namespace F3
open PySem PySem.Spec
open PyProof.Rows L2
/-! ### sorted -/
section
variable {α : Type}
def insB (lt : α → α → Bool) (x : α) : List α → List α
  | [] => [x]
  | y :: l => if lt y x then y :: insB lt x l else x :: y :: l
def isortB (lt : α → α → Bool) : List α → List α
  | [] => []
  | x :: l => insB lt x (isortB lt l)
theorem insB_perm (lt : α → α → Bool) (x : α) : ∀ l : List α, (insB lt x l).Perm (x :: l)
  | [] => .refl _
  | y :: l => by
    unfold insB
    split
    · exact ((insB_perm lt x l).cons y).trans (.swap x y l)
    · exact .refl _
theorem isortB_perm (lt : α → α → Bool) : ∀ l : List α, (isortB lt l).Perm l
  | [] => .refl _
  | x :: l => (insB_perm lt x _).trans ((isortB_perm lt l).cons x)
/-- a strict order that tells all things apart -/
structure Lin (lt : α → α → Bool) : Prop where
  tr : ∀ a b c, lt b a = false → lt c b = false → lt c a = false
  asym : ∀ a b, lt a b = true → lt b a = false
  eq : ∀ a b, lt a b = false → lt b a = false → a = b
theorem insB_sorted {lt : α → α → Bool} (L : Lin lt) (x : α) : ∀ l : List α, l.Pairwise (fun a b => lt b a = false) → (insB lt x l).Pairwise (fun a b => lt b a = false)
  | [], _ => .cons (fun _ h => nomatch h) .nil
  | y :: l, h => by
    obtain ⟨h1, h2⟩ := List.pairwise_cons.mp h
    unfold insB
    split
    · rename_i q
      refine .cons (fun z hz => ?_) (insB_sorted L x l h2)
      rcases List.mem_cons.mp ((insB_perm lt x l).mem_iff.mp hz) with e | e
      · subst e; exact L.asym _ _ q
      · exact h1 z e
    · rename_i q
      have q : lt y x = false := by simpa using q
      refine .cons (fun z hz => ?_) h
      rcases List.mem_cons.mp hz with e | e
      · subst e; exact q
      · exact L.tr _ _ _ q (h1 z e)
theorem isortB_sorted {lt : α → α → Bool} (L : Lin lt) : ∀ l : List α, (isortB lt l).Pairwise (fun a b => lt b a = false)
  | [] => .nil
  | x :: l => insB_sorted L x _ (isortB_sorted L l)
theorem sorted_one {lt : α → α → Bool} (L : Lin lt) : ∀ {l m : List α}, l.Pairwise (fun a b => lt b a = false) → m.Pairwise (fun a b => lt b a = false) → l.Perm m → l = m
  | [], m, _, _, h => (List.Perm.eq_nil h.symm).symm
  | x :: l, [], _, _, h => absurd h.length_eq (by simp)
  | x :: l, y :: m, hl, hm, h => by
    obtain ⟨l1, l2⟩ := List.pairwise_cons.mp hl
    obtain ⟨m1, m2⟩ := List.pairwise_cons.mp hm
    have e : x = y := by
      rcases List.mem_cons.mp (h.mem_iff.mp List.mem_cons_self) with e | hx
      · exact e
      · rcases List.mem_cons.mp (h.mem_iff.mpr List.mem_cons_self) with e | hy
        · exact e.symm
        · exact L.eq _ _ (m1 x hx) (l1 y hy)
    subst e
    rw [sorted_one L l2 m2 h.cons_inv]
end
def ltI (a b : Int) : Bool := decide (a < b)
theorem lin_int : Lin ltI := ⟨fun a b c h1 h2 => by unfold ltI at *; simp at *; omega, fun a b h => by unfold ltI at *; simp at *; omega, fun a b h1 h2 => by unfold ltI at *; simp at *; omega⟩
theorem lin_lex : Lin SrtO.lexB := ⟨fun a b c h1 h2 => by rw [SrtO.lexB_no] at *; omega, fun a b h => by rw [SrtO.lexB_no]; rw [SrtO.lexB_iff] at h; omega, fun a b h1 h2 => by
  rw [SrtO.lexB_no] at *
  obtain ⟨a1, a2⟩ := a
  obtain ⟨b1, b2⟩ := b
  simp only at *
  have e1 : a1 = b1 := by omega
  have e2 : a2 = b2 := by omega
  rw [e1, e2]⟩
def dpairs : List D → Option (List (Int × Int))
  | [] => some []
  | .tup [.int i, .int j] :: r => (dpairs r).map ((i, j) :: ·)
  | _ => none
def pD (p : Int × Int) : D := .tup [.int p.1, .int p.2]
theorem dpairs_map : ∀ {ds : List D} {ns : List (Int × Int)}, dpairs ds = some ns → ds = ns.map pD
  | [], ns, h => by unfold dpairs at h; cases h; rfl
  | d :: ds, ns, h => by
    unfold dpairs at h
    split at h
    · rename_i e; cases e
    · rename_i i j r e
      cases e
      obtain ⟨ms, e1, rfl⟩ := Option.map_eq_some_iff.mp h
      rw [dpairs_map e1]; rfl
    · cases h
def sortP (ds : List D) : Option (List D) := match dints ds with
  | some ns => some ((isortB ltI ns).map .int)
  | none => (dpairs ds).map fun ps => (isortB SrtO.lexB ps).map pD
def gSorted (ds : List D) (A : AH) : Res D := match ds with
  | [d] => match (asQ A d).bind sortP with
    | some xs => .ok (.lst xs) A
    | none => .stuck
  | _ => .stuck
def kH (H : Hp) (v : V) : Int × Int := match v with
  | .ref t => match H t with
    | some (.tup [.int i, .int j]) => (i, j)
    | _ => (0, 0)
  | _ => (0, 0)
section
variable {X : Cx} {G : Gc} {W : WX} {k : Nat}
theorem vr_pair {γ : Gh} {H : Hp} {p : Int × Int} {v : V} (h : VR G γ H (pD p) v) : ∃ t, v = .ref t ∧ H t = some (.tup [.int p.1, .int p.2]) ∧ γ.o t = none := by
  unfold pD at h
  unfold VR at h
  obtain ⟨a, vs, rfl, f, r⟩ := h
  obtain ⟨v1, v2, rfl, r1, r2⟩ := VRs.two r
  unfold VR at r1 r2
  subst r1 r2
  exact ⟨a, rfl, f.1, f.2⟩
theorem kH_of {γ : Gh} {H : Hp} {p : Int × Int} {v : V} (h : VR G γ H (pD p) v) : kH H v = p := by
  obtain ⟨t, rfl, e, _⟩ := vr_pair h
  unfold kH
  simp only [e]
theorem VRs.mem {γ : Gh} {H : Hp} : ∀ {ds : List D} {vs : List V} {v : V}, VRs G γ H ds vs → v ∈ vs → ∃ d ∈ ds, VR G γ H d v
  | [], vs, v, h, m => by unfold VRs at h; subst h; cases m
  | d :: ds, vs, v, h, m => by
    unfold VRs at h
    obtain ⟨u, r, rfl, h1, h2⟩ := h
    rcases List.mem_cons.mp m with e | e
    · subst e; exact ⟨d, List.mem_cons_self, h1⟩
    · obtain ⟨d', m', h'⟩ := VRs.mem h2 e
      exact ⟨d', List.mem_cons_of_mem _ m', h'⟩
theorem kH_map {γ : Gh} {H : Hp} : ∀ {ps : List (Int × Int)} {vs : List V}, VRs G γ H (ps.map pD) vs → vs.map (kH H) = ps
  | [], vs, h => by unfold VRs at h; subst h; rfl
  | p :: ps, vs, h => by
    simp only [List.map_cons] at h
    unfold VRs at h
    obtain ⟨u, r, rfl, h1, h2⟩ := h
    rw [List.map_cons, kH_of h1, kH_map h2]
theorem pairs_back {γ : Gh} {H : Hp} : ∀ {ys : List V}, (∀ y ∈ ys, ∃ p, VR G γ H (pD p) y) → VRs G γ H ((ys.map (kH H)).map pD) ys
  | [], _ => VRs.nil
  | y :: ys, h => by
    obtain ⟨p, hp⟩ := h y List.mem_cons_self
    refine VRs.cons ?_ (pairs_back fun z hz => h z (List.mem_cons_of_mem _ hz))
    rw [kH_of hp]; exact hp
theorem XO.sorted (o : XO X G W k) : CB X G (.builtin "sorted") gSorted := by
  refine ⟨_, CallR.or cr_sortedI cr_sortedPO, fun γ A H ds vs Q Wx R rv h => ?_⟩
  unfold gSorted at h
  split at h
  · rename_i d
    obtain ⟨v, rfl, r⟩ := VRs.one rv
    split at h
    · rename_i xs q
      obtain ⟨ds, q1, q2⟩ := Option.bind_eq_some_iff.mp q
      obtain ⟨a, ws, rfl, r2, hq⟩ := asQ_at R r q1
      rw [o.gk] at hq
      unfold sortP at q2
      split at q2
      · rename_i ns e
        cases q2
        rw [ints_map e] at r2
        obtain rfl := r2.intsV
        refine .inl ⟨a, ns, rfl, hq, fun ns' p hp hs hn => ?_⟩
        have e2 : ns' = isortB ltI ns := sorted_one lin_int (hs.imp fun {x y} z => by unfold ltI; simp; omega) (isortB_sorted lin_int _) (hp.trans (isortB_perm _ _).symm)
        subst e2
        exact Post.new (ob := .lst _) R hn h _ (VR.newL R hn (VRs.ints _))
      · obtain ⟨ps, e, rfl⟩ := Option.map_eq_some_iff.mp q2
        rw [dpairs_map e] at r2
        refine .inr ⟨a, ws, kH H, rfl, hq, fun x hx => ?_, fun ys p hs hb hn => ?_⟩
        · obtain ⟨d, hd, hv⟩ := r2.mem hx
          obtain ⟨p, _, rfl⟩ := List.mem_map.mp hd
          obtain ⟨t, rfl, e, _⟩ := vr_pair hv
          rw [kH_of hv]
          exact ⟨t, rfl, e⟩
        · have e2 : ys.map (kH H) = isortB SrtO.lexB ps := by
            refine sorted_one lin_lex (List.pairwise_map.mpr hs) (isortB_sorted lin_lex _) ?_
            refine (hb.perm.map _).trans ?_
            rw [kH_map r2]
            exact (isortB_perm _ _).symm
          have rb : VRs G γ H ((ys.map (kH H)).map pD) ys := pairs_back fun y hy => by
            obtain ⟨d, hd, hv⟩ := r2.mem (hb.perm.mem_iff.mp hy)
            obtain ⟨p, _, rfl⟩ := List.mem_map.mp hd
            exact ⟨p, hv⟩
          rw [e2] at rb
          exact Post.new (ob := .lst ys) R hn h _ (VR.newL R hn rb)
    · exact h.elim
  · exact h.elim
/-! ### list -/
theorem XO.list (o : XO X G W k) : CB X G (.type "list") gList := by
  refine ⟨_, call_list_of, fun γ A H ds vs Q Wx R rv h => ?_⟩
  unfold gList at h
  split at h
  · obtain ⟨v, rfl, r⟩ := VRs.one rv
    split at h
    · rename_i xs q
      obtain ⟨a, ws, rfl, r2, hq⟩ := asL_at R r q
      rw [o.gk] at hq
      exact ⟨a, ws, rfl, hq, fun p hp => Post.new (ob := .lst ws) R hp h _ (VR.newL R hp r2)⟩
    · exact h.elim
  · exact h.elim
/-! ### a def that hands back a thing that is changed -/
def runN (n p : Nat) (g : Ev → AH → SR) (ds : List D) (A : AH) : Res D :=
  if ds.length = p then
    match g (ds.map some ++ List.replicate (n - p) none) A with
    | .nx _ A1 => .ok .non A1
    | .rt d A1 => .ok d A1
    | .ex x _ A1 => .ex x A1
    | _ => .stuck
  else .stuck
theorem fnN_of {P : Program} {w : World} {K : PySem.W.Frag} {mg : Str → Option Value} {base : Heap} {x qual : Str} {st : Stmt} {f : Addr} {fd : FuncData} {N ps : List Str} {g : Ev → AH → SR} (F : Fun K x qual st f fd) (Sc : FnScope N ps (defScope st)) (hK : G.K = K)
    (hb : ∀ (kV doc pm : Value) (an : Option Addr) (cdv ct : Value) (us : List Value), us.length = ps.length → bindArgs (PySem.W.fnOf x qual (defArgs st) (defBody st) (defScope st) .none kV doc pm an cdv ct) ⟨us, []⟩ = pure (ps.zip us))
    (body : ∀ (cdv : Value) (A : Around) (outer : List Env) (s : Shared) (H : Hp) (E : XK), XO (cxOf (L2.CX P w) P w K mg base N qual (defScope st) f cdv A outer s H E) G (fun c d _ H => E c d H) k →
      JB (cxOf (L2.CX P w) P w K mg base N qual (defScope st) f cdv A outer s H E) G (fun c d _ H => E c d H) (defBody st) g) :
    FnG P w K mg base G (k + 1) f (runN N.length ps.length g) := by
  intro A outer s H us vs ds γ Ah Q E hr hg e0 r R rv h
  obtain ⟨oc, od, kV, doc, pm, an, cdv, ct, osl, rfl, lk, hcd⟩ := F.ex
  unfold runN at h
  by_cases hl : ds.length = ps.length
  · rw [if_pos hl] at h
    have hlv : vs.length = ps.length := by rw [← rv.length]; exact hl
    have hNp : ps.length ≤ N.length := by have := congrArg List.length Sc.pre; rw [List.length_take] at this; omega
    refine LamX.run_ofS (N := N) (us := us) (vs := vs) lk hcd Sc hr e0 (.of_eq (hb _ _ _ _ _ _ us (by rw [← r.length]; exact hlv))) r hlv fun hr' => ?_
    have o : XO (cxOf (L2.CX P w) P w K mg base N qual (defScope st) f cdv A outer s H E) G (fun c d _ H => E c d H) k :=
      ⟨takes_of rfl rfl rfl rfl, passes_of rfl, rfl, hr', hg, hK⟩
    refine ⟨_, (body cdv A outer s H E o).run, γ, Ah, ds.map some ++ List.replicate (N.length - ps.length) none, ⟨R, ?_, er_start rv N (by rw [hlv])⟩, ?_⟩
    · unfold L2.start
      simp only [List.length_append, List.length_map, List.length_replicate]
      omega
    · cases q : g (ds.map some ++ List.replicate (N.length - ps.length) none) Ah with
      | nx env1 A1 =>
        rw [q] at h
        exact fun γ' H' σ' e S => h γ' H' e S.rel .non (by unfold VR; rfl)
      | rt d A1 =>
        rw [q] at h
        exact fun γ' H' v e R' r' => h γ' H' e R' v r'
      | ex x env1 A1 =>
        rw [q] at h
        exact fun γ' H' σ' cls ad e S xr => h γ' H' cls ad e S.rel xr
      | bk env1 A1 => rw [q] at h; exact h.elim
      | ct env1 A1 => rw [q] at h; exact h.elim
      | stuck => rw [q] at h; exact h.elim
  · rw [if_neg hl] at h; exact h.elim
end
end F3
namespace F3
open PySem PySem.Spec
open PyProof.Rows L2
/-! ### the law's own end -/
section
variable {P : Program} {w : World} {K : PySem.W.Frag} {mg mb : Str → Option Value} {k : Nat} {fa a : Addr} {st : Shared} {vals : List Value} {ns : List Int}
/-- what stands at the start of the law's def -/
structure Begin (K : PySem.W.Frag) (mg mb : Str → Option Value) (st : Shared) (a : Addr) (vals : List Value) (ns : List Int) : Prop where
  kin : K.In st.heap
  glo : st.heap.Ns mainGlobals mg
  bl : st.heap.Ns builtinsNs mb
  bb : ∀ x : Str, x ≠ "__name__" → mb x = bootBuiltins x
  lim : st.heap.NoLimit
  gens : st.gens = #[]
  at_ : st.heap.get? a = some { cls := .type "list", data := .seq vals.toArray }
  nums : IntsAre vals ns
  len : ns.length ≤ sizeLine
def Gh0 : Gh := ⟨[], fun _ => none⟩
theorem rel0 {G : Gc} {H : Hp} (hT : G.T = []) : Rel G Gh0 [] H := by
  refine ⟨rfl, fun i o e => by simp at e, fun b x e => ?_, fun q hq => ?_, fun _ _ _ => rfl⟩
  · cases e
  · rw [hT] at hq; cases hq
theorem begin_run {G : Gc} {m : List D → AH → Res D} (B : Begin K mg mb st a vals ns) (hr : Room k callerA) (hT : G.T = []) (hK : G.K = K) (F : ∀ base : Heap, K.In base → base.Ns mainGlobals mg → FnG P w K mg base G k fa m) (hm : ∃ A, m [.scr (ns.map .int)] [] = .ok (.bl true) A)
    (H : Hp) (hO : Only H) (hS : SqL K H a (ns.map V.int)) (hok : HOk P w H st.heap) (hA : ∀ b, H b ≠ none → b = a) (hL : H a ≠ none → K.lookup a = none) :
    codeAny (model P w) callerA (.call (.ref fa) ⟨[.ref a], []⟩) (fun r s' => r = .ok (.ret (.bool true)) ∧ OldK st.heap s'.heap ∧ s'.os = st.os ∧ AllBare s'.gens) st := by
  -- all but the script lies in the ground
  have low : ∀ {b : Addr} {o : Obj}, st.heap.get? b = some o → H b = none → (hidT st.heap H).get? b = some o := fun z z' => hidT_get z z'
  have dictFree : ∀ {b : Addr} {o : Obj} {es : Array DictEntry} {ep : Nat}, st.heap.get? b = some o → o.data = .dict es ep → H b = none := fun {b o es ep} z zd => by
    rcases hO b with q | ⟨oo, xs, q⟩
    · exact q
    · have hb : b = a := hA b (by rw [q]; exact fun z => nomatch z)
      subst hb
      have oe := B.at_.symm.trans z
      cases oe
      have dd : Data.seq vals.toArray _ = Data.dict es ep := zd
      cases dd
  have lowNs : ∀ {b : Addr} {mm : Str → Option Value}, st.heap.Ns b mm → (hidT st.heap H).Ns b mm := fun {b mm} z => by
    obtain ⟨o, es, ep, z1, z2, z3⟩ := z
    exact ⟨o, es, ep, low z1 (dictFree z1 z2), z2, z3⟩
  have lowK : K.In (hidT st.heap H) := fun b o z => by
    refine low (B.kin b o z) ?_
    rcases hO b with q | ⟨oo, xs, q⟩
    · exact q
    · have hb : b = a := hA b (by rw [q]; exact fun z => nomatch z)
      subst hb
      rw [hL (by rw [q]; exact fun z => nomatch z)] at z
      cases z
  obtain ⟨mc, l1, l2⟩ := B.lim
  have md : Mod K mg (hidT st.heap H) := ⟨lowK, lowNs B.glo, ⟨mb, lowNs B.bl, B.bb⟩, ⟨mc, lowNs l1, l2⟩⟩
  have start : Env0 P w K mg (hidT st.heap H) callerA [] st H := ⟨rfl, md, fun b o z => of_hidT z, Nat.le_of_eq (hidT_size _ _), trivial, fun b hb => (List.not_mem_nil (show b ∈ ([] : List Addr) from hb)).elim, hok, .of_eq B.gens⟩
  have script : VR G Gh0 H (.scr (ns.map .int)) (.ref a) := by
    unfold VR
    refine ⟨a, ns.map V.int, rfl, ?_, VRs.ints ns⟩
    rcases hS with hS | hS
    · exact .inl ⟨hS, rfl⟩
    · right; rw [hK]; exact .inr hS
  obtain ⟨A1, hm⟩ := hm
  refine codeAny_mono (F _ lowK (lowNs B.glo) callerA [] st H [.ref a] [.ref a] [.scr (ns.map .int)] Gh0 [] (fun v _ => v = .bl true) (fun _ _ _ => False) hr rfl start (.cons rfl .nil) (rel0 hT) (VRs.cons script VRs.nil) ?_) fun r s' z => ?_
  · rw [hm]
    intro γ' H' e R v rv
    unfold VR at rv
    exact rv
  · match r, z with
    | .error _, z =>
      obtain ⟨_, _, _, _, _, _, _, _, _, _, _, _, no⟩ := z
      exact no.elim
    | .ok .next, z => exact False.elim z
    | .ok .brk, z => exact False.elim z
    | .ok .cont, z => exact False.elim z
    | .ok (.ret u), z =>
      obtain ⟨v, H', os, bare, un, hok', ru, rfl⟩ := z
      obtain rfl : u = Value.bool true := ru
      refine ⟨rfl, OldK.of_keep fun b o z => ?_, os, bare⟩
      rcases hO b with q | ⟨oo, xs, q⟩
      · exact un.keep b o z q (fun y => (List.not_mem_nil (show b ∈ ([] : List Addr) from y)).elim) (by simp)
      · obtain ⟨y1, _⟩ := hok b _ q
        obtain ⟨y2, _⟩ := hok' b _ (un.frzs b oo _ q)
        rw [z] at y1; cases y1
        exact y2
theorem begin_all {G : Gc} {m : List D → AH → Res D} (B : Begin K mg mb st a vals ns) (hr : Room k callerA) (hT : G.T = []) (hK : G.K = K) (F : ∀ base : Heap, K.In base → base.Ns mainGlobals mg → FnG P w K mg base G k fa m) (hm : ∃ A, m [.scr (ns.map .int)] [] = .ok (.bl true) A) :
    codeAny (model P w) callerA (.call (.ref fa) ⟨[.ref a], []⟩) (fun r s' => r = .ok (.ret (.bool true)) ∧ OldK st.heap s'.heap ∧ s'.os = st.os ∧ AllBare s'.gens) st := by
  have rv := vals_ints B.nums
  have lv := B.nums.length
  rcases q : K.lookup a with _ | o
  · let ob : Obj := { cls := .type "list", data := .seq vals.toArray }
    let H : Hp := fun b => if b = a then some (.frz ob (.lst (ns.map V.int))) else none
    have atA : H a = some (.frz ob (.lst (ns.map V.int))) := if_pos rfl
    have off : ∀ b, b ≠ a → H b = none := fun b z => if_neg z
    refine begin_run B hr hT hK F hm H (fun b => ?_) (.inl (.inr ⟨ob, atA⟩)) (fun b u z => ?_) (fun b z => ?_) fun _ => q
    · by_cases z : b = a
      · subst z; exact .inr ⟨_, _, atA⟩
      · exact .inl (off b z)
    · by_cases y : b = a
      · subst y
        rw [atA] at z; cases z
        exact ⟨B.at_, by rw [List.length_map]; exact B.len, vals, _, rv, B.at_⟩
      · rw [off b y] at z; cases z
    · by_cases y : b = a
      · exact y
      · exact (z (off b y)).elim
  · have z := (B.kin a o q).symm.trans B.at_
    cases z
    refine begin_run B hr hT hK F hm (fun _ => none) (fun _ => .inl rfl) (.inr ⟨_, vals.toArray, _, q, rfl, rfl, rfl, ?_, by simpa using rv⟩) (fun b u z => nomatch z) (fun b z => (z rfl).elim) fun z => (z rfl).elim
    rw [List.size_toArray, lv]; exact B.len
end
/-- a law, from what its def reckons -/
theorem walkG {l : PySem.W.OpenLaw} {n k : Nat} {q : Program} {loose : List Str} {XP : (Str → Option Value) → Heap → Prop} {YP : World → Heap → Prop} {d : DefRec} {K : Params → PySem.W.Frag}
    (hn : l.most = some n) (hn2 : n ≤ sizeLine) (hdf : d.params.defaults = []) (hr : Room k callerA) (hY : ∀ (w : World) (h : Heap), YP w h → (K w.params).In h)
    (F : ∀ (w : World) (mg : Str → Option Value) (fa : Addr) (h : Heap), (K w.params).In h → h.Ns mainGlobals mg → mg d.name = some (.ref fa) →
      ∃ (G : Gc) (m : List D → AH → Res D), G.T = [] ∧ G.K = K w.params ∧ (∀ ns : List Int, ns.length ≤ n → ∃ A, m [.scr (ns.map .int)] [] = .ok (.bl true) A) ∧
        ∀ base : Heap, (K w.params).In base → base.Ns mainGlobals mg → FnG l.prog w (K w.params) mg base G k fa m) :
    PySem.W.WalkO q loose XP YP l.row.toRowW d [] (fun f vs => PySem.call f vs) := by
  refine Att.attach_call hn hdf fun w s₀ st mg mb fa o pm cd doc a vals ns GG Y ho hd hcd hmg hobj hints hlen hg => ?_
  have hk := hY w _ Y
  obtain ⟨G, m, hT, hK, hm, hF⟩ := F w mg fa _ hk GG.T.g hmg
  exact begin_all ⟨hk, GG.T.g, GG.T.b, GG.T.builtins, GG.T.nolimit, hg, hobj, hints, Nat.le_trans hlen hn2⟩ hr hT hK hF (hm ns hlen)
theorem room_caller {k : Nat} (h : callerA.depth + 3 * k + 5 < recursionLimit) (h' : callerA.units + 16 * k + 200 < cLine) : Room k callerA := ⟨rfl, h, h'⟩
end F3
namespace F3
open PySem PySem.Spec
open PyProof.Rows L2
/-! ### facts about names, asked of the written scopes alone -/
section
variable {X : Cx} {G : Gc} {W : WX} {k : Nat}
theorem XO.blk (o : XO X G W k) {s : Shared} {H : Hp} {scope : Scope} {cenv : Env} {fp : List Addr} : XO (X.blk s H scope cenv fp) G W0 k := by
  refine ⟨fun u s' x => ?_, PassesOwn.never, o.calm, o.room, o.gd, o.gk⟩
  obtain ⟨a, B, sI, pins, σ, H, cls, d, _, _, _, _, _, _, _, _, no⟩ := x
  exact no.elim
section
variable {CX : CXT} {P : Program} {w : World} {K : PySem.W.Frag} {mg : Str → Option Value} {base : Heap} {N : List Str} {qual : Str} {sc : Scope} {f : Addr} {cd : Value} {A : Around} {outer : List Env} {s : Shared} {H : Hp} {E : XK} {x : Str}
theorem vf (h : sc.names.lookup x = some .local) : Vis (cxOf CX P w K mg base N qual sc f cd A outer s H E).env.scope x := .inl h
theorem vfc (h : sc.names.lookup x = some .cell) : Vis (cxOf CX P w K mg base N qual sc f cd A outer s H E).env.scope x := .inr (.inl h)
theorem gf (h : sc.names.lookup x = some .globalImplicit) : Gl (cxOf CX P w K mg base N qual sc f cd A outer s H E) x := h
theorem lf (h : sc.names.lookup x = some .local) : Loc (cxOf CX P w K mg base N qual sc f cd A outer s H E).env.scope x := .inl h
theorem lfc (h : sc.names.lookup x = some .cell) : Loc (cxOf CX P w K mg base N qual sc f cd A outer s H E).env.scope x := .inr h
theorem ff : (cxOf CX P w K mg base N qual sc f cd A outer s H E).fn x = true ∨ (cxOf CX P w K mg base N qual sc f cd A outer s H E).env.scope.names.lookup x = some .local := .inl rfl
theorem qf (h : sc.names.lookup x = some .local) : (cxOf CX P w K mg base N qual sc f cd A outer s H E).env.scope.names.lookup x = some .local := h
theorem bf {scope : Scope} {own : List (Str × Nat)} (h : blkC N sc scope own = true) : BlkOk (cxOf CX P w K mg base N qual sc f cd A outer s H E).N (cxOf CX P w K mg base N qual sc f cd A outer s H E).env.scope scope own := blkOk_by h
end
theorem rel_other {env : Env} {x : Str} {kd : NameKind} (nf : kd ≠ .free) : ∀ {names : List (Str × NameKind)}, names.lookup x = some kd →
    (names.map fun (n, k) => if (k == NameKind.free && env.scope.kind == .function && env.kindOf n == some .cell) then (n, NameKind.cell) else (n, k)).lookup x = some kd
  | [], h => by cases h
  | (n, q) :: r, h => by
    have ih := rel_other (env := env) (x := x) nf (names := r)
    simp only [List.map_cons]
    cases hx : x == n with
    | true =>
      simp only [List.lookup_cons, hx, Option.some.injEq] at h
      subst h
      have : (q == NameKind.free) = false := by simpa using nf
      simp [this, List.lookup_cons, hx]
    | false =>
      simp only [List.lookup_cons, hx] at h
      split <;> simp only [List.lookup_cons, hx] <;> exact ih h
theorem rel_free {env : Env} {x : Str} : ∀ {names : List (Str × NameKind)}, names.lookup x = some .free →
    (names.map fun (n, k) => if (k == NameKind.free && env.scope.kind == .function && env.kindOf n == some .cell) then (n, NameKind.cell) else (n, k)).lookup x = some .cell ∨
    (names.map fun (n, k) => if (k == NameKind.free && env.scope.kind == .function && env.kindOf n == some .cell) then (n, NameKind.cell) else (n, k)).lookup x = some .free
  | [], h => by cases h
  | (n, q) :: r, h => by
    have ih := rel_free (env := env) (x := x) (names := r)
    simp only [List.map_cons]
    cases hx : x == n with
    | true =>
      simp only [List.lookup_cons, hx, Option.some.injEq] at h
      subst h
      split <;> simp [List.lookup_cons, hx]
    | false =>
      simp only [List.lookup_cons, hx] at h
      split <;> simp only [List.lookup_cons, hx] <;> exact ih h
variable {s : Shared} {H : Hp} {scope : Scope} {cl : List (Str × Addr)} {C : Addr} {fp : List Addr} {x : Str}
theorem vb (h : scope.names.lookup x = some .local) : Vis (X.blk s H scope (compEnvC scope cl C X.env) fp).env.scope x := .inl (rel_other (by decide) h)
theorem vbc (h : scope.names.lookup x = some .cell) : Vis (X.blk s H scope (compEnvC scope cl C X.env) fp).env.scope x := .inr (.inl (rel_other (by decide) h))
theorem vbf (h : scope.names.lookup x = some .free) : Vis (X.blk s H scope (compEnvC scope cl C X.env) fp).env.scope x := .inr (rel_free h)
theorem gb (h : scope.names.lookup x = some .globalImplicit) : Gl (X.blk s H scope (compEnvC scope cl C X.env) fp) x := rel_other (names := scope.names) (by decide) h
theorem lb (h : scope.names.lookup x = some .local) : Loc (X.blk s H scope (compEnvC scope cl C X.env) fp).env.scope x := .inl (rel_other (by decide) h)
theorem lbc (h : scope.names.lookup x = some .cell) : Loc (X.blk s H scope (compEnvC scope cl C X.env) fp).env.scope x := .inr (rel_other (by decide) h)
theorem fb (h : scope.names.lookup x = some .local) : (X.blk s H scope (compEnvC scope cl C X.env) fp).fn x = true ∨ (X.blk s H scope (compEnvC scope cl C X.env) fp).env.scope.names.lookup x = some .local := .inr (rel_other (by decide) h)
theorem fbc (h : scope.names.lookup x = some .cell) : (X.blk s H scope (compEnvC scope cl C X.env) fp).fn x = true ∨ (X.blk s H scope (compEnvC scope cl C X.env) fp).env.scope.names.lookup x = some .local := .inl (by show (scope.names.lookup x == some .cell) = true; rw [h]; rfl)
/-- a block in a block -/
theorem bb {outer : Scope} {N : List Str} {inner : Scope} {own : List (Str × Nat)} (h : blkC X.N (relabel scope X.env) inner own = true) : BlkOk (X.blk s H scope (compEnvC scope cl C X.env) fp).N (X.blk s H scope (compEnvC scope cl C X.env) fp).env.scope inner own := blkOk_by h
/-- the module's constants -/
theorem je_gi {i : Int} {pos : Pos} (hg : Gl X x) (hd : (x == ("__debug__" : Str)) = false) (hm : ∃ t, X.mg x = some (.int i t)) : JE X G W (.Name x pos) (sC (.int i)) := let ⟨_, h⟩ := hm; je_globI hg hd h
theorem je_gs {y : Str} {pos : Pos} (hg : Gl X x) (hd : (x == ("__debug__" : Str)) = false) (hm : ∃ t, X.mg x = some (.str y t)) : JE X G W (.Name x pos) (sC (.str y)) := let ⟨_, h⟩ := hm; je_globS hg hd h
end
theorem bt_len : bootBuiltins "len" = some (.builtin "len") := by decide +kernel
theorem bt_all : bootBuiltins "all" = some (.builtin "all") := by decide +kernel
theorem bt_any : bootBuiltins "any" = some (.builtin "any") := by decide +kernel
theorem bt_max : bootBuiltins "max" = some (.builtin "max") := by decide +kernel
theorem bt_min : bootBuiltins "min" = some (.builtin "min") := by decide +kernel
theorem bt_abs : bootBuiltins "abs" = some (.builtin "abs") := by decide +kernel
theorem bt_repr : bootBuiltins "repr" = some (.builtin "repr") := by decide +kernel
theorem bt_sorted : bootBuiltins "sorted" = some (.builtin "sorted") := by decide +kernel
theorem bt_isinstance : bootBuiltins "isinstance" = some (.builtin "isinstance") := by decide +kernel
theorem bt_int : bootBuiltins "int" = some (.type "int") := by decide +kernel
theorem bt_str : bootBuiltins "str" = some (.type "str") := by decide +kernel
theorem bt_bool : bootBuiltins "bool" = some (.type "bool") := by decide +kernel
theorem bt_tuple : bootBuiltins "tuple" = some (.type "tuple") := by decide +kernel
theorem bt_list : bootBuiltins "list" = some (.type "list") := by decide +kernel
theorem bt_dict : bootBuiltins "dict" = some (.type "dict") := by decide +kernel
theorem isB_int (K : PySem.W.Frag) : ∀ t ∈ (["NoneType", "bool", "int", "str", "tuple", "list", "dict"] : List String), PySem.W.kitOne K (.type t) (.type "int") = some (isiB t "int") := by
  intro t ht
  simp only [List.mem_cons, List.not_mem_nil, or_false] at ht
  rcases ht with rfl | rfl | rfl | rfl | rfl | rfl | rfl <;> kernel_rfl
theorem isB_bool (K : PySem.W.Frag) : ∀ t ∈ (["NoneType", "bool", "int", "str", "tuple", "list", "dict"] : List String), PySem.W.kitOne K (.type t) (.type "bool") = some (isiB t "bool") := by
  intro t ht
  simp only [List.mem_cons, List.not_mem_nil, or_false] at ht
  rcases ht with rfl | rfl | rfl | rfl | rfl | rfl | rfl <;> kernel_rfl
theorem isB_str (K : PySem.W.Frag) : ∀ t ∈ (["NoneType", "bool", "int", "str", "tuple", "list", "dict"] : List String), PySem.W.kitOne K (.type t) (.type "str") = some (isiB t "str") := by
  intro t ht
  simp only [List.mem_cons, List.not_mem_nil, or_false] at ht
  rcases ht with rfl | rfl | rfl | rfl | rfl | rfl | rfl <;> kernel_rfl
theorem isB_tuple (K : PySem.W.Frag) : ∀ t ∈ (["NoneType", "bool", "int", "str", "tuple", "list", "dict"] : List String), PySem.W.kitOne K (.type t) (.type "tuple") = some (isiB t "tuple") := by
  intro t ht
  simp only [List.mem_cons, List.not_mem_nil, or_false] at ht
  rcases ht with rfl | rfl | rfl | rfl | rfl | rfl | rfl <;> kernel_rfl
theorem isB_list (K : PySem.W.Frag) : ∀ t ∈ (["NoneType", "bool", "int", "str", "tuple", "list", "dict"] : List String), PySem.W.kitOne K (.type t) (.type "list") = some (isiB t "list") := by
  intro t ht
  simp only [List.mem_cons, List.not_mem_nil, or_false] at ht
  rcases ht with rfl | rfl | rfl | rfl | rfl | rfl | rfl <;> kernel_rfl
theorem isB_dict (K : PySem.W.Frag) : ∀ t ∈ (["NoneType", "bool", "int", "str", "tuple", "list", "dict"] : List String), PySem.W.kitOne K (.type t) (.type "dict") = some (isiB t "dict") := by
  intro t ht
  simp only [List.mem_cons, List.not_mem_nil, or_false] at ht
  rcases ht with rfl | rfl | rfl | rfl | rfl | rfl | rfl <;> kernel_rfl
theorem kits {K : PySem.W.Frag} {C : Addr} (h1 : PySem.W.kitOne K (.type "NoneType") (.ref C) = some false) (h2 : PySem.W.kitOne K (.type "bool") (.ref C) = some false) (h3 : PySem.W.kitOne K (.type "int") (.ref C) = some false) (h4 : PySem.W.kitOne K (.type "str") (.ref C) = some false)
    (h5 : PySem.W.kitOne K (.type "tuple") (.ref C) = some false) (h6 : PySem.W.kitOne K (.type "list") (.ref C) = some false) (h7 : PySem.W.kitOne K (.type "dict") (.ref C) = some false) :
    ∀ t ∈ (["NoneType", "bool", "int", "str", "tuple", "list", "dict"] : List String), PySem.W.kitOne K (.type t) (.ref C) = some false := by
  intro t ht
  simp only [List.mem_cons, List.not_mem_nil, or_false] at ht
  rcases ht with rfl | rfl | rfl | rfl | rfl | rfl | rfl <;> assumption
theorem strEq {mg : Str → Option Value} {x y z : Str} {t : Tok} (h : mg x = some (.str y t)) (e : y = z) : mg x = some (.str z t) := e ▸ h
end F3
namespace F3
open PySem PySem.Spec
open PyProof.Rows L2
/-! ### reckoning by simp: only what stands first is looked at -/
section
variable {α β : Type} {env : Ev} {A : AH}
/-- what hangs on k: simp leaves k as it stands -/
structure Dep {α : Type} (k : α) : Type where
/-- as bind; simp reads it word by word -/
def Res.bd {α β : Type} (r : Res α) (k : α → AH → Res β) (_ : Dep k := ⟨⟩) : Res β := r.bind k
/-- as lft -/
def lfv {α : Type} (r : Res α) (env : Ev) (k : α → AH → SR) (_ : Dep k := ⟨⟩) : SR := lft r env k
@[simp] theorem bind_ok (a : α) (A : AH) (k : α → AH → Res β) (u : Dep k) : Res.bd (.ok a A) k u = k a A := rfl
@[simp] theorem bind_ex (x : Xn) (A : AH) (k : α → AH → Res β) (u : Dep k) : Res.bd (.ex x A) k u = .ex x A := rfl
@[simp] theorem bind_stuck (k : α → AH → Res β) (u : Dep k) : Res.bd (.stuck : Res α) k u = .stuck := rfl
@[simp] theorem lft_ok (a : α) (A : AH) (k : α → AH → SR) (u : Dep k) : lfv (.ok a A) env k u = k a A := rfl
@[simp] theorem lft_ex (x : Xn) (A : AH) (k : α → AH → SR) (u : Dep k) : lfv (.ex x A) env k u = .ex x env A := rfl
@[simp] theorem lft_stuck (k : α → AH → SR) (u : Dep k) : lfv (.stuck : Res α) env k u = .stuck := rfl
def SR.seq (r : SR) (g : Ev → AH → SR) (_ : Dep g := ⟨⟩) : SR := match r with
  | .nx env A => g env A
  | r => r
@[simp] theorem seq_nx (g : Ev → AH → SR) (u : Dep g) : SR.seq (.nx env A) g u = g env A := rfl
@[simp] theorem seq_rt (d : D) (g : Ev → AH → SR) (u : Dep g) : SR.seq (.rt d A) g u = .rt d A := rfl
@[simp] theorem seq_bk (g : Ev → AH → SR) (u : Dep g) : SR.seq (.bk env A) g u = .bk env A := rfl
@[simp] theorem seq_ct (g : Ev → AH → SR) (u : Dep g) : SR.seq (.ct env A) g u = .ct env A := rfl
@[simp] theorem seq_ex (x : Xn) (g : Ev → AH → SR) (u : Dep g) : SR.seq (.ex x env A) g u = .ex x env A := rfl
@[simp] theorem seq_stuck (g : Ev → AH → SR) (u : Dep g) : SR.seq .stuck g u = .stuck := rfl
@[simp] theorem e_bSeq (f g : Ev → AH → SR) : bSeq f g env A = SR.seq (f env A) g := by
  unfold bSeq SR.seq; cases f env A <;> rfl
/-- a def's end -/
def SR.fin (n : Nat) (r : SR) : Res D := match r with
  | .nx _ A1 => clean n .non A1
  | .rt d A1 => clean n d A1
  | .ex x _ A1 => cleanX n x A1
  | _ => .stuck
@[simp] theorem fin_nx (n : Nat) : SR.fin n (.nx env A) = clean n .non A := rfl
@[simp] theorem fin_rt (n : Nat) (d : D) : SR.fin n (.rt d A) = clean n d A := rfl
@[simp] theorem fin_ex (n : Nat) (x : Xn) : SR.fin n (.ex x env A) = cleanX n x A := rfl
theorem e_runF (n p : Nat) (g : Ev → AH → SR) (ds : List D) (h : ds.length = p) : runF n p g ds A = SR.fin A.length (g (ds.map some ++ List.replicate (n - p) none) A) := by
  unfold runF SR.fin; rw [if_pos h] <;> try rfl
def SR.finN (r : SR) : Res D := match r with
  | .nx _ A1 => .ok .non A1
  | .rt d A1 => .ok d A1
  | .ex x _ A1 => .ex x A1
  | _ => .stuck
@[simp] theorem finN_rt (d : D) : SR.finN (.rt d A) = .ok d A := rfl
theorem e_runN (n p : Nat) (g : Ev → AH → SR) (ds : List D) (h : ds.length = p) : runN n p g ds A = SR.finN (g (ds.map some ++ List.replicate (n - p) none) A) := by
  unfold runN SR.finN; rw [if_pos h] <;> try rfl
@[simp] theorem clean_same (d : D) : clean A.length d A = .ok d A := if_pos rfl
@[simp] theorem cleanX_same (x : Xn) : cleanX A.length x A = .ex x A := if_pos rfl
/-! the words -/
@[simp] theorem e_sVar (i : Nat) : sVar i env A = (match env[i]? with
  | some (some d) => .ok d A
  | _ => .stuck) := rfl
@[simp] theorem e_sC (d : D) : sC d env A = .ok d A := rfl
@[simp] theorem e_sBin (g : D → D → AH → Res D) (fa fb : Ev → AH → Res D) : sBin g fa fb env A = (fa env A).bd fun x A1 => (fb env A1).bd fun y A2 => g x y A2 := rfl
@[simp] theorem e_sUn (g : D → AH → Res D) (fa : Ev → AH → Res D) : sUn g fa env A = (fa env A).bd fun x A1 => g x A1 := rfl
def tst (d : D) (A : AH) : Res Bool := match d with
  | .bl b => .ok b A
  | _ => .stuck
@[simp] theorem tst_bl (b : Bool) : tst (.bl b) A = .ok b A := rfl
@[simp] theorem e_sTest (f : Ev → AH → Res D) : sTest f env A = (f env A).bd tst := by
  rfl
def chn (g' : D → D → AH → Res D) (fc : Ev → AH → Res D) (env : Ev) (y z : D) (A : AH) : Res D := match z with
  | .bl true => (fc env A).bd fun w A4 => g' y w A4
  | .bl false => .ok (.bl false) A
  | _ => .stuck
@[simp] theorem chn_t (g' : D → D → AH → Res D) (fc : Ev → AH → Res D) (y : D) : chn g' fc env y (.bl true) A = (fc env A).bd fun w A4 => g' y w A4 := rfl
@[simp] theorem chn_f (g' : D → D → AH → Res D) (fc : Ev → AH → Res D) (y : D) : chn g' fc env y (.bl false) A = .ok (.bl false) A := rfl
@[simp] theorem e_sChain (g g' : D → D → AH → Res D) (fa fb fc : Ev → AH → Res D) : sChain g g' fa fb fc env A = (fa env A).bd fun x A1 => (fb env A1).bd fun y A2 => (g x y A2).bd fun z A3 => chn g' fc env y z A3 := rfl
def cnd {β : Type} (k1 k2 : AH → β) (b : Bool) (A : AH) : β := match b with
  | true => k1 A
  | false => k2 A
@[simp] theorem cnd_t {β : Type} (k1 k2 : AH → β) : cnd k1 k2 true A = k1 A := rfl
@[simp] theorem cnd_f {β : Type} (k1 k2 : AH → β) : cnd k1 k2 false A = k2 A := rfl
@[simp] theorem e_sAndT (f g : Ev → AH → Res Bool) : sAndT f g env A = (f env A).bd (cnd (g env) (.ok false)) := by
  unfold sAndT; congr 1
@[simp] theorem e_sOrT (f g : Ev → AH → Res Bool) : sOrT f g env A = (f env A).bd (cnd (.ok true) (g env)) := by
  unfold sOrT; congr 1
@[simp] theorem e_sNotT (f : Ev → AH → Res Bool) : sNotT f env A = (f env A).bd fun c A1 => .ok (!c) A1 := rfl
def vcn (k1 k2 : AH → Res D) (d : D) (A : AH) : Res D := match d with
  | .bl true => k1 A
  | .bl false => k2 A
  | _ => .stuck
@[simp] theorem vcn_t (k1 k2 : AH → Res D) : vcn k1 k2 (.bl true) A = k1 A := rfl
@[simp] theorem vcn_f (k1 k2 : AH → Res D) : vcn k1 k2 (.bl false) A = k2 A := rfl
@[simp] theorem e_sAndV (f g : Ev → AH → Res D) : sAndV f g env A = (f env A).bd (vcn (g env) (.ok (.bl false))) := by
  rfl
@[simp] theorem e_sOrV (f g : Ev → AH → Res D) : sOrV f g env A = (f env A).bd (vcn (.ok (.bl true)) (g env)) := by
  rfl
@[simp] theorem e_sNotV (f : Ev → AH → Res D) : sNotV f env A = (f env A).bd fun c A1 => match c with
  | .bl b => .ok (.bl (!b)) A1
  | _ => .stuck := rfl
@[simp] theorem e_sIf (c : Ev → AH → Res Bool) (f g : Ev → AH → Res D) : sIf c f g env A = (c env A).bd (cnd (f env) (g env)) := by
  unfold sIf; congr 1
@[simp] theorem e_sNil : sNil env A = .ok [] A := rfl
@[simp] theorem e_sCons (f : Ev → AH → Res D) (g : Ev → AH → Res (List D)) : sCons f g env A = (f env A).bd fun d A1 => (g env A1).bd fun ds A2 => .ok (d :: ds) A2 := rfl
@[simp] theorem e_sStar (f : Ev → AH → Res D) (g : Ev → AH → Res (List D)) : sStar f g env A = (f env A).bd fun d A1 => match asL A1 d with
  | some xs => (g env A1).bd fun ds A2 => .ok (xs ++ ds) A2
  | none => .stuck := rfl
@[simp] theorem e_sTup (f : Ev → AH → Res (List D)) : sTup f env A = (f env A).bd fun ds A1 => if ds.length ≤ sizeLine then .ok (.tup ds) A1 else .stuck := rfl
@[simp] theorem e_sLst (f : Ev → AH → Res (List D)) : sLst f env A = (f env A).bd fun ds A1 => if ds.length ≤ sizeLine then .ok (.lst ds) A1 else .stuck := rfl
@[simp] theorem e_sLstM (f : Ev → AH → Res (List D)) : sLstM f env A = (f env A).bd fun ds A1 => if ds.length ≤ sizeLine then .ok (.ref A1.length) (A1 ++ [.lst ds]) else .stuck := rfl
@[simp] theorem e_sCall (g : List D → AH → Res D) (f : Ev → AH → Res (List D)) : sCall g f env A = (f env A).bd fun ds A1 => g ds A1 := rfl
@[simp] theorem e_oNone : oNone env A = .ok none A := rfl
@[simp] theorem e_oSome (f : Ev → AH → Res D) : oSome f env A = (f env A).bd fun d A1 => match d with
  | .int i => .ok (some i) A1
  | _ => .stuck := rfl
@[simp] theorem e_sSlice (fa : Ev → AH → Res D) (fl fh : Ev → AH → Res (Option Int)) : sSlice fa fl fh env A = (fa env A).bd fun x A1 => (fl env A1).bd fun lo A2 => (fh env A2).bd fun hi A3 => gSl lo hi x A3 := rfl
@[simp] theorem e_sM1 (g : Str → D → AH → Res D) (fa fb : Ev → AH → Res D) : sM1 g fa fb env A = (fa env A).bd fun x A1 => match x with
  | .str a => (fb env A1).bd fun y A2 => g a y A2
  | _ => .stuck := rfl
@[simp] theorem e_sFmt (f : Ev → AH → Res D) : sFmt f env A = (f env A).bd fun d A1 => match d with
  | .str y => if y.length ≤ sizeLine then .ok (.str y) A1 else .stuck
  | .int i => if i.natAbs.log2 < 1920 then .ok (.str (toString i)) A1 else .stuck
  | _ => .stuck := rfl
@[simp] theorem e_fsNil (acc : Str) : fsL [] acc env A = .ok (.str acc) A := rfl
@[simp] theorem e_fsL (f : Ev → AH → Res D) (fs : List (Ev → AH → Res D)) (acc : Str) : fsL (f :: fs) acc env A = (f env A).bd fun d A1 => match d with
  | .str y => if (acc ++ y).length ≤ sizeLine then fsL fs (acc ++ y) env A1 else .stuck
  | _ => .stuck := rfl
@[simp] theorem e_sIsiB (T : String) (f : Ev → AH → Res D) : sIsiB T f env A = (f env A).bd fun x A1 => gIsiB T x A1 := rfl
@[simp] theorem e_sIsiO (c : Nat) (f : Ev → AH → Res D) : sIsiO c f env A = (f env A).bd fun x A1 => gIsiO c x A1 := rfl
@[simp] theorem e_sLC (vs : List Nat) (fi : Ev → AH → Res (List D)) (st : Ev → D → Option Ev) (t : Ev → AH → Res Bool) (f : Ev → AH → Res D) : sLC vs fi st t f env A = (fi env A).bd fun ds A1 => if ds.length ≤ sizeLine then (compL st t f ds (wip vs env) A1).bd fun ds A1 => .ok (.lst ds) A1 else .stuck := by
  unfold sLC sComp
  cases fi env A with
  | ok ds A1 =>
    show (if ds.length ≤ sizeLine then compL st t f ds (wip vs env) A1 else .stuck).bind _ = if ds.length ≤ sizeLine then (compL st t f ds (wip vs env) A1).bind _ else .stuck
    split <;> rfl
  | ex x A1 => rfl
  | stuck => rfl
@[simp] theorem e_sAppend (fa fb : Ev → AH → Res D) : sAppend fa fb env A = (fa env A).bd fun x A1 => match x with
  | .ref i => match A1[i]? with
    | some (.lst _) => (fb env A1).bd fun d A2 => match A2[i]? with
      | some (.lst ds) => if ds.length < sizeLine then .ok .non (A2.set i (.lst (ds ++ [d]))) else .stuck
      | _ => .stuck
    | _ => .stuck
  | _ => .stuck := rfl
@[simp] theorem e_iOf (f : Ev → AH → Res D) : iOf f env A = (f env A).bd fun d A1 => match d with
  | .tup ds => .ok ds A1
  | .lst ds => .ok ds A1
  | .str z => .ok (z.cps.toList.map fun c => .str ⟨#[c]⟩) A1
  | _ => .stuck := by
  rfl
theorem e_iRange1 (f : Ev → AH → Res (List D)) : iRange1 f env A = (f env A).bd fun ds A1 => match ds with
  | [.int j] => if j.natAbs < 2 ^ 62 then .ok (rngL 0 1 j.toNat) A1 else .stuck
  | _ => .stuck := rfl
theorem e_iRange2 (f : Ev → AH → Res (List D)) : iRange2 f env A = (f env A).bd fun ds A1 => match ds with
  | [.int i, .int j] => if i.natAbs < 2 ^ 62 ∧ j.natAbs < 2 ^ 62 then .ok (rngL i 1 (j - i).toNat) A1 else .stuck
  | _ => .stuck := rfl
@[simp] theorem e_iZip2 (f : Ev → AH → Res (List D)) : iZip2 f env A = (f env A).bd fun ds A1 => match ds with
  | [.tup xs, .tup ys] => .ok (zipD xs ys) A1
  | [.lst xs, .lst ys] => .ok (zipD xs ys) A1
  | _ => .stuck := rfl
@[simp] theorem e_iEnum1 (f : Ev → AH → Res (List D)) : iEnum1 f env A = (f env A).bd fun ds A1 => match ds with
  | [.lst xs] => .ok (enumD 0 xs) A1
  | _ => .stuck := rfl
@[simp] theorem e_tTrue : tTrue env A = .ok true A := rfl
@[simp] theorem e_gNm (i : Nat) (d : D) : gNm i env d = some (env.set i (some d)) := rfl
@[simp] theorem e_gEnd : gEnd env [] = some env := rfl
@[simp] theorem e_gMore (g : Ev → D → Option Ev) (gs : Ev → List D → Option Ev) (d : D) (r : List D) : gMore g gs env (d :: r) = (g env d).bind fun env1 => gs env1 r := rfl
@[simp] theorem e_gTp (gs : Ev → List D → Option Ev) (ds : List D) : gTp gs env (.tup ds) = gs env ds := rfl
@[simp] theorem e_bNil : bNil env A = .nx env A := rfl
@[simp] theorem e_bRet (f : Ev → AH → Res D) : bRet f env A = lfv (f env A) env fun d A1 => .rt d A1 := rfl
@[simp] theorem e_bExpr (f : Ev → AH → Res D) : bExpr f env A = lfv (f env A) env fun _ A1 => .nx env A1 := rfl
@[simp] theorem e_bIf (c : Ev → AH → Res Bool) (f g : Ev → AH → SR) : bIf c f g env A = lfv (c env A) env (cnd (f env) (g env)) := by
  unfold bIf; congr 1
def stTo (o : Option Ev) (A : AH) : SR := match o with
  | some env1 => .nx env1 A
  | none => .stuck
@[simp] theorem stTo_some : stTo (some env) A = .nx env A := rfl
@[simp] theorem e_bSet (st : Ev → D → Option Ev) (f : Ev → AH → Res D) : bSet st f env A = lfv (f env A) env fun d A1 => stTo (st env d) A1 := by
  rfl
@[simp] theorem e_bPar (i j : Nat) (f : Ev → AH → Res (List D)) : bPar i j f env A = lfv (f env A) env fun ds A1 => match ds with
  | [x, y] => .nx ((env.set i (some x)).set j (some y)) A1
  | _ => .stuck := rfl
@[simp] theorem e_bFor (fi : Ev → AH → Res (List D)) (st : Ev → D → Option Ev) (body : Ev → AH → SR) : bFor fi st body env A = lfv (fi env A) env fun ds A1 => forL st body ds env A1 := rfl
@[simp] theorem e_bStore (fo fi fe : Ev → AH → Res D) : bStore fo fi fe env A = lfv (fe env A) env fun d A1 => lfv (fo env A1) env fun x A2 => lfv (fi env A2) env fun y A3 => match x, y with
  | .ref r, .int n => match A3[r]? with
    | some (.lst ds) => match ixN ds.length n with
      | some j => .nx env (A3.set r (.lst (ds.set j d)))
      | none => .stuck
    | _ => .stuck
  | _, _ => .stuck := rfl
@[simp] theorem e_bFld (c i : Nat) (fo fe : Ev → AH → Res D) : bFld c i fo fe env A = lfv (fe env A) env fun d A1 => lfv (fo env A1) env fun x A2 => match x with
  | .ref r => match A2[r]? with
    | some (.ins c' fs) => if c' = c then .nx env (A2.set r (.ins c (putD i d fs))) else .stuck
    | _ => .stuck
  | _ => .stuck := rfl
def flds (gs : Ev → AH → List D → Option AH) (env : Ev) (d : D) (A : AH) : SR := match d with
  | .tup ds => match gs env A ds with
    | some A2 => .nx env A2
    | none => .stuck
  | _ => .stuck
@[simp] theorem e_bFlds (gs : Ev → AH → List D → Option AH) (f : Ev → AH → Res D) : bFlds gs f env A = lfv (f env A) env (flds gs env) := by
  rfl
@[simp] theorem e_aFld (c i : Nat) (fo : Ev → AH → Res D) (d : D) : aFld c i fo env A d = (match fo env A with
  | .ok (.ref r) A1 => match A1[r]? with
    | some (.ins c' fs) => if c' = c then some (A1.set r (.ins c (putD i d fs))) else none
    | _ => none
  | _ => none) := rfl
@[simp] theorem e_aEnd : aEnd env A [] = some A := rfl
@[simp] theorem e_aMore (g : Ev → AH → D → Option AH) (gs : Ev → AH → List D → Option AH) (d : D) (r : List D) : aMore g gs env A (d :: r) = (g env A d).bind fun A1 => gs env A1 r := rfl
@[simp] theorem e_bStuck : bStuck env A = .stuck := rfl
theorem range1_ok {f : Ev → AH → Res (List D)} {A1 : AH} {k : Nat} (h : f env A = .ok [.int k] A1) (hk : k < 1000000) : iRange1 f env A = .ok (rngL 0 1 k) A1 := by
  have h1 : (k : Int).natAbs < 2 ^ 62 := by rw [Int.natAbs_natCast]; omega
  unfold iRange1
  rw [h]
  simp only [Res.bind]
  rw [if_pos h1, Int.toNat_natCast]
/-! loops over lists, by what one turn does -/
/-- item by item -/
inductive All2 {α β : Type} (P : α → β → Prop) : List α → List β → Prop where
  | nil : All2 P [] []
  | cons {a : α} {b : β} {as : List α} {bs : List β} (h : P a b) (t : All2 P as bs) : All2 P (a :: as) (b :: bs)
theorem compL_map {st : Ev → D → Option Ev} {t : Ev → AH → Res Bool} {f : Ev → AH → Res D} {g : D → D} : ∀ (ds : List D), (∀ d ∈ ds, ∃ env1, st env d = some env1 ∧ t env1 A = .ok true A ∧ f env1 A = .ok (g d) A) → compL st t f ds env A = .ok (ds.map g) A
  | [], _ => rfl
  | d :: ds, h => by
    obtain ⟨env1, h1, h2, h3⟩ := h d List.mem_cons_self
    unfold compL
    rw [h1]; simp only; rw [h2]; simp only; rw [h3]; simp only
    rw [compL_map ds fun e he => h e (List.mem_cons_of_mem _ he)]
    rfl
/-- .. where the things that are changed are changed -/
theorem compL_inv {st : Ev → D → Option Ev} {t : Ev → AH → Res Bool} {f : Ev → AH → Res D} (I : AH → Prop) (P : D → D → Prop) : ∀ (ds : List D) (A : AH), I A → (∀ d ∈ ds, ∀ A, I A → ∃ env1 x A', st env d = some env1 ∧ t env1 A = .ok true A ∧ f env1 A = .ok x A' ∧ I A' ∧ P d x) →
    ∃ xs A', compL st t f ds env A = .ok xs A' ∧ I A' ∧ All2 P ds xs
  | [], A, hA, _ => ⟨[], A, rfl, hA, .nil⟩
  | d :: ds, A, hA, h => by
    obtain ⟨env1, x, A1, h1, h2, h3, h4, h5⟩ := h d List.mem_cons_self A hA
    obtain ⟨xs, A2, k1, k2, k3⟩ := compL_inv I P ds A1 h4 fun e he => h e (List.mem_cons_of_mem _ he)
    refine ⟨x :: xs, A2, ?_, k2, .cons h5 k3⟩
    unfold compL
    rw [h1]; simp only; rw [h2]; simp only; rw [h3]; simp only
    rw [k1]
theorem forL_inv {st : Ev → D → Option Ev} {body : Ev → AH → SR} (I : List D → Ev → AH → Prop) : ∀ (ds done : List D) (env : Ev) (A : AH), I done env A → (∀ (pre : List D) (d : D) (post : List D), done ++ ds = pre ++ d :: post → ∀ env A, I pre env A → ∃ env1 env2 A2, st env d = some env1 ∧ body env1 A = .nx env2 A2 ∧ I (pre ++ [d]) env2 A2) →
    ∃ env' A', forL st body ds env A = .nx env' A' ∧ I (done ++ ds) env' A'
  | [], done, env, A, h0, _ => ⟨env, A, rfl, by rw [List.append_nil]; exact h0⟩
  | d :: ds, done, env, A, h0, h => by
    obtain ⟨env1, env2, A2, h1, h2, h3⟩ := h done d ds rfl env A h0
    obtain ⟨env', A', k1, k2⟩ := forL_inv I ds (done ++ [d]) env2 A2 h3 fun pre e post q => h pre e post (by simpa using q)
    refine ⟨env', A', ?_, by simpa using k2⟩
    unfold forL
    rw [h1]; simp only; rw [h2]
    exact k1
end
/-! == by data -/
theorem gEq_of {A : AH} {x y : D} {d e : PyData} (h1 : toP (topD A x) = some d) (h2 : toP (topD A y) = some e) (s1 : SeqAt.shaped d = true) (s2 : SeqAt.shaped e = true) : gEq x y A = .ok (.bl (PyData.eqv d e)) A := by
  unfold gEq eqP; rw [h1, h2]; simp only [s1, s2, eqvF_eq]; rfl
theorem gNe_of {A : AH} {x y : D} {d e : PyData} (h1 : toP (topD A x) = some d) (h2 : toP (topD A y) = some e) (s1 : SeqAt.shaped d = true) (s2 : SeqAt.shaped e = true) : gNe x y A = .ok (.bl (!PyData.eqv d e)) A := by
  unfold gNe eqP; rw [h1, h2]; simp only [s1, s2, eqvF_eq]; rfl
theorem shaped_str {x : Str} (h : PyData.strOk x = true) : SeqAt.shaped (.str x) = true := by
  unfold SeqAt.shaped PyData.canLay0 PyData.depth; rw [h]; rfl
@[simp] theorem gEq_int (i j : Int) (A : AH) : gEq (.int i) (.int j) A = .ok (.bl (i == j)) A := gEq_of (d := .int i) (e := .int j) rfl rfl rfl rfl
@[simp] theorem gNe_int (i j : Int) (A : AH) : gNe (.int i) (.int j) A = .ok (.bl (!(i == j))) A := gNe_of (d := .int i) (e := .int j) rfl rfl rfl rfl
theorem gEq_str {x y : Str} (hx : PyData.strOk x = true) (hy : PyData.strOk y = true) (A : AH) : gEq (.str x) (.str y) A = .ok (.bl (x == y)) A := gEq_of (d := .str x) (e := .str y) rfl rfl (shaped_str hx) (shaped_str hy)
theorem gNe_str {x y : Str} (hx : PyData.strOk x = true) (hy : PyData.strOk y = true) (A : AH) : gNe (.str x) (.str y) A = .ok (.bl (!(x == y))) A := gNe_of (d := .str x) (e := .str y) rfl rfl (shaped_str hx) (shaped_str hy)
theorem toPs_strs : ∀ ls : List Str, toPs (ls.map .str) = some (ls.map .str)
  | [] => rfl
  | l :: ls => by
    show (match toP (.str l), toPs (ls.map .str) with | some p, some ps => some (p :: ps) | _, _ => none) = _
    rw [toPs_strs ls]; rfl
theorem toPs_ints : ∀ ls : List Int, toPs (ls.map .int) = some (ls.map .int)
  | [] => rfl
  | l :: ls => by
    show (match toP (.int l), toPs (ls.map .int) with | some p, some ps => some (p :: ps) | _, _ => none) = _
    rw [toPs_ints ls]; rfl
theorem lay_strs : ∀ ls : List Str, (∀ l ∈ ls, PyData.strOk l = true) → PyData.canLayAll0 (ls.map .str) = true ∧ PyData.depthAll (ls.map .str) = 0
  | [], _ => ⟨rfl, rfl⟩
  | l :: ls, h => by
    obtain ⟨h1, h2⟩ := lay_strs ls fun x hx => h x (List.mem_cons_of_mem _ hx)
    constructor
    · show (PyData.strOk l && PyData.canLayAll0 (ls.map .str)) = true
      rw [h l List.mem_cons_self, h1]; rfl
    · show max 0 (PyData.depthAll (ls.map .str)) = 0
      rw [h2]; rfl
theorem lay_ints : ∀ ls : List Int, PyData.canLayAll0 (ls.map .int) = true ∧ PyData.depthAll (ls.map .int) = 0
  | [] => ⟨rfl, rfl⟩
  | l :: ls => by
    obtain ⟨h1, h2⟩ := lay_ints ls
    exact ⟨by show (true && PyData.canLayAll0 (ls.map .int)) = true; rw [h1]; rfl, by show max 0 (PyData.depthAll (ls.map .int)) = 0; rw [h2]; rfl⟩
theorem shaped_list {ps : List PyData} (h : PyData.canLayAll0 ps = true) (h' : PyData.depthAll ps ≤ 60) : SeqAt.shaped (.list ps) = true := by
  unfold SeqAt.shaped PyData.canLay0 PyData.depth; rw [h]; simp; omega
theorem shaped_tuple {ps : List PyData} (h : PyData.canLayAll0 ps = true) (h' : PyData.depthAll ps ≤ 60) : SeqAt.shaped (.tuple ps) = true := by
  unfold SeqAt.shaped PyData.canLay0 PyData.depth; rw [h]; simp; omega
theorem eqv_lists {ps qs : List PyData} (h : PyData.canLayAll0 ps = true) (e : ps = qs) : PyData.eqvAll ps qs = true := by
  subst e; exact SeqAt.eqvAll_refl ps h
end F3
namespace F3
open PySem PySem.Spec
open PyProof.Rows L2
/-! ### try with many clauses, each with or without a name -/
/-- a clause: its class, its name's slot, its suite -/
structure Cls3 where
  c : Value
  i : Option Nat
  ts : Addr → Value → Option Addr → TS
/-- the ends behind a suite: its name is gone -/
def endsBehind (i : Option Nat) (D : Ends) : Ends := match i with
  | none => D
  | some i => { nx := fun σ H => D.nx (σ.set i none) H, rt := D.rt, bk := fun σ H => D.bk (σ.set i none) H, ct := fun σ H => D.ct (σ.set i none) H }
def slotsIn (i : Option Nat) (a : Addr) (σ : L2.St) : L2.St := match i with
  | none => σ
  | some i => σ.set i (some (.ref a))
def wMix (K : PySem.W.Frag) (Wout : WX) (D : Ends) : List Cls3 → WX
  | [] => Wout
  | k :: r => fun cls d σ H => ∃ b, PySem.W.exmOne K cls k.c = some b ∧ (b = true → ∀ a, H a = none → k.ts a cls d (endsBehind k.i D) (slotsIn k.i a σ) H) ∧ (b = false → wMix K Wout D r cls d σ H)
/-- the clauses as written -/
inductive HdMix (X : Cx) : List ExceptHandler → List Cls3 → Prop where
  | nil : HdMix X [] []
  | bare {x : Str} {c : Value} {ts : Addr → Value → Option Addr → TS} {st : Stmt} {suite : List Stmt} {np hp : Pos} {hds : List ExceptHandler} {l : List Cls3} (hc : Names X x c)
      (run : ∀ (a : Addr) (oe : Obj) (cls : Value) (d : Option Addr) (pn : List (Addr × Obj)), Zc cls d oe → (∃ vs, oe.data = .fields vs) → PSs (X.suite a ((a, oe) :: pn)) (st :: suite) (ts a cls d)) (r : HdMix X hds l) :
      HdMix X (.ExceptHandler (some (.Name x np)) none (st :: suite) hp :: hds) (⟨c, none, ts⟩ :: l)
  | named {x n : Str} {c : Value} {i : Nat} {ts : Addr → Value → Option Addr → TS} {st : Stmt} {suite : List Stmt} {np hp : Pos} {hds : List ExceptHandler} {l : List Cls3} (hc : Names X x c) (hi : X.N[i]? = some n) (hl : X.env.kindOf n = some .local)
      (run : ∀ (a : Addr) (oe : Obj) (cls : Value) (d : Option Addr) (pn : List (Addr × Obj)), Zc cls d oe → (∃ vs, oe.data = .fields vs) → PSs (X.suite a ((a, oe) :: pn)) (st :: suite) (ts a cls d)) (r : HdMix X hds l) :
      HdMix X (.ExceptHandler (some (.Name x np)) (some n) (st :: suite) hp :: hds) (⟨c, some i, ts⟩ :: l)
section
variable {X : Cx} {pins : List (Addr × Obj)} {σ : L2.St} {H : Hp} {sI s : Shared} {B : Heap} {a : Addr} {cls : Value} {d : Option Addr} {D : Ends} {Wout : WX}
/-- an exception that was caught: J the state without it, held at the frame -/
structure Held3 (X : Cx) (pins : List (Addr × Obj)) (σ : L2.St) (H : Hp) (B : Heap) (a : Addr) (cls : Value) (d : Option Addr) (sI s : Shared) : Prop where
  ok : X.Ok
  stk : X.stack = X.env :: X.outer
  fr : X.env.frame = some X.env.locals
  inv : Inv X pins σ H sI
  low : ∀ b o, sI.heap.get? b = some o → b ∉ frs X.stack → B.get? b = some o
  up : sI.heap.UpToSlots s.heap
  fl : HandSPX.FlyingZ B (X.env :: X.outer) a (Zc cls d) s.heap
  na : H a = none
  os : s.os = sI.os
  ag : AllBare s.gens
theorem Held3.here (h : Held3 X pins σ H B a cls d sI s) : Inv X pins σ H s := by
  obtain ⟨hh, g, dr, t, os⟩ := s
  exact h.inv.landed h.low h.fl.1 h.up h.os h.ag
theorem Held3.moved {h' : Heap} (h : Held3 X pins σ H B a cls d sI s) (f : HandSPX.FlyingZ B (X.env :: X.outer) a (Zc cls d) h') (u : s.heap.UpToSlots h') : Held3 X pins σ H B a cls d sI { s with heap := h' } :=
  ⟨h.ok, h.stk, h.fr, h.inv, h.low, h.up.trans u, f, h.na, h.os, h.ag⟩
/-- its object; it is no frame -/
theorem Held3.obj (h : Held3 X pins σ H B a cls d sI s) : ∃ oe vs, s.heap.get? a = some oe ∧ Zc cls d oe ∧ oe.data = .fields vs ∧ a ≠ X.env.locals ∧ a ∉ X.fs := by
  obtain ⟨oe, vs, e1, e2, e3⟩ := h.fl.there
  have off : a ∉ frs (X.env :: X.outer) := fun m => by
    obtain ⟨_, o', z, nf⟩ := h.fl.2.2.1.mem m
    rw [e1] at z
    cases z
    exact nf vs e3
  refine ⟨oe, vs, e1, e2, e3, fun z => off ?_, fun z => off ?_⟩
  · exact List.mem_filterMap.mpr ⟨X.env, .head _, by rw [h.fr, z]⟩
  · obtain ⟨e, m, q⟩ := List.mem_filterMap.mp z
    exact List.mem_filterMap.mpr ⟨e, .tail _ m, q⟩
theorem Held3.suite (h : Held3 X pins σ H B a cls d sI s) : ∃ oe, Zc cls d oe ∧ (∃ vs, oe.data = .fields vs) ∧ Inv (X.suite a ((a, oe) :: (X.pn ++ pins))) [] σ H s := by
  obtain ⟨oe, vs, e1, e2, e3, n1, n2⟩ := h.obj
  exact ⟨oe, e2, ⟨vs, e3⟩, h.here.suite e1 e3 h.na n1 n2⟩
/-- no clause takes it -/
theorem Held3.out (h : Held3 X pins σ H B a cls d sI s) (tk : Takes X Wout) (w : Wout cls d σ H) : wpAny (model X.prog X.w) X.A (handleBy (.ref a) X.env []) (SP X pins D) X.xe s := by
  refine wpAny_handleBy_nil ?_
  obtain ⟨_, _, _, oe, vs, T, oT, ts, e1, e2, e3, e4, _⟩ := id h.fl
  unfold PySem.passOn
  refine wpAny_bind (wpAny_field e1 e3 e4 ?_)
  have nn : ¬ ((Value.ref T == Value.none) = true) := by simp
  rw [if_neg nn]
  have on : wpAny (model X.prog X.w) X.A (setFlight (.ref a) X.env.frame) (fun _ s4 => wpAny (model X.prog X.w) X.A (throw (.ref a) : Sem Flow) (SP X pins D) X.xe s4) X.xe s := by
    rw [h.fr]
    obtain ⟨hh, g, dr, t, os⟩ := s
    exact HandSPX.setFlight_upZ h.fl fun h4 f4 u4 => wpAny_throw (tk _ _ ⟨a, B, sI, pins, σ, H, cls, d, rfl, h.inv, h.low, h.up.trans u4, .inr (.inr (by rw [h.stk]; exact f4)), h.na, h.os, h.ag, w⟩)
  first
    | exact wpAny_bind (wpAny_pure (wpAny_bind on))
    | exact wpAny_bind on
/-- the class a clause names is asked -/
theorem Held3.ask (h : Held3 X pins σ H B a cls d sI s) {x : Str} {c : Value} {np : Pos} {b : Bool} {Q : Bool → Shared → Prop} {E : Value → Shared → Prop} (hc : Names X x c) (e : PySem.W.exmOne X.K cls c = some b) (q : Q b s) :
    wpAny (model X.prog X.w) (X.A.mark (some (.ref a))) (eval (.Name x np) X.env) (fun v s₁ => wpAny (model X.prog X.w) (X.A.mark (some (.ref a))) (excMatches (.ref a) v) Q E s₁) E s := by
  obtain ⟨oe, vs, e1, e2, e3, n1, n2⟩ := h.obj
  have S := h.here.suite e1 e3 h.na n1 n2
  have ty : PySem.W.Looks (model X.prog X.w) s.heap (typeOf (.ref a)) cls := fun A Q E s k z => wpAny_typeOf_ref (k _ _ e1) (by rw [e2.1]; exact z)
  have mt : PySem.W.Looks (model X.prog X.w) s.heap (excMatches (.ref a) c) b := PySem.W.exm_one h.here.kIn ty e
  obtain ⟨hg, hdb, hm | ⟨hm, hv, hn⟩⟩ := hc
  · exact ld_glob (X := X.suite a ((a, oe) :: (X.pn ++ pins))) S hg hm (mt.here q) hdb
  · exact ld_blt (X := X.suite a ((a, oe) :: (X.pn ++ pins))) S hg hm hv (mt.here q) hn hdb
/-- the clauses, one after the other -/
theorem Held3.go (hN : X.N.Nodup) (tk : Takes X Wout) {hds : List ExceptHandler} {l : List Cls3} (k : HdMix X hds l) : ∀ {s : Shared}, Held3 X pins σ H B a cls d sI s → wMix X.K Wout D l cls d σ H → wpAny (model X.prog X.w) X.A (handleBy (.ref a) X.env hds) (SP X pins D) X.xe s := by
  induction k with
  | nil => exact fun h w => h.out tk w
  | bare hc run r ih =>
    intro s h w
    obtain ⟨b, e, yes, no⟩ := w
    refine wpAny_handleBy_cons (codeAny_handlers_test (h.ask hc e ?_)) (by intro q; cases q)
    cases b with
    | false => exact ih h (no rfl)
    | true =>
      refine codeAny_handlers_suite ?_
      obtain ⟨hh, g, dr, t, os⟩ := s
      refine HandSPX.lands_againZ h.fl fun h4 f4 u4 => ?_
      have h4' := h.moved f4 u4
      obtain ⟨oe, z1, z2, S⟩ := h4'.suite
      refine wpAny_mono ((run a oe cls d (X.pn ++ pins) z1 z2).run [] _ _ H _ S (yes rfl a h.na)) (fun f s6 z => ?_) (fun _ _ z => False.elim z)
      cases f with
      | ret u => obtain ⟨v, σ6, H6, S6, r6, q⟩ := z; exact ⟨v, σ6, H6, S6.unsuite h.ok, r6, q⟩
      | next => obtain ⟨σ6, H6, S6, q⟩ := z; exact ⟨σ6, H6, S6.unsuite h.ok, q⟩
      | brk => obtain ⟨σ6, H6, S6, q⟩ := z; exact ⟨σ6, H6, S6.unsuite h.ok, q⟩
      | cont => obtain ⟨σ6, H6, S6, q⟩ := z; exact ⟨σ6, H6, S6.unsuite h.ok, q⟩
  | @named x n c i ts st suite np hp hds l hc hi hl run r ih =>
    intro s h w
    obtain ⟨b, e, yes, no⟩ := w
    refine wpAny_handleBy_cons (codeAny_handlers_test (h.ask hc e ?_)) (by intro q; cases q)
    cases b with
    | false => exact ih h (no rfl)
    | true =>
      refine codeAny_handlers_suite_as ?_
      obtain ⟨hh, g, dr, t, os⟩ := s
      refine HandSPX.lands_againZ h.fl fun h4 f4 u4 => ?_
      have h4' := h.moved f4 u4
      obtain ⟨oe, z1, z2, S⟩ := h4'.suite
      refine store_ok (X := X.suite a ((a, oe) :: (X.pn ++ pins))) (v := .ref a) S hN hi (.inl hl) rfl (fun s5 S5 => ?_) (.inr hl)
      refine wpAny_mono ((run a oe cls d (X.pn ++ pins) z1 z2).run [] s5 _ H _ S5 (yes rfl a h.na)) (fun f s6 z => ?_) (fun _ _ z => False.elim z)
      have gone : ∀ {σ6 : L2.St} {H6 : Hp} {P : Shared → Prop}, Inv (X.suite a ((a, oe) :: (X.pn ++ pins))) [] σ6 H6 s6 → (∀ s7, Inv X pins (σ6.set i none) H6 s7 → P s7) → wpAny (model X.prog X.w) X.A (do bindName X.env n .none; unbindBehindTheSuite X.env n hp) (fun _ s7 => P s7) X.xe s6 :=
        fun {σ6 H6 P} S6 q => gone_ok (S6.unsuite h.ok) hN hi hl q
      cases f with
      | ret u => obtain ⟨v, σ6, H6, S6, r6, q⟩ := z; exact gone S6 fun s7 J => ⟨v, _, H6, J, r6, q⟩
      | next => obtain ⟨σ6, H6, S6, q⟩ := z; exact gone S6 fun s7 J => ⟨_, H6, J, q⟩
      | brk => obtain ⟨σ6, H6, S6, q⟩ := z; exact gone S6 fun s7 J => ⟨_, H6, J, q⟩
      | cont => obtain ⟨σ6, H6, S6, q⟩ := z; exact gone S6 fun s7 J => ⟨_, H6, J, q⟩
theorem ps_try_mix {body : List Stmt} {k₀ : ExceptHandler} {hds : List ExceptHandler} {l : List Cls3} {pos : Pos} {tb : WX → TS} (hs : X.stack = X.env :: X.outer) (hf : X.env.frame = some X.env.locals) (hN : X.N.Nodup) (tk : Takes X Wout)
    (run : ∀ (W : WX) (pn : List (Addr × Obj)) (xe : Value → Shared → Prop), Takes (X.tr pn xe) W → PassesOwn (model X.prog X.w) X.A X.env xe → PSs (X.tr pn xe) body (tb W))
    (hh : HdMix X (k₀ :: hds) l) : PS X (.Try body (k₀ :: hds) [] [] pos) (fun D σ H => tb (wMix X.K Wout D l) D σ H) := by
  refine ⟨fun pins s σ H D I h => ?_⟩
  have ok := I.ok
  have hfr : X.A.frames = some (X.env :: X.outer) := by rw [ok.frames, hs]
  let xe' : Value → Shared → Prop := fun e s₁ => wpAny (model X.prog X.w) X.A (noteFrame e X.env) (fun _ s₂ => wpAny (model X.prog X.w) X.A (setFlight e none) (fun _ s₃ => wpAny (model X.prog X.w) X.A (handleBy e X.env (k₀ :: hds)) (SP X pins D) X.xe s₃) X.xe s₂) X.xe s₁
  have caught : Takes (X.tr (X.pn ++ pins) xe') (wMix X.K Wout D l) := by
    intro u s' xx
    obtain ⟨a, B, sI, pins', σ', H', cls, d, rfl, J', nb, up, sky, na, os, ag, w⟩ := xx
    have sky' : Sky B (X.env :: X.outer) a (Zc cls d) X.env.locals s'.heap := by rw [← hs]; exact sky
    show wpAny (model X.prog X.w) X.A (noteFrame (.ref a) X.env) _ _ _
    exact Sky.land Zc.steady hfr hf sky' fun h3 f3 u3 => Held3.go hN tk hh ⟨ok, hs, hf, J'.ofTry ok, nb, up.trans u3, f3, na, os, ag⟩ w
  refine wpAny_Try_except (wpAny_mono ((run (wMix X.K Wout D l) (X.pn ++ pins) xe' caught PassesOwn.looking).run [] s σ H D (I.toTry _) h) (fun f s1 z => ?_) (fun e s1 he => he))
  cases f with
  | next => obtain ⟨σ', H', J', q⟩ := z; exact wpAny_execs_nil ⟨σ', H', J'.ofTry ok, q⟩
  | ret u => obtain ⟨v, σ', H', J', r, q⟩ := z; exact ⟨v, σ', H', J'.ofTry ok, r, q⟩
  | brk => obtain ⟨σ', H', J', q⟩ := z; exact ⟨σ', H', J'.ofTry ok, q⟩
  | cont => obtain ⟨σ', H', J', q⟩ := z; exact ⟨σ', H', J'.ofTry ok, q⟩
end
end F3
namespace F3
open PySem PySem.Spec
open PyProof.Rows L2
/-! ### C(e), where C's __init__ says super().__init__(x); self.f = x -/
/-- the built-in class below an own class of errors -/
structure BaseOf (B newId initId : String) (bmB : List Value) : Prop where
  fb : ExcBaseFacts B newId initId bmB
  kf : PySem.W.KxsFacts B initId
  sf : StoreFacts B bmB "object.__setattr__" "object"
theorem base_ValueError : BaseOf "ValueError" "ValueError.__new__" "ValueError.__init__" [.type "ValueError", .type "Exception", .type "BaseException", .type "object"] := ⟨PySem.F.excBase_ValueError, PySem.W.kxs_ValueError, PySem.F.store_ValueError⟩
theorem base_IndexError : BaseOf "IndexError" "IndexError.__new__" "IndexError.__init__" [.type "IndexError", .type "LookupError", .type "Exception", .type "BaseException", .type "object"] := ⟨PySem.F.excBase_IndexError, PySem.W.kxs_IndexError, PySem.F.store_IndexError⟩
theorem base_LookupError : BaseOf "LookupError" "LookupError.__new__" "LookupError.__init__" [.type "LookupError", .type "Exception", .type "BaseException", .type "object"] := ⟨PySem.F.excBase_LookupError, PySem.W.kxs_LookupError, PySem.F.store_LookupError⟩
theorem base_OverflowError : BaseOf "OverflowError" "OverflowError.__new__" "OverflowError.__init__" [.type "OverflowError", .type "ArithmeticError", .type "Exception", .type "BaseException", .type "object"] := ⟨PySem.F.excBase_OverflowError, PySem.W.kxs_OverflowError, PySem.F.store_OverflowError⟩
theorem base_ArithmeticError : BaseOf "ArithmeticError" "ArithmeticError.__new__" "ArithmeticError.__init__" [.type "ArithmeticError", .type "Exception", .type "BaseException", .type "object"] := ⟨PySem.F.excBase_ArithmeticError, PySem.W.kxs_ArithmeticError, PySem.F.store_ArithmeticError⟩
/-- what the written part says of the class at C, its __init__ at fI: self, x; self.f = x -/
structure SupI (prog : Program) (K : PySem.W.Frag) (C fI : Addr) (slf x f : Str) (B newId initId : String) (bmB : List Value) (body : List Stmt) (scope : Scope) : Prop where
  base : BaseOf B newId initId bmB
  exi : PySem.W.excInitIn K C bmB newId = true
  exo : PySem.W.excOver K C bmB = true
  kC : PySem.W.keepIn K (.ref C) = true
  iC : PySem.W.findIn K (.ref C) "__init__" = some (some (.ref fI))
  tI : PySem.W.typeIn K (.ref fI) = some (.type "function")
  fn : ∃ (oc : Value) (od : Option Addr) (name qual : Str) (params : Arguments) (kV doc pm : Value) (an : Option Addr) (cda cc : Addr) (ct : Value) (osl : Array (Option Value)) (ccl cl : Value) (cdd cld : Option Addr) (vs : Array Value) (ccs csl : Array (Option Value)) (file : Str) (tf : Tok) (ar : Arg),
    K.lookup fI = some ⟨oc, od, .func (PySem.W.ksFn name qual params body scope .none kV doc pm an (.ref cda) ct cc), osl⟩ ∧ PySem.W.codeIn K (.ref cda) qual = true ∧
    K.lookup cda = some ⟨ccl, cdd, .fields vs, ccs⟩ ∧ vs[2]? = some (.str file tf) ∧ ((prog.main.file : Str) == file) = true ∧
    K.lookup cc = some ⟨cl, cld, .cell (some (.ref C)), csl⟩ ∧ (params.posonlyargs ++ params.args).head? = some ar ∧ ar.arg = slf ∧
    (∀ a b, bindArgs (PySem.W.ksFn name qual params body scope .none kV doc pm an (.ref cda) ct cc) ⟨[a, b], []⟩ = pure [(slf, a), (x, b)]) ∧
    scope.names.lookup slf = some .local ∧ scope.names.lookup x = some .local ∧ scope.names.lookup ("super" : Str) = some .globalImplicit ∧ scope.names.lookup ("__class__" : Str) = some .free ∧
    (∀ y ∈ scope.names, y.2 ≠ .cell) ∧ scope.isCoroutine = false ∧ scope.isGenerator = false ∧ scope.kind = .function
  body : ∃ p0 p1 p2 p3 p4 p5 p6 p7 p8 p9, body = [.Expr (.Call (.Attribute (.Call (.Name "super" p0) [] [] p1) "__init__" p2) [.Name x p3] [] p4) p5, .Assign [.Attribute (.Name slf p6) f p7] (.Name x p8) p9] ∧
    ∀ (q : Str) (L a : Addr) (cd : Value) (cc : Addr), (∃ pl, eval (.Call (.Attribute (.Call (.Name "super" p0) [] [] p1) "__init__" p2) [.Name x p3] [] p4) (PySem.W.ksEnv q scope L a cd cc) = (do
      let ov ← attributeBase (.Call (.Name "super" p0) [] [] p1) "__init__" (PySem.W.ksEnv q scope L a cd cc) (eval (.Call (.Name "super" p0) [] [] p1) (PySem.W.ksEnv q scope L a cd cc))
      standAt p2.atName
      let (f, first) ← holding [ov] (getMethod ov "__init__" pl)
      callWith p4 f first (backTo p4 (starEach [.Name x p3] (PySem.W.ksEnv q scope L a cd cc))) [])) ∧
      interactive (PySem.W.ksEnv q scope L a cd cc) = false ∧ swapsWith (.Call (.Attribute (.Call (.Name "super" p0) [] [] p1) "__init__" p2) [.Name x p3] [] p4) none p5.line (PySem.W.ksEnv q scope L a cd cc) = pure false ∧
      swapsWith (.Name x p8) (some (.Attribute (.Name slf p6) f p7)) p9.line (PySem.W.ksEnv q scope L a cd cc) = pure false ∧ starEach [.Name x p3] (PySem.W.ksEnv q scope L a cd cc) = (false, eval (.Name x p3) (PySem.W.ksEnv q scope L a cd cc)) :: starEach [] (PySem.W.ksEnv q scope L a cd cc)
  ne : slf ≠ x
  dbg : (slf == ("__debug__" : Str)) = false ∧ (x == ("__debug__" : Str)) = false
  nosup : PySem.W.nsIn K mainGlobals "super" = some none
  topsup : (prog.main.scope.names.lookup ("super" : Str)).isSome = false
  cls : (PySem.W.clsIn K C).isSome = true
  sub : PySem.W.mroIn K C (.ref C) = some true
  sup : PySem.W.ks_superIn K C C "__init__" = some (some (.builtin initId))
  subB : PySem.W.subIn K (.ref C) (.type B) = some true
  opq : PySem.W.nsIn K cStatics "thirdparty.any" = some none
  sa : PySem.W.findIn K (.ref C) "__setattr__" = some (some (.builtin "object.__setattr__"))
  tak : PySem.W.takerIn K C f = some none
  hd : PySem.W.hasDictIn K C = true
  exC : PySem.W.subIn K (.ref C) (.type "BaseException") = some true
  tyC : PySem.W.typeIn K (.ref C) = some (.type "type")
section
variable {prog : Program} {w : World} {A : Around} {E : Value → Shared → Prop} {h : Heap} {g : Array GenState} {d : Drawn} {t : Nat} {os : OsState}
open PySem.W in
theorem bw_call {u e C t0 : Addr} {K : PySem.W.Frag} {B newId initId : String} {bmB : List Value} {rest : List Value} {Q : Value → Shared → Prop} (FB : ExcBaseFacts B newId initId bmB) (q : PySem.W.excInitIn K C bmB newId = true) (X : K.In h) (he : h.get? e = some (PySem.HandSPX.excO C t0)) (hu : h.get? u = some (PySem.W.kxs_mw initId e))
    (hz : rest.length ≤ sizeLine) (hq : ∀ h' t1, (∀ b o, b ≠ e → h.get? b = some o → h'.get? b = some o) → h'.get? e = some (PySem.HandSPX.excO C t1) → Q .none ⟨h', g, d, t, os⟩) : wpAny (model prog w) A (call (.ref u) rest) Q E ⟨h, g, d, t, os⟩ := by
  obtain ⟨nm, N', qn, bs, bm, hdct, sn, sub, ab, col, dd, k0, k1, k2, k3, k5, hC, hT⟩ := PySem.W.excInit_of X q
  refine wpAny_call (codeAny_of_tree ?_)
  show wpAny _ A.in1 (callAny (.ref u) ⟨rest, []⟩) _ _ _
  simp only [callAny]
  refine wpAny_bind (wpAny_load hu ?_)
  simp only [PySem.W.kxs_mw, show (Value.type "method-wrapper" == Value.type "method" || Value.type "method-wrapper" == Value.type "builtin_function_or_method" || Value.type "method-wrapper" == Value.type "method-wrapper") = true by decide, if_true]
  refine KFB.if_so (by decide) ?_
  refine wpAny_bind (PySem.W.check_bound_init FB.toExcCallFacts hC he rfl ?_)
  refine wpAny_bind (wpAny_pure (wpAny_pure ?_))
  refine ⟨plainId_quiet FB.init.plain _, codeAny_builtin FB.initEntry ?_⟩
  exact PySem.W.exc_init_tree (cls := .ref C) (t0 := t0) (dv := none) (c2 := .none) (c3 := .none) (b4 := .bool false) he hz fun h' k e' _ => hq h' _ k e'
end
section
open Builtin Builtin.ObjectAttr
variable {prog : Program} {w : World} {A : Around} {E : Value → Shared → Prop} {R : Result → Shared → Prop} {hp : Heap} {g : Array GenState} {d : Drawn} {t : Nat} {os : OsState}
open PySem.W PySem.HandSPX in
theorem exc_osaX {K : PySem.W.Frag} {B : String} {bmB : List Value} {name : Str} {tk : Tok} {v : Value} {x C : Addr} {fv : Array Value} (SF : StoreFacts B bmB "object.__setattr__" "object")
    (X : K.In hp) (hx : hp.get? x = some { cls := .ref C, data := .fields fv }) (ho : PySem.W.excOver K C bmB = true) (hd : PySem.W.hasDictIn K C = true) (ha : PySem.W.takerIn K C name = some none)
    (hq : ∀ h' tk' dx, (∀ b o, b ≠ x → hp.get? b = some o → h'.get? b = some o) → hp.objs.size ≤ dx → dx ≠ x → h'.get? x = some { cls := .ref C, dict := some dx, data := .fields fv } →
      h'.Ns1 dx (fun y => if y = name then some v else none) → R (.ok (.ret .none)) ⟨h', g, d, tk', os⟩) :
    codeAny (model prog w) A (.call (.builtin "object.__setattr__") ⟨[.ref x, .str name tk, v], []⟩) R ⟨hp, g, d, t, os⟩ := by
  have I : PySem.W.InstAt hp x { cls := .ref C, data := .fields fv } C none := ⟨hx, rfl, rfl, trivial⟩
  have hxs : x ≠ hp.objs.size := Nat.ne_of_lt (Heap.lt_size hx)
  refine PySem.W.osa_openX (s := ⟨hp, g, d, t, os⟩) SF X I ho ha fun b => ?_
  show wpAny _ _ (storeInOwnDict (.ref x) (.ref C) (.str name tk) name v b) _ _ _
  obtain ⟨cd, hcd, hh⟩ := any_some hd
  have hcls : PySem.W.Looks (model prog w) hp (classData C) cd := PySem.W.looks_clsIn X hcd
  obtain ⟨nm, bs, mro, ns, qn, hd, sn, sb, ab, col, del⟩ := cd
  dsimp only at hh
  subst hh
  cases b <;> unfold storeInOwnDict ownDictForStores <;> repeat (first | with_reducible refine PySem.HandSPX.store_in_new ?_ ?_ | with_reducible refine wpAny_loadPart_at hx ?_ | with_reducible refine hcls.at ?_ | wp_step)
  all_goals first
    | exact ⟨_, #[], _, (Heap.get?_update_ne _ _ _ _ hxs.symm).trans (Heap.get?_push_at rfl rfl), rfl, fun e he => absurd he (by simp), fun _ => rfl⟩
    | (intro h' tk' hn' hs
       have hx₁ : (hp.push { cls := .type "dict", data := .dict #[] }).get? x = some { cls := .ref C, data := .fields fv } := Heap.get?_push_of_some _ hx
       refine hq h' tk' hp.objs.size (fun b o hb ho => ?_) (Nat.le_refl _) hxs.symm ?_ hn'
       · exact (hs.2 b (Nat.ne_of_lt (Heap.lt_size ho))).trans ((Heap.get?_update_ne _ _ _ _ hb).trans (Heap.get?_push_of_some _ ho))
       · exact (hs.2 x hxs).trans (Heap.get?_update_self _ hx₁ rfl))
end
open PySem.W PySem.Calls in
theorem cw1 {M : Model} {A : Around} {E : Value → Shared → Prop} {s : Shared} {i : String} {x u : Addr} {pos : Pos} {env : Env} {e : Expr} {rest : List Expr} {Q : Value → Shared → Prop}
    (h : wpAny M A (spliced (backTo pos (starEach (e :: rest) env))) (fun vs s₁ => KxsAt i u x s₁.heap ∧ wpAny M A (call (.ref u) vs) Q E s₁) E s)
    (he : starEach (e :: rest) env = (false, eval e env) :: starEach rest env) (hplain : (backTo pos (starEach rest env)).any (·.1) = false) :
    wpAny M A (callWith pos (.ref u) [] (backTo pos (starEach (e :: rest) env)) []) Q E s := by
  rw [he] at h ⊢
  refine kxs_callWith (i := i) (x := x) (by show (false || (backTo pos (starEach rest env)).any (·.1)) = false; rw [hplain]; rfl) ?_
  exact evalArgs_plain h
section
variable {prog : Program} {w : World} {A : Around} {K : PySem.W.Frag} {C fI e t0 : Addr} {slf x f : Str} {B newId initId : String} {bmB : List Value} {body : List Stmt} {scope : Scope} {R : Result → Shared → Prop} {v : Value} {mg : Str → Option Value} {base : Heap}
theorem sup_run (T : SupI prog K C fI slf x f B newId initId bmB body scope) (M : Mod K mg base) {s : Shared} (hb : ∀ b o, base.get? b = some o → s.heap.get? b = some o) (hbe : base.get? e = none) (hr : A.depth < recursionLimit) (he : s.heap.get? e = some (PySem.HandSPX.excO C t0))
    (hq : ∀ h' dx tk t1, (∀ b o, b ≠ e → s.heap.get? b = some o → h'.get? b = some o) → s.heap.objs.size ≤ dx → h'.get? e = some ({ cls := .ref C, dict := some dx, data := .fields #[.ref t1, .none, .none, .none, .bool false, .none] } : Obj) →
      h'.Ns1 dx (fun y => if y = f then some v else none) → R (.ok (.ret .none)) { s with heap := h', toks := tk }) :
    codeAny (model prog w) A (.call (.ref fI) ⟨[.ref e, v], []⟩) R s := by
  obtain ⟨oc, od, name, qual, params, kV, doc, pm, an, cda, cc, ct, osl, ccl, cl, cdd, cld, vs, ccs, csl, file, tf, ar, lk, hcd, lc, hvs, hfile, lcell, har, hars, hbind, l1, l2, l3, l4, hcell, hco, hgen, hk⟩ := T.fn
  obtain ⟨p0, p1, p2, p3, p4, p5, p6, p7, p8, p9, hbody, hfacts⟩ := T.body
  have XK : K.In s.heap := M.kin.keeps hb
  refine PySem.ks_codeAny_call_defAt (fd := PySem.W.ksFn name qual params body scope .none kV doc pm an (.ref cda) ct cc) (body := body) (binds := [(slf, .ref e), (x, v)]) hr (XK _ _ lk) rfl (M.nolimit.keeps hb) (PySem.W.codeRec_of XK hcd) rfl
    (.of_eq (hbind _ _)) hcell (fun y hy => ?_) (fun h₁ hns hk₁ => ?_) hco hgen hk
  · rcases List.mem_cons.mp hy with rfl | hy
    · exact l1
    · rcases List.mem_cons.mp hy with rfl | hy
      · exact l2
      · cases hy
  have kk : ∀ b o, base.get? b = some o → h₁.get? b = some o := fun b o q => hk₁ b o (hb b o q)
  have XK1 : K.In h₁ := M.kin.keeps kk
  have he1 := hk₁ _ _ he
  obtain ⟨cd, hcd2⟩ := Option.isSome_iff_exists.mp T.cls
  obtain ⟨oC, hC1, hC2⟩ : ∃ oC, h₁.get? C = some oC ∧ oC.data = .cls cd := by
    unfold PySem.W.clsIn at hcd2
    split at hcd2
    · rename_i c d cd' sl ho
      cases hcd2
      exact ⟨_, XK1 _ _ ho, rfl⟩
    · cases hcd2
  have n1 : (slf == x) = false := by simpa using T.ne
  have hv1 : ([(slf, Value.ref e), (x, v)].reverse).lookup slf = some (.ref e) := by
    show List.lookup slf [(x, v), (slf, Value.ref e)] = _
    rw [List.lookup_cons, n1]
    simp [List.lookup]
  have hv2 : ([(slf, Value.ref e), (x, v)].reverse).lookup x = some v := by
    show List.lookup x [(x, v), (slf, Value.ref e)] = _
    simp [List.lookup]
  subst hbody
  subst hars
  have hso : ∀ {h : Heap} {b : Addr} {o : Obj}, h.get? b = some o → b ≠ h.objs.size := fun e => Nat.ne_of_lt (Heap.lt_size e)
  obtain ⟨mb, hmb, hmb2⟩ := M.blt
  have nsup : mg "super" = none := PySem.W.mg_none_of M.kin M.glob T.nosup
  obtain ⟨⟨pl, hev⟩, hin, hsw1, hsw2, hstar⟩ := hfacts qual s.heap.objs.size fI (.ref cda) cc
  refine ks_wpAt_execs_cons (ks_wpAt_Expr_any (ks_wpAt_MethodCall (pl := pl) ?_ hev) hin hsw1)
  refine ks_wpAt_super_base (env := PySem.W.ksEnv qual scope s.heap.objs.size fI (.ref cda) cc) l3 l4 (by decide) rfl (XK1 _ _ lk) rfl har rfl (XK1 _ _ lc) rfl hvs hfile T.topsup ?_
  refine PySem.W.ks_loadName_global hk l3 (Calls.loadGlobal_builtin (env := PySem.W.ksEnv qual scope s.heap.objs.size fI (.ref cda) cc) (M.glob.keeps kk) nsup (hmb.keeps kk) ((hmb2 _ (by decide +kernel)).trans PyProof.Rows.Boot.«super») ⟨rfl, ?_⟩)
  refine wpAny_loadName_free hk l4 rfl ⟨_, XK1 _ _ lcell, rfl⟩ ?_
  refine wpAny_loadName_local hk l1 hns hv1 ?_
  obtain ⟨hh, g, d, t, os⟩ := s
  refine ks_wpAny_isType_cls hC1 hC2 ⟨rfl, ?_⟩
  refine ks_wpAny_call_super hC1 hC2 he1 rfl (fun c z => by cases z) (PySem.W.looks_mroIn XK1 T.sub) fun h2 so1 k2 => ?_
  have XK2 : K.In h2 := XK1.keeps k2
  have he2 := k2 _ _ he1
  have I2 : PySem.W.InstAt h2 e (PySem.HandSPX.excO C t0) C none := ⟨he2, rfl, rfl, trivial⟩
  obtain ⟨cd', hcd', hsup'⟩ := Option.bind_eq_some_iff.mp (show (PySem.W.clsIn K C).bind _ = some _ from T.sup)
  rw [hcd2] at hcd'
  cases hcd'
  refine PySem.W.kxs_getMethod T.base.kf so1 (PySem.W.looks_opaque XK2 T.opq) (l₀ := cd.mro) (fun A Q E s k q => wpAny_bind ((PySem.W.looks_clsIn XK2 hcd2) A _ E s k (wpAny_pure q))) rfl XK2 hsup' (I2.type.andThen (PySem.W.looks_subIn XK2 T.subB)) (PySem.W.ks_ne XK2 I2 hcd2) (by decide) ?_
  have k3 : ∀ b o, h2.get? b = some o → (h2.push (PySem.W.kxs_mw initId e)).get? b = some o := fun b o q => Heap.get?_push_of_some _ q
  have hns3 := (hns.keeps k2).keeps k3
  have he3 := k3 _ _ he2
  have XK3 : K.In (h2.push (PySem.W.kxs_mw initId e)) := XK2.keeps k3
  have hu3 : (h2.push (PySem.W.kxs_mw initId e)).get? h2.objs.size = some (PySem.W.kxs_mw initId e) := Heap.get?_push_at rfl rfl
  refine cw1 (i := initId) (x := e) (wpAny_items_cons (wpAny_Name (wpAny_loadName_local (m := fun y => List.lookup y [(ar.arg, Value.ref e), (x, v)].reverse) hk l2 hns3 hv2 (wpAny_items_nil ⟨hu3, ?_⟩)) T.dbg.2) hstar) hstar rfl
  refine bw_call T.base.fb T.exi XK3 he3 hu3 (by show 1 ≤ sizeLine; rw [sizeLine_eq]; omega) fun h4 t1 k4 he4 => ?_
  have eL : hh.objs.size ≠ e := fun z => by
    have q := Heap.lt_size he
    rw [← z] at q
    exact absurd q (Nat.lt_irrefl _)
  have ks : ∀ b o, b ≠ e → hh.get? b = some o → h4.get? b = some o := fun b o z q => k4 b o z (k3 b o (k2 b o (hk₁ b o q)))
  have kb4 : ∀ b o, base.get? b = some o → h4.get? b = some o := fun b o q => ks b o (fun z => by rw [z, hbe] at q; cases q) (hb b o q)
  have XK4 : K.In h4 := M.kin.keeps kb4
  have hns4 : h4.Ns hh.objs.size fun y => List.lookup y [(ar.arg, Value.ref e), (x, v)].reverse := by
    obtain ⟨oL, es, ep, q1, q2⟩ := hns3
    exact ⟨oL, es, ep, k4 _ _ eL q1, q2⟩
  show _root_.PySem.wpAt _ _ _ (execs [.Assign [.Attribute (.Name ar.arg p6) f p7] (.Name x p8) p9] (PySem.W.ksEnv qual scope hh.objs.size fI (.ref cda) cc)) _ _ _
  refine ks_wpAt_execs_cons (ks_wpAt_Assign_Attr (wpAt_of_wpAny (wpAny_Name (wpAny_loadName_local (m := fun y => List.lookup y [(ar.arg, Value.ref e), (x, v)].reverse) hk l2 hns4 hv2 (wpAny_Name (wpAny_loadName_local (m := fun y => List.lookup y [(ar.arg, Value.ref e), (x, v)].reverse) hk l1 hns4 hv1 ?_) T.dbg.1)) T.dbg.2)) hsw2)
  refine PySem.W.set_plain XK4 (ox := PySem.HandSPX.excO C t1) (od := none) ⟨he4, rfl, rfl, trivial⟩ T.sa ?_
  refine exc_osaX T.base.sf XK4 he4 T.exo T.hd T.tak fun h5 tk5 dx k5 hdx ndx he5 hns5 => ?_
  have sz : hh.objs.size ≤ h4.objs.size := by
    obtain ⟨oL, es, ep, q1, q2⟩ := hns4
    exact Nat.le_of_lt (Heap.lt_size q1)
  exact wpAt_of_wpAny (wpAny_execs_nil (hq h5 dx tk5 t1 (fun b o z q => k5 b o z (ks b o z q)) (Nat.le_trans sz hdx) he5 hns5))
end
section
variable {X : Cx} {C fI : Addr} {slf x f cn : Str} {B newId initId : String} {bmB : List Value} {body : List Stmt} {scope : Scope} {e : Expr} {te : TA} {p pos : Pos}
/-- C(e): a new error, its dict {f: e's value} -/
theorem pmk_sup {k : Nat} (T : SupI X.prog X.K C fI slf x f B newId initId bmB body scope) (hr : Room (k + 2) X.A) (hg : Gl X cn) (hm : X.mg cn = some (.ref C)) (ha : PA X [e] te) (hdb : (cn == ("__debug__" : Str)) = false)
    (he : starEach [e] X.env = (false, eval e X.env) :: starEach [] X.env := by rfl) :
    PMk X (.Call (.Name cn p) [e] [] pos) (fun σ H Q => te σ H fun vs H1 => ∃ v, vs = [v] ∧ ∀ d, H1 d = none → Q (.ref C) (some d) (upd H1 d (.xd [(f, v)]))) := by
  intro pins s σ H Q I h
  refine wpAny_Call_Name_kw (ld_glob I hg hm ?_ hdb)
  refine PySem.W.callWith_K (h₀ := X.base) I.ok.mod.kin T.kC (thn (ha.run pos pins s σ H _ I h) fun us s1 ⟨vs, H1, I1, r1, v, ev, q1⟩ => ⟨I1.kIn, ?_⟩) he rfl
  subst ev
  cases r1 with
  | @cons _ u _ _ ru rn =>
  cases rn
  show wpAny _ _ (call (.ref C) [u]) _ _ _
  obtain ⟨hp, g, dr, tk, os⟩ := s1
  obtain ⟨nm, N', qn, bs, bm, hdct, sn, sub, ab, col, dd, k0, k1, k2, k3, k5, hC, hT⟩ := PySem.W.excInit_of I1.kIn T.exi
  have hget : ((hp.push (PySem.W.kdv_tup [u])).push (PySem.HandSPX.excO C hp.objs.size)).get? (hp.objs.size + 1) = some (PySem.HandSPX.excO C hp.objs.size) := by heap_get
  have kk : ∀ b o, hp.get? b = some o → ((hp.push (PySem.W.kdv_tup [u])).push (PySem.HandSPX.excO C hp.objs.size)).get? b = some o := fun b o e => Heap.get?_push_of_some _ (Heap.get?_push_of_some _ e)
  have bb : ∀ b o, X.base.get? b = some o → hp.get? b = some o := fun b o q => I1.bk b o q
  have hbe : X.base.get? (hp.objs.size + 1) = none := by
    cases z : X.base.get? (hp.objs.size + 1) with
    | none => rfl
    | some o => exact absurd (Heap.lt_size (bb _ _ z)) (by show ¬ hp.objs.size + 1 < hp.objs.size; omega)
  have hroom : (X.A.under (.builtin "type.__call__" ⟨.ref C :: [u], []⟩)).depth < recursionLimit := (hr.make C [u] []).depth
  refine wpAny_call (PySem.HandSPX.call_own T.base.fb hT hC (PySem.W.looks_findIn I1.kIn T.iC) (fun self => PySem.W.bind_fn I1.kIn self T.tI) (by show 1 ≤ sizeLine; rw [sizeLine_eq]; omega) (sup_run T I1.ok.mod (fun b o q => kk b o (bb b o q)) hbe hroom hget fun h' dx tk' t1 kz hdx he' hn' => ?_))
  have na : H1 (hp.objs.size + 1) = none := I1.hok.fresh (Nat.le_succ _)
  have hdx : ((hp.push (PySem.W.kdv_tup [u])).push (PySem.HandSPX.excO C hp.objs.size)).objs.size ≤ dx := hdx
  rw [Heap.size_push, Heap.size_push] at hdx
  have hdx' : hp.objs.size ≤ dx := by omega
  have nd : H1 dx = none := I1.hok.fresh hdx'
  have nde : dx ≠ hp.objs.size + 1 := fun z => by omega
  have kh : ∀ b o, hp.get? b = some o → h'.get? b = some o := fun b o q => kz b o (Nat.ne_of_lt (Nat.lt_succ_of_lt (Heap.lt_size q))) (kk b o q)
  obtain ⟨G, g1, g2⟩ := restrict h' fun b => decide (b ≠ hp.objs.size + 1)
  have gk : ∀ b, b ≠ hp.objs.size + 1 → G.get? b = h'.get? b := fun b hb => g1 b (decide_eq_true hb)
  have ge : G.get? (hp.objs.size + 1) = none := g2 _ (by simp)
  have kG : ∀ b o, G.get? b = some o → h'.get? b = some o := fun b o z => by
    by_cases hba : b = hp.objs.size + 1
    · rw [hba, ge] at z
      cases z
    · exact (gk b hba).symm.trans z
  have hG : ∀ b o, hp.get? b = some o → G.get? b = some o := fun b o q => by
    rw [gk b (Nat.ne_of_lt (Nat.lt_succ_of_lt (Heap.lt_size q)))]
    exact kh b o q
  have J : Inv X pins σ (upd H1 dx (.xd [(f, v)])) ⟨G, g, dr, tk', os⟩ := I1.laid (t' := tk') (a := dx) (o := .xd [(f, v)]) (h' := G) hG hdx' ⟨_, hn'.at fun o y => (gk dx nde).trans y, relO_put (fs := []) ru fun g => True.intro⟩
  exact ⟨rfl, hp.objs.size + 1, _, _, ⟨G, g, dr, tk', os⟩, _, .ref C, some dx, rfl, J, kG, ge, he', ⟨rfl, rfl⟩, rfl, rfl, by rw [upd_ne (Ne.symm nde)]; exact na, rfl, I1.bare, raises_own T.exC T.tyC, q1 dx nd⟩
end
end F3
namespace F3
open PySem PySem.Spec
open PyProof.Rows L2
/-! ### raise -/
/-- an error being made: c its class's number -/
structure JM (X : Cx) (G : Gc) (W : WX) (e : Expr) (f : Ev → AH → Res Xn) : Prop where
  run : PMk X e (fun σ H Q => ∃ γ A env, St3 G γ A env H σ ∧ Post G γ H (f env A) (fun γ' A' H' x => ∀ γ2 H2 cls ad, Ext γ' H' γ2 H2 → Rel G γ2 A' H2 → XR G γ2 H2 x cls ad → Q cls ad H2) (fun c a H' => W c a σ H'))
section
variable {X : Cx} {G : Gc} {W : WX} {k : Nat}
theorem PMk.imp {X : Cx} {e : Expr} {t t' : L2.St → Hp → XK → Prop} (h : PMk X e t) (q : ∀ σ H Q, t' σ H Q → t σ H Q) : PMk X e t' := fun pins s σ H Q I z => h pins s σ H Q I (q σ H Q z)
/-- X('text'), X own without an own __init__ -/
structure XcP (G : Gc) (K : PySem.W.Frag) (c : Nat) (C : Addr) (B newId initId : String) (bmB : List Value) : Prop where
  at_ : G.xcl c = some C
  fb : ExcBaseFacts B newId initId bmB
  ex : PySem.W.excIn K C bmB newId = true
  kC : PySem.W.keepIn K (.ref C) = true
  exC : PySem.W.subIn K (.ref C) (.type "BaseException") = some true
  tyC : PySem.W.typeIn K (.ref C) = some (.type "type")
def sMk0 (c : Nat) : Ev → AH → Res Xn := fun _ A => .ok ⟨c, []⟩ A
theorem jm_own {c : Nat} {C : Addr} {B newId initId : String} {bmB : List Value} {x m : Str} {j : Nat} {p p2 pos : Pos} (T : XcP G X.K c C B newId initId bmB) (gC : X.mg x = some (.ref C)) (hg : Gl X x) (hdb : (x == ("__debug__" : Str)) = false) :
    JM X G W (.Call (.Name x p) [.Constant (.str m) j p2] [] pos) (sMk0 c) := by
  refine ⟨PMk.imp (pmk_own T.fb T.ex gC T.kC (raises_own T.exC T.tyC) hg hdb) fun σ H Q h => ?_⟩
  obtain ⟨γ, A, env, S, h⟩ := h
  exact h γ H (Ext.refl _ _) S.rel γ H _ none (Ext.refl _ _) S.rel ⟨C, T.at_, rfl, .inl ⟨rfl, rfl⟩⟩
/-- C(e), its __init__ says super().__init__(x); self.f = x -/
def sMk1 (c : Nat) (fa : Ev → AH → Res (List D)) : Ev → AH → Res Xn := fun env A => (fa env A).bind fun ds A1 => match ds with
  | [d] => .ok ⟨c, [d]⟩ A1
  | _ => .stuck
theorem jm_sup (o : XO X G W (k + 2)) {c : Nat} {C fI : Addr} {slf x f cn : Str} {B newId initId : String} {bmB : List Value} {body : List Stmt} {scope : Scope} {e : Expr} {fa : Ev → AH → Res (List D)} {p pos : Pos} (T : SupI X.prog X.K C fI slf x f B newId initId bmB body scope)
    (hC : G.xcl c = some C) (hf : G.xfl c = f) (hg : Gl X cn) (hm : X.mg cn = some (.ref C)) (ha : JA X G W [e] fa) (hdb : (cn == ("__debug__" : Str)) = false) (he : starEach [e] X.env = (false, eval e X.env) :: starEach [] X.env := by rfl) :
    JM X G W (.Call (.Name cn p) [e] [] pos) (sMk1 c fa) := by
  refine ⟨PMk.imp (pmk_sup T o.room hg hm ha.run hdb he) fun σ H Q h => ?_⟩
  obtain ⟨γ, A, env, S, h⟩ := h
  refine ⟨γ, A, env, S, Post.bind h fun ds A1 γ1 H1 e1 R1 h1 vs r1 => ?_⟩
  match ds, h1, r1 with
  | [d], h1, r1 =>
    unfold VRs at r1
    obtain ⟨v, rs, rfl, q1, r2⟩ := r1
    unfold VRs at r2
    subst r2
    refine ⟨v, rfl, fun dd hn => ?_⟩
    have E2 : Ext γ1 H1 γ1 (upd H1 dd (.xd [(f, v)])) := Ext.laid hn
    exact h1 γ1 H1 (Ext.refl _ _) R1 γ1 _ _ (some dd) E2 (R1.laid hn) ⟨C, hC, rfl, .inr ⟨d, dd, v, rfl, rfl, by rw [hf]; exact upd_same, R1.o_none hn, VR.ext E2 _ _ q1⟩⟩
  | [], h1, _ => exact h1.elim
  | _ :: _ :: _, h1, _ => exact h1.elim
def bRaise (f : Ev → AH → Res Xn) : Ev → AH → SR := fun env A => lft (f env A) env fun x A1 => .ex x env A1
theorem js_raise (o : XO X G W k) {e : Expr} {pos : Pos} {f : Ev → AH → Res Xn} (h : JM X G W e f) : JS X G W (.Raise (some e) none pos) (bRaise f) := by
  refine ⟨PS.imp (ps_raise o.calm o.tk h.run) fun E σ H z => ?_⟩
  obtain ⟨γ, A, env, S, z⟩ := z
  exact ⟨γ, A, env, S, PostS.lft S z fun x A1 γ1 H1 e1 R1 h1 γ2 H2 cls ad e2 R2 xr => h1 γ2 H2 σ cls ad e2 (S.to (e1.trans e2) R2) xr⟩
end
end F3
namespace F3
open PySem PySem.Spec
open PyProof.Rows L2
/-! ### try: body, except C [as n]: suite, .. -/
structure Hd3 where
  m : Nat → Bool
  i : Option Nat
  g : Xn → Ev → AH → SR
def hideE (i : Option Nat) (env : Ev) : Ev := match i with
  | none => env
  | some i => env.set i none
def behindR (i : Option Nat) (r : SR) : SR := match r with
  | .nx env A => .nx (hideE i env) A
  | .rt d A => .rt d A
  | .bk env A => .bk (hideE i env) A
  | .ct env A => .ct (hideE i env) A
  | _ => .stuck
def inE (i : Option Nat) (env : Ev) : Bool := match i with
  | none => true
  | some i => decide (i < env.length)
def runH : List Hd3 → Xn → Ev → AH → SR
  | [], x, env, A => .ex x env A
  | h :: r, x, env, A => match h.m x.c with
    | true => match inE h.i env with
      | true => behindR h.i (h.g x (hideE h.i env) A)
      | false => .stuck
    | false => runH r x env A
def bTry (f : Ev → AH → SR) (hs : List Hd3) : Ev → AH → SR := fun env A => match f env A with
  | .ex x env1 A1 => runH hs x env1 A1
  | r => r
theorem ER.hide {G : Gc} {γ : Gh} {H : Hp} {env : Ev} {σ : L2.St} {i : Nat} (o : Option V) (h : ER G γ H env σ) : ER G γ H (env.set i none) (σ.set i o) := fun j d q => by
  by_cases z : i = j
  · subst z
    by_cases hi : i < env.length
    · rw [List.getElem?_set_self hi] at q; cases q
    · rw [List.getElem?_eq_none (by simpa using hi)] at q; cases q
  · rw [List.getElem?_set_ne z] at q ⊢
    exact h j d q
theorem St3.hide {G : Gc} {γ : Gh} {A : AH} {env : Ev} {H : Hp} {σ : L2.St} {i : Nat} (o : Option V) (S : St3 G γ A env H σ) : St3 G γ A (env.set i none) H (σ.set i o) := ⟨S.rel, by simp [S.len], S.er.hide o⟩
/-- what a suite finds: the error, its name -/
def tX3 (G : Gc) (i : Option Nat) (g : Xn → Ev → AH → SR) (a : Addr) (cls : Value) (d : Option Addr) : TS := fun E σ H => ∃ γ A env x, St3 G γ A env H σ ∧ XR G γ H x cls d ∧ (∀ j, i = some j → σ[j]? = some (some (.ref a))) ∧ PostS G γ H (g x env A) E (fun _ _ _ _ => False)
/-- a suite -/
structure JX (X : Cx) (G : Gc) (i : Option Nat) (st : List Stmt) (g : Xn → Ev → AH → SR) : Prop where
  run : ∀ (a : Addr) (oe : Obj) (cls : Value) (d : Option Addr) (pn : List (Addr × Obj)), Zc cls d oe → (∃ vs, oe.data = .fields vs) → PSs (X.suite a ((a, oe) :: pn)) st (tX3 G i g a cls d)
/-- whom the class at c takes -/
def Tks (G : Gc) (K : PySem.W.Frag) (c : Value) (m : Nat → Bool) : Prop := ∀ (n : Nat) (C : Addr), G.xcl n = some C → PySem.W.exmOne K (.ref C) c = some (m n)
inductive HdJ (X : Cx) (G : Gc) : List ExceptHandler → List Hd3 → List Cls3 → Prop where
  | nil : HdJ X G [] [] []
  | bare {x : Str} {c : Value} {m : Nat → Bool} {g : Xn → Ev → AH → SR} {st : Stmt} {suite : List Stmt} {np hp : Pos} {hds : List ExceptHandler} {hl : List Hd3} {l : List Cls3} (hc : Names X x c) (hm : Tks G X.K c m) (run : JX X G none (st :: suite) g) (r : HdJ X G hds hl l) :
      HdJ X G (.ExceptHandler (some (.Name x np)) none (st :: suite) hp :: hds) (⟨m, none, g⟩ :: hl) (⟨c, none, tX3 G none g⟩ :: l)
  | named {x n : Str} {c : Value} {i : Nat} {m : Nat → Bool} {g : Xn → Ev → AH → SR} {st : Stmt} {suite : List Stmt} {np hp : Pos} {hds : List ExceptHandler} {hl : List Hd3} {l : List Cls3} (hc : Names X x c) (hm : Tks G X.K c m) (hi : X.N[i]? = some n) (hln : X.env.kindOf n = some .local)
      (run : JX X G (some i) (st :: suite) g) (r : HdJ X G hds hl l) :
      HdJ X G (.ExceptHandler (some (.Name x np)) (some n) (st :: suite) hp :: hds) (⟨m, some i, g⟩ :: hl) (⟨c, some i, tX3 G (some i) g⟩ :: l)
section
variable {X : Cx} {G : Gc} {W : WX} {k : Nat} {hds : List ExceptHandler} {hl : List Hd3} {l : List Cls3}
theorem HdJ.mix (h : HdJ X G hds hl l) : HdMix X hds l := by
  induction h with
  | nil => exact .nil
  | bare hc hm run r ih => exact .bare hc run.run ih
  | named hc hm hi hln run r ih => exact .named hc hi hln run.run ih
theorem behind_ok {γ : Gh} {H : Hp} {i : Option Nat} {r : SR} {E : Ends} (h : PostS G γ H (behindR i r) E W) : PostS G γ H r (endsBehind i E) (fun _ _ _ _ => False) := by
  cases i with
  | none =>
    cases r with
    | nx env A => exact h
    | rt d A => exact h
    | bk env A => exact h
    | ct env A => exact h
    | ex x env A => exact h.elim
    | stuck => exact h
  | some i =>
    cases r with
    | nx env A => exact fun γ2 H2 σ2 e2 S2 => h γ2 H2 _ e2 (S2.hide none)
    | rt d A => exact h
    | bk env A => exact fun γ2 H2 σ2 e2 S2 => h γ2 H2 _ e2 (S2.hide none)
    | ct env A => exact fun γ2 H2 σ2 e2 S2 => h γ2 H2 _ e2 (S2.hide none)
    | ex x env A => exact h.elim
    | stuck => exact h
theorem HdJ.wish (hh : HdJ X G hds hl l) {γ : Gh} {A : AH} {env : Ev} {H : Hp} {σ : L2.St} {x : Xn} {cls : Value} {ad : Option Addr} {E : Ends} (S : St3 G γ A env H σ) (xr : XR G γ H x cls ad) (h : PostS G γ H (runH hl x env A) E W) : wMix X.K W E l cls ad σ H := by
  induction hh with
  | nil => exact h γ H σ cls ad (Ext.refl _ _) S xr
  | @bare x' c m g st suite np hp hds hl l hc hm run r ih =>
    obtain ⟨C, h1, h2, h3⟩ := id xr
    refine ⟨m x.c, by rw [h2]; exact hm _ _ h1, fun hb a na => ?_, fun hb => ih ?_⟩
    · unfold runH at h
      dsimp only at h
      rw [hb] at h
      dsimp only at h
      exact ⟨γ, A, env, x, S, xr, fun j z => (by cases z), behind_ok (i := none) h⟩
    · unfold runH at h
      dsimp only at h
      rw [hb] at h
      dsimp only at h
      exact h
  | @named x' n c i m g st suite np hp hds hl l hc hm hi hln run r ih =>
    obtain ⟨C, h1, h2, h3⟩ := id xr
    refine ⟨m x.c, by rw [h2]; exact hm _ _ h1, fun hb a na => ?_, fun hb => ih ?_⟩
    · unfold runH at h
      dsimp only at h
      rw [hb] at h
      dsimp only at h
      cases q : inE (some i) env with
      | false => rw [q] at h; exact h.elim
      | true =>
        rw [q] at h
        have hlt : i < env.length := of_decide_eq_true q
        exact ⟨γ, A, env.set i none, x, S.hide _, xr, fun j z => by cases z; exact List.getElem?_set_self (by rw [← S.len]; exact hlt), behind_ok (i := some i) h⟩
    · unfold runH at h
      dsimp only at h
      rw [hb] at h
      dsimp only at h
      exact h
theorem js_try (o : XO X G W k) {body : List Stmt} {k₀ : ExceptHandler} {hds : List ExceptHandler} {pos : Pos} {f : Ev → AH → SR} (hN : X.N.Nodup) (hs : X.stack = X.env :: X.outer) (hf : X.env.frame = some X.env.locals)
    (run : ∀ (pn : List (Addr × Obj)) (xe : Value → Shared → Prop) (W' : WX), XO (X.tr pn xe) G W' k → JB (X.tr pn xe) G W' body f) (hh : HdJ X G (k₀ :: hds) hl l) : JS X G W (.Try body (k₀ :: hds) [] [] pos) (bTry f hl) := by
  refine ⟨PS.imp (ps_try_mix (tb := fun W' => tS3 G W' f) hs hf hN o.tk (fun W' pn xe tk po => (run pn xe W' ⟨tk, po, o.calm, o.room, o.gd, o.gk⟩).run) hh.mix) fun E σ H h => ?_⟩
  obtain ⟨γ, A, env, S, h⟩ := h
  refine ⟨γ, A, env, S, ?_⟩
  unfold bTry at h
  cases q : f env A with
  | ex x env1 A1 =>
    rw [q] at h
    exact fun γ1 H1 σ1 cls ad e1 S1 xr => hh.wish S1 xr (PostS.ext e1 h)
  | nx env1 A1 => rw [q] at h; exact h
  | rt d A1 => rw [q] at h; exact h
  | bk env1 A1 => rw [q] at h; exact h
  | ct env1 A1 => rw [q] at h; exact h
  | stuck => rw [q] at h; exact h
end
end F3
namespace F3
open PySem PySem.Spec
open PyProof.Rows L2
/-! ### within an except suite -/
def tEx (G : Gc) (i : Option Nat) (f : Xn → Ev → AH → Res D) (a : Addr) (cls : Value) (d : Option Addr) : TE := fun σ H Q => ∃ γ A env x, St3 G γ A env H σ ∧ XR G γ H x cls d ∧ (∀ j, i = some j → σ[j]? = some (some (.ref a))) ∧ Post G γ H (f x env A) (fun γ' _ H' d => ∀ v, VR G γ' H' d v → Q v H') (fun _ _ _ => False)
def tAx (G : Gc) (i : Option Nat) (f : Xn → Ev → AH → Res (List D)) (a : Addr) (cls : Value) (d : Option Addr) : TA := fun σ H Q => ∃ γ A env x, St3 G γ A env H σ ∧ XR G γ H x cls d ∧ (∀ j, i = some j → σ[j]? = some (some (.ref a))) ∧ Post G γ H (f x env A) (fun γ' _ H' ds => ∀ vs, VRs G γ' H' ds vs → Q vs H') (fun _ _ _ => False)
structure JXE (X : Cx) (G : Gc) (i : Option Nat) (e : Expr) (f : Xn → Ev → AH → Res D) : Prop where
  run : ∀ (a : Addr) (oe : Obj) (cls : Value) (d : Option Addr) (pn : List (Addr × Obj)), Zc cls d oe → (∃ vs, oe.data = .fields vs) → PE (X.suite a ((a, oe) :: pn)) e (tEx G i f a cls d)
structure JXA (X : Cx) (G : Gc) (i : Option Nat) (es : List Expr) (f : Xn → Ev → AH → Res (List D)) : Prop where
  run : ∀ (a : Addr) (oe : Obj) (cls : Value) (d : Option Addr) (pn : List (Addr × Obj)), Zc cls d oe → (∃ vs, oe.data = .fields vs) → PA (X.suite a ((a, oe) :: pn)) es (tAx G i f a cls d)
section
variable {X : Cx} {G : Gc} {i : Option Nat}
theorem jxe_je {e : Expr} {f : Ev → AH → Res D} (h : ∀ (a : Addr) (pn : List (Addr × Obj)), JE (X.suite a pn) G (fun _ _ _ _ => False) e f) : JXE X G i e (fun _ => f) := by
  refine ⟨fun a oe cls d pn hz hf => PE.imp (h a _).run fun σ H Q z => ?_⟩
  obtain ⟨γ, A, env, x, S, xr, hi, z⟩ := z
  exact ⟨γ, A, env, S, z⟩
theorem jx_ret {e : Expr} {pos : Pos} {f : Xn → Ev → AH → Res D} (h : JXE X G i e f) : JX X G i [.Return (some e) pos] (fun x => bRet (f x)) := by
  refine ⟨fun a oe cls d pn hz hf => pss_one (PS.imp (ps_ret (h.run a oe cls d pn hz hf)) fun E σ H z => ?_)⟩
  obtain ⟨γ, A, env, x, S, xr, hi, z⟩ := z
  exact ⟨γ, A, env, x, S, xr, hi, PostS.lft (W := fun _ _ _ _ => False) S z fun d A1 γ1 H1 e R h1 v r => h1 γ1 H1 v (Ext.refl _ _) R r⟩
theorem jxa_nil : JXA X G i [] (fun _ => sNil) := by
  refine ⟨fun a oe cls d pn hz hf => PA.imp pa_nil fun σ H Q z => ?_⟩
  obtain ⟨γ, A, env, x, S, xr, hi, z⟩ := z
  exact z γ H (Ext.refl _ _) S.rel [] VRs.nil
theorem jxa_cons {e : Expr} {es : List Expr} {f : Xn → Ev → AH → Res D} {g : Xn → Ev → AH → Res (List D)} (ha : JXE X G i e f) (hb : JXA X G i es g) (hs : starEach (e :: es) X.env = (false, eval e X.env) :: starEach es X.env := by rfl) : JXA X G i (e :: es) (fun x => sCons (f x) (g x)) := by
  refine ⟨fun a oe cls d pn hz hf => PA.imp (pa_cons (ha.run a oe cls d pn hz hf) (hb.run a oe cls d pn hz hf) hs) fun σ H Q z => ?_⟩
  obtain ⟨γ, A, env, x, S, xr, hi, z⟩ := z
  refine ⟨γ, A, env, x, S, xr, hi, Post.bind z fun c A1 γ1 H1 e1 R1 h1 v r1 => ?_⟩
  refine ⟨γ1, A1, env, x, S.to e1 R1, xr.ext e1, hi, Post.bind h1 fun y A2 γ2 H2 e2 R2 h2 vs r2 => ?_⟩
  exact h2 γ2 H2 (Ext.refl _ _) R2 _ (VRs.cons (VR.ext e2 _ _ r1) r2)
theorem jxe_tup {es : List Expr} {x1} {pos : Pos} {f : Xn → Ev → AH → Res (List D)} (h : JXA X G i es f) : JXE X G i (.Tuple es x1 pos) (fun x => sTup (f x)) := by
  refine ⟨fun a oe cls d pn hz hf => PE.imp (pe_tup (h.run a oe cls d pn hz hf)) fun σ H Q z => ?_⟩
  obtain ⟨γ, A, env, x, S, xr, hi, z⟩ := z
  refine ⟨γ, A, env, x, S, xr, hi, Post.bind z fun ds A1 γ1 H1 e1 R1 h1 vs r1 => ?_⟩
  split at h1
  · rename_i hz
    exact ⟨by rw [← r1.length]; exact hz, fun p hp => Post.new (ob := .tup vs) R1 hp h1 _ (VR.newT R1 hp r1)⟩
  · exact h1.elim
theorem tOpX_of {r : R2} {g : D → D → AH → Res D} {fa fb : Xn → Ev → AH → Res D} (hv : OkV2 G r g) {a : Addr} {cls : Value} {d : Option Addr} {σ : L2.St} {H : Hp} {Q : VK} (h : tEx G i (fun x => sBin g (fa x) (fb x)) a cls d σ H Q) : tOp r (tEx G i fa a cls d) (tEx G i fb a cls d) σ H Q := by
  obtain ⟨γ, A, env, x, S, xr, hi, h⟩ := h
  refine ⟨γ, A, env, x, S, xr, hi, Post.bind h fun y A1 γ1 H1 e1 R1 h1 v r1 => ?_⟩
  refine ⟨γ1, A1, env, x, S.to e1 R1, xr.ext e1, hi, Post.bind h1 fun z A2 γ2 H2 e2 R2 h2 u r2 => ?_⟩
  exact hv γ2 A2 H2 y z v u Q _ R2 (VR.ext e2 _ _ r1) r2 h2
theorem jxe_bin {op : Operator} {a b : Expr} {pos : Pos} {r : R2} {g : D → D → AH → Res D} {fa fb : Xn → Ev → AH → Res D} (ho : ∀ (a : Addr) (pn : List (Addr × Obj)), OpR (X.suite a pn) (binaryOp op) r) (hv : OkV2 G r g) (ha : JXE X G i a fa) (hb : JXE X G i b fb) : JXE X G i (.BinOp a op b pos) (fun x => sBin g (fa x) (fb x)) :=
  ⟨fun ad oe cls d pn hz hf => PE.imp (pe_op (ho ad _) (ha.run ad oe cls d pn hz hf) (hb.run ad oe cls d pn hz hf)) fun σ H Q h => tOpX_of hv h⟩
theorem jxe_add {a b : Expr} {pos : Pos} {fa fb : Xn → Ev → AH → Res D} (gk : G.K = X.K) (ha : JXE X G i a fa) (hb : JXE X G i b fb) : JXE X G i (.BinOp a .Add b pos) (fun x => sBin gAdd (fa x) (fb x)) :=
  jxe_bin (r := rAddU X.K) (fun a pn => op_addU (X := X.suite a pn)) (ok_add gk) ha hb
theorem jxe_ix {a b : Expr} {pos : Pos} {fa fb : Xn → Ev → AH → Res D} (gk : G.K = X.K) (ha : JXE X G i a fa) (hb : JXE X G i b fb) (hp : PlainIx b) : JXE X G i (.Subscript a b pos) (fun x => sBin gIx (fa x) (fb x)) := by
  refine ⟨fun ad oe cls d pn hz hf => ?_⟩
  obtain ⟨r, h1, h2⟩ := ix_all (X := X.suite ad ((ad, oe) :: pn)) (G := G) gk
  exact PE.imp (pe_ix h1 (ha.run ad oe cls d pn hz hf) (hb.run ad oe cls d pn hz hf) hp) fun σ H Q h => tOpX_of h2 h
theorem tCBX_of {r : List V → Hp → VK → Prop} {g : List D → AH → Res D} {f : Xn → Ev → AH → Res (List D)} (hv : OkC G r g) {a : Addr} {cls : Value} {d : Option Addr} {σ : L2.St} {H : Hp} {Q : VK} (h : tEx G i (fun x => sCall g (f x)) a cls d σ H Q) : tCB r (tAx G i f a cls d) σ H Q := by
  obtain ⟨γ, A, env, x, S, xr, hi, h⟩ := h
  exact ⟨γ, A, env, x, S, xr, hi, Post.bind h fun ds A1 γ1 H1 e1 R1 h1 vs r1 => hv γ1 A1 H1 ds vs Q _ R1 r1 h1⟩
theorem jxe_callB {id : String} {x : Str} {p pos : Pos} {e : Expr} {es : List Expr} {g : List D → AH → Res D} {f : Xn → Ev → AH → Res (List D)} (c : ∀ (a : Addr) (pn : List (Addr × Obj)), CB (X.suite a pn) G (.builtin id) g) (hg : Gl X x) (hm : X.mg x = none) (hv : bootBuiltins x = some (.builtin id)) (ha : JXA X G i (e :: es) f)
    (hn : x ≠ "__name__") (hdb : (x == ("__debug__" : Str)) = false) (he : starEach (e :: es) X.env = (false, eval e X.env) :: starEach es X.env := by rfl) (hpl : (backTo pos (starEach es X.env)).any (·.1) = false := by rfl) : JXE X G i (.Call (.Name x p) (e :: es) [] pos) (fun x => sCall g (f x)) := by
  refine ⟨fun a oe cls d pn hz hf => ?_⟩
  obtain ⟨r, h1, h2⟩ := (c a ((a, oe) :: pn)).ex
  exact PE.imp (pe_callB (X := X.suite a ((a, oe) :: pn)) h1 hg hm hv (ha.run a oe cls d pn hz hf) hn hdb he hpl) fun σ H Q h => tCBX_of h2 h
theorem jxe_callTy {T : String} {x : Str} {p pos : Pos} {e : Expr} {es : List Expr} {g : List D → AH → Res D} {f : Xn → Ev → AH → Res (List D)} (c : ∀ (a : Addr) (pn : List (Addr × Obj)), CB (X.suite a pn) G (.type T) g) (hg : Gl X x) (hm : X.mg x = none) (hv : bootBuiltins x = some (.type T)) (ha : JXA X G i (e :: es) f)
    (hn : x ≠ "__name__") (hdb : (x == ("__debug__" : Str)) = false) (he : starEach (e :: es) X.env = (false, eval e X.env) :: starEach es X.env := by rfl) (hpl : (backTo pos (starEach es X.env)).any (·.1) = false := by rfl) : JXE X G i (.Call (.Name x p) (e :: es) [] pos) (fun x => sCall g (f x)) := by
  refine ⟨fun a oe cls d pn hz hf => ?_⟩
  obtain ⟨r, h1, h2⟩ := (c a ((a, oe) :: pn)).ex
  exact PE.imp (pe_callTy (X := X.suite a ((a, oe) :: pn)) h1 hg hm hv (ha.run a oe cls d pn hz hf) hn hdb he hpl) fun σ H Q h => tCBX_of h2 h
/-- error.f, the error's class numbered c -/
def fX (c : Nat) (x : Xn) : Ev → AH → Res D := fun _ A => match x.args with
  | [d] => if x.c = c then .ok d A else .stuck
  | _ => .stuck
theorem jxe_fld {c j : Nat} {C : Addr} {n f : Str} {p pos : Pos} (hC : G.xcl c = some C) (hf : G.xfl c = f) (T : XfC X.K C) (hno : PySem.W.findIn X.K (.ref C) f = some none) (hN : X.N[j]? = some n) (hv : Vis X.env.scope n) (hd : (n == ("__debug__" : Str)) = false) (hcd : (n == ("__classdict__" : Str)) = false)
    (hb : attributeBase (.Name n p) f X.env (eval (.Name n p) X.env) = eval (.Name n p) X.env := by rfl) : JXE X G (some j) (.Attribute (.Name n p) f pos) (fX c) := by
  refine ⟨fun a oe cls d pn hz hfs => PE.imp (pe_xf (X := X) T hno hz hfs (pe_var (X := X.suite a ((a, oe) :: pn)) hN hv hd hcd) hb) fun σ H Q z => ?_⟩
  obtain ⟨γ, A, env, x, S, xr, hi, z⟩ := z
  refine ⟨.ref a, hi j rfl, rfl, ?_⟩
  unfold fX at z
  split at z
  · rename_i d1 ea
    split at z
    · rename_i ec
      obtain ⟨C', h1, h2, h3 | ⟨d2, dd, v, h3, h4, h5, h6, h7⟩⟩ := xr
      · rw [ea] at h3; cases h3.1
      · rw [ea] at h3
        cases h3
        rw [ec, hC] at h1
        cases h1
        refine ⟨h2, dd, [(G.xfl x.c, v)], v, h4, h5, by rw [ec, hf]; simp [List.lookup], z γ H (Ext.refl _ _) S.rel v h7⟩
    · exact z.elim
  · exact z.elim
end
end F3
namespace F3
open PySem PySem.Spec
open PyProof.Rows L2
/-! ### expressions beside a fact of the state -/
abbrev Fct := Gh → Hp → L2.St → Prop
def StayF (Φ : Fct) : Prop := ∀ γ H γ' H' σ, Ext γ H γ' H' → Φ γ H σ → Φ γ' H' σ
def tP (G : Gc) (W : WX) (Φ : Fct) (f : Ev → AH → Res D) : TE := fun σ H Q => ∃ γ A env, St3 G γ A env H σ ∧ Φ γ H σ ∧ Post G γ H (f env A) (fun γ' _ H' d => ∀ v, VR G γ' H' d v → Q v H') (fun c a H' => W c a σ H')
def tPA (G : Gc) (W : WX) (Φ : Fct) (f : Ev → AH → Res (List D)) : TA := fun σ H Q => ∃ γ A env, St3 G γ A env H σ ∧ Φ γ H σ ∧ Post G γ H (f env A) (fun γ' _ H' ds => ∀ vs, VRs G γ' H' ds vs → Q vs H') (fun c a H' => W c a σ H')
structure JP (X : Cx) (G : Gc) (W : WX) (Φ : Fct) (e : Expr) (f : Ev → AH → Res D) : Prop where
  run : PE X e (tP G W Φ f)
structure JPA (X : Cx) (G : Gc) (W : WX) (Φ : Fct) (es : List Expr) (f : Ev → AH → Res (List D)) : Prop where
  run : PA X es (tPA G W Φ f)
section
variable {X : Cx} {G : Gc} {W : WX} {Φ : Fct}
theorem jp_je {e : Expr} {f : Ev → AH → Res D} (h : JE X G W e f) : JP X G W Φ e f := ⟨PE.imp h.run fun σ H Q ⟨γ, A, env, S, _, z⟩ => ⟨γ, A, env, S, z⟩⟩
theorem jpa_nil : JPA X G W Φ [] sNil := ⟨PA.imp pa_nil fun σ H Q ⟨γ, A, env, S, _, z⟩ => z γ H (Ext.refl _ _) S.rel [] VRs.nil⟩
theorem jpa_cons (hΦ : StayF Φ) {e : Expr} {es : List Expr} {f : Ev → AH → Res D} {g : Ev → AH → Res (List D)} (ha : JP X G W Φ e f) (hb : JPA X G W Φ es g) (hs : starEach (e :: es) X.env = (false, eval e X.env) :: starEach es X.env := by rfl) : JPA X G W Φ (e :: es) (sCons f g) := by
  refine ⟨PA.imp (pa_cons ha.run hb.run hs) fun σ H Q z => ?_⟩
  obtain ⟨γ, A, env, S, p, z⟩ := z
  refine ⟨γ, A, env, S, p, Post.bind z fun c A1 γ1 H1 e1 R1 h1 v r1 => ?_⟩
  refine ⟨γ1, A1, env, S.to e1 R1, hΦ _ _ _ _ _ e1 p, Post.bind h1 fun y A2 γ2 H2 e2 R2 h2 vs r2 => ?_⟩
  exact h2 γ2 H2 (Ext.refl _ _) R2 _ (VRs.cons (VR.ext e2 _ _ r1) r2)
theorem jp_tup {es : List Expr} {x1} {pos : Pos} {f : Ev → AH → Res (List D)} (h : JPA X G W Φ es f) : JP X G W Φ (.Tuple es x1 pos) (sTup f) := by
  refine ⟨PE.imp (pe_tup h.run) fun σ H Q z => ?_⟩
  obtain ⟨γ, A, env, S, p, z⟩ := z
  refine ⟨γ, A, env, S, p, Post.bind z fun ds A1 γ1 H1 e1 R1 h1 vs r1 => ?_⟩
  split at h1
  · rename_i hz
    exact ⟨by rw [← r1.length]; exact hz, fun p hp => Post.new (ob := .tup vs) R1 hp h1 _ (VR.newT R1 hp r1)⟩
  · exact h1.elim
end
end F3
namespace F3
open PySem PySem.Spec
open PyProof.Rows L2
/-! ### values without a lambda -/
mutual
def nf : D → Bool
  | .fn => false
  | .tup ds => nfs ds
  | .lst ds => nfs ds
  | .scr ds => nfs ds
  | .ins _ ds => nfs ds
  | .dct _ _ ds => nfs ds
  | _ => true
def nfs : List D → Bool
  | [] => true
  | d :: ds => nf d && nfs ds
end
def nfF : List (Option D) → Bool
  | [] => true
  | some d :: r => nf d && nfF r
  | none :: r => nfF r
def nfO : AO → Bool
  | .lst ds => nfs ds
  | .ins _ fs => nfF fs
  | .dct _ _ ds => nfs ds
  | .fdct _ _ ds => nfs ds
  | .dead => true
def nfA : List AO → Bool
  | [] => true
  | o :: r => nfO o && nfA r
def Gc.wl (G : Gc) (l : Option Lm) : Gc := { G with lam := l }
section
variable {G : Gc} {γ : Gh} {H : Hp} {A : AH} {l : Option Lm}
theorem wl_and {a b : Bool} {q : Prop} (h : (a && b) = true ∨ q) : (a = true ∨ q) ∧ (b = true ∨ q) := by
  rcases h with h | h
  · rw [Bool.and_eq_true] at h
    exact ⟨.inl h.1, .inl h.2⟩
  · exact ⟨.inr h, .inr h⟩
mutual
theorem VR.wl : ∀ (d : D) (v : V), (nf d = true ∨ G.lam = none) → VR G γ H d v → VR (G.wl l) γ H d v
  | .non, v, _, h => by unfold VR at h ⊢; exact h
  | .bl b, v, _, h => by unfold VR at h ⊢; exact h
  | .int b, v, _, h => by unfold VR at h ⊢; exact h
  | .str b, v, _, h => by unfold VR at h ⊢; exact h
  | .tup ds, v, n, h => by
    unfold VR at h ⊢; unfold nf at n
    obtain ⟨a, vs, e1, f, r⟩ := h
    exact ⟨a, vs, e1, f, VRs.wl ds vs n r⟩
  | .lst ds, v, n, h => by
    unfold VR at h ⊢; unfold nf at n
    obtain ⟨a, vs, e1, f, n0, r⟩ := h
    exact ⟨a, vs, e1, f, n0, VRs.wl ds vs n r⟩
  | .scr ds, v, n, h => by
    unfold VR at h ⊢; unfold nf at n
    obtain ⟨a, vs, e1, f, r⟩ := h
    exact ⟨a, vs, e1, f, VRs.wl ds vs n r⟩
  | .ins c ds, v, n, h => by
    unfold VR at h ⊢; unfold nf at n
    obtain ⟨a, C, dx, vs, e1, n1, n2, hc, h1, h2, r⟩ := h
    exact ⟨a, C, dx, vs, e1, n1, n2, hc, h1, h2, VRs.wl ds vs n r⟩
  | .dct t ks ds, v, n, h => by
    unfold VR at h ⊢; unfold nf at n
    obtain ⟨a, o, u, vs, e1, n1, h1, hk, r⟩ := h
    exact ⟨a, o, u, vs, e1, n1, h1, hk, VRs.wl ds _ n r⟩
  | .ref i, v, _, h => by unfold VR at h ⊢; exact h
  | .fn, v, n, h => by
    unfold VR at h
    obtain ⟨L, e, _⟩ := h
    rcases n with n | n
    · cases n
    · rw [n] at e; cases e
theorem VRs.wl : ∀ (ds : List D) (vs : List V), (nfs ds = true ∨ G.lam = none) → VRs G γ H ds vs → VRs (G.wl l) γ H ds vs
  | [], vs, _, h => by unfold VRs at h ⊢; exact h
  | d :: ds, vs, n, h => by
    unfold VRs at h ⊢; unfold nfs at n
    obtain ⟨n1, n2⟩ := wl_and n
    obtain ⟨v, r, e1, h1, h2⟩ := h
    exact ⟨v, r, e1, VR.wl d v n1 h1, VRs.wl ds r n2 h2⟩
end
theorem FRs.wl : ∀ {fs : List (Option D)} {vs : List (Option V)}, (nfF fs = true ∨ G.lam = none) → FRs G γ H fs vs → FRs (G.wl l) γ H fs vs
  | [], vs, _, h => h
  | none :: fs, vs, n, h => by
    obtain ⟨vo, r, rfl, h1, h2⟩ := h
    exact ⟨vo, r, rfl, by cases vo <;> exact h1, FRs.wl n h2⟩
  | some d :: fs, vs, n, h => by
    obtain ⟨vo, r, rfl, h1, h2⟩ := h
    unfold nfF at n
    obtain ⟨n1, n2⟩ := wl_and n
    refine ⟨vo, r, rfl, ?_, FRs.wl n2 h2⟩
    cases vo with
    | none => exact h1
    | some v => exact VR.wl d v n1 h1
theorem nfA_at : ∀ {A : List AO} {i : Nat} {o : AO}, nfA A = true → A[i]? = some o → nfO o = true
  | [], i, o, _, e => by simp at e
  | x :: l, 0, o, b, e => by
    unfold nfA at b; rw [Bool.and_eq_true] at b
    simp at e; subst e; exact b.1
  | x :: l, i + 1, o, b, e => by
    unfold nfA at b; rw [Bool.and_eq_true] at b
    exact nfA_at b.2 (by simpa using e)
theorem Rel.wl (n : nfA A = true ∨ G.lam = none) (R : Rel G γ A H) : Rel (G.wl l) γ A H := by
  refine ⟨R.len, fun i o e => ?_, R.dom, R.tab, R.tupo⟩
  obtain ⟨a, e1, e2, r⟩ := R.at_ i o e
  have no : nfO o = true ∨ G.lam = none := n.elim (fun n => .inl (nfA_at n e)) .inr
  refine ⟨a, e1, e2, ?_⟩
  cases o with
  | lst ds => obtain ⟨vs, h1, r⟩ := r; exact ⟨vs, h1, VRs.wl _ _ no r⟩
  | ins c fs =>
    obtain ⟨C, dx, vs, hc, hs, h1, hn, r⟩ := r
    exact ⟨C, dx, vs, hc, hs, h1, hn, FRs.wl no r⟩
  | dct t ks ds => obtain ⟨u, vs, h1, h2, r⟩ := r; exact ⟨u, vs, h1, h2, VRs.wl _ _ no r⟩
  | fdct t ks ds => obtain ⟨o, u, vs, h1, h2, r⟩ := r; exact ⟨o, u, vs, h1, h2, VRs.wl _ _ no r⟩
  | dead => trivial
theorem XR.wl {x : Xn} {cls : Value} {ad : Option Addr} (n : nfs x.args = true ∨ G.lam = none) (h : XR G γ H x cls ad) : XR (G.wl l) γ H x cls ad := by
  obtain ⟨C, h1, h2, h3 | ⟨d, a, v, h3, h4, h5, h6, h7⟩⟩ := h
  · exact ⟨C, h1, h2, .inl h3⟩
  · rw [h3] at n
    unfold nfs at n
    exact ⟨C, h1, h2, .inr ⟨d, a, v, h3, h4, h5, h6, VR.wl _ _ (wl_and n).1 h7⟩⟩
/-- what comes back bears no lambda -/
def chk (r : Res D) : Res D := match r with
  | .ok d A => if nf d && nfA A then .ok d A else .stuck
  | .ex x A => if nfs x.args && nfA A then .ex x A else .stuck
  | .stuck => .stuck
theorem Post.ofL {r : Res D} {Q : VK} {Wx : WXe} (h : Post G γ H (chk r) (fun γ' _ H' d => ∀ v, VR G γ' H' d v → Q v H') Wx) : Post (G.wl l) γ H r (fun γ' _ H' d => ∀ v, VR (G.wl l) γ' H' d v → Q v H') Wx := by
  cases r with
  | ok d A1 =>
    intro γ1 H1 e R v r1
    unfold chk at h
    dsimp only at h
    split at h
    · rename_i n
      rw [Bool.and_eq_true] at n
      exact h γ1 H1 e (Rel.wl (G := G.wl l) (l := G.lam) (.inl n.2) R) v (VR.wl (G := G.wl l) (l := G.lam) d v (.inl n.1) r1)
    · exact h.elim
  | ex x A1 =>
    intro γ1 H1 cls ad e R r1
    unfold chk at h
    dsimp only at h
    split at h
    · rename_i n
      rw [Bool.and_eq_true] at n
      exact h γ1 H1 cls ad e (Rel.wl (G := G.wl l) (l := G.lam) (.inl n.2) R) (XR.wl (G := G.wl l) (l := G.lam) (.inl n.1) r1)
    · exact h.elim
  | stuck => exact h
theorem Post.toL (hl : G.lam = none) {r : Res D} {Q : VK} {Wx : WXe} (h : Post (G.wl l) γ H r (fun γ' _ H' d => ∀ v, VR (G.wl l) γ' H' d v → Q v H') Wx) : Post G γ H r (fun γ' _ H' d => ∀ v, VR G γ' H' d v → Q v H') Wx := by
  cases r with
  | ok d A1 => exact fun γ1 H1 e R v r1 => h γ1 H1 e (R.wl (.inr hl)) v (VR.wl d v (.inr hl) r1)
  | ex x A1 => exact fun γ1 H1 cls ad e R r1 => h γ1 H1 cls ad e (R.wl (.inr hl)) (r1.wl (.inr hl))
  | stuck => exact h
end
/-! ### a lambda acts; a def that takes one -/
/-- the closure L.f, made in (s0, L.H) below the frames stk, acts as φ -/
structure ActF (P : Program) (w : World) (K : PySem.W.Frag) (mg : Str → Option Value) (base : Heap) (G : Gc) (kk : Nat) (stk : List Env) (s0 : Shared) (L : Lm) (φ : List D → AH → Res D) : Prop where
  fn : ∀ (H1 : Hp) (h1 : Heap), Un (frs stk) [] L.H H1 s0.heap h1 → PySem.W.FnAt L.f h1
  run : ∀ (A : Around) (outer : List Env) (s1 : Shared) (H1 : Hp) (us : List Value) (vs : List V) (ds : List D) (γ : Gh) (Ah : AH) (Q : VK) (E : XK), Room kk A → A.guards = some [] → Env0 P w K mg base A outer s1 H1 → Un (frs stk) [] L.H H1 s0.heap s1.heap → H1 L.c = some (LamX.CodeO L.c L.q) → Ext0 L.γ L.H γ H1 → Vals vs us → Rel G γ Ah H1 → VRs G γ H1 ds vs →
    Post G γ H1 (φ ds Ah) (fun γ' _ H' d => ∀ v, VR G γ' H' d v → Q v H') E → codeAny (model P w) A (.call (.ref L.f) ⟨us, []⟩) (CR (L2.CX P w) outer P w H1 s1 Q E) s1
/-- a def that takes a lambda last -/
def FnL (P : Program) (w : World) (K : PySem.W.Frag) (mg : Str → Option Value) (base : Heap) (G : Gc) (k : Nat) (g : Addr) (m : (List D → AH → Res D) → List D → AH → Res D) : Prop :=
  ∀ (kk : Nat) (A : Around) (outer : List Env) (s : Shared) (H : Hp) (us : List Value) (vs : List V) (ds : List D) (γ : Gh) (Ah : AH) (Q : VK) (E : XK) (f c : Addr) (q : Str) (φ : List D → AH → Res D), Room (kk + k) A → A.guards = some [] → Env0 P w K mg base A outer s H → Vals vs us → Rel G γ Ah H → VRs G γ H ds vs →
    H c = some (LamX.CodeO c q) → γ.o c = none → ActF P w K mg base G kk outer s ⟨f, c, q, γ, H⟩ φ → Post G γ H (m φ ds Ah) (fun γ' _ H' d => ∀ v, VR G γ' H' d v → Q v H') E → codeAny (model P w) A (.call (.ref g) ⟨us ++ [.ref f], []⟩) (CR (L2.CX P w) outer P w H s Q E) s
def sAct (i : Nat) (φ : List D → AH → Res D) (fa : Ev → AH → Res (List D)) : Ev → AH → Res D := fun env A => match env[i]? with
  | some (some .fn) => (fa env A).bind fun ds A1 => if nfs ds && nfA A1 then φ ds A1 else .stuck
  | _ => .stuck
section
variable {X : Cx} {G : Gc} {W : WX} {k kk : Nat} {L : Lm} {φ : List D → AH → Res D}
/-- behind the arguments: the closure is called -/
theorem run_act {pins : List (Addr × Obj)} {σ : L2.St} {H : Hp} {s : Shared} {Q : VK} {us : List Value} {vs : List V} {ds : List D} {γ : Gh} {A : AH} (o : XO X (G.wl (some L)) W k) (hk : kk ≤ k) (hl : G.lam = none) (act : ActF X.prog X.w X.K X.mg X.base G kk X.outer X.s_0 L φ) (hL : L.H = X.H_0) (hex : X.ex = [])
    (I : Inv X pins σ H s) (hc : H L.c = some (LamX.CodeO L.c L.q)) (hx : Ext0 L.γ L.H γ H) (r : Vals vs us) (R : Rel (G.wl (some L)) γ A H) (rv : VRs (G.wl (some L)) γ H ds vs) (hn : (nfs ds && nfA A) = true)
    (h : Post (G.wl (some L)) γ H (φ ds A) (fun γ' _ H' d => ∀ v, VR (G.wl (some L)) γ' H' d v → Q v H') (fun c a H' => W c a σ H')) : wpAny (model X.prog X.w) X.A (call (.ref L.f) us) (EP X pins σ Q) X.xe s := by
  rw [Bool.and_eq_true] at hn
  have un : Un (frs X.outer) [] L.H H X.s_0.heap s.heap := hL ▸ hex ▸ I.base
  refine wpAny_call (codeAny_mono (act.run X.A X.stack s H us vs ds γ A Q (WE W σ) (o.room.mono hk) o.gd I.env0 un hc hx r (Rel.wl (G := G.wl (some L)) (l := G.lam) (.inl hn.2) R) (VRs.wl (G := G.wl (some L)) (l := G.lam) _ _ (.inl hn.1) rv) (Post.toL hl h)) fun z s' hq => ?_)
  cases z with
  | error e => exact passAt o.tk σ _ _ _ _ _ I hq
  | ok fl =>
    cases fl with
    | ret u => exact I.after hq
    | _ => exact False.elim hq
theorem je_act0 (o : XO X (G.wl (some L)) W k) (hk : kk ≤ k) (hl : G.lam = none) (act : ActF X.prog X.w X.K X.mg X.base G kk X.outer X.s_0 L φ) (hL : L.H = X.H_0) (hex : X.ex = []) {i : Nat} {a : Str} {p1 p2 : Pos} (hN : X.N[i]? = some a) (hv : Vis X.env.scope a) (hd : (a == ("__debug__" : Str)) = false) (hcd : (a == ("__classdict__" : Str)) = false) :
    JE X (G.wl (some L)) W (.Call (.Name a p1) [] [] p2) (sAct i φ sNil) := by
  refine ⟨⟨fun pins s σ H Q I h => ?_⟩⟩
  obtain ⟨γ, A, env, S, h⟩ := h
  unfold sAct at h
  split at h
  · rename_i e
    obtain ⟨v, e1, r⟩ := S.er i _ e
    unfold VR at r
    obtain ⟨L', e2, rfl, hc, nc, hx⟩ := r
    cases e2
    refine wpAny_Call_Name_kw (thn ((pe_var (pos := p1) (i := i) hN hv hd hcd).run pins s σ H (fun v H1 => v = .ref L.f ∧ H1 = H) I ⟨.ref L.f, e1, rfl, rfl⟩) fun u s1 ⟨v, H1, I1, r1, q1⟩ => ?_)
    obtain ⟨ev, eH⟩ := q1
    subst ev
    subst eH
    obtain rfl : u = Value.ref L.f := r1
    have un : Un (frs X.outer) [] L.H H1 X.s_0.heap s1.heap := hL ▸ hex ▸ I1.base
    refine PySem.W.callWith_F0 (act.fn H1 _ un) ?_
    unfold sNil Res.bind at h
    dsimp only at h
    split at h
    · rename_i hn
      exact run_act o hk hl act hL hex I1 hc hx .nil S.rel VRs.nil hn h
    · exact h.elim
  · exact h.elim
theorem je_act (o : XO X (G.wl (some L)) W k) (hk : kk ≤ k) (hl : G.lam = none) (act : ActF X.prog X.w X.K X.mg X.base G kk X.outer X.s_0 L φ) (hL : L.H = X.H_0) (hex : X.ex = []) {i : Nat} {a : Str} {p1 p2 : Pos} {e : Expr} {es : List Expr} {fa : Ev → AH → Res (List D)} (hN : X.N[i]? = some a) (hv : Vis X.env.scope a) (hd : (a == ("__debug__" : Str)) = false) (hcd : (a == ("__classdict__" : Str)) = false)
    (ha : JA X (G.wl (some L)) W (e :: es) fa) (he : starEach (e :: es) X.env = (false, eval e X.env) :: starEach es X.env := by rfl) (hpl : (backTo p2 (starEach es X.env)).any (·.1) = false := by rfl) :
    JE X (G.wl (some L)) W (.Call (.Name a p1) (e :: es) [] p2) (sAct i φ fa) := by
  refine ⟨⟨fun pins s σ H Q I h => ?_⟩⟩
  obtain ⟨γ, A, env, S, h⟩ := h
  unfold sAct at h
  split at h
  · rename_i e'
    obtain ⟨v, e1, r⟩ := S.er i _ e'
    unfold VR at r
    obtain ⟨L', e2, rfl, hc, nc, hx⟩ := r
    cases e2
    refine wpAny_Call_Name_kw (thn ((pe_var (pos := p1) (i := i) hN hv hd hcd).run pins s σ H (fun v H1 => v = .ref L.f ∧ H1 = H) I ⟨.ref L.f, e1, rfl, rfl⟩) fun u s1 ⟨v, H1, I1, r1, q1⟩ => ?_)
    obtain ⟨ev, eH⟩ := q1
    subst ev
    subst eH
    obtain rfl : u = Value.ref L.f := r1
    have un : Un (frs X.outer) [] L.H H1 X.s_0.heap s1.heap := hL ▸ hex ▸ I1.base
    refine PySem.W.callWith_F (act.fn H1 _ un) (thn (ha.run.run p2 pins s1 σ H1 (fun vs H2 => ∃ γ2 A2 ds, Rel (G.wl (some L)) γ2 A2 H2 ∧ VRs (G.wl (some L)) γ2 H2 ds vs ∧ H2 L.c = some (LamX.CodeO L.c L.q) ∧ Ext0 L.γ L.H γ2 H2 ∧ (nfs ds && nfA A2) = true ∧ Post (G.wl (some L)) γ2 H2 (φ ds A2) (fun γ' _ H' d => ∀ v, VR (G.wl (some L)) γ' H' d v → Q v H') (fun c a H' => W c a σ H')) I1
      ⟨γ, A, env, S, Post.bind h fun ds A2 γ2 H2 e2 R2 h2 vs r2 => ?_⟩) fun us s2 ⟨vs, H2, I2, r2, γ2, A2, ds, R2, rv, hc2, hx2, hn, h2⟩ => ⟨act.fn H2 _ (hL ▸ hex ▸ I2.base), run_act o hk hl act hL hex I2 hc2 hx2 r2 R2 rv hn h2⟩) he hpl
    split at h2
    · rename_i hn
      exact ⟨γ2, A2, ds, R2, r2, (e2.keep _ _ hc nc LamX.codeO_ne).1, hx.trans e2.toExt0, hn, h2⟩
    · exact h2.elim
  · exact h.elim
end
end F3
namespace F3
open PySem PySem.Spec
open PyProof.Rows L2
section
variable {P : Program} {w : World} {K : PySem.W.Frag} {mg : Str → Option Value} {base : Heap} {G : Gc}
theorem post_runF {n p : Nat} {g : Ev → AH → SR} {ds : List D} {A : AH} {γ : Gh} {H : Hp} {Q : VK} {E : XK} (R : Rel G γ A H) (h : Post G γ H (runF n p g ds A) (fun γ' _ H' d => ∀ v, VR G γ' H' d v → Q v H') E) :
    ds.length = p ∧ PostS G γ H (g (ds.map some ++ List.replicate (n - p) none) A) { nx := fun _ H' => Q .non H', rt := Q } (fun c d _ H => E c d H) := by
  unfold runF at h
  split at h
  · rename_i hl
    refine ⟨hl, ?_⟩
    cases q : g (ds.map some ++ List.replicate (n - p) none) A with
    | nx env1 A1 =>
      rw [q] at h
      exact fun γ' H' σ' e S => Post.clean R h γ' H' .non e S.rel (by unfold VR; rfl)
    | rt d A1 =>
      rw [q] at h
      exact fun γ' H' v e R' r' => Post.clean R h γ' H' v e R' r'
    | ex x env1 A1 =>
      rw [q] at h
      exact fun γ' H' σ' cls ad e S xr => Post.cleanX R h γ' H' cls ad e S.rel xr
    | bk env1 A1 => rw [q] at h; exact h.elim
    | ct env1 A1 => rw [q] at h; exact h.elim
    | stuck => rw [q] at h; exact h.elim
  · exact h.elim
/-- a def that takes a lambda last: φ, what the lambda does -/
def runL (n p : Nat) (g : (List D → AH → Res D) → Ev → AH → SR) (φ : List D → AH → Res D) (ds : List D) (A : AH) : Res D := chk (runF n p (g φ) (ds ++ [.fn]) A)
theorem Vals.app1 {vs : List V} {us : List Value} {v : V} {u : Value} (h : Vals vs us) (r : L2.RelV v u) : Vals (vs ++ [v]) (us ++ [u]) := by
  induction h with
  | nil => exact .cons r .nil
  | cons a b ih => exact .cons a ih
theorem fnL_of {x qual : Str} {st : Stmt} {g : Addr} {fd : FuncData} {N ps : List Str} {k : Nat} {b : (List D → AH → Res D) → Ev → AH → SR} (F : Fun K x qual st g fd) (Sc : FnScope N ps (defScope st)) (hK : G.K = K) (hG : G.lam = none)
    (hb : ∀ (kV doc pm : Value) (an : Option Addr) (cdv ct : Value) (us : List Value), us.length = ps.length → bindArgs (PySem.W.fnOf x qual (defArgs st) (defBody st) (defScope st) .none kV doc pm an cdv ct) ⟨us, []⟩ = pure (ps.zip us))
    (body : ∀ (kk : Nat) (cdv : Value) (A : Around) (outer : List Env) (s : Shared) (E : XK) (L : Lm) (φ : List D → AH → Res D), ActF P w K mg base G kk outer s L φ → XO (cxOf (L2.CX P w) P w K mg base N qual (defScope st) g cdv A outer s L.H E) (G.wl (some L)) (fun c d _ H => E c d H) (kk + k) →
      JB (cxOf (L2.CX P w) P w K mg base N qual (defScope st) g cdv A outer s L.H E) (G.wl (some L)) (fun c d _ H => E c d H) (defBody st) (b φ)) :
    FnL P w K mg base G (k + 1) g (runL N.length ps.length b) := by
  intro kk A outer s H us vs ds γ Ah Q E f c q φ hr hg e0 r R rv hc nc act h
  obtain ⟨oc, od, kV, doc, pm, an, cdv, ct, osl, rfl, lk, hcd⟩ := F.ex
  unfold runL at h
  have R' : Rel (G.wl (some ⟨f, c, q, γ, H⟩)) γ Ah H := R.wl (.inr hG)
  have rf : VR (G.wl (some ⟨f, c, q, γ, H⟩)) γ H .fn (.ref f) := by unfold VR; exact ⟨_, rfl, rfl, hc, nc, (Ext.refl γ H).toExt0⟩
  have rv' : VRs (G.wl (some ⟨f, c, q, γ, H⟩)) γ H (ds ++ [D.fn]) (vs ++ [.ref f]) := (VRs.wl _ _ (.inr hG) rv).append (VRs.cons rf VRs.nil)
  obtain ⟨hl, h'⟩ := post_runF R' (Post.ofL (l := some ⟨f, c, q, γ, H⟩) h)
  have hlv : (vs ++ [V.ref f]).length = ps.length := by rw [← rv'.length]; exact hl
  have hNp : ps.length ≤ N.length := by have := congrArg List.length Sc.pre; rw [List.length_take] at this; omega
  have r' : Vals (vs ++ [V.ref f]) (us ++ [Value.ref f]) := Vals.app1 r rfl
  refine LamX.run_ofS (N := N) (us := us ++ [.ref f]) (vs := vs ++ [.ref f]) lk hcd Sc hr e0 (.of_eq (hb _ _ _ _ _ _ _ (by rw [← r'.length]; exact hlv))) r' hlv fun hr' => ?_
  have o : XO (cxOf (L2.CX P w) P w K mg base N qual (defScope st) g cdv A outer s H E) (G.wl (some ⟨f, c, q, γ, H⟩)) (fun c d _ H => E c d H) (kk + k) :=
    ⟨takes_of rfl rfl rfl rfl, passes_of rfl, rfl, hr', hg, hK⟩
  refine ⟨_, (body kk cdv A outer s E ⟨f, c, q, γ, H⟩ φ act o).run, γ, Ah, (ds ++ [D.fn]).map some ++ List.replicate (N.length - ps.length) none, ⟨R', ?_, er_start rv' N (by rw [hlv])⟩, h'⟩
  unfold L2.start
  simp only [List.length_append, List.length_map, List.length_replicate, List.length_cons, List.length_nil] at hl hlv ⊢
  omega
/-- the code of the def at f -/
def fnCode (K : PySem.W.Frag) (f : Addr) : Option Value := match K.lookup f with
  | some ⟨_, _, .func fd, _⟩ => some fd.code
  | _ => none
/-- a def whose code object is known (it makes lambdas) -/
theorem fnK_of {x qual : Str} {st : Stmt} {f c : Addr} {fd : FuncData} {N ps : List Str} {k : Nat} {g : Ev → AH → SR} (F : Fun K x qual st f fd) (hc : fnCode K f = some (.ref c)) (Sc : FnScope N ps (defScope st)) (hK : G.K = K)
    (hb : ∀ (kV doc pm : Value) (an : Option Addr) (cdv ct : Value) (us : List Value), us.length = ps.length → bindArgs (PySem.W.fnOf x qual (defArgs st) (defBody st) (defScope st) .none kV doc pm an cdv ct) ⟨us, []⟩ = pure (ps.zip us))
    (body : ∀ (A : Around) (outer : List Env) (s : Shared) (H : Hp) (E : XK), XO (cxOf (L2.CX P w) P w K mg base N qual (defScope st) f (.ref c) A outer s H E) G (fun c d _ H => E c d H) k →
      JB (cxOf (L2.CX P w) P w K mg base N qual (defScope st) f (.ref c) A outer s H E) G (fun c d _ H => E c d H) (defBody st) g) :
    FnG P w K mg base G (k + 1) f (runF N.length ps.length g) := by
  intro A outer s H us vs ds γ Ah Q E hr hg e0 r R rv h
  obtain ⟨oc, od, kV, doc, pm, an, cdv, ct, osl, rfl, lk, hcd⟩ := F.ex
  obtain rfl : cdv = .ref c := by
    unfold fnCode at hc
    rw [lk] at hc
    exact Option.some.inj hc
  obtain ⟨hl, h'⟩ := post_runF R h
  have hlv : vs.length = ps.length := by rw [← rv.length]; exact hl
  have hNp : ps.length ≤ N.length := by have := congrArg List.length Sc.pre; rw [List.length_take] at this; omega
  refine LamX.run_ofS (N := N) (us := us) (vs := vs) lk hcd Sc hr e0 (.of_eq (hb _ _ _ _ _ _ us (by rw [← r.length]; exact hlv))) r hlv fun hr' => ?_
  have o : XO (cxOf (L2.CX P w) P w K mg base N qual (defScope st) f (.ref c) A outer s H E) G (fun c d _ H => E c d H) k :=
    ⟨takes_of rfl rfl rfl rfl, passes_of rfl, rfl, hr', hg, hK⟩
  refine ⟨_, (body A outer s H E o).run, γ, Ah, ds.map some ++ List.replicate (N.length - ps.length) none, ⟨R, ?_, er_start rv N (by rw [hlv])⟩, h'⟩
  unfold L2.start
  simp only [List.length_append, List.length_map, List.length_replicate]
  omega
end
end F3
namespace F3
open PySem PySem.Spec
open PyProof.Rows L2
/-! ### a lambda made -/
abbrev lamObj (q : Str) (params : Arguments) (body : Expr) (scope : Scope) (cl : List (Str × Addr)) (dV doc pm : Value) (c' : Addr) (ctv : Value) : Obj := PySem.W.kdv_obj "<lambda>" q params (.expr body) scope cl dV doc pm c' ctv
section
variable {X : Cx} {G : Gc} {γ : Gh} {A : AH} {pins : List (Addr × Obj)} {σ : L2.St} {H : Hp} {s : Shared}
/-- a code object joins its table -/
theorem table_more {P c' : Addr} {q : Str} {ps : Array Value} {pos : Pos} (R : Rel G γ A H) (hm : (P, q) ∈ G.T) (hu : ∀ p ∈ G.T, p.1 = P → p.2 = q) (hP : H P = some (.tbl ps)) (ht : TriplesOk ps.toList) (nC : H c' = none) :
    Ext γ H γ (upd (upd H P (.tbl (ps ++ #[rawInt pos.line, rawInt pos.col, .ref c']))) c' (LamX.CodeO c' q)) ∧ Rel G γ A (upd (upd H P (.tbl (ps ++ #[rawInt pos.line, rawInt pos.col, .ref c']))) c' (LamX.CodeO c' q)) := by
  obtain ⟨nP, ps', hP', _, hold⟩ := R.tab _ hm
  have eq1 : ps' = ps := by
    rw [hP] at hP'
    cases hP'
    rfl
  subst eq1
  have nC' : γ.o c' = none := R.o_none nC
  have nPc : P ≠ c' := ne_of_none hP nC
  have off : ∀ b, b ≠ P → b ≠ c' → upd (upd H P (.tbl (ps' ++ #[rawInt pos.line, rawInt pos.col, .ref c']))) c' (LamX.CodeO c' q) b = H b := fun b h1 h2 => by rw [upd_ne h2, upd_ne h1]
  have own : ∀ b x, γ.o b = some x → b ≠ P ∧ b ≠ c' := fun b x e => ⟨fun z => (by rw [z, nP] at e; cases e), fun z => (by rw [z, nC'] at e; cases e)⟩
  have keep : ∀ b ob, H b = some ob → γ.o b = none → (∀ ps, ob ≠ .tbl ps) → upd (upd H P (.tbl (ps' ++ #[rawInt pos.line, rawInt pos.col, .ref c']))) c' (LamX.CodeO c' q) b = some ob ∧ γ.o b = none := fun b ob e n t => by
    refine ⟨?_, n⟩
    rw [off b (fun z => ?_) (ne_of_none e nC)]
    · exact e
    · subst z
      rw [hP] at e
      cases e
      exact t _ rfl
  have E0 : Ext0 γ H γ (upd (upd H P (.tbl (ps' ++ #[rawInt pos.line, rawInt pos.col, .ref c']))) c' (LamX.CodeO c' q)) := ⟨fun _ _ e => e, keep, fun b o u e => by
    rw [off b (fun z => by rw [z, hP] at e; cases e) (ne_of_none e nC)]; exact e⟩
  refine ⟨⟨E0, fun b ob e n => ⟨?_, n⟩⟩, ⟨R.len, fun i o e => ?_, fun b x e => ?_, fun p hp => ?_, fun b xs e => by
    by_cases z1 : b = c'
    · subst z1; exact nC'
    · by_cases z2 : b = P
      · subst z2; exact nP
      · rw [off b z2 z1] at e; exact R.tupo b xs e⟩⟩
  · obtain ⟨h1, h2⟩ := own b _ n
    rw [off b h1 h2]; exact e
  · obtain ⟨a, e1, e2, r⟩ := R.at_ i o e
    obtain ⟨h1, h2⟩ := own a _ e2
    exact ⟨a, e1, e2, r.ext (j := i) E0 (off a h1 h2) fun dx q => let ⟨k1, k2⟩ := own dx _ q; ⟨off dx k1 k2, q⟩⟩
  · obtain ⟨h1, h2⟩ := own b _ e
    rw [off b h1 h2]
    exact R.dom b x e
  · by_cases hb : p.1 = P
    · refine ⟨by rw [hb]; exact nP, _, by rw [hb, upd_ne nPc, upd_same], ?_, fun p' cv hcv => ?_⟩
      · have eL : (ps' ++ #[rawInt pos.line, rawInt pos.col, .ref c']).toList = ps'.toList ++ [rawInt pos.line, rawInt pos.col, .ref c'] := by simp
        rw [eL]; exact PySem.TriplesOk_snoc _ _ _ _ ht
      · have eL : (ps' ++ #[rawInt pos.line, rawInt pos.col, .ref c']).toList = ps'.toList ++ [rawInt pos.line, rawInt pos.col, .ref c'] := by simp
        rw [eL] at hcv
        rw [hu p hp hb]
        rcases LamX.among_app _ ht hcv with z | z
        · obtain ⟨c0, e1, e2, e3⟩ := hold p' cv z
          obtain ⟨k1, k2⟩ := keep _ _ e2 e3 LamX.codeO_ne
          exact ⟨c0, e1, k1, k2⟩
        · exact ⟨c', z, upd_same, nC'⟩
    · obtain ⟨n, ps2, a1, a2, a3⟩ := R.tab p hp
      refine ⟨n, ps2, by rw [off _ hb (ne_of_none a1 nC)]; exact a1, a2, fun p' cv hcv => ?_⟩
      obtain ⟨c0, e1, e2, e3⟩ := a3 p' cv hcv
      obtain ⟨k1, k2⟩ := keep _ _ e2 e3 LamX.codeO_ne
      exact ⟨c0, e1, k1, k2⟩
theorem lam_tail {c P : Addr} {params : Arguments} {body : Expr} {scope : Scope} {pos : Pos} {fl : Nat} {dV : Value} {E : Value → Shared → Prop} {Q : Value → Shared → Prop} (I : Inv X pins σ H s) (TB : LamX.TabB X.base X.mg c P) (hcode : X.env.code = .ref c) (R : Rel G γ A H)
    (hm : (P, X.env.qual ++ "<lambda>") ∈ G.T) (hu : ∀ p ∈ G.T, p.1 = P → p.2 = X.env.qual ++ "<lambda>") (hfree : ∀ y ∈ scope.names, y.2 = .free → ∃ c, X.env.cells.lookup y.1 = some c)
    (h : ∀ (f c' : Addr) (doc pm ctv : Value) (H1 : Hp) (s' : Shared), Inv X pins σ H1 s' → Ext γ H γ H1 → Rel G γ A H1 → s'.heap.get? f = some (lamObj (X.env.qual ++ "<lambda>") params body scope (cloFrom X.env.cells scope.names []) dV doc pm c' ctv) → H1 f = none → f ∉ frs X.stack →
      H1 c' = some (LamX.CodeO c' (X.env.qual ++ "<lambda>")) → γ.o c' = none → (∀ b o, s.heap.get? b = some o → H b = none → s'.heap.get? b = some o ∧ H1 b = none) → Q (.ref f) s') :
    wpAny (model X.prog X.w) X.A (makeTail "<lambda>" (X.env.qual ++ "<lambda>") params (.expr body) scope X.env dV .none none pos fl) Q E s := by
  obtain ⟨nP, ps, hP, ht, ha⟩ := R.tab _ hm
  have bP : s.heap.BuiltinsAt X.mg P := TB.bm.keeps I.bk
  have hP' : s.heap.get? P = some { cls := .none, data := .fields ps } := I.hok P _ hP
  have nofr : ∀ f, s.heap.objs.size ≤ f → f ∉ frs X.stack := fun f hf z => by
    rcases List.mem_cons.mp (I.stkSub _ z) with e | e
    · have h1 := I.lt
      rw [← e] at h1
      exact Nat.lt_irrefl _ (Nat.lt_of_lt_of_le h1 hf)
    · exact I.nofs hf e
  cases hc : codeAmong pos ps.toList with
  | none =>
    refine PySem.W.kdv_makeTail (mg := X.mg) (c := c) (P := P) (ps := ps) (closure_ok hfree) I.ok.glob (I.mod.glob.keeps I.bk) hcode (TB.code.keeps I.bk) hP' ht hc TB.gP bP fun c' ctv doc h' tk hx hge hlt hrec htb => ?_
    obtain ⟨c2, oc, vs, t, e2, hoc, hd, hv⟩ := hrec
    cases e2
    have hsz : s.heap.objs.size ≤ h'.objs.size := Nat.le_trans hge (Nat.le_of_lt hlt)
    have nC : H c' = none := I.hok.fresh hge
    have I1 := LamX.inv_table (t' := tk) (more := #[rawInt pos.line, rawInt pos.col, .ref c']) (h' := h'.push (lamObj (X.env.qual ++ "<lambda>") params body scope (cloFrom X.env.cells scope.names []) dV doc ((X.mg "__name__").getD .none) c' ctv)) I hP
      (fun b o hb e => Heap.get?_push_of_some _ (hx b o hb e)) (Heap.get?_push_of_some _ htb) hge ⟨oc, vs, t, Heap.get?_push_of_some _ hoc, hd, hv⟩
    obtain ⟨E1, R1⟩ := table_more (pos := pos) R hm hu hP ht nC
    refine h h'.objs.size c' doc ((X.mg "__name__").getD .none) ctv _ _ I1 E1 R1 (Heap.get?_push_size _ rfl) ?_ (nofr _ hsz) upd_same (R.o_none nC) fun b o e n => ?_
    · have n1 : h'.objs.size ≠ c' := Nat.ne_of_gt hlt
      have n2 : h'.objs.size ≠ P := Nat.ne_of_gt (Nat.lt_of_lt_of_le (Heap.lt_size hP') hsz)
      rw [upd_ne n1, upd_ne n2]
      exact I.hok.fresh hsz
    · have b1 : b ≠ P := fun z => by rw [z, hP] at n; cases n
      have b2 : b ≠ c' := fun z => by
        rw [z] at e
        exact Nat.lt_irrefl _ (Nat.lt_of_lt_of_le (Heap.lt_size e) hge)
      exact ⟨Heap.get?_push_of_some _ (hx b o b1 e), by rw [upd_ne b2, upd_ne b1]; exact n⟩
  | some cv =>
    obtain ⟨c', e, hco, nco⟩ := ha pos cv hc
    subst e
    refine PySem.W.kdv_makeTailHit (mg := X.mg) (c := c) (P := P) (ps := ps) (closure_ok hfree) I.ok.glob (I.mod.glob.keeps I.bk) hcode (TB.code.keeps I.bk) hP' ht hc bP fun ctv doc h' tk hx hsz => ?_
    have I1 : Inv X pins σ H { s with heap := h'.push (lamObj (X.env.qual ++ "<lambda>") params body scope (cloFrom X.env.cells scope.names []) dV doc ((X.mg "__name__").getD .none) c' ctv), toks := tk } := I.kept fun b o e => Heap.get?_push_of_some _ (hx b o e)
    exact h h'.objs.size c' doc ((X.mg "__name__").getD .none) ctv H _ I1 (Ext.refl _ _) R (Heap.get?_push_size _ rfl) (I.hok.fresh hsz) (nofr _ hsz) hco nco fun b o e n => ⟨Heap.get?_push_of_some _ (hx b o e), n⟩
/-! ### the lambda's names -/
structure LamT (sc scope : Scope) (ps : List Str) : Prop where
  kind : scope.kind = .function
  co : scope.isCoroutine = false
  gen : scope.isGenerator = false
  cell : ∀ y ∈ scope.names, y.2 ≠ .cell
  own : ∀ y ∈ scope.names, y.2 = .local → y.1 ∈ ps
  par : ∀ p ∈ ps, scope.names.lookup p = some .local
  free : ∀ y ∈ scope.names, y.2 = .free → sc.names.lookup y.1 = some .cell ∨ sc.names.lookup y.1 = some .free
def lamTB (sc scope : Scope) (ps : List Str) : Bool :=
  decide (scope.kind = .function) && !scope.isCoroutine && !scope.isGenerator && (scope.names.all fun y => !decide (y.2 = .cell) && (!decide (y.2 = .local) || ps.contains y.1) && (!decide (y.2 = .free) || decide (sc.names.lookup y.1 = some .cell) || decide (sc.names.lookup y.1 = some .free))) && ps.all fun p => decide (scope.names.lookup p = some .local)
theorem lamT_by {sc scope : Scope} {ps : List Str} (h : lamTB sc scope ps = true) : LamT sc scope ps := by
  unfold lamTB at h
  simp only [Bool.and_eq_true, Bool.or_eq_true, Bool.not_eq_true', decide_eq_true_eq, decide_eq_false_iff_not, List.all_eq_true, List.contains_iff_mem] at h
  obtain ⟨⟨⟨⟨h1, h2⟩, h3⟩, h4⟩, h5⟩ := h
  refine ⟨h1, h2, h3, fun y hy => (h4 y hy).1.1, fun y hy e => ?_, h5, fun y hy e => ?_⟩
  · rcases (h4 y hy).1.2 with z | z
    · exact absurd e z
    · exact z
  · rcases (h4 y hy).2 with (z | z) | z
    · exact absurd e z
    · exact .inl z
    · exact .inr z
theorem LamT.has {X : Cx} {scope : Scope} {ps : List Str} (L : LamT X.env.scope scope ps) (ok : X.Ok) : ∀ y ∈ scope.names, y.2 = .free → ∃ c, X.env.cells.lookup y.1 = some c := fun y hy e => by
  rcases L.free y hy e with k | k
  · exact ok.has _ (.inl k)
  · exact ok.has _ (.inr k)
end
section
variable {X : Cx} {pins : List (Addr × Obj)} {σ σ' : L2.St} {H HZ : Hp} {s s1 : Shared}
theorem lam_startT {A : Around} {outer : List Env} {E : XK} {scope : Scope} {ps : List Str} {f c' : Addr} {h₁ : Heap} {tk : Nat} {binds : List (Str × Value)} (I : Inv X pins σ H s) (L : LamT X.env.scope scope ps) (e0 : Env0 X.prog X.w X.K X.mg X.base A outer s1 HZ) (hd : A.handled = none)
    (un : Un (frs X.stack) [] H HZ s.heap s1.heap) (hns : h₁.Ns s1.heap.objs.size fun y => binds.reverse.lookup y) (kp : ∀ b o, s1.heap.get? b = some o → h₁.get? b = some o) (hlen : σ'.length = σ.length)
    (hσ : ∀ (i : Nat) (y : Str) (v : V), X.N[i]? = some y → σ'[i]? = some (some v) → Vis scope y → (scope.names.lookup y = some .local ∧ ∃ u, L2.RelV v u ∧ binds.reverse.lookup y = some u) ∨ (scope.names.lookup y = some .free ∧ σ[i]? = some (some v))) :
    Inv (LamX.lamCx X A outer s1 HZ E scope f c') [] σ' HZ { s1 with heap := h₁, toks := tk } := by
  have hfree := L.has I.ok
  have cm : ∀ {y c}, (cloFrom X.env.cells scope.names []).lookup y = some c → X.env.cells.lookup y = some c := fun {y c} e => by
    rcases cloFrom_mem (PySem.mem_of_lookup e) with hm | ⟨h1, h2⟩
    · cases hm
    · obtain ⟨c1, hc⟩ := hfree _ h1 rfl
      have hc : X.env.cells.lookup y = some c1 := hc
      have e2 : c = c1 := by
        rw [h2, hc] <;> rfl
      rw [e2]
      exact hc
  have look : ∀ {y}, scope.names.lookup y = some .free → ∃ c, (cloFrom X.env.cells scope.names []).lookup y = some c := fun {y} hl => by
    have hy : (y, NameKind.free) ∈ scope.names := PySem.mem_of_lookup hl
    exact mem_lookup (cloFrom_has (cells := X.env.cells) (acc := []) hy)
  have cellK : ∀ {c : Addr} {v : Option Value}, H c = none → s.heap.IsCell c v → h₁.IsCell c v := fun {c v} n ⟨o, ho, hd⟩ => by
    obtain ⟨sl, q⟩ := un.any ho n (by simp)
    exact ⟨_, kp _ _ q, hd⟩
  have noA : ∀ b : Addr, b ∉ (LamX.lamCx X A outer s1 HZ E scope f c').ex := fun b z => absurd (show b ∈ ([] : List Addr) from z) (by simp)
  refine ⟨⟨e0.mod, L.kind, rfl, rfl, Nat.le_refl _, fun y z c e1 e2 => I.ok.inj y z c (cm e1) (cm e2), fun y hy => ?_, fun y c z _ => ?_, fun _ => hd, Around.frames_deeper e0.frames, .inr ⟨rfl, rfl⟩, fun b z => absurd z (noA b), e0.bs, e0.bsz, fun b _ _ => noA b,
      fun b z => absurd z (noA b), e0.funs, e0.frf⟩,
    rfl, e0.bare, Un.kept kp, ⟨_, hns, fun i y v e1 e2 e3 => ?_⟩, fun y c e => ?_, e0.hok.fresh (Nat.le_refl _), fun y c e => ?_, fun q hq => absurd (show q ∈ ([] : List (Addr × Obj)) ++ [] from hq) (by simp), e0.hok.kept kp, by rw [hlen]; exact I.len⟩
  · have hy : scope.names.lookup y = some .cell ∨ scope.names.lookup y = some .free := hy
    rcases hy with hy | hy
    · exact absurd rfl (L.cell _ (PySem.mem_of_lookup hy))
    · exact look hy
  · have z : false = true := z
    cases z
  · have e3 : Vis scope y := e3
    rcases hσ i y v e1 e2 e3 with ⟨k, u, ru, hu⟩ | ⟨k, e2'⟩
    · exact ⟨u, ru, .inl ⟨k, hu⟩⟩
    · obtain ⟨m, hn, hl⟩ := I.loc
      have hvis : Vis X.env.scope y := (L.free _ (PySem.mem_of_lookup k) rfl).elim (fun k => .inr (.inl k)) (fun k => .inr (.inr k))
      obtain ⟨w', r, q⟩ := hl i y v e1 e2' hvis
      obtain ⟨c2, h2⟩ := look k
      refine ⟨w', r, .inr ⟨.inr k, c2, h2, ?_⟩⟩
      have c1 := cm h2
      rcases q with ⟨k', _⟩ | ⟨_, c3, e', z⟩
      · have k' : X.env.scope.names.lookup y = some .local := k'
        rcases L.free _ (PySem.mem_of_lookup k) rfl with k2 | k2 <;> rw [show X.env.scope.names.lookup y = _ from k2] at k' <;> cases k'
      · rw [c1] at e'
        cases e'
        exact cellK (I.freeC y _ c1) z
  · obtain ⟨w', z⟩ := I.cell y c (cm e)
    exact ⟨w', cellK (I.freeC y c (cm e)) z⟩
  · obtain ⟨v, o, ho, hd⟩ := I.cell y c (cm e)
    exact un.free c o ho (I.freeC y c (cm e)) (by simp)
end
end F3
namespace F3
open PySem PySem.Spec
open PyProof.Rows L2
/-- a lambda's run: bd binds its parameters -/
def sLam (bd : List D → Ev → Option Ev) (fb : Ev → AH → Res D) (env : Ev) (ds : List D) (A : AH) : Res D := match bd ds env with
  | some e => fb e A
  | none => .stuck
def bd0 (ds : List D) (env : Ev) : Option Ev := match ds with
  | [] => some env
  | _ => none
def bd1 (j : Nat) (ds : List D) (env : Ev) : Option Ev := match ds with
  | [d] => some (env.set j (some d))
  | _ => none
def bdD (j : Nat) (d : D) (ds : List D) (env : Ev) : Option Ev := match ds with
  | [] => some (env.set j (some d))
  | _ => none
/-- the binding at the machine -/
def LamBd (X : Cx) (G : Gc) (scope : Scope) (fd : FuncData) (s : Shared) (H : Hp) (σ : L2.St) (bd : List D → Ev → Option Ev) : Prop :=
  ∀ (s1 : Shared) (H1 : Hp) (γ1 : Gh) (us : List Value) (vs : List V) (ds : List D) (env env' : Ev), Un (frs X.stack) [] H H1 s.heap s1.heap → Vals vs us → VRs G γ1 H1 ds vs → ER G γ1 H1 env σ → env.length = σ.length → bd ds env = some env' →
    ∃ (binds : List (Str × Value)) (σ' : L2.St), BindsTo s1 fd ⟨us, []⟩ binds ∧ (∀ y ∈ binds, scope.names.lookup y.1 = some .local) ∧ σ'.length = σ.length ∧
      (∀ (i : Nat) (y : Str) (v : V), X.N[i]? = some y → σ'[i]? = some (some v) → Vis scope y → (scope.names.lookup y = some .local ∧ ∃ u, L2.RelV v u ∧ binds.reverse.lookup y = some u) ∨ (scope.names.lookup y = some .free ∧ σ[i]? = some (some v))) ∧ ER G γ1 H1 env' σ' ∧ env'.length = σ'.length
section
variable {X : Cx} {G : Gc} {W : WX} {γ : Gh} {A : AH} {env : Ev} {pins : List (Addr × Obj)} {σ : L2.St} {H : Hp} {s : Shared} {kk : Nat}
theorem act_of {params : Arguments} {body : Expr} {scope : Scope} {ps : List Str} {f c' : Addr} {dV doc pm ctv : Value} {bd : List D → Ev → Option Ev} {fb : Ev → AH → Res D} (I : Inv X pins σ H s) (S : St3 G γ A env H σ) (L : LamT X.env.scope scope ps) (gk : G.K = X.K)
    (hf : s.heap.get? f = some (lamObj (X.env.qual ++ "<lambda>") params body scope (cloFrom X.env.cells scope.names []) dV doc pm c' ctv)) (hfn : H f = none) (hfr : f ∉ frs X.stack)
    (hbd : LamBd X G scope (PySem.W.kdv_fn "<lambda>" (X.env.qual ++ "<lambda>") params (.expr body) scope (cloFrom X.env.cells scope.names []) dV doc pm (.ref c') ctv) s H σ bd)
    (hbody : ∀ (A : Around) (outer : List Env) (s : Shared) (H : Hp) (E : XK), XO (LamX.lamCx X A outer s H E scope f c') G (fun c d _ H => E c d H) kk → JE (LamX.lamCx X A outer s H E scope f c') G (fun c d _ H => E c d H) body fb) :
    ActF X.prog X.w X.K X.mg X.base G (kk + 1) X.stack s ⟨f, c', X.env.qual ++ "<lambda>", γ, H⟩ (sLam bd fb env) := by
  have of1 : ∀ (H1 : Hp) (h1 : Heap), Un (frs X.stack) [] H H1 s.heap h1 → h1.get? f = some (lamObj (X.env.qual ++ "<lambda>") params body scope (cloFrom X.env.cells scope.names []) dV doc pm c' ctv) := fun H1 h1 un => un.keep f _ hf hfn hfr (fun z => nomatch (show f ∈ ([] : List Addr) from z))
  refine ⟨fun H1 h1 un => ⟨_, _, _, _, of1 H1 h1 un⟩, ?_⟩
  intro A1 outer s1 H1 us vs ds γ1 Ah Q E hr hg e0 un hc hx r R rv h
  unfold sLam at h
  split at h
  · rename_i env' eb
    have er1 : ER G γ1 H1 env σ := fun i d q => by
      obtain ⟨v, e1, rr⟩ := S.er i d q
      exact ⟨v, e1, VR.ext0 hx d v rr⟩
    obtain ⟨binds, σ', b1, b2, b3, b4, b5, b6⟩ := hbd s1 H1 γ1 us vs ds env env' un r rv er1 S.len eb
    obtain ⟨⟨oc, cvs, t, hoc, hdc, hvc⟩, _, _⟩ := e0.hok c' _ hc
    have nolim : s1.heap.NoLimit := e0.mod.nolimit.keeps fun b o e => (e0.bs b o e).1
    refine PySem.W.kla_callFunE hr.depth (of1 H1 _ un) rfl L.co L.gen rfl ⟨c', oc, cvs, t, rfl, hoc, hdc, hvc⟩ ?_
    refine b1 _ _ _ _ (wpAny_newFunctionEnv (fun y hy => L.cell y hy) b2 (fun h₁ hns hsb => ⟨nolim.fresh _ hsb, ?_⟩) L.kind)
    show codeAny _ _ (.expr body (LamX.lamEnv X scope s1.heap.objs.size f c')) _ _
    have kp : ∀ b o, s1.heap.get? b = some o → h₁.get? b = some o := fun b o e => hsb.extBut b o (Nat.ne_of_lt (Heap.lt_size e)) (Heap.get?_push_of_some _ e)
    have J : Inv (LamX.lamCx X A1 outer s1 H1 E scope f c') [] σ' H1 { s1 with heap := h₁, toks := s1.toks + binds.length } :=
      lam_startT I L e0 hr.hd un hns kp b3 b4
    have o : XO (LamX.lamCx X A1 outer s1 H1 E scope f c') G (fun c d _ H => E c d H) kk :=
      ⟨takes_of rfl rfl rfl rfl, passes_of rfl, rfl, hr.deeper _, hg, gk⟩
    refine PySem.W.kla_codeExpr (wpAny_mono ((hbody A1 outer s1 H1 E o).run.run [] _ σ' H1 Q J ⟨γ1, Ah, env', ⟨R, b6, b5⟩, h⟩) (fun v s' hq => ?_) fun e s' hq => hq)
    obtain ⟨w', H', J', rv', q⟩ := hq
    exact ⟨w', H', J'.os, J'.bare, J'.base, J'.hok, rv', q⟩
  · exact h.elim
/-- a lambda as an argument -/
def LamE (X : Cx) (G : Gc) (kk : Nat) (e : Expr) (lam : Ev → List D → AH → Res D) : Prop :=
  ∀ (pins : List (Addr × Obj)) (σ : L2.St) (H : Hp) (s : Shared) (γ : Gh) (A : AH) (env : Ev) (Q : Value → Shared → Prop), Inv X pins σ H s → St3 G γ A env H σ →
    (∀ (f c' : Addr) (q : Str) (H1 : Hp) (s' : Shared), Inv X pins σ H1 s' → Ext γ H γ H1 → Rel G γ A H1 → H1 c' = some (LamX.CodeO c' q) → γ.o c' = none → ActF X.prog X.w X.K X.mg X.base G kk X.stack s' ⟨f, c', q, γ, H1⟩ (lam env) → Q (.ref f) s') →
    wpAny (model X.prog X.w) X.A (eval e X.env) Q X.xe s
/-- what the making asks of the text -/
structure LamQ (X : Cx) (G : Gc) (c P : Addr) : Prop where
  tb : LamX.TabB X.base X.mg c P
  code : X.env.code = .ref c
  mem : (P, X.env.qual ++ "<lambda>") ∈ G.T
  only : ∀ p ∈ G.T, p.1 = P → p.2 = X.env.qual ++ "<lambda>"
theorem lamE0 {c P : Addr} {params : Arguments} {body : Expr} {scope : Scope} {lpos : Pos} {fb : Ev → AH → Res D} (gk : G.K = X.K) (T : LamQ X G c P) (L : LamT X.env.scope scope []) (hdef : defaultsOf params X.env = ([], []))
    (hb : ∀ (q : Str) (cl : List (Str × Addr)) (doc pm cv ctv : Value), bindArgs (PySem.W.kdv_fn "<lambda>" q params (.expr body) scope cl .none doc pm cv ctv) ⟨[], []⟩ = pure [])
    (hbody : ∀ (A : Around) (outer : List Env) (s : Shared) (H : Hp) (E : XK) (f c' : Addr), XO (LamX.lamCx X A outer s H E scope f c') G (fun c d _ H => E c d H) kk → JE (LamX.lamCx X A outer s H E scope f c') G (fun c d _ H => E c d H) body fb) :
    LamE X G (kk + 1) (.Lambda params body scope lpos) (sLam bd0 fb) := by
  intro pins σ H s γ A env Q I S h
  refine PySem.W.kla_eval hdef ?_
  rw [makeFunction_eq]
  simp only [List.zip_nil_right, List.filterMap_nil, List.isEmpty_nil, if_true, pure_bind]
  refine lam_tail I T.tb T.code S.rel T.mem T.only (L.has I.ok) fun f c' doc pm ctv H1 s' I1 E1 R1 hf hfn hfr hc nc kp => ?_
  refine h f c' _ H1 s' I1 E1 R1 hc nc (act_of I1 (S.to E1 R1) L gk hf hfn hfr ?_ fun A outer s H E o => hbody A outer s H E f c' o)
  intro s1 H2 γ1 us vs ds env1 env' un r rv er hl eb
  unfold bd0 at eb
  split at eb
  · cases eb
    unfold VRs at rv
    subst rv
    cases r
    refine ⟨[], σ, .of_eq (hb _ _ _ _ _ _), (fun y hy => (by cases hy)), rfl, fun i y v e1 e2 e3 => ?_, er, hl⟩
    rcases e3 with k | k | k
    · exact absurd (L.own _ (PySem.mem_of_lookup k) rfl) (by simp)
    · exact absurd rfl (L.cell _ (PySem.mem_of_lookup k))
    · exact .inr ⟨k, e2⟩
  · cases eb
theorem set_vis {scope sc : Scope} {p : Str} {j i : Nat} {y : Str} {v v0 : V} {u0 : Value} {N : List Str} {σ : L2.St} (L : LamT sc scope [p]) (hN : N.Nodup) (hj : N[j]? = some p) (hlen : σ.length = N.length) (ru : L2.RelV v0 u0) (e1 : N[i]? = some y) (e2 : (σ.set j (some v0))[i]? = some (some v)) (e3 : Vis scope y) :
    (scope.names.lookup y = some .local ∧ ∃ u, L2.RelV v u ∧ [(p, u0)].reverse.lookup y = some u) ∨ (scope.names.lookup y = some .free ∧ σ[i]? = some (some v)) := by
  by_cases z : j = i
  · subst z
    rw [hj] at e1; cases e1
    have hlt : j < σ.length := by rw [hlen]; exact (List.getElem?_eq_some_iff.mp hj).1
    rw [List.getElem?_set_self hlt] at e2
    cases e2
    exact .inl ⟨L.par _ (by simp), u0, ru, by simp [List.lookup]⟩
  · rw [List.getElem?_set_ne z] at e2
    have ne : y ≠ p := fun q => z (by
      subst q
      have h1 := (List.getElem?_eq_some_iff.mp hj)
      have h2 := (List.getElem?_eq_some_iff.mp e1)
      obtain ⟨l1, q1⟩ := h1
      obtain ⟨l2, q2⟩ := h2
      exact (List.getElem_inj hN).mp (q1.trans q2.symm))
    rcases e3 with k | k | k
    · have := L.own _ (PySem.mem_of_lookup k) rfl
      simp at this
      exact absurd this ne
    · exact absurd rfl (L.cell _ (PySem.mem_of_lookup k))
    · exact .inr ⟨k, e2⟩
theorem lamE1 {c P : Addr} {params : Arguments} {body : Expr} {scope : Scope} {lpos : Pos} {p : Str} (j : Nat) {fb : Ev → AH → Res D} (gk : G.K = X.K) (T : LamQ X G c P) (L : LamT X.env.scope scope [p]) (hN : X.N.Nodup) (hj : X.N[j]? = some p) (hdef : defaultsOf params X.env = ([], []))
    (hb : ∀ (q : Str) (cl : List (Str × Addr)) (doc pm cv ctv : Value) (u : Value), bindArgs (PySem.W.kdv_fn "<lambda>" q params (.expr body) scope cl .none doc pm cv ctv) ⟨[u], []⟩ = pure [(p, u)])
    (hbody : ∀ (A : Around) (outer : List Env) (s : Shared) (H : Hp) (E : XK) (f c' : Addr), XO (LamX.lamCx X A outer s H E scope f c') G (fun c d _ H => E c d H) kk → JE (LamX.lamCx X A outer s H E scope f c') G (fun c d _ H => E c d H) body fb) :
    LamE X G (kk + 1) (.Lambda params body scope lpos) (sLam (bd1 j) fb) := by
  intro pins σ H s γ A env Q I S h
  refine PySem.W.kla_eval hdef ?_
  rw [makeFunction_eq]
  simp only [List.zip_nil_right, List.filterMap_nil, List.isEmpty_nil, if_true, pure_bind]
  refine lam_tail I T.tb T.code S.rel T.mem T.only (L.has I.ok) fun f c' doc pm ctv H1 s' I1 E1 R1 hf hfn hfr hc nc kp => ?_
  refine h f c' _ H1 s' I1 E1 R1 hc nc (act_of I1 (S.to E1 R1) L gk hf hfn hfr ?_ fun A outer s H E o => hbody A outer s H E f c' o)
  intro s1 H2 γ1 us vs ds env1 env' un r rv er hl eb
  unfold bd1 at eb
  split at eb
  · rename_i d
    cases eb
    obtain ⟨v, rfl, rd⟩ := rv.one
    cases r with
    | cons ru r0 =>
      cases r0
      rename_i u0
      refine ⟨[(p, u0)], σ.set j (some v), .of_eq (hb _ _ _ _ _ _ u0), fun y hy => ?_, by simp, fun i y v' e1 e2 e3 => set_vis L hN hj I.len ru e1 e2 e3, er.set hl rd, by simp [hl]⟩
      simp at hy
      subst hy
      exact L.par _ (by simp)
  · cases eb
theorem lamED {c P : Addr} {params : Arguments} {body : Expr} {scope : Scope} {lpos : Pos} {p : Str} (j : Nat) {i0 : Int} {jj} {pp : Pos} {fb : Ev → AH → Res D} (gk : G.K = X.K) (T : LamQ X G c P) (L : LamT X.env.scope scope [p]) (hN : X.N.Nodup) (hj : X.N[j]? = some p) (hd : params.defaults = [.Constant (.int i0) jj pp]) (hk0 : params.kw_defaults = [])
    (hb : ∀ (q : Str) (cl : List (Str × Addr)) (t : Addr) (doc pm cv ctv : Value) (u : Value), ∃ k : Option (Array Value) → Sem (List (Str × Value)), bindArgs (PySem.W.kdv_fn "<lambda>" q params (.expr body) scope cl (.ref t) doc pm cv ctv) ⟨[], []⟩ = seqItems? (.ref t) >>= k ∧ k (some #[u]) = pure [(p, u)])
    (hbody : ∀ (A : Around) (outer : List Env) (s : Shared) (H : Hp) (E : XK) (f c' : Addr), XO (LamX.lamCx X A outer s H E scope f c') G (fun c d _ H => E c d H) kk → JE (LamX.lamCx X A outer s H E scope f c') G (fun c d _ H => E c d H) body fb) :
    LamE X G (kk + 1) (.Lambda params body scope lpos) (sLam (bdD j (.int i0)) fb) := by
  intro pins σ H s γ A env Q I S h
  refine PySem.W.kdv_lam (by rw [hd]; rfl) hk0 ?_
  rw [hd]
  refine PySem.W.kdv_all1 (thn (pe_int.run pins s σ H (fun v H' => v = .int i0 ∧ H' = H) I ⟨rfl, rfl⟩) fun u s1 ⟨v, H1, I1, r1, q1⟩ => PySem.W.kdv_all0 ?_)
  obtain ⟨ev, eH⟩ := q1
  subst ev
  subst eH
  rw [makeFunction_eq]
  simp only [List.zip_nil_right, List.filterMap_nil, List.isEmpty_nil, if_true, pure_bind, List.isEmpty_cons, Bool.false_eq_true, if_false]
  refine wpAny_bind (wpAny_newTextTuple ?_)
  have I2 : Inv X pins σ H1 { s1 with heap := s1.heap.push (PySem.W.kdv_tup [u]) } := I1.kept (t' := s1.toks) fun b o e => Heap.get?_push_of_some _ e
  have nt : H1 s1.heap.objs.size = none := I1.hok.fresh (Nat.le_refl _)
  have ot : (s1.heap.push (PySem.W.kdv_tup [u])).get? s1.heap.objs.size = some (PySem.W.kdv_tup [u]) := Heap.get?_push_size _ rfl
  have nofr : s1.heap.objs.size ∉ frs X.stack := fun z => by
    rcases List.mem_cons.mp (I1.stkSub _ z) with e | e
    · have h1 := I1.lt
      rw [← e] at h1
      exact Nat.lt_irrefl _ h1
    · exact I1.nofs (Nat.le_refl _) e
  refine lam_tail I2 T.tb T.code S.rel T.mem T.only (L.has I2.ok) fun f c' doc pm ctv H2 s' I3 E1 R1 hf hfn hfr hc nc kp => ?_
  obtain ⟨ot', nt'⟩ := kp _ _ ot nt
  refine h f c' _ H2 s' I3 E1 R1 hc nc (act_of I3 (S.to E1 R1) L gk hf hfn hfr ?_ fun A outer s H E o => hbody A outer s H E f c' o)
  intro s3 H3 γ1 us vs ds env1 env' un r rv er hl eb
  unfold bdD at eb
  split at eb
  · cases eb
    unfold VRs at rv
    subst rv
    cases r
    obtain ⟨kq, k1, k2⟩ := hb (X.env.qual ++ "<lambda>") (cloFrom X.env.cells scope.names []) s1.heap.objs.size doc pm (.ref c') ctv u
    have ot3 : s3.heap.get? s1.heap.objs.size = some (PySem.W.kdv_tup [u]) := un.keep _ _ ot' nt' nofr (by simp)
    refine ⟨[(p, u)], σ.set j (some (.int i0)), BindsTo.of_defaults rfl ot3 rfl k1 k2, (fun y hy => ?_), by simp, fun i y v' e1 e2 e3 => set_vis L hN hj I3.len r1 e1 e2 e3, er.set hl (by unfold VR; rfl), by simp [hl]⟩
    simp at hy
    subst hy
    exact L.par _ (by simp)
  · cases eb
end
end F3
namespace F3
open PySem PySem.Spec
open PyProof.Rows L2
/-! ### a lambda handed to a def -/
def sCallL (m : (List D → AH → Res D) → List D → AH → Res D) (lam : Ev → List D → AH → Res D) (fa : Ev → AH → Res (List D)) : Ev → AH → Res D := fun env A => (fa env A).bind fun ds A1 => m (lam env) ds A1
section
variable {X : Cx} {G : Gc} {W : WX} {k j kk : Nat}
theorem run_fl {pins : List (Addr × Obj)} {σ : L2.St} {H : Hp} {s : Shared} {Q : VK} {g f c : Addr} {q : Str} {us : List Value} {vs : List V} {ds : List D} {γ : Gh} {Ah : AH} {m : (List D → AH → Res D) → List D → AH → Res D} {φ : List D → AH → Res D} (o : XO X G W k) (F : FnL X.prog X.w X.K X.mg X.base G j g m) (hj : kk + j ≤ k)
    (I : Inv X pins σ H s) (r : Vals vs us) (R : Rel G γ Ah H) (rv : VRs G γ H ds vs) (hc : H c = some (LamX.CodeO c q)) (nc : γ.o c = none) (act : ActF X.prog X.w X.K X.mg X.base G kk X.stack s ⟨f, c, q, γ, H⟩ φ)
    (h : Post G γ H (m φ ds Ah) (fun γ' _ H' d => ∀ v, VR G γ' H' d v → Q v H') (fun c a H' => W c a σ H')) : wpAny (model X.prog X.w) X.A (call (.ref g) (us ++ [.ref f])) (EP X pins σ Q) X.xe s := by
  refine wpAny_call (codeAny_mono (F kk X.A X.stack s H us vs ds γ Ah Q (WE W σ) f c q φ (o.room.mono hj) o.gd I.env0 r R rv hc nc act h) fun z s' hq => ?_)
  cases z with
  | error e => exact passAt o.tk σ _ _ _ _ _ I hq
  | ok fl =>
    cases fl with
    | ret u => exact I.after hq
    | _ => exact False.elim hq
theorem je_callL0 (o : XO X G W k) {g : Addr} {x : Str} {p pos : Pos} {e : Expr} {m : (List D → AH → Res D) → List D → AH → Res D} {lam : Ev → List D → AH → Res D} (F : FnL X.prog X.w X.K X.mg X.base G j g m) (hj : kk + j ≤ k) (hg : Gl X x) (hm : X.mg x = some (.ref g)) (hk : PySem.W.keepIn X.K (.ref g) = true)
    (hl : LamE X G kk e lam) (hdb : (x == ("__debug__" : Str)) = false) (he : starEach [e] X.env = (false, eval e X.env) :: starEach [] X.env := by rfl) : JE X G W (.Call (.Name x p) [e] [] pos) (sCallL m lam sNil) := by
  refine ⟨⟨fun pins s σ H Q I h => ?_⟩⟩
  obtain ⟨γ, A, env, S, h⟩ := h
  refine wpAny_Call_Name_kw (ld_glob I hg hm ?_ hdb)
  refine PySem.W.callWith_K (h₀ := X.base) I.ok.mod.kin hk ?_ he (by rfl)
  rw [he]
  show wpAny _ _ (spliced ((false, eval e X.env) :: backTo pos (starEach [] X.env))) _ _ s
  refine Calls.spliced_cons (hl pins σ H s γ A env _ I S fun f c' q H1 s' I1 E1 R1 hc nc act => ?_)
  refine Calls.spliced_nil ⟨I1.kIn, ?_⟩
  exact run_fl (us := []) o F hj I1 .nil R1 VRs.nil hc nc act (Post.ext E1 h)
theorem je_callL1 (o : XO X G W k) {g : Addr} {x : Str} {p pos : Pos} {e1 e : Expr} {f1 : Ev → AH → Res D} {m : (List D → AH → Res D) → List D → AH → Res D} {lam : Ev → List D → AH → Res D} (F : FnL X.prog X.w X.K X.mg X.base G j g m) (hj : kk + j ≤ k) (hg : Gl X x) (hm : X.mg x = some (.ref g)) (hk : PySem.W.keepIn X.K (.ref g) = true)
    (ha : JE X G W e1 f1) (hl : LamE X G kk e lam) (hdb : (x == ("__debug__" : Str)) = false) (he : starEach [e1, e] X.env = (false, eval e1 X.env) :: (false, eval e X.env) :: starEach [] X.env := by rfl) (he2 : starEach [e] X.env = (false, eval e X.env) :: starEach [] X.env := by rfl) :
    JE X G W (.Call (.Name x p) [e1, e] [] pos) (sCallL m lam (sCons f1 sNil)) := by
  refine ⟨⟨fun pins s σ H Q I h => ?_⟩⟩
  obtain ⟨γ, A, env, S, h⟩ := h
  refine wpAny_Call_Name_kw (ld_glob I hg hm ?_ hdb)
  refine PySem.W.callWith_K (h₀ := X.base) I.ok.mod.kin hk ?_ (by rw [he, he2]) (by rw [he2]; rfl)
  rw [he]
  show wpAny _ _ (spliced ((false, eval e1 X.env) :: (false, eval e X.env) :: backTo pos (starEach [] X.env))) _ _ s
  unfold sCallL sCons sNil at h
  refine Calls.spliced_cons (thn (ha.run.run pins s σ H (fun v H1 => ∃ γ1 A1 d, Ext γ H γ1 H1 ∧ Rel G γ1 A1 H1 ∧ VR G γ1 H1 d v ∧ Post G γ1 H1 (m (lam env) [d] A1) (fun γ' _ H' d => ∀ v, VR G γ' H' d v → Q v H') (fun c a H' => W c a σ H')) I ⟨γ, A, env, S, ?_⟩) fun u s1 ⟨v, H1, I1, r1, γ1, A1, d, E1, R1, rd, h1⟩ => ?_)
  · cases q : f1 env A with
    | ok d A1 =>
      rw [q] at h
      exact fun γ1 H1 E1 R1 v rd => ⟨γ1, A1, d, E1, R1, rd, Post.ext E1 h⟩
    | ex x1 A1 => rw [q] at h; exact h
    | stuck => rw [q] at h; exact h
  · refine Calls.spliced_cons (hl pins σ H1 s1 γ1 A1 env _ I1 (S.to E1 R1) fun f c' q H2 s' I2 E2 R2 hc nc act => ?_)
    refine Calls.spliced_nil ⟨I2.kIn, ?_⟩
    exact run_fl (us := [u]) (vs := [v]) o F hj I2 (.cons r1 .nil) R2 (VRs.cons (VR.ext E2 _ _ rd) VRs.nil) hc nc act (Post.ext E2 h1)
end
end F3
namespace F3
open PySem PySem.Spec
open PyProof.Rows L2
/-! ### the law's own end, with tables of code objects -/
section
variable {P : Program} {w : World} {K : PySem.W.Frag} {mg mb : Str → Option Value} {k : Nat} {fa a : Addr} {st : Shared} {vals : List Value} {ns : List Int} {cs : List (Addr × Addr)}
def tab0 : Obj := { cls := .none, data := .fields #[] }
/-- the tables at the start -/
structure Tabs0 (K : PySem.W.Frag) (mg : Str → Option Value) (h : Heap) (cs : List (Addr × Addr)) : Prop where
  tab : ∀ p ∈ cs, h.get? p.2 = some tab0
  out : ∀ p ∈ cs, K.lookup p.2 = none
  code : ∀ p ∈ cs, PySem.W.CodeHd h p.1 p.2
  bm : ∃ (bm : Addr) (ob : Obj), mg "__builtins__" = some (.ref bm) ∧ bm ≠ builtinsNs ∧ h.get? bm = some ob ∧ ob.cls = .type "module" ∧ ob.dict = some builtinsNs ∧ ob.data = .plain
theorem rel0T {G : Gc} {H : Hp} (hT : ∀ p ∈ G.T, H p.1 = some (.tbl #[])) : Rel G Gh0 [] H := by
  refine ⟨rfl, fun i o e => by simp at e, fun b x e => ?_, fun q hq => ⟨rfl, #[], hT q hq, True.intro, fun pos cv hc => ?_⟩, fun _ _ _ => rfl⟩
  · cases e
  · have z : codeAmong pos [] = some cv := hc
    simp [codeAmong] at z
/-- the heap at the start, told: the tables, perhaps the script -/
def startH (cs : List (Addr × Addr)) (a : Addr) (o : Option HO) : Hp := fun b => if b = a then o else if (cs.map (·.2)).contains b then some (.tbl #[]) else none
theorem begin_T {G : Gc} {m : List D → AH → Res D} (B : Begin K mg mb st a vals ns) (TT : Tabs0 K mg st.heap cs) (hr : Room k callerA) (hGT : ∀ p ∈ G.T, p.1 ∈ cs.map (·.2)) (hK : G.K = K)
    (F : ∀ base : Heap, K.In base → base.Ns mainGlobals mg → (∀ p ∈ cs, LamX.TabB base mg p.1 p.2) → FnG P w K mg base G k fa m) (hm : ∃ A, m [.scr (ns.map .int)] [] = .ok (.bl true) A)
    (oa : Option HO) (ho : oa = none ∨ ∃ ob : Obj, ob = { cls := .type "list", data := .seq vals.toArray } ∧ oa = some (.frz ob (.lst (ns.map V.int)))) (hS : SqL K (startH cs a oa) a (ns.map V.int)) (hL : oa ≠ none → K.lookup a = none) :
    codeAny (model P w) callerA (.call (.ref fa) ⟨[.ref a], []⟩) (fun r s' => r = .ok (.ret (.bool true)) ∧ OldK st.heap s'.heap ∧ s'.os = st.os ∧ AllBare s'.gens) st := by
  have memP : ∀ {b : Addr}, (cs.map (·.2)).contains b = true → ∃ p ∈ cs, p.2 = b := fun {b} z => by
    rw [List.contains_iff_mem] at z
    obtain ⟨p, hp, e⟩ := List.mem_map.mp z
    exact ⟨p, hp, e⟩
  have tabAt : ∀ {b : Addr}, (cs.map (·.2)).contains b = true → st.heap.get? b = some tab0 := fun {b} z => by
    obtain ⟨p, hp, rfl⟩ := memP z
    exact TT.tab p hp
  have aN : (cs.map (·.2)).contains a = false := by
    cases z : (cs.map (·.2)).contains a with
    | false => rfl
    | true =>
      have q := (tabAt z).symm.trans B.at_
      cases q
  -- the told heap, place by place
  have atA : startH cs a oa a = oa := if_pos rfl
  have atT : ∀ {b : Addr}, (cs.map (·.2)).contains b = true → startH cs a oa b = some (.tbl #[]) := fun {b} z => by
    unfold startH
    rw [if_neg (fun e => by rw [e, aN] at z; cases z), if_pos z]
  have atO : ∀ {b : Addr}, b ≠ a → (cs.map (·.2)).contains b = false → startH cs a oa b = none := fun {b} h z => by
    unfold startH
    rw [if_neg h, z]; rfl
  have told : ∀ {b : Addr}, startH cs a oa b ≠ none → (b = a ∧ oa ≠ none) ∨ (cs.map (·.2)).contains b = true := fun {b} z => by
    by_cases e : b = a
    · subst e; exact .inl ⟨rfl, by rw [← atA]; exact z⟩
    · cases q : (cs.map (·.2)).contains b with
      | true => exact .inr rfl
      | false => exact (z (atO e q)).elim
  have rv := vals_ints B.nums
  have hok : HOk P w (startH cs a oa) st.heap := fun b u z => by
    by_cases e : b = a
    · subst e
      rw [atA] at z
      rcases ho with h0 | ⟨ob, h1, h2⟩
      · rw [h0] at z; cases z
      · rw [h2] at z
        cases z
        subst h1
        exact ⟨B.at_, by rw [List.length_map]; exact B.len, vals, _, rv, B.at_⟩
    · cases q : (cs.map (·.2)).contains b with
      | true => rw [atT q] at z; cases z; exact tabAt q
      | false => rw [atO e q] at z; cases z
  -- all else lies in the ground
  have plainObj : ∀ {b : Addr} {o : Obj}, st.heap.get? b = some o → (∀ vs n, o.data ≠ .seq vs n) → o.data ≠ .fields #[] → startH cs a oa b = none := fun {b o} z z1 z2 => by
    by_cases e : b = a
    · subst e
      have oe := B.at_.symm.trans z
      cases oe
      exact (z1 _ _ rfl).elim
    · cases q : (cs.map (·.2)).contains b with
      | true =>
        have oe := (tabAt q).symm.trans z
        cases oe
        exact (z2 rfl).elim
      | false => exact atO e q
  have low : ∀ {b : Addr} {o : Obj}, st.heap.get? b = some o → startH cs a oa b = none → (hidT st.heap (startH cs a oa)).get? b = some o := fun z z' => hidT_get z z'
  have lowNs : ∀ {b : Addr} {mm : Str → Option Value}, st.heap.Ns b mm → (hidT st.heap (startH cs a oa)).Ns b mm := fun {b mm} z => by
    obtain ⟨o, es, ep, z1, z2, z3⟩ := z
    exact ⟨o, es, ep, low z1 (plainObj z1 (fun vs n y => by rw [z2] at y; cases y) (fun y => by rw [z2] at y; cases y)), z2, z3⟩
  have lowK : K.In (hidT st.heap (startH cs a oa)) := fun b o z => by
    refine low (B.kin b o z) ?_
    cases q : startH cs a oa b with
    | none => rfl
    | some u =>
      exfalso
      rcases told (b := b) (by rw [q]; exact fun z => nomatch z) with ⟨e1, e2⟩ | e
      · subst e1
        rw [hL e2] at z; cases z
      · obtain ⟨p, hp, e2⟩ := memP e
        have := TT.out p hp
        rw [e2, z] at this; cases this
  obtain ⟨mc, l1, l2⟩ := B.lim
  have md : Mod K mg (hidT st.heap (startH cs a oa)) := ⟨lowK, lowNs B.glo, ⟨mb, lowNs B.bl, B.bb⟩, ⟨mc, lowNs l1, l2⟩⟩
  have TB : ∀ p ∈ cs, LamX.TabB (hidT st.heap (startH cs a oa)) mg p.1 p.2 := fun p hp => by
    have tp := TT.tab p hp
    refine ⟨?_, ?_, fun z => ?_⟩
    · obtain ⟨o, us, file, tf, flags, tg, inF, text, tt, e1, r1, r2, r3, r4⟩ := TT.code p hp
      refine ⟨o, us, file, tf, flags, tg, inF, text, tt, low e1 (plainObj e1 (fun vs n z => by rw [r2] at z; cases z) fun z => ?_), r1, r2, r3, r4⟩
      rw [r2] at z; cases z; simp at r3
    · obtain ⟨bm, ob, b1, b2, b3, b4, b5, b6⟩ := TT.bm
      have n1 : bm ≠ mainGlobals := fun q => by
        obtain ⟨o, es, ep, e, hd, _⟩ := B.glo
        rw [q, e] at b3; cases b3; rw [hd] at b6; cases b6
      have n2 : bm ≠ p.2 := fun q => by
        rw [q, tp] at b3; cases b3; cases b6
      exact ⟨bm, ob, b1, b2, n1, n2, low b3 (plainObj b3 (fun vs n z => by rw [b6] at z; cases z) fun z => by rw [b6] at z; cases z), b4, b5, b6⟩
    · obtain ⟨o, es, ep, e, hd, _⟩ := B.glo
      rw [z, tp] at e; cases e; cases hd
  have start : Env0 P w K mg (hidT st.heap (startH cs a oa)) callerA [] st (startH cs a oa) := ⟨rfl, md, fun b o z => of_hidT z, Nat.le_of_eq (hidT_size _ _), trivial, fun b hb => (List.not_mem_nil (show b ∈ ([] : List Addr) from hb)).elim, hok, .of_eq B.gens⟩
  have script : VR G Gh0 (startH cs a oa) (.scr (ns.map .int)) (.ref a) := by
    unfold VR
    refine ⟨a, ns.map V.int, rfl, ?_, VRs.ints ns⟩
    rcases hS with hS | hS
    · exact .inl ⟨hS, rfl⟩
    · right; rw [hK]; exact .inr hS
  obtain ⟨A1, hm⟩ := hm
  refine codeAny_mono (F _ lowK (lowNs B.glo) TB callerA [] st (startH cs a oa) [.ref a] [.ref a] [.scr (ns.map .int)] Gh0 [] (fun v _ => v = .bl true) (fun _ _ _ => False) hr rfl start (.cons rfl .nil) (rel0T fun p hp => atT (by rw [List.contains_iff_mem]; exact hGT p hp)) (VRs.cons script VRs.nil) ?_) fun r s' z => ?_
  · rw [hm]
    intro γ' H' e R v rv
    unfold VR at rv
    exact rv
  · match r, z with
    | .error _, z =>
      obtain ⟨_, _, _, _, _, _, _, _, _, _, _, _, no⟩ := z
      exact no.elim
    | .ok .next, z => exact False.elim z
    | .ok .brk, z => exact False.elim z
    | .ok .cont, z => exact False.elim z
    | .ok (.ret u), z =>
      obtain ⟨v, H', os, bare, un, hok', ru, rfl⟩ := z
      obtain rfl : u = Value.bool true := ru
      have stay : ∀ b o, (cs.map (·.2)).contains b = false → st.heap.get? b = some o → s'.heap.get? b = some o := fun b o nb zo => by
        by_cases e : b = a
        · subst e
          rcases ho with h0 | ⟨ob, h1, h2⟩
          · exact un.keep b o zo (by rw [atA]; exact h0) (fun y => (List.not_mem_nil (show b ∈ ([] : List Addr) from y)).elim) (by simp)
          · obtain ⟨y2, _⟩ := hok' b _ (un.frzs b ob _ (by rw [atA]; exact h2))
            have y1 := B.at_
            rw [zo] at y1; cases y1
            rw [h1] at y2
            exact y2
        · exact un.keep b o zo (atO e nb) (fun y => (List.not_mem_nil (show b ∈ ([] : List Addr) from y)).elim) (by simp)
      have grown : ∀ b, (cs.map (·.2)).contains b = true → ∃ more : Array Value, s'.heap.get? b = some { cls := .none, data := .fields more } := fun b hb => by
        obtain ⟨more, z⟩ := un.tbls b #[] (atT hb)
        exact ⟨_, hok' b _ z⟩
      refine ⟨rfl, ⟨fun b o e => ?_, fun b o e => ?_⟩, os, bare⟩
      · cases q : (cs.map (·.2)).contains b with
        | true =>
          obtain ⟨more, hmore⟩ := grown b q
          have e' := (tabAt q).symm.trans e
          cases e'
          obtain ⟨p, hp, ep⟩ := memP q
          refine .inr (.inl ⟨ep ▸ ((TT.code p hp).tab (TT.tab p hp)).isCodeTable, rfl, #[], more, rfl, by rw [Array.empty_append]; exact hmore⟩)
        | false => exact .inl (stay b o q e)
      · cases q : (cs.map (·.2)).contains b with
        | true =>
          obtain ⟨more, hmore⟩ := grown b q
          exact ⟨_, hmore⟩
        | false => exact ⟨o, stay b o q e⟩
theorem begin_allT {G : Gc} {m : List D → AH → Res D} (B : Begin K mg mb st a vals ns) (TT : Tabs0 K mg st.heap cs) (hr : Room k callerA) (hGT : ∀ p ∈ G.T, p.1 ∈ cs.map (·.2)) (hK : G.K = K)
    (F : ∀ base : Heap, K.In base → base.Ns mainGlobals mg → (∀ p ∈ cs, LamX.TabB base mg p.1 p.2) → FnG P w K mg base G k fa m) (hm : ∃ A, m [.scr (ns.map .int)] [] = .ok (.bl true) A) :
    codeAny (model P w) callerA (.call (.ref fa) ⟨[.ref a], []⟩) (fun r s' => r = .ok (.ret (.bool true)) ∧ OldK st.heap s'.heap ∧ s'.os = st.os ∧ AllBare s'.gens) st := by
  have rv := vals_ints B.nums
  have lv := B.nums.length
  rcases q : K.lookup a with _ | o
  · exact begin_T B TT hr hGT hK F hm (some (.frz _ (.lst (ns.map V.int)))) (.inr ⟨_, rfl, rfl⟩) (.inl (.inr ⟨_, if_pos rfl⟩)) fun _ => q
  · have z := (B.kin a o q).symm.trans B.at_
    cases z
    refine begin_T B TT hr hGT hK F hm none (.inl rfl) (.inr ⟨_, vals.toArray, _, q, rfl, rfl, rfl, ?_, by simpa using rv⟩) fun z => (z rfl).elim
    rw [List.size_toArray, lv]; exact B.len
end
/-- a law, from what its def reckons -/
theorem walkT {l : PySem.W.OpenLaw} {n k : Nat} {q : Program} {loose : List Str} {XP : (Str → Option Value) → Heap → Prop} {YP : World → Heap → Prop} {d : DefRec} {K : Params → PySem.W.Frag}
    (hn : l.most = some n) (hn2 : n ≤ sizeLine) (hdf : d.params.defaults = []) (hr : Room k callerA) (hY : ∀ (w : World) (h : Heap), YP w h → (K w.params).In h)
    (F : ∀ (w : World) (mg : Str → Option Value) (fa : Addr) (h : Heap), YP w h → (K w.params).In h → h.Ns mainGlobals mg → mg d.name = some (.ref fa) →
      ∃ (G : Gc) (m : List D → AH → Res D) (cs : List (Addr × Addr)), (∀ p ∈ cs, h.get? p.2 = some tab0) ∧ (∀ p ∈ cs, (K w.params).lookup p.2 = none) ∧ (∀ p ∈ cs, PySem.W.CodeHd h p.1 p.2) ∧ (∀ p ∈ G.T, p.1 ∈ cs.map (·.2)) ∧ G.K = K w.params ∧ (∀ ns : List Int, ns.length ≤ n → ∃ A, m [.scr (ns.map .int)] [] = .ok (.bl true) A) ∧
        ∀ base : Heap, (K w.params).In base → base.Ns mainGlobals mg → (∀ p ∈ cs, LamX.TabB base mg p.1 p.2) → FnG l.prog w (K w.params) mg base G k fa m) :
    PySem.W.WalkO q loose XP YP l.row.toRowW d [] (fun f vs => PySem.call f vs) := by
  refine Att.attach_call hn hdf fun w s₀ st mg mb fa o pm cd doc a vals ns GG Y ho hd hcd hmg hobj hints hlen hg => ?_
  have hk := hY w _ Y
  obtain ⟨G, m, cs, c1, c2, c3, hGT, hK, hm, hF⟩ := F w mg fa _ Y hk GG.T.g hmg
  exact begin_allT ⟨hk, GG.T.g, GG.T.b, GG.T.builtins, GG.T.nolimit, hg, hobj, hints, Nat.le_trans hlen hn2⟩ ⟨c1, c2, c3, GG.T.bmain⟩ hr hGT hK hF (hm ns hlen)
end F3
namespace F3
open PySem PySem.Spec
open PyProof.Rows L2
section
variable {X : Cx} {G : Gc} {W : WX} {k : Nat}
/-! ### xs[::-1] -/
def gRev (x : D) (A : AH) : Res D := match asQ A x with
  | some ds => .ok (.lst ds.reverse) A
  | none => .stuck
theorem VRs.rev {γ : Gh} {H : Hp} : ∀ {ds : List D} {vs : List V}, VRs G γ H ds vs → VRs G γ H ds.reverse vs.reverse
  | [], vs, h => by unfold VRs at h; subst h; exact VRs.nil
  | d :: ds, vs, h => by
    unfold VRs at h
    obtain ⟨v, r, rfl, h1, h2⟩ := h
    rw [List.reverse_cons, List.reverse_cons]
    exact (VRs.rev h2).append (VRs.cons h1 VRs.nil)
theorem je_rev (gk : G.K = X.K) {e : Expr} {f : Ev → AH → Res D} {j : Nat} {p1 p2 p3 pos : Pos} (he : JE X G W e f) : JE X G W (.Subscript e (.Slice none none (some (.UnaryOp .USub (.Constant (.int 1) j p1) p2)) p3) pos) (sUn gRev f) := by
  refine ⟨PE.imp (pe_revL he.run) fun σ H Q h => ?_⟩
  obtain ⟨γ, A, env, S, h⟩ := h
  refine ⟨γ, A, env, S, Post.bind h fun x A1 γ1 H1 e1 R1 h1 v r1 => ?_⟩
  unfold gRev at h1
  split at h1
  · rename_i ds q
    obtain ⟨a, vs, rfl, rv, hq⟩ := asQ_at R1 r1 q
    exact ⟨a, vs, rfl, gk ▸ hq, fun p hp => Post.new (ob := .lst vs.reverse) R1 hp h1 _ (VR.newL R1 hp rv.rev)⟩
  · exact h1.elim
/-! ### text * int -/
def mulS (x : Str) (n : Nat) : Str := ⟨((List.replicate n x.cps.toList).flatten).toArray⟩
theorem foldl_app : ∀ (n : Nat) (a z : Array Nat), ((List.replicate n a).foldl (· ++ ·) z).toList = z.toList ++ (List.replicate n a.toList).flatten
  | 0, a, z => by simp
  | n + 1, a, z => by
    rw [List.replicate_succ, List.foldl_cons, foldl_app n a (z ++ a), List.replicate_succ, List.flatten_cons, Array.toList_append, List.append_assoc]
theorem mulS_eq (x : Str) (n : Nat) : Txt.mul x (n : Int) = mulS x n := by
  unfold Txt.mul mulS
  have ext : ∀ {a b : Str}, a.cps.toList = b.cps.toList → a = b := fun {a b} h => by
    cases a; cases b
    congr 1
    exact Array.toList_inj.mp h
  by_cases h0 : (n : Int) < 1
  · rw [if_pos h0]
    have : n = 0 := by omega
    subst this
    exact ext (by simp [Str.empty])
  · rw [if_neg h0]
    split
    · rename_i h1
      rw [Bool.or_eq_true] at h1
      refine ext ?_
      rcases h1 with h1 | h1
      · have : n = 1 := by have := beq_iff_eq.mp h1; omega
        subst this; simp
      · have e : x.cps.toList = [] := by
          have := beq_iff_eq.mp h1
          exact List.eq_nil_of_length_eq_zero this
        rw [e]; simp
    · refine ext ?_
      show ((List.replicate (n : Int).toNat x.cps).foldl (· ++ ·) #[]).toList = _
      rw [foldl_app]
      simp
def gMulS (x y : D) (A : AH) : Res D := match x with
  | .str a => match y with
    | .int n => if 0 ≤ n ∧ n ≤ 16777216 ∧ a.length * n.toNat ≤ 16777216 then .ok (.str (mulS a n.toNat)) A else .stuck
    | _ => .stuck
  | _ => gMul x y A
def rMulStr : R2 := fun x y H Q => ∃ a n, x = .str a ∧ y = .int n ∧ MulOk a n ∧ Q (.str (Txt.mul a n)) H
theorem op_mulStr : OpR X (binaryOp .Mult) rMulStr := by
  intro pins s σ H x y v u Q I rx ry h
  obtain ⟨a, n, rfl, rfl, hok, q⟩ := h
  obtain ⟨t, rfl⟩ := rx
  obtain ⟨t', rfl⟩ := ry
  exact SB.mul hok fun t2 k => ⟨.str (Txt.mul a n), H, I.tok _, ⟨_, rfl⟩, q⟩
theorem mulOk_of {a : Str} {n : Int} (h0 : 0 ≤ n) (h1 : n ≤ 16777216) (h2 : a.length * n.toNat ≤ 16777216) : MulOk a n := by
  refine ⟨by simp; omega, fun hn hb => ?_, fun hn hb => ?_⟩
  · have hn1 : 1 ≤ n := by omega
    have hl : a.length ≤ 16777216 := by
      have : a.length * 1 ≤ a.length * n.toNat := Nat.mul_le_mul_left _ (by omega)
      omega
    have hq : (16777216 : Int) ≤ (2 ^ 63 - 1) / n := by
      rw [Int.le_ediv_iff_mul_le (by omega)]
      have : 16777216 * n ≤ 16777216 * 16777216 := by omega
      omega
    omega
  · unfold Builtin.Str.tooLong
    simp only [decide_eq_false_iff_not, Nat.not_lt]
    exact h2
theorem je_mulS (o : XO X G W k) {a b : Expr} {pos : Pos} {fa fb : Ev → AH → Res D} (ha : JE X G W a fa) (hb : JE X G W b fb) : JE X G W (.BinOp a .Mult b pos) (sBin gMulS fa fb) := by
  refine je_bin (r := fun x y H Q => rMulU X.K x y H Q ∨ rMulStr x y H Q) (OpR.or op_mulU op_mulStr) (fun γ A H d e x y Q Wx R r1 r2 h => ?_) ha hb
  unfold gMulS at h
  split at h
  · rename_i a
    split at h
    · rename_i n
      split at h
      · rename_i hc
        unfold VR at r1 r2
        subst r1; subst r2
        have e : Txt.mul a n = mulS a n.toNat := by
          rw [← mulS_eq, Int.toNat_of_nonneg hc.1]
        exact .inr ⟨a, n, rfl, rfl, mulOk_of hc.1 hc.2.1 hc.2.2, ok_here R (by unfold VR; rw [e]) h⟩
      · exact h.elim
    · exact h.elim
  · exact .inl (ok_mul o.gk γ A H _ _ x y Q Wx R r1 r2 h)
/-! ### list(text) -/
def gListS (ds : List D) (A : AH) : Res D := match ds with
  | [.str x] => if x.length ≤ sizeLine then .ok (.lst (x.cps.toList.map fun c => .str ⟨#[c]⟩)) A else .stuck
  | _ => gList ds A
theorem signs_vals {x : Str} : ∀ (cs : List Nat) (us : List Value) (i : Nat), (∀ j, x.cps[i + j]? = cs[j]?) → us.length = cs.length → (∀ j v, us[j]? = some v → SignAt x (i + j) v) → Vals (cs.map fun c => V.str ⟨#[c]⟩) us
  | [], [], _, _, _, _ => .nil
  | [], _ :: _, _, _, hl, _ => by simp at hl
  | _ :: _, [], _, _, hl, _ => by simp at hl
  | c :: cs, u :: us, i, hc, hl, hs => by
    refine .cons ?_ (signs_vals (x := x) cs us (i + 1) (fun j => ?_) (by simpa using hl) fun j v e => ?_)
    · obtain ⟨c', t, e1, e2⟩ := hs 0 u rfl
      have := hc 0
      rw [e1] at this
      cases this
      exact ⟨t, e2⟩
    · rw [show i + 1 + j = i + (j + 1) by omega, hc (j + 1)]; simp
    · rw [show i + 1 + j = i + (j + 1) by omega]
      exact hs (j + 1) v (by simpa using e)
theorem call_listS (hh : X.A.handled = none) : CallR X (.type "list") (fun xs H Q => ∃ x, xs = [.str x] ∧ x.length ≤ sizeLine ∧ ∀ l, H l = none → Q (.ref l) (upd H l (.lst (x.cps.toList.map fun c => V.str ⟨#[c]⟩)))) := by
  intro pins s σ H xs us Q I r h
  obtain ⟨x, rfl, hz, q⟩ := h
  obtain ⟨u, rfl, rx⟩ := vals1 r
  obtain ⟨t, rfl⟩ := rx
  refine call_list_str hh x t (fun h' tk acc c' kp e it => ?_) hz
  have rv : Vals (x.cps.toList.map fun c => V.str ⟨#[c]⟩) acc.toList := signs_vals (x := x) x.cps.toList acc.toList 0 (fun j => by rw [Nat.zero_add]; simp) (by rw [Array.length_toList, it.1]; simp) fun j v e => by
    rw [Nat.zero_add]
    exact it.2 j v (by simpa using e)
  exact ⟨.ref s.heap.objs.size, _, I.laid (t' := tk) kp (Nat.le_refl _) (show ObjOk X.prog X.w _ h' _ (.lst (x.cps.toList.map fun c => V.str ⟨#[c]⟩)) from ⟨by rw [List.length_map]; exact hz, acc.toList, c', rv, by simpa using e⟩), rfl, q _ (I.hok.fresh (Nat.le_refl _))⟩
theorem VRs.signs {γ : Gh} {H : Hp} : ∀ (cs : List Nat), VRs G γ H (cs.map fun c => D.str ⟨#[c]⟩) (cs.map fun c => V.str ⟨#[c]⟩)
  | [] => VRs.nil
  | c :: cs => VRs.cons (by unfold VR; rfl) (VRs.signs cs)
theorem XO.listS (o : XO X G W k) : CB X G (.type "list") gListS := by
  refine ⟨_, CallR.or (call_listS o.room.hd) call_list_of, fun γ A H ds vs Q Wx R rv h => ?_⟩
  unfold gListS at h
  split at h
  · rename_i x
    obtain ⟨v, rfl, r⟩ := VRs.one rv
    split at h
    · rename_i hz
      unfold VR at r; subst r
      exact .inl ⟨x, rfl, hz, fun p hp => Post.new (ob := .lst _) R hp h _ (VR.newL R hp (VRs.signs _))⟩
    · exact h.elim
  · right
    unfold gList at h
    split at h
    · obtain ⟨v, rfl, r⟩ := VRs.one rv
      split at h
      · rename_i xs q
        obtain ⟨a, ws, rfl, r2, hq⟩ := asL_at R r q
        rw [o.gk] at hq
        exact ⟨a, ws, rfl, hq, fun p hp => Post.new (ob := .lst ws) R hp h _ (VR.newL R hp r2)⟩
      · exact h.elim
    · exact h.elim
end
end F3
namespace F3
open PySem PySem.Spec
open PyProof.Rows L2
/-! ### short words for the walks -/
def mIn (l : List Nat) (n : Nat) : Bool := l.contains n
theorem exm_by {K : PySem.W.Frag} {R S : Addr} {b : Bool} (h1 : PySem.W.subIn K (.ref S) (.type "BaseException") = some true) (h2 : PySem.W.isClsIn K S = true) (h3 : PySem.W.typeIn K (.ref S) = some (.type "type")) (h4 : PySem.W.subIn K (.ref R) (.ref S) = some b) : PySem.W.exmOne K (.ref R) (.ref S) = some b := by
  have hc : (PySem.W.clsIn K S).isSome = true := h2
  unfold PySem.W.exmOne PySem.W.kitCls
  dsimp only
  rw [h1, h3, hc]
  simpa using h4
theorem xcp_mk {G : Gc} {K : PySem.W.Frag} {c : Nat} {C : Addr} {B newId initId : String} {bmB : List Value} (at_ : G.xcl c = some C) (fb : BaseOf B newId initId bmB) (ex : PySem.W.excIn K C bmB newId = true) (kC : PySem.W.keepIn K (.ref C) = true) (exC : PySem.W.subIn K (.ref C) (.type "BaseException") = some true) (tyC : PySem.W.typeIn K (.ref C) = some (.type "type")) : XcP G K c C B newId initId bmB := ⟨at_, fb.fb, ex, kC, exC, tyC⟩
theorem SC.wl {G : Gc} {K : PySem.W.Frag} {c : Nat} {C : Addr} {l : Option Lm} (h : SC G K c C) : SC (G.wl l) K c C := ⟨h.cls, h.sc⟩
theorem IsO.wl {G : Gc} {K : PySem.W.Frag} {c : Nat} {C : Addr} {l : Option Lm} (h : IsO G K c C) : IsO (G.wl l) K c C := ⟨h.1, h.2⟩
theorem IsB.wl {G : Gc} {K : PySem.W.Frag} {T : String} {l : Option Lm} (h : IsB G K T) : IsB (G.wl l) K T := ⟨h.1, h.2⟩
theorem XcP.wl {G : Gc} {K : PySem.W.Frag} {c : Nat} {C : Addr} {B newId initId : String} {bmB : List Value} {l : Option Lm} (h : XcP G K c C B newId initId bmB) : XcP (G.wl l) K c C B newId initId bmB := ⟨h.at_, h.fb, h.ex, h.kC, h.exC, h.tyC⟩
theorem Tks.wl {G : Gc} {K : PySem.W.Frag} {c : Value} {m : Nat → Bool} {l : Option Lm} (h : Tks G K c m) : Tks (G.wl l) K c m := h
theorem lamQ {X : Cx} {G : Gc} {c P : Addr} {q : Str} (tb : LamX.TabB X.base X.mg c P) (mem : (P, q) ∈ G.T) (only : ∀ p ∈ G.T, p.1 = P → p.2 = q) (hq : X.env.qual ++ "<lambda>" = q := by rfl) (hc : X.env.code = .ref c := by rfl) : LamQ X G c P := by
  subst hq
  exact ⟨tb, hc, mem, only⟩
theorem only_by {T : List (Addr × Str)} {t : Addr} {q : Str} (h : (T.all fun p => p.1 != t || p.2 == q) = true) : ∀ p ∈ T, p.1 = t → p.2 = q := fun p hp e => by
  have := List.all_eq_true.mp h p hp
  simpa [e] using this
section
variable {X : Cx} {A : Around} {outer : List Env} {s : Shared} {H : Hp} {E : XK} {scope : Scope} {f c' : Addr} {x : Str}
theorem vl (h : scope.names.lookup x = some .local) : Vis (LamX.lamCx X A outer s H E scope f c').env.scope x := .inl h
theorem vlf (h : scope.names.lookup x = some .free) : Vis (LamX.lamCx X A outer s H E scope f c').env.scope x := .inr (.inr h)
theorem gl (h : scope.names.lookup x = some .globalImplicit) : Gl (LamX.lamCx X A outer s H E scope f c') x := h
end
section
variable {CX : CXT} {P : Program} {w : World} {K : PySem.W.Frag} {mg : Str → Option Value} {base : Heap} {N : List Str} {qual : Str} {sc : Scope} {f : Addr} {cd : Value} {A : Around} {outer : List Env} {s : Shared} {H : Hp} {E : XK} {x : Str} {pn : List (Addr × Obj)} {xe : Value → Shared → Prop} {a : Addr}
theorem vft (h : sc.names.lookup x = some .local) : Vis ((cxOf CX P w K mg base N qual sc f cd A outer s H E).tr pn xe).env.scope x := .inl h
theorem vfct (h : sc.names.lookup x = some .cell) : Vis ((cxOf CX P w K mg base N qual sc f cd A outer s H E).tr pn xe).env.scope x := .inr (.inl h)
theorem gft (h : sc.names.lookup x = some .globalImplicit) : Gl ((cxOf CX P w K mg base N qual sc f cd A outer s H E).tr pn xe) x := h
theorem lft' (h : sc.names.lookup x = some .local) : Loc ((cxOf CX P w K mg base N qual sc f cd A outer s H E).tr pn xe).env.scope x := .inl h
theorem lfct (h : sc.names.lookup x = some .cell) : Loc ((cxOf CX P w K mg base N qual sc f cd A outer s H E).tr pn xe).env.scope x := .inr h
theorem fft : ((cxOf CX P w K mg base N qual sc f cd A outer s H E).tr pn xe).fn x = true ∨ ((cxOf CX P w K mg base N qual sc f cd A outer s H E).tr pn xe).env.scope.names.lookup x = some .local := .inl rfl
theorem qft (h : sc.names.lookup x = some .local) : ((cxOf CX P w K mg base N qual sc f cd A outer s H E).tr pn xe).env.scope.names.lookup x = some .local := h
theorem bft {scope : Scope} {own : List (Str × Nat)} (h : blkC N sc scope own = true) : BlkOk ((cxOf CX P w K mg base N qual sc f cd A outer s H E).tr pn xe).N ((cxOf CX P w K mg base N qual sc f cd A outer s H E).tr pn xe).env.scope scope own := blkOk_by h
theorem vfs (h : sc.names.lookup x = some .local) : Vis ((cxOf CX P w K mg base N qual sc f cd A outer s H E).suite a pn).env.scope x := .inl h
theorem vfcs (h : sc.names.lookup x = some .cell) : Vis ((cxOf CX P w K mg base N qual sc f cd A outer s H E).suite a pn).env.scope x := .inr (.inl h)
theorem gfs (h : sc.names.lookup x = some .globalImplicit) : Gl ((cxOf CX P w K mg base N qual sc f cd A outer s H E).suite a pn) x := h
theorem ltf {ps : List Str} {scope : Scope} (h : lamTB sc scope ps = true) : LamT (cxOf CX P w K mg base N qual sc f cd A outer s H E).env.scope scope ps := lamT_by h
end
end F3
namespace F3
open PySem PySem.Spec
open PyProof.Rows L2
section
variable {X : Cx} {G : Gc} {W : WX} {k : Nat}
/-- y = [..], y a local name: the store lies within the block -/
theorem js_setLc (o : XO X G W k) {i : Nat} {y : Str} {py : Pos} {elt tg iter : Expr} {ifs : List Expr} {scope : Scope} {own : List (Str × Nat)} {pos spos : Pos} {js : List Nat} {fi : Ev → AH → Res (List D)} {st : Ev → D → Option Ev} {t : Ev → AH → Res Bool} {f : Ev → AH → Res D}
    (hN : X.N.Nodup) (hy : X.N[i]? = some y) (hyl : X.env.scope.names.lookup y = some .local) (hsw : swapsWith (.ListComp elt [⟨tg, iter, ifs, 0⟩] scope pos) (some (.Name y py)) spos.line X.env = pure true) (hi : JI X G W tg iter fi) (ok : BlkOk X.N X.env.scope scope own)
    (hg : ∀ (s : Shared) (H : Hp) (C : Addr) (cl : List (Str × Addr)) (fp : List Addr), JG (X.blk s H scope (compEnvC scope cl C X.env) fp) G tg js st)
    (ht : ∀ (s : Shared) (H : Hp) (C : Addr) (cl : List (Str × Addr)) (fp : List Addr), JTs (X.blk s H scope (compEnvC scope cl C X.env) fp) G W0 ifs t)
    (he : ∀ (s : Shared) (H : Hp) (C : Addr) (cl : List (Str × Addr)) (fp : List Addr), JE (X.blk s H scope (compEnvC scope cl C X.env) fp) G W0 elt f)
    (hj : (js.all fun j => (own.map (·.2)).contains j) = true)
    (hfs : ∀ x, foldedSetIterable iter X.env x = pure x := by intro _; rfl) :
    JS X G W (.Assign [.Name y py] (.ListComp elt [⟨tg, iter, ifs, 0⟩] scope pos) spos) (bSet (gNm i) (sLC (own.map (·.2)) fi st t f)) := by
  refine ⟨PS.imp (ps_setLc o.calm hN hy hyl hsw hi.run ok (fun s H C cl fp => (hg s H C cl fp).run) (fun s H C cl fp => (ht s H C cl fp).run) (fun s H C cl fp => (he s H C cl fp).run) hfs) fun E σ H h => ?_⟩
  obtain ⟨γ, A, env, S, h⟩ := h
  have hj' : ∀ j ∈ js, j ∈ own.map (·.2) := fun j q => by simpa using List.all_eq_true.mp hj j q
  have h0 : Post G γ H (sLC (own.map (·.2)) fi st t f env A) (fun γ' _ H' d => ∀ v, VR G γ' H' d v → gName i v σ H' E.nx) (fun c a H' => W c a σ H') := PostS.lft S h fun d A1 γ1 H1 e1 R1 h1 v r1 => by
    have S1 := S.to e1 R1
    exact h1 γ1 H1 _ (Ext.refl _ _) ⟨R1, by simp [S.len], S1.er.set S.len r1⟩
  refine ⟨γ, A, env, S, ?_⟩
  have h' : Post G γ H ((fi env A).bind fun ds A1 => (if ds.length ≤ sizeLine then compL st t f ds (wip (own.map (·.2)) env) A1 else .stuck).bind fun ds A1 => .ok (D.lst ds) A1) (fun γ' _ H' d => ∀ v, VR G γ' H' d v → gName i v σ H' E.nx) (fun c a H' => W c a σ H') := by
    unfold sLC sComp at h0
    cases q : fi env A with
    | ok ds A1 => rw [q] at h0; exact h0
    | ex x A1 => rw [q] at h0; exact h0
    | stuck => rw [q] at h0; exact h0
  refine Post.bind h' fun ds A1 γ1 H1 e1 R1 h1 J hJ => ?_
  by_cases hz : ds.length ≤ sizeLine
  · rw [if_pos hz] at h1
    refine comp_core (js := js) (st := st) (t := t) (f := f) (Q := fun v H' => gName i v σ H' E.nx) (Wx := fun c a H' => W c a σ H') (fun v σ H Q h => h) (fun σ H Q h => h) (fun σ H Q h => h) hj' (S.to e1 R1) hJ hz ?_
    cases q : compL st t f ds (wip (own.map (·.2)) env) A1 with
    | ok xs A3 => rw [q] at h1; exact h1
    | ex x A3 => rw [q] at h1; exact h1
    | stuck => rw [q] at h1; exact h1
  · rw [if_neg hz] at h1; exact h1.elim
theorem lamT_blk {s : Shared} {H : Hp} {scope inner : Scope} {cl : List (Str × Addr)} {C : Addr} {fp : List Addr} {ps : List Str} (h : lamTB scope inner ps = true) : LamT (X.blk s H scope (compEnvC scope cl C X.env) fp).env.scope inner ps := by
  obtain ⟨h1, h2, h3, h4, h5, h6, h7⟩ := lamT_by h
  refine ⟨h1, h2, h3, h4, h5, h6, fun y hy e => ?_⟩
  rcases h7 y hy e with z | z
  · exact .inl (rel_other (by decide) z)
  · exact rel_free z
end
end F3
namespace F3
open PySem PySem.Spec
open PyProof.Rows L2
/-! ### methods of built-in types -/
def tyM (T : String) (A : AH) (d : D) : Bool := match d with
  | .str _ => T == "str"
  | .int _ => T == "int"
  | .dct _ _ _ => false
  | .ref i => match A[i]? with
    | some (.dct _ _ _) => T == "dict"
    | some (.lst _) => T == "list"
    | _ => false
  | d => (asQ A d).isSome && T == "list"
theorem tyM_ok {G : Gc} {γ : Gh} {A : AH} {H : Hp} {d : D} {v : V} {T : String} (R : Rel G γ A H) (h : VR G γ H d v) (e : tyM T A d = true) : tyV G.K T v H := by
  have lst : ∀ ds, asQ A d = some ds → T = "list" → tyV G.K T v H := fun ds q et => by
    obtain ⟨a, vs, rfl, _, hq⟩ := asQ_at R h q
    exact .inl ⟨et, vs, hq⟩
  cases d with
  | str x => unfold VR at h; subst h; exact beq_iff_eq.mp e
  | int x => unfold VR at h; subst h; exact beq_iff_eq.mp e
  | dct _ _ _ => cases e
  | ref i =>
    unfold tyM at e
    dsimp only at e
    split at e
    · rename_i q
      unfold VR at h
      obtain ⟨a, rfl, h0⟩ := h
      obtain ⟨a', k1, k2, u, vs, h1, r, _⟩ := R.at_ i _ q
      rw [h0] at k1; cases k1
      have et : T = "dict" := beq_iff_eq.mp e
      rcases r with ⟨_, kvs, rfl, _⟩ | ⟨_, kvs, rfl, _⟩
      · exact .inr (.inr (.inl ⟨et, .inl ⟨kvs, h1⟩⟩))
      · exact .inr (.inr (.inl ⟨et, .inr ⟨kvs, h1⟩⟩))
    · rename_i ds q
      exact lst ds (by unfold asQ; simp only [q]) (beq_iff_eq.mp e)
    · cases e
  | lst ds =>
    unfold tyM at e
    dsimp only at e
    rw [Bool.and_eq_true] at e
    exact lst ds rfl (beq_iff_eq.mp e.2)
  | scr ds =>
    unfold tyM at e
    dsimp only at e
    rw [Bool.and_eq_true] at e
    exact lst ds rfl (beq_iff_eq.mp e.2)
  | non => cases e
  | bl _ => cases e
  | tup _ => cases e
  | ins _ _ => cases e
  | fn => cases e
def OkM (G : Gc) (r : V → List V → Hp → VK → Prop) (g : D → List D → AH → Res D) : Prop := ∀ (γ : Gh) (A : AH) (H : Hp) (d : D) (v : V) (ds : List D) (vs : List V) (Q : VK) (Wx : WXe), Rel G γ A H → VR G γ H d v → VRs G γ H ds vs →
  Post G γ H (g d ds A) (fun γ' _ H' d => ∀ v, VR G γ' H' d v → Q v H') Wx → r v vs H Q
/-- the method id of the type T does g -/
structure MT (X : Cx) (G : Gc) (T : String) (name : Str) (id : String) (g : D → List D → AH → Res D) : Prop where
  pa : PlainAttrs T
  slot : Slot T name id
  ty : typeOf (.builtin id) = pure (.type "method_descriptor")
  ex : ∃ r, MtR X id r ∧ OkM G r g
def sMeth (T : String) (g : D → List D → AH → Res D) (fo : Ev → AH → Res D) (f : Ev → AH → Res (List D)) : Ev → AH → Res D := fun env A => (fo env A).bind fun x A1 => if tyM T A1 x then (f env A1).bind fun ds A2 => g x ds A2 else .stuck
section
variable {X : Cx} {G : Gc} {W : WX} {k : Nat} {T : String} {name : Str} {id : String} {g : D → List D → AH → Res D}
theorem je_meth (gk : G.K = X.K) (M : MT X G T name id g) {o e : Expr} {es : List Expr} {apos cpos : Pos} {fo : Ev → AH → Res D} {f : Ev → AH → Res (List D)} (ho : JE X G W o fo) (ha : JA X G W (e :: es) f)
    (hbase : attributeBase o name X.env (eval o X.env) = eval o X.env := by rfl)
    (hfew : ((backTo cpos (starEach (e :: es) X.env)).all (fun x => !x.1) && (backToKw cpos (keywordEach [] X.env)).all (fun x => x.1.isSome)
      && decide ((e :: es).length + ([] : List Keyword).length + (if ([] : List Keyword).isEmpty then 0 else 1) < 30)) = true := by rfl)
    (hline : (apos.endLine == cpos.line) = true := by rfl) (hs : starEach (e :: es) X.env = (false, eval e X.env) :: starEach es X.env := by rfl) (hplain : (backTo cpos (starEach es X.env)).any (·.1) = false := by rfl) :
    JE X G W (.Call (.Attribute o name apos) (e :: es) [] cpos) (sMeth T g fo f) := by
  obtain ⟨r, m1, m2⟩ := M.ex
  refine ⟨PE.imp (pe_bm M.pa M.slot M.ty m1 ho.run ha.run hbase hfew hline hs hplain) fun σ H Q h => ?_⟩
  obtain ⟨γ, A, env, S, h⟩ := h
  refine ⟨γ, A, env, S, Post.bind h fun x A1 γ1 H1 e1 R1 h1 v r1 => ?_⟩
  split at h1
  · rename_i ht
    refine ⟨gk ▸ tyM_ok R1 r1 ht, γ1, A1, env, S.to e1 R1, Post.bind h1 fun ds A2 γ2 H2 e2 R2 h2 vs r2 => ?_⟩
    exact m2 γ2 A2 H2 x v ds vs Q _ R2 (VR.ext e2 _ _ r1) r2 h2
  · exact h1.elim
theorem je_meth0 (gk : G.K = X.K) (M : MT X G T name id g) {o : Expr} {apos cpos : Pos} {fo : Ev → AH → Res D} (ho : JE X G W o fo)
    (hbase : attributeBase o name X.env (eval o X.env) = eval o X.env := by rfl) (hline : (apos.endLine == cpos.line) = true := by rfl) :
    JE X G W (.Call (.Attribute o name apos) [] [] cpos) (sMeth T g fo sNil) := by
  obtain ⟨r, m1, m2⟩ := M.ex
  refine ⟨PE.imp (pe_bm0 M.pa M.slot M.ty m1 ho.run hbase hline) fun σ H Q h => ?_⟩
  obtain ⟨γ, A, env, S, h⟩ := h
  refine ⟨γ, A, env, S, Post.bind h fun x A1 γ1 H1 e1 R1 h1 v r1 => ?_⟩
  split at h1
  · rename_i ht
    exact ⟨gk ▸ tyM_ok R1 r1 ht, m2 γ1 A1 H1 x v [] [] Q _ R1 r1 VRs.nil h1⟩
  · exact h1.elim
/-! ### lists -/
theorem VRs.dropLast {γ : Gh} {H : Hp} {ds : List D} {vs : List V} (h : VRs G γ H ds vs) : VRs G γ H ds.dropLast vs.dropLast := by
  rw [List.dropLast_eq_take, List.dropLast_eq_take, h.length]
  exact h.take _
theorem VRs.eraseIdx {γ : Gh} {H : Hp} {ds : List D} {vs : List V} (h : VRs G γ H ds vs) (i : Nat) : VRs G γ H (ds.eraseIdx i) (vs.eraseIdx i) := by
  rw [List.eraseIdx_eq_take_drop_succ, List.eraseIdx_eq_take_drop_succ]
  exact (h.take _).append (h.drop _)
/-- a changed list at x -/
def atL (A : AH) (x : D) : Option (Nat × List D) := match x with
  | .ref i => match A[i]? with
    | some (.lst ds) => some (i, ds)
    | _ => none
  | _ => none
theorem atL_put {γ : Gh} {A : AH} {H : Hp} {x : D} {v : V} {i : Nat} {ds ds' : List D} (R : Rel G γ A H) (h : VR G γ H x v) (e : atL A x = some (i, ds)) :
    ∃ a vs, v = .ref a ∧ H a = some (.lst vs) ∧ VRs G γ H ds vs ∧ ∀ vs', VRs G γ H ds' vs' → Ext γ H γ (upd H a (.lst vs')) ∧ Rel G γ (A.set i (.lst ds')) (upd H a (.lst vs')) := by
  cases x with
  | ref j =>
    unfold atL at e
    dsimp only at e
    split at e
    · rename_i ds0 q
      cases e
      obtain ⟨a, vs, e1, h1, r1, _⟩ := put_list (ds' := ds') (vs' := []) R h q
      refine ⟨a, vs, e1, h1, r1, fun vs' r' => ?_⟩
      obtain ⟨a2, vs2, e2, _, _, put⟩ := put_list (ds' := ds') (vs' := vs') R h q
      rw [e1] at e2; cases e2
      exact put r'
    · cases e
  | _ => cases e
def gExtend (x : D) (ds : List D) (A : AH) : Res D := match ds with
  | [y] => match atL A x, asM A y with
    | some (i, xs), some zs => if xs.length + zs.length ≤ sizeLine then .ok .non (A.set i (.lst (xs ++ zs))) else .stuck
    | _, _ => .stuck
  | _ => .stuck
theorem mtExtend : MT X G "list" "extend" "list.extend" gExtend := by
  refine ⟨F.plainAttrs_list, F.slot_list_extend, F.type_list_extend, _, mt_extend, fun γ A H d v ds vs Q Wx R rd rs h => ?_⟩
  unfold gExtend at h
  split at h
  · rename_i y
    obtain ⟨w, rfl, ry⟩ := rs.one
    split at h
    · rename_i i xs zs q1 q2
      split at h
      · rename_i hz
        obtain ⟨a, us, rfl, hl, rv, put⟩ := atL_put (ds' := xs ++ zs) R rd q1
        obtain ⟨b, ws, rfl, rw', hb⟩ := asM_at R ry q2
        obtain ⟨E, R'⟩ := put (us ++ ws) (rv.append rw')
        exact ⟨a, b, us, ws, rfl, rfl, hl, hb, by rw [← rv.length, ← rw'.length]; exact hz, h γ _ E R' _ (by unfold VR; rfl)⟩
      · exact h.elim
    · exact h.elim
  · exact h.elim
def gPop (x : D) (ds : List D) (A : AH) : Res D := match ds with
  | [] => match atL A x with
    | some (i, xs) => match xs[xs.length - 1]? with
      | some d => .ok d (A.set i (.lst xs.dropLast))
      | none => .stuck
    | none => .stuck
  | _ => .stuck
theorem mtPop : MT X G "list" "pop" "list.pop" gPop := by
  refine ⟨F.plainAttrs_list, F.slot_list_pop, F.type_list_pop, _, mt_pop, fun γ A H d v ds vs Q Wx R rd rs h => ?_⟩
  unfold gPop at h
  split at h
  · have : vs = [] := by unfold VRs at rs; exact rs
    subst this
    split at h
    · rename_i i xs q1
      split at h
      · rename_i y q2
        obtain ⟨a, us, rfl, hl, rv, put⟩ := atL_put (ds' := xs.dropLast) R rd q1
        obtain ⟨w, hw, rw'⟩ := rv.get q2
        obtain ⟨E, R'⟩ := put us.dropLast rv.dropLast
        exact ⟨a, us, w, rfl, rfl, hl, by rw [← rv.length]; exact hw, h γ _ E R' _ (VR.ext E _ _ rw')⟩
      · exact h.elim
    · exact h.elim
  · exact h.elim
def gPopAt (x : D) (ds : List D) (A : AH) : Res D := match ds with
  | [.int n] => match atL A x with
    | some (i, xs) => if -9223372036854775808 ≤ n ∧ n < 9223372036854775808 then match seqIndex? n xs.length with
      | some j => match xs[j]? with
        | some d => .ok d (A.set i (.lst (xs.eraseIdx j)))
        | none => .stuck
      | none => .stuck
      else .stuck
    | none => .stuck
  | _ => .stuck
theorem mtPopAt : MT X G "list" "pop" "list.pop" gPopAt := by
  refine ⟨F.plainAttrs_list, F.slot_list_pop, F.type_list_pop, _, mt_popAt, fun γ A H d v ds vs Q Wx R rd rs h => ?_⟩
  unfold gPopAt at h
  split at h
  · rename_i n
    obtain ⟨w, rfl, rn⟩ := rs.one
    unfold VR at rn
    subst rn
    split at h
    · rename_i i xs q1
      split at h
      · rename_i hn
        split at h
        · rename_i j q3
          split at h
          · rename_i y q2
            obtain ⟨a, us, rfl, hl, rv, put⟩ := atL_put (ds' := xs.eraseIdx j) R rd q1
            obtain ⟨w, hw, rw'⟩ := rv.get q2
            obtain ⟨E, R'⟩ := put (us.eraseIdx j) (rv.eraseIdx j)
            exact ⟨a, us, n, j, w, rfl, rfl, hl, hn.1, hn.2, by rw [← rv.length]; exact q3, hw, h γ _ E R' _ (VR.ext E _ _ rw')⟩
          · exact h.elim
        · exact h.elim
      · exact h.elim
    · exact h.elim
  · exact h.elim
def gIndex (x : D) (ds : List D) (A : AH) : Res D := match ds with
  | [y] => match toP (topD A x), toP (topD A y) with
    | some (.list ps), some p => if SeqAt.shaped (.list ps) && SeqAt.shaped p then match ps.findIdx? (fun z => PyData.eqv z p) with
      | some j => .ok (.int j) A
      | none => .stuck
      else .stuck
    | _, _ => .stuck
  | _ => .stuck
theorem mtIndex (gk : G.K = X.K) (hu : X.A.units + 65 < cLine) : MT X G "list" "index" "list.index" gIndex := by
  refine ⟨F.plainAttrs_list, F.slot_list_index, F.type_list_index, _, mt_indexD hu, fun γ A H d v ds vs Q Wx R rd rs h => ?_⟩
  unfold gIndex at h
  split at h
  · rename_i y
    obtain ⟨w, rfl, ry⟩ := rs.one
    split at h
    · rename_i ps p q1 q2
      split at h
      · rename_i hs
        rw [Bool.and_eq_true] at hs
        split at h
        · rename_i j q3
          obtain ⟨hj, e1, e2⟩ := List.findIdx?_eq_some_iff_getElem.mp q3
          have dl := VR.dpA R rd q1
          have dy := VR.dpA R ry q2
          rw [gk] at dl dy
          have hv : ∃ a, v = .ref a := by
            cases dl with
            | lst _ _ => exact ⟨_, rfl⟩
          obtain ⟨a, rfl⟩ := hv
          refine ⟨a, w, p, ps, j, ps[j], rfl, rfl, dl, dy, hs.1, hs.2, List.getElem?_eq_getElem hj, e1, fun m z' hm hz => ?_, ok_here R (by unfold VR; rfl) h⟩
          obtain ⟨hm', rfl⟩ := List.getElem?_eq_some_iff.mp hz
          have := e2 m hm
          simpa using this
        · exact h.elim
      · exact h.elim
    · exact h.elim
  · exact h.elim
def gCount (x : D) (ds : List D) (A : AH) : Res D := match ds with
  | [.int n] => match (asQ A x).bind dints with
    | some ns => .ok (.int (ns.count n : Nat)) A
    | none => .stuck
  | _ => .stuck
theorem mtCount (gk : G.K = X.K) : MT X G "list" "count" "list.count" gCount := by
  refine ⟨F.plainAttrs_list, F.slot_list_count, F.type_list_count, _, mt_lcount, fun γ A H d v ds vs Q Wx R rd rs h => ?_⟩
  unfold gCount at h
  split at h
  · rename_i n
    obtain ⟨w, rfl, rn⟩ := rs.one
    unfold VR at rn
    subst rn
    split at h
    · rename_i ns q
      obtain ⟨ds, q1, q2⟩ := Option.bind_eq_some_iff.mp q
      obtain ⟨a, us, rfl, rv, hq⟩ := asQ_at R rd q1
      have e := ints_map q2
      subst e
      have e2 := VRs.intsV rv
      subst e2
      exact ⟨a, ns, n, rfl, rfl, gk ▸ hq, ok_here R (by unfold VR; rfl) h⟩
    · exact h.elim
  · exact h.elim
def gRemove (x : D) (ds : List D) (A : AH) : Res D := match ds with
  | [.int n] => match atL A x with
    | some (i, xs) => match dints xs with
      | some ns => match ns.findIdx? (fun z => z == n) with
        | some j => .ok .non (A.set i (.lst ((ns.eraseIdx j).map .int)))
        | none => .stuck
      | none => .stuck
    | none => .stuck
  | _ => .stuck
theorem mtRemove : MT X G "list" "remove" "list.remove" gRemove := by
  refine ⟨F.plainAttrs_list, F.slot_list_remove, F.type_list_remove, _, mt_remove, fun γ A H d v ds vs Q Wx R rd rs h => ?_⟩
  unfold gRemove at h
  split at h
  · rename_i n
    obtain ⟨w, rfl, rn⟩ := rs.one
    unfold VR at rn
    subst rn
    split at h
    · rename_i i xs q1
      split at h
      · rename_i ns q2
        split at h
        · rename_i j q3
          have e := ints_map q2
          subst e
          obtain ⟨a, us, rfl, hl, rv, put⟩ := atL_put (ds' := (ns.eraseIdx j).map .int) R rd q1
          have e2 := VRs.intsV rv
          subst e2
          obtain ⟨E, R'⟩ := put ((ns.eraseIdx j).map V.int) (VRs.ints _)
          obtain ⟨hj, e1, e3⟩ := List.findIdx?_eq_some_iff_getElem.mp q3
          refine ⟨a, ns, n, j, rfl, rfl, hl, ?_, fun m hm z => ?_, h γ _ E R' _ (by unfold VR; rfl)⟩
          · rw [List.getElem?_eq_getElem hj]
            exact congrArg some (beq_iff_eq.mp e1)
          · obtain ⟨hm', z⟩ := List.getElem?_eq_some_iff.mp z
            have := e3 m hm
            simp [z] at this
        · exact h.elim
      · exact h.elim
    · exact h.elim
  · exact h.elim
end
end F3
namespace F3
open PySem PySem.Spec
open PyProof.Rows L2
/-! ### comprehensions with two walks -/
def compL2 (st : Ev → D → Option Ev) (t : Ev → AH → Res Bool) (vs1 : List Nat) (fi1 : Ev → AH → Res (List D)) (st1 : Ev → D → Option Ev) (t1 : Ev → AH → Res Bool) (f : Ev → AH → Res D) : List D → Nat → Ev → AH → Res (List D)
  | [], _, _, A => .ok [] A
  | d :: ds, n, env, A => match st env d with
    | none => .stuck
    | some env1 => match t env1 A with
      | .ok true A1 => match fi1 env1 A1 with
        | .ok es A2 => match decide (n + es.length ≤ sizeLine) with
          | true => match compL st1 t1 f es (wip vs1 env1) A2 with
            | .ok xs A3 => (compL2 st t vs1 fi1 st1 t1 f ds (n + xs.length) env A3).bind fun ys A4 => .ok (xs ++ ys) A4
            | _ => .stuck
          | false => .stuck
        | _ => .stuck
      | .ok false A1 => compL2 st t vs1 fi1 st1 t1 f ds n env A1
      | _ => .stuck
def sComp2 (vs : List Nat) (fi : Ev → AH → Res (List D)) (st : Ev → D → Option Ev) (t : Ev → AH → Res Bool) (vs1 : List Nat) (fi1 : Ev → AH → Res (List D)) (st1 : Ev → D → Option Ev) (t1 : Ev → AH → Res Bool) (f : Ev → AH → Res D) : Ev → AH → Res (List D) :=
  fun env A => (fi env A).bind fun ds A1 => compL2 st t vs1 fi1 st1 t1 f ds 0 (wip vs env) A1
def sLC2 (vs : List Nat) (fi : Ev → AH → Res (List D)) (st : Ev → D → Option Ev) (t : Ev → AH → Res Bool) (vs1 : List Nat) (fi1 : Ev → AH → Res (List D)) (st1 : Ev → D → Option Ev) (t1 : Ev → AH → Res Bool) (f : Ev → AH → Res D) : Ev → AH → Res D :=
  fun env A => (sComp2 vs fi st t vs1 fi1 st1 t1 f env A).bind fun ds A1 => .ok (.lst ds) A1
section
variable {X : Cx} {G : Gc} {W : WX} {k : Nat}
theorem comp2_core {σ : L2.St} {vs js vs1 js1 : List Nat} {st st1 : Ev → D → Option Ev} {t t1 : Ev → AH → Res Bool} {fi1 : Ev → AH → Res (List D)} {f : Ev → AH → Res D} {g g1 : TG} {tt tt1 : TT} {te : TE} {wi1 : TI} {J : It} {ds : List D} {γ1 : Gh} {A1 : AH} {H1 : Hp} {env : Ev} {Q : VK} {Wx : WXe}
    (hg : ∀ (v : V) (σ : L2.St) (H : Hp) (Q : L2.St → Hp → Prop), (∃ γ A env d env', St3 G γ A env H σ ∧ VR G γ H d v ∧ st env d = some env' ∧ ∀ σ', St3 G γ A env' H σ' → σ'.length = σ.length → (∀ j, j ∉ js → σ'[j]? = σ[j]?) → Q σ' H) → g v σ H Q)
    (ht : ∀ σ H Q, tB3 G W0 t σ H Q → tt σ H Q) (hj : ∀ j ∈ js, j ∈ vs)
    (hi1 : ∀ σ H R, (∃ γ A env, St3 G γ A env H σ ∧ Post G γ H (fi1 env A) (fun γ' _ H' ds => ∀ J, Yl G γ' H' J ds → R J H') (fun _ _ _ => False)) → wi1 σ H R)
    (hg1 : ∀ (v : V) (σ : L2.St) (H : Hp) (Q : L2.St → Hp → Prop), (∃ γ A env d env', St3 G γ A env H σ ∧ VR G γ H d v ∧ st1 env d = some env' ∧ ∀ σ', St3 G γ A env' H σ' → σ'.length = σ.length → (∀ j, j ∉ js1 → σ'[j]? = σ[j]?) → Q σ' H) → g1 v σ H Q)
    (ht1 : ∀ σ H Q, tB3 G W0 t1 σ H Q → tt1 σ H Q) (hj1 : ∀ j ∈ js1, j ∈ vs1) (he : ∀ σ H Q, tE G W0 f σ H Q → te σ H Q)
    (S : St3 G γ1 A1 env H1 σ) (hJ : Yl G γ1 H1 J ds)
    (h : Post G γ1 H1 (compL2 st t vs1 fi1 st1 t1 f ds 0 (wip vs env) A1) (fun γ' A' H' ds' => ∀ v, VR G γ' H' (.lst ds') v → Q v H') Wx) :
    ∀ D, H1 D = none → ∃ W : Nat → Nat → Hp → Prop, (∃ m, W 0 m (upd H1 D (.lst []))) ∧ ∀ i m H, W i m H →
      (J.stop i H ∧ Q (.ref D) H) ∨ (J.go i H ∧ ∃ Nx : Hp → Prop, (∀ H', Nx H' → ∃ m', m' < m ∧ W (i + 1) m' H') ∧ ∀ x H', J.yld i H x H' → g x (wipe σ vs) H' fun σ2 H2 => wipe σ2 vs = wipe σ vs ∧ tt σ2 H2 fun b H3 =>
        if b = true then wi1 σ2 H3 fun J1 H4 => ∃ W1 : Nat → Nat → Hp → Prop, (∃ m, W1 0 m H4) ∧ ∀ j k H, W1 j k H →
          (J1.stop j H ∧ Nx H) ∨ (J1.go j H ∧ ∃ Nx1 : Hp → Prop, (∀ H', Nx1 H' → ∃ k', k' < k ∧ W1 (j + 1) k' H') ∧ ∀ x H', J1.yld j H x H' → g1 x (wipe σ2 vs1) H' fun σ3 H5 => wipe σ3 vs1 = wipe σ2 vs1 ∧ tt1 σ3 H5 fun b H6 =>
            if b = true then te σ3 H6 fun y H7 => ∃ acc, H7 D = some (.lst acc) ∧ acc.length < sizeLine ∧ Nx1 (upd H7 D (.lst (acc ++ [y]))) else Nx1 H6)
        else Nx H3) := by
  intro DD hD
  let Fin : Gh → AH → Hp → List F3.D → Prop := fun γ' A' H' ds' => ∀ v, VR G γ' H' (.lst ds') v → Q v H'
  let K : Nat → List F3.D → AH → Res (List F3.D) := fun i l A3 => (compL2 st t vs1 fi1 st1 t1 f (ds.drop i) l.length (wip vs env) A3).bind fun ys A4 => .ok (l ++ ys) A4
  let Wn : Nat → Hp → Prop := fun i H => i ≤ ds.length ∧ ∃ γ A acc accV, Ext γ1 H1 γ H ∧ Rel G γ A H ∧ γ.o DD = some none ∧ H DD = some (.lst accV) ∧ VRs G γ H acc accV ∧ Post G γ1 H1 (K i acc A) Fin Wx
  have nD : ∀ b o, H1 b = some o → b ≠ DD := fun b o q => ne_of_none q hD
  have grown : ∀ {γ H} {a : List F3.D} {av : List V} {d : F3.D} {v : V}, Ext γ1 H1 γ H → γ.o DD = some none → H DD = some (.lst av) → VRs G γ H a av → VR G γ H d v → Ext γ1 H1 γ (upd H DD (.lst (av ++ [v]))) ∧ VRs G γ (upd H DD (.lst (av ++ [v]))) (a ++ [d]) (av ++ [v]) := fun {γ H a av d v} eb ho hv ra rd => by
    have e0 : Ext0 γ H γ (upd H DD (.lst (av ++ [v]))) := Ext0.grow ho hv
    exact ⟨⟨⟨eb.ρ, fun b o q n tt => ⟨by rw [upd_ne (nD b o q)]; exact (eb.keep b o q n tt).1, (eb.keep b o q n tt).2⟩, fun b o u q => by rw [upd_ne (nD b _ q)]; exact eb.frz _ _ _ q⟩, fun b o q n => ⟨by rw [upd_ne (nD b o q)]; exact (eb.hid b o q n).1, (eb.hid b o q n).2⟩⟩,
      (VRs.ext0 e0 _ _ ra).append (VRs.cons (VR.ext0 e0 _ _ rd) VRs.nil)⟩
  refine ⟨fun i m H => m = ds.length - i ∧ Wn i H, ⟨ds.length, by simp, Nat.zero_le _, γ1.hide DD, A1, [], [], Ext.hide hD, S.rel.hide hD, Gh.hide_same, upd_same, VRs.nil, ?_⟩, ?_⟩
  · show Post G γ1 H1 ((compL2 st t vs1 fi1 st1 t1 f (ds.drop 0) 0 (wip vs env) A1).bind fun ys A4 => .ok ([] ++ ys) A4) Fin Wx
    rw [List.drop_zero]
    cases q : compL2 st t vs1 fi1 st1 t1 f ds 0 (wip vs env) A1 with
    | ok xs A3 => rw [q] at h; simpa [Res.bind] using h
    | ex x A3 => rw [q] at h; exact h
    | stuck => rw [q] at h; exact h
  · rintro i m H ⟨rfl, hi, γ, A, acc, accV, e, R, ho, hH, rv, hp⟩
    obtain ⟨y1, y2⟩ := hJ i γ H A e.toExt0 R
    by_cases hlt : i < ds.length
    · obtain ⟨g1', g2'⟩ := y1 ds[i] (List.getElem?_eq_getElem hlt)
      refine .inr ⟨g1', Wn (i + 1), fun H' q => ⟨ds.length - (i + 1), by omega, rfl, q⟩, fun x H2 hy => ?_⟩
      obtain ⟨e2, R2, r2⟩ := g2' x H2 hy
      have S2 : St3 G γ A (wip vs env) H2 (wipe σ vs) := ⟨R2, by rw [wip_length, wipe_length]; exact S.len, wip_er ((S.er.ext e).ext e2) vs⟩
      have hp' : Post G γ1 H1 ((compL2 st t vs1 fi1 st1 t1 f (ds[i] :: ds.drop (i + 1)) acc.length (wip vs env) A).bind fun ys A4 => .ok (acc ++ ys) A4) Fin Wx := by
        rw [← List.drop_eq_getElem_cons hlt]; exact hp
      unfold compL2 at hp'
      cases q : st (wip vs env) ds[i] with
      | none => rw [q] at hp'; exact hp'.elim
      | some env1 =>
        rw [q] at hp'
        dsimp only at hp'
        refine hg x _ H2 _ ⟨γ, A, wip vs env, ds[i], env1, S2, r2, q, fun σ3 S3 l3 k3 => ⟨wipe_eq l3 k3 hj, ?_⟩⟩
        cases q2 : t env1 A with
        | ex z A3 => rw [q2] at hp'; exact hp'.elim
        | stuck => rw [q2] at hp'; exact hp'.elim
        | ok b A3 =>
          rw [q2] at hp'
          refine ht _ _ _ ⟨γ, A, env1, S3, ?_⟩
          rw [q2]
          intro γ3 H3 e3 R3
          obtain ⟨hD2, _⟩ := e2.hid DD _ hH ho
          obtain ⟨hD3, ho3⟩ := e3.hid DD _ hD2 ho
          have rv3 := VRs.ext e3 _ _ (VRs.ext e2 _ _ rv)
          have ex3 := (e.trans e2).trans e3
          cases b with
          | false =>
            rw [if_neg Bool.false_ne_true]
            exact ⟨hlt, γ3, A3, acc, accV, ex3, R3, ho3, hD3, rv3, hp'⟩
          | true =>
            rw [if_pos rfl]
            dsimp only at hp'
            cases q3 : fi1 env1 A3 with
            | ex z A4 => rw [q3] at hp'; exact hp'.elim
            | stuck => rw [q3] at hp'; exact hp'.elim
            | ok es A4 =>
              rw [q3] at hp'
              dsimp only at hp'
              refine hi1 _ _ _ ⟨γ3, A3, env1, S3.to e3 R3, ?_⟩
              rw [q3]
              intro γ4 H4 e4 R4 J1 hJ1
              obtain ⟨hD4, ho4⟩ := e4.hid DD _ hD3 ho3
              have rv4 := VRs.ext e4 _ _ rv3
              have ex4 := ex3.trans e4
              have S4 := (S3.to e3 R3).to e4 R4
              cases q4 : decide (acc.length + es.length ≤ sizeLine) with
              | false => rw [q4] at hp'; exact hp'.elim
              | true =>
                rw [q4] at hp'
                dsimp only at hp'
                have hz := of_decide_eq_true q4
                let W1n : Nat → Hp → Prop := fun j H => j ≤ es.length ∧ ∃ γ A l lV, Ext γ1 H1 γ H ∧ Ext0 γ4 H4 γ H ∧ Rel G γ A H ∧ γ.o DD = some none ∧ H DD = some (.lst lV) ∧ VRs G γ H l lV ∧ l.length ≤ acc.length + j ∧
                  ∃ r, compL st1 t1 f (es.drop j) (wip vs1 env1) A = r ∧ Post G γ1 H1 (r.bind fun xs A3 => K (i + 1) (l ++ xs) A3) Fin Wx
                refine ⟨fun j k H => k = es.length - j ∧ W1n j H, ⟨es.length, by simp, Nat.zero_le _, γ4, A4, acc, accV, ex4, (Ext.refl γ4 H4).toExt0, R4, ho4, hD4, rv4, by omega, _, rfl, ?_⟩, ?_⟩
                · rw [List.drop_zero]
                  cases q5 : compL st1 t1 f es (wip vs1 env1) A4 with
                  | ex z A5 => rw [q5] at hp'; exact hp'.elim
                  | stuck => rw [q5] at hp'; exact hp'.elim
                  | ok xs A5 =>
                    rw [q5] at hp'
                    show Post G γ1 H1 ((compL2 st t vs1 fi1 st1 t1 f (ds.drop (i + 1)) (acc ++ xs).length (wip vs env) A5).bind fun ys A4 => .ok ((acc ++ xs) ++ ys) A4) Fin Wx
                    rw [List.length_append]
                    dsimp only at hp'
                    cases q6 : compL2 st t vs1 fi1 st1 t1 f (ds.drop (i + 1)) (acc.length + xs.length) (wip vs env) A5 with
                    | ex z A6 => rw [q6] at hp'; exact hp'
                    | stuck => rw [q6] at hp'; exact hp'
                    | ok ys A6 =>
                      rw [q6] at hp'
                      simpa [Res.bind, List.append_assoc] using hp'
                · rintro j kk H5 ⟨rfl, hj5, γ5, A5, l, lV, ex5, e05, R5, ho5, hD5, rl5, hl5, r, hr, hq⟩
                  obtain ⟨z1, z2⟩ := hJ1 j γ5 H5 A5 e05 R5
                  by_cases hlt5 : j < es.length
                  · obtain ⟨w1, w2⟩ := z1 es[j] (List.getElem?_eq_getElem hlt5)
                    rw [List.drop_eq_getElem_cons hlt5] at hr
                    unfold compL at hr
                    refine .inr ⟨w1, W1n (j + 1), fun H' q => ⟨es.length - (j + 1), by omega, rfl, q⟩, fun x5 H6 hy6 => ?_⟩
                    obtain ⟨e6, R6, r6⟩ := w2 x5 H6 hy6
                    have er5 : ER G γ5 H6 env1 σ3 := fun a d qa => by
                      obtain ⟨v, v1, v2⟩ := S4.er a d qa
                      exact ⟨v, v1, VR.ext e6 d v (VR.ext0 e05 d v v2)⟩
                    have S6 : St3 G γ5 A5 (wip vs1 env1) H6 (wipe σ3 vs1) := ⟨R6, by rw [wip_length, wipe_length]; exact S4.len, wip_er er5 vs1⟩
                    cases q7 : st1 (wip vs1 env1) es[j] with
                    | none => rw [q7] at hr; subst hr; exact hq.elim
                    | some env2 =>
                      rw [q7] at hr
                      simp only at hr
                      refine hg1 x5 _ H6 _ ⟨γ5, A5, wip vs1 env1, es[j], env2, S6, r6, q7, fun σ7 S7 l7 k7 => ⟨wipe_eq l7 k7 hj1, ?_⟩⟩
                      cases q8 : t1 env2 A5 with
                      | ex z A8 => rw [q8] at hr; subst hr; exact hq.elim
                      | stuck => rw [q8] at hr; subst hr; exact hq.elim
                      | ok b8 A8 =>
                        rw [q8] at hr
                        refine ht1 _ _ _ ⟨γ5, A5, env2, S7, ?_⟩
                        rw [q8]
                        intro γ8 H8 e8 R8
                        obtain ⟨hD6, _⟩ := e6.hid DD _ hD5 ho5
                        obtain ⟨hD8, ho8⟩ := e8.hid DD _ hD6 ho5
                        have rl8 := VRs.ext e8 _ _ (VRs.ext e6 _ _ rl5)
                        have ex8 := (ex5.trans e6).trans e8
                        have e08 := (e05.trans e6.toExt0).trans e8.toExt0
                        cases b8 with
                        | false =>
                          rw [if_neg Bool.false_ne_true]
                          exact ⟨hlt5, γ8, A8, l, lV, ex8, e08, R8, ho8, hD8, rl8, by omega, r, hr, hq⟩
                        | true =>
                          rw [if_pos rfl]
                          simp only at hr
                          refine he _ _ _ ⟨γ8, A8, env2, S7.to e8 R8, ?_⟩
                          cases q9 : f env2 A8 with
                          | ex z A9 => rw [q9] at hr; subst hr; exact hq.elim
                          | stuck => rw [q9] at hr; subst hr; exact hq.elim
                          | ok y A9 =>
                            rw [q9] at hr
                            intro γ9 H9 e9 R9 v r9
                            obtain ⟨hD9, ho9⟩ := e9.hid DD _ hD8 ho8
                            have rl9 := VRs.ext e9 _ _ rl8
                            obtain ⟨ex10, rl10⟩ := grown (ex8.trans e9) ho9 hD9 rl9 r9
                            refine ⟨lV, hD9, by rw [← rl9.length]; omega, hlt5, γ9, A9, l ++ [y], lV ++ [v], ex10, (e08.trans e9.toExt0).trans (Ext0.grow ho9 hD9), R9.grow ho9 hD9, ho9, upd_same, rl10, by rw [List.length_append]; simp; omega, _, rfl, ?_⟩
                            subst hr
                            simp only at hq
                            cases q10 : compL st1 t1 f (es.drop (j + 1)) (wip vs1 env1) A9 with
                            | ok xs A10 =>
                              rw [q10] at hq
                              simpa [Res.bind, List.append_assoc] using hq
                            | ex z A10 => rw [q10] at hq; exact hq
                            | stuck => rw [q10] at hq; exact hq
                  · have hj6 : j = es.length := by omega
                    refine .inl ⟨z2 (by omega), ?_⟩
                    rw [List.drop_eq_nil_of_le (by omega)] at hr
                    unfold compL at hr
                    subst hr
                    simp only [Res.bind, List.append_nil] at hq
                    exact ⟨hlt, γ5, A5, l, lV, ex5, R5, ho5, hD5, rl5, hq⟩
    · have hi2 : i = ds.length := by omega
      refine .inl ⟨y2 (by omega), ?_⟩
      have hp' : Post G γ1 H1 ((compL2 st t vs1 fi1 st1 t1 f [] acc.length (wip vs env) A).bind fun ys A4 => .ok (acc ++ ys) A4) Fin Wx := by
        have hz0 : ds.drop i = [] := List.drop_eq_nil_of_le (by omega)
        rw [← hz0]; exact hp
      unfold compL2 at hp'
      simp only [Res.bind, List.append_nil] at hp'
      have e5 : Ext γ1 H1 (γ.show DD) H := ⟨⟨e.ρ, fun b o q n tt => ⟨(e.keep b o q n tt).1, by rw [Gh.show_ne (nD b o q)]; exact (e.keep b o q n tt).2⟩, fun b o u q => e.frz _ _ _ q⟩, fun b o q n => ⟨(e.hid b o q n).1, by rw [Gh.show_ne (nD b o q)]; exact (e.hid b o q n).2⟩⟩
      refine hp' (γ.show DD) H e5 (R.show ho) (.ref DD) ?_
      unfold VR
      exact ⟨DD, accV, rfl, hH, Gh.show_same, VRs.ext0 (Ext0.show ho) _ _ rv⟩
theorem je_comp2 (o : XO X G W k) {elt tg iter tg1 iter1 : Expr} {ifs ifs1 : List Expr} {scope : Scope} {own : List (Str × Nat)} {pos : Pos} {js vs1 js1 : List Nat} {fi fi1 : Ev → AH → Res (List D)} {st st1 : Ev → D → Option Ev} {t t1 : Ev → AH → Res Bool} {f : Ev → AH → Res D}
    (hN : X.N.Nodup) (hi : JI X G W tg iter fi) (ok : BlkOk X.N X.env.scope scope own)
    (hg : ∀ (s : Shared) (H : Hp) (C : Addr) (cl : List (Str × Addr)) (fp : List Addr), JG (X.blk s H scope (compEnvC scope cl C X.env) fp) G tg js st)
    (ht : ∀ (s : Shared) (H : Hp) (C : Addr) (cl : List (Str × Addr)) (fp : List Addr), JTs (X.blk s H scope (compEnvC scope cl C X.env) fp) G W0 ifs t)
    (hi1 : ∀ (s : Shared) (H : Hp) (C : Addr) (cl : List (Str × Addr)) (fp : List Addr), JI (X.blk s H scope (compEnvC scope cl C X.env) fp) G W0 tg1 iter1 fi1)
    (hg1 : ∀ (s : Shared) (H : Hp) (C : Addr) (cl : List (Str × Addr)) (fp : List Addr), JG (X.blk s H scope (compEnvC scope cl C X.env) fp) G tg1 js1 st1)
    (ht1 : ∀ (s : Shared) (H : Hp) (C : Addr) (cl : List (Str × Addr)) (fp : List Addr), JTs (X.blk s H scope (compEnvC scope cl C X.env) fp) G W0 ifs1 t1)
    (he : ∀ (s : Shared) (H : Hp) (C : Addr) (cl : List (Str × Addr)) (fp : List Addr), JE (X.blk s H scope (compEnvC scope cl C X.env) fp) G W0 elt f)
    (hj : (js.all fun j => (own.map (·.2)).contains j) = true) (hj1 : (js1.all fun j => vs1.contains j) = true) (hv : (vs1.all fun j => (own.map (·.2)).contains j) = true)
    (hfs : ∀ x, foldedSetIterable iter X.env x = pure x := by intro _; rfl) (hfs1 : ∀ env x, foldedSetIterable iter1 env x = pure x := by intro _ _; rfl) :
    JE X G W (.ListComp elt [⟨tg, iter, ifs, 0⟩, ⟨tg1, iter1, ifs1, 0⟩] scope pos) (sLC2 (own.map (·.2)) fi st t vs1 fi1 st1 t1 f) := by
  have hv' : ∀ i ∈ vs1, i ∈ own.map (·.2) := fun i q => by simpa using List.all_eq_true.mp hv i q
  refine ⟨PE.imp (pe_lc2 o.calm hN hi.run ok hv' (fun s H C cl fp => (hg s H C cl fp).run) (fun s H C cl fp => (ht s H C cl fp).run) (fun s H C cl fp => (hi1 s H C cl fp).run) (fun s H C cl fp => (hg1 s H C cl fp).run) (fun s H C cl fp => (ht1 s H C cl fp).run) (fun s H C cl fp => (he s H C cl fp).run) hfs hfs1) fun σ H Q h => ?_⟩
  obtain ⟨γ, A, env, S, h⟩ := h
  have hj' : ∀ j ∈ js, j ∈ own.map (·.2) := fun j q => by simpa using List.all_eq_true.mp hj j q
  have hj1' : ∀ j ∈ js1, j ∈ vs1 := fun j q => by simpa using List.all_eq_true.mp hj1 j q
  refine ⟨γ, A, env, S, ?_⟩
  have h' : Post G γ H ((fi env A).bind fun ds A1 => (compL2 st t vs1 fi1 st1 t1 f ds 0 (wip (own.map (·.2)) env) A1).bind fun ds A1 => .ok (D.lst ds) A1) (fun γ' _ H' d => ∀ v, VR G γ' H' d v → Q v H') (fun c a H' => W c a σ H') := by
    unfold sLC2 sComp2 at h
    cases q : fi env A with
    | ok ds A1 => rw [q] at h; exact h
    | ex x A1 => rw [q] at h; exact h
    | stuck => rw [q] at h; exact h
  refine Post.bind h' fun ds A1 γ1 H1 e1 R1 h1 J hJ => ?_
  refine comp2_core (js := js) (js1 := js1) (st := st) (st1 := st1) (t := t) (t1 := t1) (fi1 := fi1) (f := f) (Wx := fun c a H' => W c a σ H') (fun v σ H Q h => h) (fun σ H Q h => h) hj' (fun σ H R h => h) (fun v σ H Q h => h) (fun σ H Q h => h) hj1' (fun σ H Q h => h) (S.to e1 R1) hJ ?_
  cases q : compL2 st t vs1 fi1 st1 t1 f ds 0 (wip (own.map (·.2)) env) A1 with
  | ok xs A3 => rw [q] at h1; exact h1
  | ex x A3 => rw [q] at h1; exact h1
  | stuck => rw [q] at h1; exact h1
/-- y = [.. two walks ..] -/
theorem js_setLc2 (o : XO X G W k) {i : Nat} {y : Str} {py : Pos} {elt tg iter tg1 iter1 : Expr} {ifs ifs1 : List Expr} {scope : Scope} {own : List (Str × Nat)} {pos spos : Pos} {js vs1 js1 : List Nat} {fi fi1 : Ev → AH → Res (List D)} {st st1 : Ev → D → Option Ev} {t t1 : Ev → AH → Res Bool} {f : Ev → AH → Res D}
    (hN : X.N.Nodup) (hy : X.N[i]? = some y) (hyl : X.env.scope.names.lookup y = some .local) (hsw : swapsWith (.ListComp elt [⟨tg, iter, ifs, 0⟩, ⟨tg1, iter1, ifs1, 0⟩] scope pos) (some (.Name y py)) spos.line X.env = pure true) (hi : JI X G W tg iter fi) (ok : BlkOk X.N X.env.scope scope own)
    (hg : ∀ (s : Shared) (H : Hp) (C : Addr) (cl : List (Str × Addr)) (fp : List Addr), JG (X.blk s H scope (compEnvC scope cl C X.env) fp) G tg js st)
    (ht : ∀ (s : Shared) (H : Hp) (C : Addr) (cl : List (Str × Addr)) (fp : List Addr), JTs (X.blk s H scope (compEnvC scope cl C X.env) fp) G W0 ifs t)
    (hi1 : ∀ (s : Shared) (H : Hp) (C : Addr) (cl : List (Str × Addr)) (fp : List Addr), JI (X.blk s H scope (compEnvC scope cl C X.env) fp) G W0 tg1 iter1 fi1)
    (hg1 : ∀ (s : Shared) (H : Hp) (C : Addr) (cl : List (Str × Addr)) (fp : List Addr), JG (X.blk s H scope (compEnvC scope cl C X.env) fp) G tg1 js1 st1)
    (ht1 : ∀ (s : Shared) (H : Hp) (C : Addr) (cl : List (Str × Addr)) (fp : List Addr), JTs (X.blk s H scope (compEnvC scope cl C X.env) fp) G W0 ifs1 t1)
    (he : ∀ (s : Shared) (H : Hp) (C : Addr) (cl : List (Str × Addr)) (fp : List Addr), JE (X.blk s H scope (compEnvC scope cl C X.env) fp) G W0 elt f)
    (hj : (js.all fun j => (own.map (·.2)).contains j) = true) (hj1 : (js1.all fun j => vs1.contains j) = true) (hv : (vs1.all fun j => (own.map (·.2)).contains j) = true)
    (hfs : ∀ x, foldedSetIterable iter X.env x = pure x := by intro _; rfl) (hfs1 : ∀ env x, foldedSetIterable iter1 env x = pure x := by intro _ _; rfl) :
    JS X G W (.Assign [.Name y py] (.ListComp elt [⟨tg, iter, ifs, 0⟩, ⟨tg1, iter1, ifs1, 0⟩] scope pos) spos) (bSet (gNm i) (sLC2 (own.map (·.2)) fi st t vs1 fi1 st1 t1 f)) := by
  have hv' : ∀ i ∈ vs1, i ∈ own.map (·.2) := fun i q => by simpa using List.all_eq_true.mp hv i q
  refine ⟨PS.imp (ps_setLc2 o.calm hN hy hyl hsw hi.run ok hv' (fun s H C cl fp => (hg s H C cl fp).run) (fun s H C cl fp => (ht s H C cl fp).run) (fun s H C cl fp => (hi1 s H C cl fp).run) (fun s H C cl fp => (hg1 s H C cl fp).run) (fun s H C cl fp => (ht1 s H C cl fp).run) (fun s H C cl fp => (he s H C cl fp).run) hfs hfs1) fun E σ H h => ?_⟩
  obtain ⟨γ, A, env, S, h⟩ := h
  have hj' : ∀ j ∈ js, j ∈ own.map (·.2) := fun j q => by simpa using List.all_eq_true.mp hj j q
  have hj1' : ∀ j ∈ js1, j ∈ vs1 := fun j q => by simpa using List.all_eq_true.mp hj1 j q
  have h0 : Post G γ H (sLC2 (own.map (·.2)) fi st t vs1 fi1 st1 t1 f env A) (fun γ' A' H' d => ∀ v, VR G γ' H' d v → gName i v σ H' E.nx) (fun c a H' => W c a σ H') := PostS.lft S h fun d A1 γ1 H1 e1 R1 h1 v r1 => by
    have S1 := S.to e1 R1
    exact h1 γ1 H1 _ (Ext.refl _ _) ⟨R1, by simp [S.len], S1.er.set S.len r1⟩
  refine ⟨γ, A, env, S, ?_⟩
  have h' : Post G γ H ((fi env A).bind fun ds A1 => (compL2 st t vs1 fi1 st1 t1 f ds 0 (wip (own.map (·.2)) env) A1).bind fun ds A1 => .ok (D.lst ds) A1) (fun γ' _ H' d => ∀ v, VR G γ' H' d v → gName i v σ H' E.nx) (fun c a H' => W c a σ H') := by
    unfold sLC2 sComp2 at h0
    cases q : fi env A with
    | ok ds A1 => rw [q] at h0; exact h0
    | ex x A1 => rw [q] at h0; exact h0
    | stuck => rw [q] at h0; exact h0
  refine Post.bind h' fun ds A1 γ1 H1 e1 R1 h1 J hJ => ?_
  refine comp2_core (js := js) (js1 := js1) (st := st) (st1 := st1) (t := t) (t1 := t1) (fi1 := fi1) (f := f) (Q := fun v H' => gName i v σ H' E.nx) (Wx := fun c a H' => W c a σ H') (fun v σ H Q h => h) (fun σ H Q h => h) hj' (fun σ H R h => h) (fun v σ H Q h => h) (fun σ H Q h => h) hj1' (fun σ H Q h => h) (S.to e1 R1) hJ ?_
  cases q : compL2 st t vs1 fi1 st1 t1 f ds 0 (wip (own.map (·.2)) env) A1 with
  | ok xs A3 => rw [q] at h1; exact h1
  | ex x A3 => rw [q] at h1; exact h1
  | stuck => rw [q] at h1; exact h1
end
end F3
namespace F3
open PySem PySem.Spec
open PyProof.Rows L2
/-! ### sorting by insertion: what mergeSort gives -/
section
variable {α : Type}
def insLe (le : α → α → Bool) (a : α) : List α → List α
  | [] => [a]
  | b :: l => match le a b with
    | true => a :: b :: l
    | false => b :: insLe le a l
def isortLe (le : α → α → Bool) : List α → List α
  | [] => []
  | a :: l => insLe le a (isortLe le l)
theorem insLe_at {le : α → α → Bool} {a : α} : ∀ {l₁ l₂ : List α}, (∀ b ∈ l₁, le a b = false) → (∀ b ∈ l₂, le a b = true) → insLe le a (l₁ ++ l₂) = l₁ ++ a :: l₂
  | [], [], _, _ => rfl
  | [], c :: l₂, _, h2 => by
    show insLe le a (c :: l₂) = a :: c :: l₂
    unfold insLe
    rw [h2 c (by simp)]
  | b :: l₁, l₂, h1, h2 => by
    show insLe le a (b :: (l₁ ++ l₂)) = b :: (l₁ ++ a :: l₂)
    unfold insLe
    rw [h1 b (by simp), insLe_at (fun c hc => h1 c (by simp [hc])) h2]
theorem isortLe_eq {le : α → α → Bool} (trans : ∀ a b c : α, le a b = true → le b c = true → le a c = true) (total : ∀ a b : α, (le a b || le b a) = true) : ∀ l : List α, isortLe le l = l.mergeSort le
  | [] => by simp [isortLe]
  | a :: l => by
    unfold isortLe
    rw [isortLe_eq trans total l]
    obtain ⟨l₁, l₂, e1, e2, e3⟩ := List.mergeSort_cons trans total a l
    rw [e1, e2]
    have hs : (l₁ ++ a :: l₂).Pairwise (fun x y => le x y = true) := by
      rw [← e1]
      exact List.pairwise_mergeSort trans total (a :: l)
    refine insLe_at (fun b hb => ?_) fun b hb => ?_
    · have := e3 b hb
      simpa using this
    · have := (List.pairwise_append.mp hs).2.1
      exact (List.pairwise_cons.mp this).1 b hb
theorem isortLe_map {β : Type} (f : β → α) (le : α → α → Bool) : ∀ l : List β, (isortLe (fun a b => le (f a) (f b)) l).map f = isortLe le (l.map f)
  | [] => rfl
  | a :: l => by
    have ins : ∀ m : List β, (insLe (fun a b => le (f a) (f b)) a m).map f = insLe le (f a) (m.map f) := fun m => by
      induction m with
      | nil => rfl
      | cons b m ih =>
        simp only [insLe, List.map_cons]
        cases le (f a) (f b) with
        | true => rfl
        | false => simp [ih]
    simp only [isortLe, List.map_cons]
    rw [ins, isortLe_map f le l]
end
theorem isort_data {β : Type} (rev : Bool) (k : β → PyData) (l : List β) : isortLe (PySem.W.dataLe rev k) l = l.mergeSort (PySem.W.dataLe rev k) :=
  isortLe_eq (fun a b c => (PySem.W.sortLe_total (listOrd itemOrd) rev fun b => PySem.W.keyToks (k b)).trans a b c) (fun a b => by
    rw [Bool.or_eq_true]
    exact (PySem.W.sortLe_total (listOrd itemOrd) rev fun b => PySem.W.keyToks (k b)).total a b) l
/-! ### sorted of data alike -/
def withP (A : AH) : List D → Option (List (D × PyData))
  | [] => some []
  | d :: ds => match toP (topD A d), withP A ds with
    | some p, some r => some ((d, p) :: r)
    | _, _ => none
def alikeB (ps : List PyData) : Bool := ps.all fun p => ps.all fun q => PySem.W.alike p q
def isTup1 : PyData → Bool
  | .tuple (_ :: _) => true
  | _ => false
def noTupN : PyData → Bool
  | .tuple _ => false
  | .none => false
  | _ => true
def sortableB (ps : List PyData) : Bool := ps.all isTup1 || ps.all noTupN
theorem alikeB_ok {ps : List PyData} (h : alikeB ps = true) : PySem.W.AllAlike ps := fun d hd d' hd' => List.all_eq_true.mp (List.all_eq_true.mp h d hd) d' hd'
theorem sortableB_ok {ps : List PyData} (h : sortableB ps = true) : PySem.W.Sortable ps := by
  unfold sortableB at h
  rw [Bool.or_eq_true] at h
  rcases h with h | h
  · refine .inl fun d hd => ?_
    have := List.all_eq_true.mp h d hd
    unfold isTup1 at this
    split at this
    · exact ⟨_, _, rfl⟩
    · cases this
  · refine .inr fun d hd => ?_
    have := List.all_eq_true.mp h d hd
    refine ⟨fun z => ?_, fun xs z => ?_⟩ <;> subst z <;> cases this
def sortD (A : AH) (rev : Bool) (ds : List D) : Option (List D) := match withP A ds with
  | some bs => if alikeB (bs.map (·.2)) && sortableB (bs.map (·.2)) && (bs.all fun b => decide (b.2.depth ≤ 60)) then some ((isortLe (PySem.W.dataLe rev fun b : D × PyData => b.2) bs).map (·.1)) else none
  | none => none
def gSortD (rev : Bool) (ds : List D) (A : AH) : Res D := match ds with
  | [d] => match (asQ A d).bind (sortD A rev) with
    | some xs => .ok (.lst xs) A
    | none => .stuck
  | _ => .stuck
def orC (g1 g2 : List D → AH → Res D) (ds : List D) (A : AH) : Res D := match g1 ds A with
  | .stuck => g2 ds A
  | r => r
theorem CB.or {X : Cx} {G : Gc} {fn : Value} {g1 g2 : List D → AH → Res D} (c1 : CB X G fn g1) (c2 : CB X G fn g2) : CB X G fn (orC g1 g2) := by
  obtain ⟨r1, a1, b1⟩ := c1.ex
  obtain ⟨r2, a2, b2⟩ := c2.ex
  refine ⟨_, CallR.or a1 a2, fun γ A H ds vs Q Wx R rv h => ?_⟩
  unfold orC at h
  split at h
  · exact .inr (b2 γ A H ds vs Q Wx R rv h)
  · exact .inl (b1 γ A H ds vs Q Wx R rv h)
section
variable {X : Cx} {G : Gc} {W : WX} {k : Nat}
abbrev RvV {β : Type} (u : Value) (b : V × β) : Prop := L2.RelV b.1 u
theorem each_of {β : Type} : ∀ {bs : List (V × β)} {its : List Value}, Vals (bs.map (·.1)) its → PySem.W.EachIs RvV its bs
  | [], _, r => by cases r; exact .nil
  | b :: bs, _, r => by
    cases r with
    | cons h t => exact .cons h (each_of t)
theorem each_back {β : Type} : ∀ {bs : List (V × β)} {its : List Value}, PySem.W.EachIs RvV its bs → Vals (bs.map (·.1)) its
  | [], _, r => by cases r; exact .nil
  | b :: bs, _, r => by
    cases r with
    | cons h t => exact .cons h (each_back t)
theorem each_reads {pins : List (Addr × Obj)} {σ : L2.St} {H : Hp} {s : Shared} (I : Inv X pins σ H s) : ∀ {bs : List (V × PyData)} {its : List Value}, Vals (bs.map (·.1)) its → (∀ b ∈ bs, Dp X.K H b.1 b.2) → PySem.W.EachIs (fun v (b : V × PyData) => ∃ as, Reads s.heap v b.2 as) its bs
  | [], _, r, _ => by cases r; exact .nil
  | b :: bs, _, r, hd => by
    cases r with
    | cons h t => exact .cons (Dp.reads I _ _ _ (hd b (by simp)) h) (each_reads I t fun c hc => hd c (by simp [hc]))
def rSortDt (K : PySem.W.Frag) (rev : Bool) (H : Hp) (Q : VK) (x : V) : Prop := ∃ (a : Addr) (bs : List (V × PyData)), x = .ref a ∧ SqL K H a (bs.map (·.1)) ∧ (∀ b ∈ bs, Dp K H b.1 b.2) ∧ PySem.W.AllAlike (bs.map (·.2)) ∧ PySem.W.Sortable (bs.map (·.2)) ∧ (∀ b ∈ bs, b.2.depth ≤ 60) ∧
  ∀ p, H p = none → Q (.ref p) (upd H p (.lst ((bs.mergeSort (PySem.W.dataLe rev fun b : V × PyData => b.2)).map (·.1))))
theorem cr_sortD (hu : X.A.units + 65 < cLine) : CallR X (.builtin "sorted") (fun vs H Q => ∃ x, vs = [x] ∧ rSortDt X.K false H Q x) := by
  intro pins s σ H vs us Q I r h
  obtain ⟨x, rfl, a, bs, rfl, hs, hd, hal, hsk, hdp, q⟩ := h
  obtain rfl := Vals.ref1 r
  obtain ⟨its, rv, hl, hz⟩ := I.list hs
  rw [List.length_map] at hz
  refine PySem.W.sorted_data (R := RvV) (bs := bs) (enc := fun b : V × PyData => b.2) hl.isList (each_of rv) (each_reads I rv hd) hal hsk hz (fun b hb => by have := hdp b hb; omega) fun out hlo eo => ?_
  obtain ⟨ep, he'⟩ := PyProof.Rows.sortedAll_at s.heap its (List.toArray out)
  exact ⟨.ref _, _, I.laid (t' := s.toks) (fun _ _ => PyProof.Rows.sortedAll_old) (Nat.le_succ _) (show ObjOk X.prog X.w _ _ _ (.lst ((bs.mergeSort (PySem.W.dataLe false fun b : V × PyData => b.2)).map (·.1))) from ⟨by rw [List.length_map, List.length_mergeSort]; exact hz, out, ep, each_back eo, he'⟩), rfl, q _ (I.hok.fresh (Nat.le_succ _))⟩
theorem withP_len {A : AH} : ∀ {ds : List D} {bs : List (D × PyData)}, withP A ds = some bs → bs.map (·.1) = ds ∧ ∀ b ∈ bs, toP (topD A b.1) = some b.2
  | [], bs, h => by cases h; exact ⟨rfl, fun _ z => nomatch z⟩
  | d :: ds, bs, h => by
    unfold withP at h
    split at h
    · rename_i p r q1 q2
      cases h
      obtain ⟨e1, e2⟩ := withP_len q2
      refine ⟨by simp [e1], fun b hb => ?_⟩
      rcases List.mem_cons.mp hb with rfl | hb
      · exact q1
      · exact e2 b hb
    · cases h
/-- the values' list for the deep ones, tied -/
theorem tie {γ : Gh} {H : Hp} {β : Type} : ∀ {bs : List (D × β)} {vs : List V}, VRs G γ H (bs.map (·.1)) vs → ∃ cs : List ((D × V) × β), cs.map (fun c => (c.1.1, c.2)) = bs ∧ cs.map (fun c => c.1.2) = vs ∧ ∀ c ∈ cs, VR G γ H c.1.1 c.1.2
  | [], vs, h => by
    have : vs = [] := by simpa [VRs] using h
    subst this
    exact ⟨[], rfl, rfl, fun _ z => nomatch z⟩
  | b :: bs, vs, h => by
    have h' : VRs G γ H (b.1 :: bs.map (·.1)) vs := h
    unfold VRs at h'
    obtain ⟨v, r, rfl, h1, h2⟩ := h'
    obtain ⟨cs, e1, e2, e3⟩ := tie h2
    refine ⟨((b.1, v), b.2) :: cs, by simp [e1], by simp [e2], fun c hc => ?_⟩
    rcases List.mem_cons.mp hc with rfl | hc
    · exact h1
    · exact e3 c hc
theorem untie {γ : Gh} {H : Hp} {β : Type} : ∀ {cs : List ((D × V) × β)}, (∀ c ∈ cs, VR G γ H c.1.1 c.1.2) → VRs G γ H (cs.map fun c => c.1.1) (cs.map fun c => c.1.2)
  | [], _ => VRs.nil
  | c :: cs, h => VRs.cons (h c (by simp)) (untie fun d hd => h d (by simp [hd]))
theorem sort_tie {γ : Gh} {A : AH} {H : Hp} {rev : Bool} {ds xs : List D} {vs : List V} (R : Rel G γ A H) (rv : VRs G γ H ds vs) (h : sortD A rev ds = some xs) :
    ∃ bs : List (V × PyData), bs.map (·.1) = vs ∧ (∀ b ∈ bs, Dp G.K H b.1 b.2) ∧ PySem.W.AllAlike (bs.map (·.2)) ∧ PySem.W.Sortable (bs.map (·.2)) ∧ (∀ b ∈ bs, b.2.depth ≤ 60) ∧ VRs G γ H xs ((bs.mergeSort (PySem.W.dataLe rev fun b : V × PyData => b.2)).map (·.1)) := by
  unfold sortD at h
  split at h
  · rename_i bs q
    split at h
    · rename_i hc
      cases h
      simp only [Bool.and_eq_true] at hc
      obtain ⟨⟨c1, c2⟩, c3⟩ := hc
      obtain ⟨e1, e2⟩ := withP_len q
      rw [← e1] at rv
      obtain ⟨cs, t1, t2, t3⟩ := tie (β := PyData) rv
      have mp : ∀ c ∈ cs, toP (topD A c.1.1) = some c.2 := fun c hc => by
        have := e2 (c.1.1, c.2) (by rw [← t1]; exact List.mem_map.mpr ⟨c, hc, rfl⟩)
        exact this
      have p2 : (cs.map fun c => (c.1.2, c.2)).map (·.2) = bs.map (·.2) := by rw [← t1]; simp
      refine ⟨cs.map fun c => (c.1.2, c.2), by rw [← t2]; simp, fun b hb => ?_, by rw [p2]; exact alikeB_ok c1, by rw [p2]; exact sortableB_ok c2, fun b hb => ?_, ?_⟩
      · obtain ⟨c, hc, rfl⟩ := List.mem_map.mp hb
        exact VR.dpA R (t3 c hc) (mp c hc)
      · obtain ⟨c, hc, rfl⟩ := List.mem_map.mp hb
        have := List.all_eq_true.mp c3 (c.1.1, c.2) (by rw [← t1]; exact List.mem_map.mpr ⟨c, hc, rfl⟩)
        exact of_decide_eq_true this
      · rw [← isort_data]
        have k1 : (isortLe (PySem.W.dataLe rev fun b : D × PyData => b.2) bs).map (·.1) = (isortLe (PySem.W.dataLe rev fun c : (D × V) × PyData => c.2) cs).map fun c => c.1.1 := by
          rw [← t1, ← isortLe_map (fun c : (D × V) × PyData => (c.1.1, c.2)) (PySem.W.dataLe rev fun b : D × PyData => b.2) cs]
          simp; rfl
        have k2 : (isortLe (PySem.W.dataLe rev fun b : V × PyData => b.2) (cs.map fun c => (c.1.2, c.2))).map (·.1) = (isortLe (PySem.W.dataLe rev fun c : (D × V) × PyData => c.2) cs).map fun c => c.1.2 := by
          rw [← isortLe_map (fun c : (D × V) × PyData => (c.1.2, c.2)) (PySem.W.dataLe rev fun b : V × PyData => b.2) cs]
          simp; rfl
        rw [k1, k2]
        refine untie fun c hc => t3 c ?_
        rw [isort_data] at hc
        exact List.mem_mergeSort.mp hc
    · cases h
  · cases h
theorem XO.sortD (o : XO X G W k) : CB X G (.builtin "sorted") (gSortD false) := by
  refine ⟨_, cr_sortD o.u65, fun γ A H ds vs Q Wx R rv h => ?_⟩
  unfold gSortD at h
  split at h
  · rename_i d
    obtain ⟨v, rfl, r⟩ := VRs.one rv
    split at h
    · rename_i xs q
      obtain ⟨ds, q1, q2⟩ := Option.bind_eq_some_iff.mp q
      obtain ⟨a, us, rfl, ru, hq⟩ := asQ_at R r q1
      obtain ⟨bs, b1, b2, b3, b4, b5, b6⟩ := sort_tie R ru q2
      rw [o.gk] at hq
      exact ⟨_, rfl, a, bs, rfl, by rw [b1]; exact hq, fun b hb => o.gk ▸ b2 b hb, b3, b4, b5, fun p hp => Post.new (ob := .lst _) R hp h _ (VR.newL R hp b6)⟩
    · exact h.elim
  · exact h.elim
theorem XO.sortedU (o : XO X G W k) : CB X G (.builtin "sorted") (orC gSorted (gSortD false)) := CB.or o.sorted o.sortD
/-! ### max, min of a list, a tuple of ints -/
def gMax1 (ds : List D) (A : AH) : Res D := match ds with
  | [d] => match (asL A d).bind dints with
    | some (n :: ns) => .ok (.int (ns.foldl max n)) A
    | _ => .stuck
  | _ => .stuck
def gMin1 (ds : List D) (A : AH) : Res D := match ds with
  | [d] => match (asL A d).bind dints with
    | some (n :: ns) => .ok (.int (ns.foldl min n)) A
    | _ => .stuck
  | _ => .stuck
theorem alike_int (n : Int) (ns : List Int) : PySem.W.AlikeAll (.int n :: ns.map .int) := by
  have : ∀ x ∈ (PyData.int n :: ns.map PyData.int), ∃ i, x = .int i := fun x hx => by
    rcases List.mem_cons.mp hx with rfl | hx
    · exact ⟨_, rfl⟩
    · obtain ⟨i, _, rfl⟩ := List.mem_map.mp hx; exact ⟨_, rfl⟩
  refine ⟨fun x hx y hy => ?_, fun x hx z => ?_⟩
  · obtain ⟨i, rfl⟩ := this x hx
    obtain ⟨j, rfl⟩ := this y hy
    rfl
  · obtain ⟨i, rfl⟩ := this x hx
    cases z
theorem reads_ints {h : Heap} : ∀ {ns : List Int} {its : List Value}, Vals (ns.map V.int) its → ∃ as, ReadsAll h its (ns.map PyData.int) as
  | [], _, r => by cases r; exact ⟨_, .nil⟩
  | n :: ns, _, r => by
    cases r with
    | cons h t =>
      obtain ⟨tk, rfl⟩ := h
      obtain ⟨as, q⟩ := reads_ints (h := ‹_›) t
      exact ⟨_, .cons (.int n tk) q⟩
theorem reads_int {h : Heap} {v : Value} {i : Int} {as : List Addr} (r : Reads h v (.int i) as) : ∃ t, v = .int i t := by
  cases r
  exact ⟨_, rfl⟩
def rBest (K : PySem.W.Frag) (f : Int → Int → Int) (vs : List V) (H : Hp) (Q : VK) : Prop := ∃ (a : Addr) (n : Int) (ns : List Int), vs = [.ref a] ∧ (SqL K H a ((n :: ns).map V.int) ∨ SqT K H a ((n :: ns).map V.int)) ∧ Q (.int (ns.foldl f n)) H
theorem cr_max1 (hc : X.calm = true) (hu : X.A.units + 65 < cLine) : CallR X (.builtin "max") (rBest X.K max) := by
  intro pins s σ H vs us Q I r h
  obtain ⟨a, n, ns, rfl, hs, q⟩ := h
  obtain rfl := Vals.ref1 r
  have hd : PyData.depthAll (.int n :: ns.map .int) = 0 := PySem.W.depth_ints (n :: ns)
  have fin : ∀ (v : Value) (h' : Heap) (tk : Nat) (bs : List Addr), Reads h' v (PySem.W.maxD (.int n) (ns.map .int)) bs → (∀ b o, s.heap.get? b = some o → h'.get? b = some o) → EP X pins σ Q v { s with heap := h', toks := tk } := fun v h' tk bs hr hk => by
    rw [PySem.W.maxD_ints] at hr
    obtain ⟨t, rfl⟩ := reads_int hr
    exact ⟨.int _, H, I.kept hk, ⟨_, rfl⟩, q⟩
  rcases hs with hs | hs
  · obtain ⟨its, rv, hl, hz⟩ := I.list hs
    obtain ⟨as, ra⟩ := reads_ints (h := s.heap) rv
    exact PySem.W.max_list_data (x := .int n) (xs := ns.map .int) (as := as) (I.ok.hd hc) hl.isList (by simpa using ra) (alike_int n ns) (by rw [hd]; omega) fun i v h' tk bs _ hr hk => fin v h' tk bs hr hk
  · obtain ⟨its, rv, hl, hz⟩ := I.tuple hs
    obtain ⟨as, ra⟩ := reads_ints (h := s.heap) rv
    exact PySem.W.max_tuple_data (x := .int n) (xs := ns.map .int) (as := as) (I.ok.hd hc) hl (by simpa using ra) (alike_int n ns) (by rw [hd]; omega) fun i v h' tk bs _ hr hk => fin v h' tk bs hr hk
theorem cr_min1 (hc : X.calm = true) (hu : X.A.units + 65 < cLine) : CallR X (.builtin "min") (rBest X.K min) := by
  intro pins s σ H vs us Q I r h
  obtain ⟨a, n, ns, rfl, hs, q⟩ := h
  obtain rfl := Vals.ref1 r
  have hd : PyData.depthAll (.int n :: ns.map .int) = 0 := PySem.W.depth_ints (n :: ns)
  have fin : ∀ (v : Value) (h' : Heap) (tk : Nat) (bs : List Addr), Reads h' v (PySem.W.minD (.int n) (ns.map .int)) bs → (∀ b o, s.heap.get? b = some o → h'.get? b = some o) → EP X pins σ Q v { s with heap := h', toks := tk } := fun v h' tk bs hr hk => by
    rw [PySem.W.minD_ints] at hr
    obtain ⟨t, rfl⟩ := reads_int hr
    exact ⟨.int _, H, I.kept hk, ⟨_, rfl⟩, q⟩
  rcases hs with hs | hs
  · obtain ⟨its, rv, hl, hz⟩ := I.list hs
    obtain ⟨as, ra⟩ := reads_ints (h := s.heap) rv
    exact PySem.W.min_list_data (x := .int n) (xs := ns.map .int) (as := as) (I.ok.hd hc) hl.isList (by simpa using ra) (alike_int n ns) (by rw [hd]; omega) fun i v h' tk bs _ hr hk => fin v h' tk bs hr hk
  · obtain ⟨its, rv, hl, hz⟩ := I.tuple hs
    obtain ⟨as, ra⟩ := reads_ints (h := s.heap) rv
    exact PySem.W.min_tuple_data (x := .int n) (xs := ns.map .int) (as := as) (I.ok.hd hc) hl (by simpa using ra) (alike_int n ns) (by rw [hd]; omega) fun i v h' tk bs _ hr hk => fin v h' tk bs hr hk
theorem best_of {γ : Gh} {A : AH} {H : Hp} {d : D} {v : V} {n : Int} {ns : List Int} (R : Rel G γ A H) (r : VR G γ H d v) (q : (asL A d).bind dints = some (n :: ns)) : ∃ a, v = .ref a ∧ (SqL G.K H a ((n :: ns).map V.int) ∨ SqT G.K H a ((n :: ns).map V.int)) := by
  obtain ⟨ds, q1, q2⟩ := Option.bind_eq_some_iff.mp q
  obtain ⟨a, us, rfl, ru, hq⟩ := asL_at R r q1
  have e := ints_map q2
  subst e
  have e2 := VRs.intsV ru
  subst e2
  exact ⟨a, rfl, hq⟩
theorem XO.max1 (o : XO X G W k) : CB X G (.builtin "max") gMax1 := by
  refine ⟨_, cr_max1 o.calm o.u65, fun γ A H ds vs Q Wx R rv h => ?_⟩
  unfold gMax1 at h
  split at h
  · obtain ⟨v, rfl, r⟩ := VRs.one rv
    split at h
    · rename_i n ns q
      obtain ⟨a, rfl, hs⟩ := best_of R r q
      exact ⟨a, n, ns, rfl, o.gk ▸ hs, ok_here R (by unfold VR; rfl) h⟩
    · exact h.elim
  · exact h.elim
theorem XO.min1 (o : XO X G W k) : CB X G (.builtin "min") gMin1 := by
  refine ⟨_, cr_min1 o.calm o.u65, fun γ A H ds vs Q Wx R rv h => ?_⟩
  unfold gMin1 at h
  split at h
  · obtain ⟨v, rfl, r⟩ := VRs.one rv
    split at h
    · rename_i n ns q
      obtain ⟨a, rfl, hs⟩ := best_of R r q
      exact ⟨a, n, ns, rfl, o.gk ▸ hs, ok_here R (by unfold VR; rfl) h⟩
    · exact h.elim
  · exact h.elim
end
end F3
namespace F3
open PySem PySem.Spec
open PyProof.Rows L2
/-! ### dicts that are read: displays that stand still, .get, in -/
theorem Post.split {α β : Type} {G : Gc} {γ γh : Gh} {H Hh : Hp} {r : Res α} {k : α → AH → Res β} {Q : Gh → AH → Hp → β → Prop} {W : WXe} (e : Ext γ H γh Hh) (h : Post G γ H (r.bind k) Q W) :
    Post G γh Hh r (fun _ A' _ d => Post G γ H (k d A') Q W) W := by
  cases r with
  | ok d A => exact fun _ _ _ _ => h
  | ex x A => exact fun γ' H' cls ad e' R xr => h γ' H' cls ad (e.trans e') R xr
  | stuck => exact h
/-- what an expression makes stands still from then on -/
theorem pe_lock {X : Cx} {e : Expr} {te : TE} (h : PE X e te) : PE X e (fun σ H Q => te σ H fun v H' => ∃ p u, v = .ref p ∧ H' p = some u ∧ Mut (some u) ∧ ∀ od, Q v (upd H' p (.frz od u))) := ⟨fun pins s σ H Q I q =>
  thn (h.run pins s σ H _ I q) fun w s1 ⟨v, H1, I1, r1, p, u, e1, e2, mu, q1⟩ => by
    obtain ⟨od, I2⟩ := I1.lock e2 mu
    exact ⟨v, _, I2, r1, q1 od⟩⟩
def keyOf : D → Option Key
  | .int i => some (.inl i)
  | .str x => some (.inr x)
  | _ => none
theorem keyOf_kD {d : D} {k : Key} (h : keyOf d = some k) : d = kD k := by
  cases d with
  | int i => cases h; rfl
  | str x => cases h; rfl
  | _ => cases h
def keysOf : List (D × D) → Option (List (Key × D))
  | [] => some []
  | p :: ps => match keyOf p.1, keysOf ps with
    | some k, some r => some ((k, p.2) :: r)
    | _, _ => none
def putKD (l : List (Key × D)) (k : Key) (d : D) : List (Key × D) := if (l.any fun kv => decide (kv.1 = k)) = true then l.map (fun kv => if kv.1 = k then (kv.1, d) else kv) else l ++ [(k, d)]
def mergeD (l more : List (Key × D)) : List (Key × D) := more.foldl (fun acc kv => putKD acc kv.1 kv.2) l
def KR (G : Gc) (γ : Gh) (H : Hp) : List (Key × D) → List (Key × V) → Prop := Paired fun p q => p.1 = q.1 ∧ VR G γ H p.2 q.2
section
variable {G : Gc} {γ : Gh} {H : Hp} {A : AH}
theorem KR.any {l : List (Key × D)} {m : List (Key × V)} (r : KR G γ H l m) (k : Key) : (l.any fun kv => decide (kv.1 = k)) = (m.any fun kv => decide (kv.1 = k)) := by
  induction r with
  | nil => rfl
  | cons h t ih => rw [List.any_cons, List.any_cons, ih, h.1]
theorem KR.repl {l : List (Key × D)} {m : List (Key × V)} (r : KR G γ H l m) (k : Key) {d : D} {v : V} (hv : VR G γ H d v) : KR G γ H (l.map fun kv => if kv.1 = k then (kv.1, d) else kv) (m.map fun kv => if kv.1 = k then (kv.1, v) else kv) := by
  induction r with
  | nil => exact .nil
  | @cons p q ps qs h t ih =>
    rw [List.map_cons, List.map_cons]
    refine .cons ?_ ih
    rw [h.1]
    by_cases z : q.1 = k
    · rw [if_pos z, if_pos z]; exact ⟨rfl, hv⟩
    · rw [if_neg z, if_neg z]; exact h
theorem KR.snoc {l : List (Key × D)} {m : List (Key × V)} (r : KR G γ H l m) (k : Key) {d : D} {v : V} (hv : VR G γ H d v) : KR G γ H (l ++ [(k, d)]) (m ++ [(k, v)]) := by
  induction r with
  | nil => exact .cons ⟨rfl, hv⟩ .nil
  | cons h t ih => exact .cons h ih
theorem KR.put {l : List (Key × D)} {m : List (Key × V)} (r : KR G γ H l m) (k : Key) {d : D} {v : V} (hv : VR G γ H d v) : KR G γ H (putKD l k d) (putK m k v) := by
  unfold putKD putK
  rw [r.any k]
  split
  · exact r.repl k hv
  · exact r.snoc k hv
theorem KR.merge {more : List (Key × D)} {rs : List (Key × V)} (r : KR G γ H more rs) : ∀ {l : List (Key × D)} {m : List (Key × V)}, KR G γ H l m → KR G γ H (mergeD l more) (mergeK m rs) := by
  induction r with
  | nil => intro l m q; exact q
  | @cons p q ps qs h t ih =>
    intro l m z
    have e := z.put p.1 h.2
    rw [show putK m p.1 q.2 = putK m q.1 q.2 by rw [h.1]] at e
    exact ih e
theorem KR.ext {γ' : Gh} {H' : Hp} (e : Ext0 γ H γ' H') {l : List (Key × D)} {m : List (Key × V)} (r : KR G γ H l m) : KR G γ' H' l m := Paired.mapP r fun _ _ z => ⟨z.1, VR.ext0 e _ _ z.2⟩
theorem KR.dk {l : List (Key × D)} {m : List (Key × V)} (r : KR G γ H l m) : DK false (l.map fun p => kD p.1) (m.map (·.2)) (.dK m) ∧ VRs G γ H (l.map (·.2)) (m.map (·.2)) := by
  induction r with
  | nil => exact ⟨.inl ⟨rfl, [], rfl, rfl, rfl⟩, VRs.nil⟩
  | @cons p q ps qs h t ih =>
    obtain ⟨⟨_, kvs, e1, e2, e3⟩ | ⟨z, _⟩, r2⟩ := ih
    · cases e1
      refine ⟨.inl ⟨rfl, _, rfl, ?_, rfl⟩, VRs.cons h.2 r2⟩
      rw [List.map_cons, List.map_cons, h.1, e2]
    · cases z
end
/-- pairs, from the left -/
def sPairs : List ((Ev → AH → Res D) × (Ev → AH → Res D)) → Ev → AH → Res (List (D × D))
  | [], _, A => .ok [] A
  | p :: r, env, A => (p.1 env A).bind fun k A1 => (p.2 env A1).bind fun d A2 => (sPairs r env A2).bind fun ps A3 => .ok ((k, d) :: ps) A3
def mkD (ps : List (D × D)) (A : AH) : Res D := match keysOf ps with
  | some l => .ok (.dct false ((mergeD [] l).map fun p => kD p.1) ((mergeD [] l).map (·.2))) A
  | none => .stuck
/-- {k: v, ..} -/
def sDct (fs : List ((Ev → AH → Res D) × (Ev → AH → Res D))) : Ev → AH → Res D := fun env A => (sPairs fs env A).bind mkD
abbrev trs (G : Gc) (W : WX) (fs : List ((Ev → AH → Res D) × (Ev → AH → Res D))) : List (TE × TE) := fs.map fun p => (tE G W p.1, tE G W p.2)
structure JPs (X : Cx) (G : Gc) (W : WX) (pos : Pos) (ks : List (Option Expr)) (vs : List Expr) (fs : List ((Ev → AH → Res D) × (Ev → AH → Res D))) : Prop where
  run : PPs X pos ks vs (trs G W fs)
  len : ks.length = fs.length
section
variable {X : Cx} {G : Gc} {W : WX} {k : Nat}
theorem jps_nil {pos : Pos} : JPs X G W pos [] [] [] := ⟨pps_nil, rfl⟩
theorem jps_cons {pos : Pos} {ke ve : Expr} {ks : List (Option Expr)} {vs : List Expr} {fk fv : Ev → AH → Res D} {fs : List ((Ev → AH → Res D) × (Ev → AH → Res D))} (hk : JE X G W ke fk) (hv : JE X G W ve fv) (hr : JPs X G W pos ks vs fs) : JPs X G W pos (some ke :: ks) (ve :: vs) ((fk, fv) :: fs) :=
  ⟨pps_cons hk.run hv.run hr.run, by rw [List.length_cons, List.length_cons, hr.len]⟩
abbrev PVs (G : Gc) (γ : Gh) (H : Hp) : List (D × D) → List (V × V) → Prop := Paired fun p q => VR G γ H p.1 q.1 ∧ VR G γ H p.2 q.2
theorem pairs_run : ∀ (fs : List ((Ev → AH → Res D) × (Ev → AH → Res D))) (σ : L2.St) (H : Hp) (γ : Gh) (A : AH) (env : Ev) (Q : List (V × V) → Hp → Prop), St3 G γ A env H σ →
    Post G γ H (sPairs fs env A) (fun γ' _ H' ps => ∀ vps, PVs G γ' H' ps vps → Q vps H') (fun c a H' => W c a σ H') → tPairs (trs G W fs) σ H Q
  | [], σ, H, γ, A, env, Q, S, h => h γ H (Ext.refl _ _) S.rel [] .nil
  | p :: r, σ, H, γ, A, env, Q, S, h => by
    refine ⟨γ, A, env, S, Post.bind h fun x A1 γ1 H1 e1 R1 h1 v r1 => ?_⟩
    refine ⟨γ1, A1, env, S.to e1 R1, Post.bind h1 fun y A2 γ2 H2 e2 R2 h2 u r2 => ?_⟩
    refine pairs_run r σ H2 γ2 A2 env _ ((S.to e1 R1).to e2 R2) (Post.bind h2 fun ps A3 γ3 H3 e3 R3 h3 vps r3 => ?_)
    exact h3 γ3 H3 (Ext.refl _ _) R3 _ (.cons ⟨VR.ext (e2.trans e3) _ _ r1, VR.ext e3 _ _ r2⟩ r3)
theorem keys_vals {γ : Gh} {H : Hp} : ∀ {ps : List (D × D)} {vps : List (V × V)} {l : List (Key × D)}, PVs G γ H ps vps → keysOf ps = some l → ∃ kvs : List (Key × V), vps = kvs.map (fun kv => (kV kv.1, kv.2)) ∧ KR G γ H l kvs ∧ l.length = ps.length := by
  intro ps vps l r
  induction r generalizing l with
  | nil => intro e; cases e; exact ⟨[], rfl, .nil, rfl⟩
  | @cons p q ps qs h t ih =>
    intro e
    unfold keysOf at e
    split at e
    · rename_i k r' hk hr
      cases e
      obtain ⟨kvs, e1, e2, e3⟩ := ih hr
      have hp := keyOf_kD hk
      have hq : q.1 = kV k := by
        have h1 := h.1
        rw [hp] at h1
        cases k <;> (unfold kD VR at h1; exact h1)
      refine ⟨(k, q.2) :: kvs, ?_, .cons ⟨rfl, h.2⟩ e2, by rw [List.length_cons, List.length_cons, e3]⟩
      rw [List.map_cons, ← e1]
      show q :: qs = (kV k, q.2) :: qs
      rw [← hq]
    · cases e
theorem sPairs_len : ∀ (fs : List ((Ev → AH → Res D) × (Ev → AH → Res D))) {env : Ev} {A A' : AH} {ps : List (D × D)}, sPairs fs env A = .ok ps A' → ps.length = fs.length
  | [], env, A, A', ps, h => by cases h; rfl
  | p :: r, env, A, A', ps, h => by
    unfold sPairs at h
    cases q1 : p.1 env A with
    | ok x A1 =>
      rw [q1] at h
      simp only [Res.bind] at h
      cases q2 : p.2 env A1 with
      | ok y A2 =>
        rw [q2] at h
        simp only at h
        cases q3 : sPairs r env A2 with
        | ok z A3 => rw [q3] at h; cases h; rw [List.length_cons, List.length_cons, sPairs_len r q3]
        | ex x A => rw [q3] at h; cases h
        | stuck => rw [q3] at h; cases h
      | ex x A => rw [q2] at h; cases h
      | stuck => rw [q2] at h; cases h
    | ex x A => rw [q1] at h; cases h
    | stuck => rw [q1] at h; cases h
/-- {} that stands still -/
theorem je_dct0 {pos : Pos} : JE X G W (.Dict [] [] pos) (sDct []) := by
  refine ⟨PE.imp (pe_lock pe_dnewK) fun σ H Q h => ?_⟩
  obtain ⟨γ, A, env, S, h⟩ := h
  refine fun p hp => ⟨p, _, rfl, upd_same, trivial, fun od => ?_⟩
  rw [upd_upd]
  refine h γ _ (Ext.laid hp) (S.rel.laid hp) _ ?_
  unfold VR
  exact ⟨p, od, .dK [], [], rfl, S.rel.o_none hp, upd_same, .inl ⟨rfl, [], rfl, rfl, rfl⟩, VRs.nil⟩
/-- {k: v, ..} that stands still -/
theorem je_dct {pos : Pos} {ks : List (Option Expr)} {vs : List Expr} {fs : List ((Ev → AH → Res D) × (Ev → AH → Res D))} (hp : JPs X G W pos ks vs fs) (hall : ks.all (·.isSome) = true) (hl : ks.length = vs.length) (h0 : ks ≠ []) (h15 : ks.length ≤ 15) :
    JE X G W (.Dict ks vs pos) (sDct fs) := by
  refine ⟨PE.imp (pe_lock (pe_disp hp.run hall hl h0 h15)) fun σ H Q h => ?_⟩
  obtain ⟨γ, A, env, S, h⟩ := h
  intro p hpn
  have E : Ext γ H (γ.hide p) (upd H p (.dK [])) := Ext.hide hpn
  have Sh : St3 G (γ.hide p) A env (upd H p (.dK [])) σ := S.to E (S.rel.hide hpn)
  have h1 := Post.split E h
  refine pairs_run fs σ _ _ A env _ Sh ?_
  have keep : ∀ {ps A'}, sPairs fs env A = .ok ps A' → ps.length = fs.length := fun q => sPairs_len fs q
  generalize sPairs fs env A = r at h1 keep
  cases r with
  | stuck => exact h1
  | ex x A' => exact h1
  | ok ps A' =>
    intro γ3 H3 e3 R3 vps rv
    have hb : Post G γ H (mkD ps A') (fun γ' _ H' d => ∀ v, VR G γ' H' d v → Q v H') (fun c a H' => W c a σ H') := h1 γ3 H3 e3 R3
    obtain ⟨k3, n3⟩ := e3.hid p _ upd_same Gh.hide_same
    unfold mkD at hb
    split at hb
    · rename_i l hl2
      obtain ⟨kvs, ek, kr, ln⟩ := keys_vals rv hl2
      refine ⟨k3, kvs, ek, ?_, _, _, rfl, upd_same, trivial, fun od => ?_⟩
      · have h1 := keep rfl
        have h2 := Paired.length kr
        have h3 := hp.len
        omega
      · rw [upd_upd]
        have R4 : Rel G (γ3.show p) A' (upd H3 p (.frz od (.dK (mergeK [] kvs)))) := (R3.grow (ob := .frz od (.dK (mergeK [] kvs))) n3 k3).show n3
        have E34 : Ext0 γ3 H3 (γ3.show p) (upd H3 p (.frz od (.dK (mergeK [] kvs)))) := (Ext0.grow n3 k3).trans (Ext0.show n3)
        have nD : ∀ b o, H b = some o → b ≠ p := fun b o e => ne_of_none e hpn
        have e13 : Ext γ H γ3 H3 := E.trans e3
        have E4 : Ext γ H (γ3.show p) (upd H3 p (.frz od (.dK (mergeK [] kvs)))) :=
          ⟨⟨e13.ρ, fun b o q n t => ⟨by rw [upd_ne (nD b o q)]; exact (e13.keep b o q n t).1, by rw [Gh.show_ne (nD b o q)]; exact (e13.keep b o q n t).2⟩, fun b o u q => by rw [upd_ne (nD b _ q)]; exact e13.frz _ _ _ q⟩, fun b o q n => ⟨by rw [upd_ne (nD b o q)]; exact (e13.hid b o q n).1, by rw [Gh.show_ne (nD b o q)]; exact (e13.hid b o q n).2⟩⟩
        refine hb _ _ E4 R4 _ ?_
        have km := (kr.ext E34).merge (l := []) (m := []) .nil
        obtain ⟨d1, d2⟩ := km.dk
        unfold VR
        exact ⟨p, od, _, _, rfl, Gh.show_same, upd_same, d1, d2⟩
    · exact hb.elim
end
end F3
namespace F3
open PySem PySem.Spec
open PyProof.Rows L2
/-! ### what a dict holds -/
def same1 : D → D → Bool
  | .int i, .int j => decide (i = j)
  | .str x, .str y => decide (x = y)
  | _, _ => false
def sameL : List D → List D → Bool
  | [], [] => true
  | a :: as, b :: bs => same1 a b && sameL as bs
  | _, _ => false
def sameK : D → D → Bool
  | .tup a, .tup b => sameL a b
  | a, b => same1 a b
def key1 : D → Bool
  | .int _ => true
  | .str _ => true
  | _ => false
def keyT (t : Bool) : D → Bool
  | .tup ds => t && ds.all key1
  | d => !t && key1 d
def lookD : List D → List D → D → Option D
  | k :: ks, d :: ds, x => if sameK k x = true then some d else lookD ks ds x
  | _, _, _ => none
def dctA (A : AH) : D → Option (Bool × List D × List D)
  | .dct t ks ds => some (t, ks, ds)
  | .ref i => match A[i]? with
    | some (.dct t ks ds) => some (t, ks, ds)
    | some (.fdct t ks ds) => some (t, ks, ds)
    | _ => none
  | _ => none
section
variable {G : Gc} {γ : Gh} {H : Hp} {A : AH}
theorem dctA_at {x : D} {v : V} {q : Bool × List D × List D} (R : Rel G γ A H) (r : VR G γ H x v) (e : dctA A x = some q) : ∃ a u vs, v = .ref a ∧ Rd H a u ∧ DK q.1 q.2.1 vs u ∧ VRs G γ H q.2.2 vs := by
  unfold dctA at e
  split at e
  · cases e
    unfold VR at r
    obtain ⟨a, o, u, vs, e1, _, e3, e4, e5⟩ := r
    exact ⟨a, u, vs, e1, .inr ⟨o, e3⟩, e4, e5⟩
  · rename_i i
    unfold VR at r
    obtain ⟨a, e1, e2⟩ := r
    split at e
    · rename_i t ks ds q0
      cases e
      obtain ⟨a', p1, p2, u, vs, p3, p4, p5⟩ := R.at_ i _ q0
      rw [e2] at p1; cases p1
      exact ⟨a, u, vs, e1, .inl p3, p4, p5⟩
    · rename_i t ks ds q0
      cases e
      obtain ⟨a', p1, p2, o, u, vs, p3, p4, p5⟩ := R.at_ i _ q0
      rw [e2] at p1; cases p1
      exact ⟨a, u, vs, e1, .inr ⟨o, p3⟩, p4, p5⟩
    · cases e
  · cases e
theorem same1_kD (a b : Key) : same1 (kD a) (kD b) = decide (a = b) := by
  cases a <;> cases b <;> simp [kD, same1]
theorem sameL_kD : ∀ a b : List Key, sameL (a.map kD) (b.map kD) = decide (a = b)
  | [], [] => by simp [sameL]
  | [], b :: bs => by simp [sameL]
  | a :: as, [] => by simp [sameL]
  | a :: as, b :: bs => by
    show (same1 (kD a) (kD b) && sameL (as.map kD) (bs.map kD)) = _
    rw [same1_kD, sameL_kD as bs]
    by_cases h : a = b <;> by_cases h' : as = bs <;> simp [h, h']
theorem sameK_kD (a b : Key) : sameK (kD a) (kD b) = decide (a = b) := by
  have : sameK (kD a) (kD b) = same1 (kD a) (kD b) := by cases a <;> rfl
  rw [this, same1_kD]
theorem key1_at {d : D} {v : V} (h : key1 d = true) (r : VR G γ H d v) : ∃ k, d = kD k ∧ v = kV k := by
  cases d with
  | int i => unfold VR at r; exact ⟨.inl i, rfl, r⟩
  | str x => unfold VR at r; exact ⟨.inr x, rfl, r⟩
  | _ => cases h
theorem keys_at : ∀ {ds : List D} {vs : List V}, ds.all key1 = true → VRs G γ H ds vs → ∃ ks : List Key, ds = ks.map kD ∧ vs = ks.map kV
  | [], vs, _, r => by unfold VRs at r; exact ⟨[], rfl, r⟩
  | d :: ds, vs, h, r => by
    unfold VRs at r
    obtain ⟨v, r', rfl, h1, h2⟩ := r
    rw [List.all_cons, Bool.and_eq_true] at h
    obtain ⟨k, e1, e2⟩ := key1_at h.1 h1
    obtain ⟨ks, e3, e4⟩ := keys_at h.2 h2
    exact ⟨k :: ks, by rw [e1, e3]; rfl, by rw [e2, e4]; rfl⟩
theorem look_val {κ : Type} [DecidableEq κ] (f : κ → D) (hf : ∀ a b, sameK (f a) (f b) = decide (a = b)) (k : κ) : ∀ (kvs : List (κ × V)) (ds : List D), VRs G γ H ds (kvs.map (·.2)) →
    match lookD (kvs.map fun p => f p.1) ds (f k), valV kvs k with
    | none, none => True
    | some d, some v => VR G γ H d v
    | _, _ => False
  | [], ds, _ => by cases ds <;> exact True.intro
  | p :: kvs, ds, r => by
    rw [List.map_cons] at r
    cases ds with
    | nil => unfold VRs at r; cases r
    | cons d ds =>
      unfold VRs at r
      obtain ⟨v, r', e, h1, h2⟩ := r
      cases e
      rw [List.map_cons]
      show match (if sameK (f p.1) (f k) = true then some d else lookD (kvs.map fun p => f p.1) ds (f k)), valV (p :: kvs) k with
        | none, none => True
        | some d, some v => VR G γ H d v
        | _, _ => False
      rw [hf]
      by_cases z : p.1 = k
      · rw [valV_pos z, if_pos (decide_eq_true z)]; exact h1
      · rw [valV_neg z, if_neg (by simpa using z)]; exact look_val f hf k kvs ds h2
/-- the key looked for, and what is held -/
theorem dget_of {t : Bool} {ks ds : List D} {vs : List V} {a : Addr} {u : HO} {x : D} {y : V} (h1 : Rd H a u) (h2 : DK t ks vs u) (h3 : VRs G γ H ds vs) (h4 : keyT t x = true) (h5 : VR G γ H x y) : ∃ o, DGet H a y o ∧ match lookD ks ds x, o with
    | none, none => True
    | some d, some v => VR G γ H d v
    | _, _ => False := by
  rcases h2 with ⟨rfl, kvs, rfl, rfl, rfl⟩ | ⟨rfl, kvs, rfl, rfl, rfl⟩
  · have hk : key1 x = true := by cases x <;> first | exact h4 | cases h4
    obtain ⟨k, rfl, rfl⟩ := key1_at hk h5
    exact ⟨_, .inl ⟨kvs, k, h1, rfl, rfl⟩, look_val kD sameK_kD k kvs ds h3⟩
  · cases x with
    | tup xs =>
      have hk : xs.all key1 = true := h4
      unfold VR at h5
      obtain ⟨b, ys, rfl, f, r⟩ := h5
      obtain ⟨k, rfl, rfl⟩ := keys_at hk r
      exact ⟨_, .inr ⟨kvs, k, b, h1, rfl, f.1, rfl⟩, look_val (fun k : List Key => D.tup (k.map kD)) (fun a b => sameL_kD a b) k kvs ds h3⟩
    | _ => cases h4
theorem isD_of {t : Bool} {ks : List D} {vs : List V} {a : Addr} {u : HO} (h1 : Rd H a u) (h2 : DK t ks vs u) : IsD H a := by
  rcases h2 with ⟨_, kvs, rfl, _, _⟩ | ⟨_, kvs, rfl, _, _⟩
  · exact .inl ⟨kvs, h1⟩
  · exact .inr ⟨kvs, h1⟩
end
/-! d.get(k), d.get(k, x) -/
def gDGet (x y : D) (z : D) (A : AH) : Res D := match dctA A x with
  | some q => if keyT q.1 y = true then .ok ((lookD q.2.1 q.2.2 y).getD z) A else .stuck
  | none => .stuck
def isDct (x : D) (A : AH) : Bool := (dctA A x).isSome
def sGet1 (fo fk : Ev → AH → Res D) : Ev → AH → Res D := fun env A => (fo env A).bind fun x A1 => if isDct x A1 = true then (fk env A1).bind fun y A2 => gDGet x y .non A2 else .stuck
def sGet2 (fo fk fx : Ev → AH → Res D) : Ev → AH → Res D := fun env A => (fo env A).bind fun x A1 => if isDct x A1 = true then (fk env A1).bind fun y A2 => (fx env A2).bind fun z A3 => gDGet x y z A3 else .stuck
section
variable {X : Cx} {G : Gc} {W : WX} {k : Nat}
theorem dget_post {γ : Gh} {A : AH} {H : Hp} {x y z : D} {v u w : V} {Q : VK} {Wx : WXe} (R : Rel G γ A H) (r1 : VR G γ H x v) (r2 : VR G γ H y u) (r3 : VR G γ H z w)
    (h : Post G γ H (gDGet x y z A) (fun γ' _ H' d => ∀ v, VR G γ' H' d v → Q v H') Wx) : ∃ a o, v = .ref a ∧ DGet H a u o ∧ Q (o.getD w) H := by
  unfold gDGet at h
  split at h
  · rename_i q e
    split at h
    · rename_i hk
      obtain ⟨a, ob, vs, e1, e2, e3, e4⟩ := dctA_at R r1 e
      obtain ⟨o, g, l⟩ := dget_of e2 e3 e4 hk r2
      refine ⟨a, o, e1, g, h γ H (Ext.refl _ _) R _ ?_⟩
      cases hl : lookD q.2.1 q.2.2 y with
      | none =>
        rw [hl] at l
        cases o with
        | none => exact r3
        | some v' => exact l.elim
      | some d =>
        rw [hl] at l
        cases o with
        | none => exact l.elim
        | some v' => exact l
    · exact h.elim
  · exact h.elim
theorem isDct_at {γ : Gh} {A : AH} {H : Hp} {x : D} {v : V} (R : Rel G γ A H) (r1 : VR G γ H x v) (h : isDct x A = true) : ∃ a, v = .ref a ∧ IsD H a := by
  unfold isDct at h
  cases e : dctA A x with
  | none => rw [e] at h; cases h
  | some q =>
    obtain ⟨a, ob, vs, e1, e2, e3, e4⟩ := dctA_at R r1 e
    exact ⟨a, e1, isD_of e2 e3⟩
theorem je_dget1 (o : XO X G W k) {d e : Expr} {apos cpos : Pos} {fo fk : Ev → AH → Res D} (ho : JE X G W d fo) (hk : JE X G W e fk) (m : M1 X d "get" apos e cpos := by exact ⟨rfl, rfl, rfl, rfl⟩) : JE X G W (.Call (.Attribute d "get" apos) [e] [] cpos) (sGet1 fo fk) := by
  refine ⟨PE.imp (pe_dget1 (by have := o.u65; omega) ho.run hk.run m) fun σ H Q h => ?_⟩
  obtain ⟨γ, A, env, S, h⟩ := h
  refine ⟨γ, A, env, S, Post.bind h fun x A1 γ1 H1 e1 R1 h1 v r1 => ?_⟩
  split at h1
  · rename_i hd
    obtain ⟨a, ea, da⟩ := isDct_at R1 r1 hd
    refine ⟨a, ea, da, γ1, A1, env, S.to e1 R1, Post.bind h1 fun y A2 γ2 H2 e2 R2 h2 u r2 => ?_⟩
    obtain ⟨a', ov, ea', g, q⟩ := dget_post R2 (VR.ext e2 _ _ r1) r2 (by unfold VR; rfl : VR G γ2 H2 .non .non) h2
    rw [ea] at ea'; cases ea'
    exact ⟨ov, g, q⟩
  · exact h1.elim
theorem je_dget2 (o : XO X G W k) {d e f : Expr} {apos cpos : Pos} {fo fk fx : Ev → AH → Res D} (ho : JE X G W d fo) (hk : JE X G W e fk) (hx : JE X G W f fx) (m : M2 X d "get" apos e f cpos := by exact ⟨rfl, rfl, rfl, rfl⟩) : JE X G W (.Call (.Attribute d "get" apos) [e, f] [] cpos) (sGet2 fo fk fx) := by
  refine ⟨PE.imp (pe_dget2 (by have := o.u65; omega) ho.run hk.run hx.run m) fun σ H Q h => ?_⟩
  obtain ⟨γ, A, env, S, h⟩ := h
  refine ⟨γ, A, env, S, Post.bind h fun x A1 γ1 H1 e1 R1 h1 v r1 => ?_⟩
  split at h1
  · rename_i hd
    obtain ⟨a, ea, da⟩ := isDct_at R1 r1 hd
    refine ⟨a, ea, da, γ1, A1, env, S.to e1 R1, Post.bind h1 fun y A2 γ2 H2 e2 R2 h2 u r2 => ?_⟩
    refine ⟨γ2, A2, env, (S.to e1 R1).to e2 R2, Post.bind h2 fun z A3 γ3 H3 e3 R3 h3 w r3 => ?_⟩
    obtain ⟨a', ov, ea', g, q⟩ := dget_post R3 (VR.ext (e2.trans e3) _ _ r1) (VR.ext e3 _ _ r2) r3 h3
    rw [ea] at ea'; cases ea'
    exact ⟨ov, g, q⟩
  · exact h1.elim
/-! in, not in -/
def gInD (x y : D) (A : AH) : Res D := match dctA A y with
  | some q => if keyT q.1 x = true then .ok (.bl (lookD q.2.1 q.2.2 x).isSome) A else .stuck
  | none => gIn x y A
def gNotInD (x y : D) (A : AH) : Res D := match dctA A y with
  | some q => if keyT q.1 x = true then .ok (.bl (!(lookD q.2.1 q.2.2 x).isSome)) A else .stuck
  | none => gNotIn x y A
def rInDct (n : Bool) : R2 := fun x y H Q => ∃ a o, y = .ref a ∧ DGet H a x o ∧ Q (.bl (n ^^ o.isSome)) H
theorem op_inDct (hu : X.A.units + 65 < cLine) : OpR X (compareOp .In) (rInDct false) := by
  rintro pins s σ H x y v u Q I rx ry ⟨a, o, rfl, g, q⟩
  rw [Bool.false_xor] at q
  obtain rfl : u = Value.ref a := ry
  exact d_in (by omega) I g rx fun s' I' => ⟨.bl o.isSome, H, I', rfl, q⟩
theorem op_notInDct (hu : X.A.units + 65 < cLine) : OpR X (compareOp .NotIn) (rInDct true) := by
  rintro pins s σ H x y v u Q I rx ry ⟨a, o, rfl, g, q⟩
  rw [Bool.true_xor] at q
  obtain rfl : u = Value.ref a := ry
  exact d_notIn (by omega) I g rx fun s' I' => ⟨.bl (!o.isSome), H, I', rfl, q⟩
theorem op_inUD (hu : X.A.units + 65 < cLine) : OpR X (compareOp .In) (fun x y H Q => rInU X.K x y H Q ∨ rInDct false x y H Q) := OpR.or (op_inU hu) (op_inDct hu)
theorem op_notInUD (hu : X.A.units + 65 < cLine) : OpR X (compareOp .NotIn) (fun x y H Q => rNotInU X.K x y H Q ∨ rInDct true x y H Q) := OpR.or (op_notInU hu) (op_notInDct hu)
theorem look_some {γ : Gh} {H : Hp} {od : Option D} {ov : Option V} (l : match od, ov with
    | none, none => True
    | some d, some v => VR G γ H d v
    | _, _ => False) : od.isSome = ov.isSome := by
  cases od <;> cases ov <;> first | rfl | exact l.elim
theorem ok_inD {K : PySem.W.Frag} (hk : G.K = K) : OkV2 G (fun x y H Q => rInU K x y H Q ∨ rInDct false x y H Q) gInD := fun γ A H a b x y Q Wx R r1 r2 h => by
  unfold gInD at h
  split at h
  · rename_i q e
    split at h
    · rename_i hy
      obtain ⟨p, ob, vs, e1, e2, e3, e4⟩ := dctA_at R r2 e
      obtain ⟨o, g, l⟩ := dget_of e2 e3 e4 hy r1
      refine .inr ⟨p, o, e1, g, ?_⟩
      rw [Bool.false_xor, ← look_some l]
      exact ok_here R (by unfold VR; rfl) h
    · exact h.elim
  · exact .inl (ok_in hk γ A H a b x y Q Wx R r1 r2 h)
theorem ok_notInD {K : PySem.W.Frag} (hk : G.K = K) : OkV2 G (fun x y H Q => rNotInU K x y H Q ∨ rInDct true x y H Q) gNotInD := fun γ A H a b x y Q Wx R r1 r2 h => by
  unfold gNotInD at h
  split at h
  · rename_i q e
    split at h
    · rename_i hy
      obtain ⟨p, ob, vs, e1, e2, e3, e4⟩ := dctA_at R r2 e
      obtain ⟨o, g, l⟩ := dget_of e2 e3 e4 hy r1
      refine .inr ⟨p, o, e1, g, ?_⟩
      rw [Bool.true_xor, ← look_some l]
      exact ok_here R (by unfold VR; rfl) h
    · exact h.elim
  · exact .inl (ok_notIn hk γ A H a b x y Q Wx R r1 r2 h)
end
end F3
namespace F3
open PySem PySem.Spec
open PyProof.Rows L2
/-! ### sorted(.., key=..) of a list or a tuple -/
section
variable {prog : Program} {w : World} {A : Around} {E : Value → Shared → Prop} {s : Shared} {l : Addr} {vs : List Value}
theorem collectT {Q : List Value → Shared → Prop} (hl : IsTup s.heap l vs.toArray) (h : Q vs { s with heap := (s.heap.push (seqObj "list" #[] 0)).update s.heap.objs.size (Obj.mapSeq (· ++ vs.toArray)) }) (hz : vs.length ≤ sizeLine) : wpAny (model prog w) A (collect (.ref l)) Q E s := by
  obtain ⟨o, ho, hc, n, hd⟩ := id hl
  have ho1 : (s.heap.push (seqObj "list" #[] 0)).get? l = some o := Heap.get?_push_of_some _ ho
  have new : (s.heap.push (seqObj "list" #[] 0)).get? s.heap.objs.size = some (seqObj "list" #[] 0) := Heap.get?_push_size _ rfl
  unfold collect
  refine wpAny_bind (wpAny_runValue (codeAny_builtin entry_proto_collect' ?_))
  show wpAny _ _ (do again (.builtin "list.__iadd__" ⟨[← newList [], .ref l], []⟩)) _ _ s
  refine wpAny_bind (wpAny_newList (wpAny_pure ⟨Code.quiet_builtin _ (by decide +kernel), codeAny_builtin entry_list_iadd' ?_⟩))
  show wpAny _ _ (Builtin.List.listExtendWith (.ref s.heap.objs.size) (.ref l) (.ref s.heap.objs.size)) _ _ { s with heap := s.heap.push (seqObj "list" #[] 0) }
  unfold Builtin.List.listExtendWith
  refine wpAny_bind (wpAny_typeOf (T := "tuple") ⟨o, ho1, hc⟩ ?_)
  rw [if_pos (by
    have ht : (Value.type "tuple" == Value.type "tuple") = true := by rfl
    rw [ht]; simp)]
  refine wpAny_bind (listItems_at ho1 hd (wpAny_bind (listItems_at (xs := #[]) (n := 0) new rfl ?_)))
  rw [if_neg (by simp)]
  have hz1 : (#[] ++ vs.toArray : Array Value).size ≤ sizeLine + 1 := by
    simp only [Array.size_append, List.size_toArray, List.length_nil]; omega
  refine wpAny_bind (listUpdate_at (xs := #[]) (n := 0) new rfl (wpAny_pure ?_) (Nat.zero_le _) hz1)
  show wpAny (model prog w) A (do
      let o ← load s.heap.objs.size
      match o.data with
      | .seq xs _ => pure xs.toList
      | _ => unsupported "internal:collect") Q E _
  refine wpAny_bind (wpAny_load (get?_update_seq new _) ?_)
  show wpAny _ _ (pure ((#[] : Array Value) ++ vs.toArray).toList) Q E _
  have e : ((#[] : Array Value) ++ vs.toArray).toList = vs := by simp
  rw [e]
  exact wpAny_pure h
/-- where sorted(l, ..) is list.sort(..) on a new list of l's items -/
def Sorts (prog : Program) (w : World) (A : Around) (s : Shared) (l : Addr) (vs : List Value) : Prop :=
  ∀ (kw : List (Str × Value)) (Q : Value → Shared → Prop) (E : Value → Shared → Prop), argsOk "sorted" ⟨[.ref l], kw⟩ → (∀ x, argsOk "list.sort" ⟨[.ref x], kw⟩) →
    (∀ E' : Value → Shared → Prop, wpAny (model prog w) A.in1.in1 (Builtin.«list.sort» ⟨[.ref (s.heap.objs.size + 1)], kw⟩) (fun f s' => f = .done (.ret .none) ∧ Q (.ref (s.heap.objs.size + 1)) s') E' { s with heap := PySem.W.copyHeap s.heap vs }) →
    wpAny (model prog w) A (call (.builtin "sorted") [.ref l] kw) Q E s
theorem sorts_list (hl : s.heap.IsList l vs.toArray) (hz : vs.length ≤ sizeLine) : Sorts prog w A s l vs := fun kw Q E a1 a2 body => PySem.W.sorted_of_sort hl hz a1 a2 body
theorem sorts_tup (hl : IsTup s.heap l vs.toArray) (hz : vs.length ≤ sizeLine) : Sorts prog w A s l vs := fun kw Q E a1 a2 body => by
  refine call_function_entry_kw kind_sorted plain_sorted entry_sorted a1 ?_
  unfold Builtin.«sorted»
  refine wpAny_bind (m := checkCount "sorted" 1 1 _) (wpAny_pure (wpAny_bind (collectT hl (wpAny_bind (wpAny_newList ?_ hz)) hz)))
  have size1 : ((s.heap.push (seqObj "list" #[] 0)).update s.heap.objs.size (Obj.mapSeq (· ++ vs.toArray))).objs.size = s.heap.objs.size + 1 := by
    rw [Heap.size_update, size_push']
  show wpAny _ _ _ _ _ { s with heap := PySem.W.copyHeap s.heap vs }
  rw [size1]
  refine wpAny_bind (wpAny_holding (wpAny_call_entry_kw slot_list_sort ⟨_, PySem.W.copyHeap_at s.heap vs, rfl⟩ entry_list_sort ?_ (a2 _)))
  exact wpAny_mono (body _) (fun f s' ⟨e, hq⟩ => by subst e; exact ⟨_, rfl, wpAny_pure ⟨_, rfl, hq⟩⟩) fun _ _ e => e
/-- sorted(l, key=f) -/
theorem sorted_key {β : Type} {R : Value → β → Prop} {f : Value} {bs : List β} {Q : Value → Shared → Prop} (k : β → PyData) (src : Sorts prog w A s l vs) (e : PySem.W.EachIs R vs bs) (hal : PySem.W.AllAlike (bs.map k)) (hk : PySem.W.Sortable (bs.map k)) (hz : bs.length ≤ sizeLine)
    (hu : ∀ x, x ∈ bs → A.units + 2 + (k x).depth < cLine) (ht : ∀ a, Builtin.«list.sort» ⟨[.ref a], [(Str.ofString "key", f)]⟩ = PyProof.Rows.ksk_tree a f false)
    (turn : ∀ (v : Value) (x : β), R v x → x ∈ bs → ∀ (h : Heap) (tk : Nat), (∀ b o, s.heap.get? b = some o → h.get? b = some o) → wpAny (model prog w) A.in1.in1 (call f [v]) (PySem.W.KeyPure (k x) { s with heap := h, toks := tk }) (fun _ _ => False) { s with heap := h, toks := tk })
    (h : ∀ out c h' tk, (∀ b o, s.heap.get? b = some o → h'.get? b = some o) → h'.get? (s.heap.objs.size + 1) = some (seqObj "list" (List.toArray out) c) → out.length = bs.length → PySem.W.EachIs R out (bs.mergeSort (PySem.W.dataLe false k)) → Q (.ref (s.heap.objs.size + 1)) { s with heap := h', toks := tk }) :
    wpAny (model prog w) A (call (.builtin "sorted") [.ref l] [(Str.ofString "key", f)]) Q E s := by
  have old : ∀ {g : Heap}, PySem.W.KeepsBut (s.heap.objs.size + 1) (PySem.W.copyHeap s.heap vs) g → ∀ b o, s.heap.get? b = some o → g.get? b = some o := fun kp b o q =>
    kp b o (Nat.ne_of_lt (Nat.lt_succ_of_lt (Heap.lt_size q))) (PySem.W.copyHeap_old q)
  have len : (bs.map k).length = vs.length := by rw [List.length_map]; exact e.length.symm
  refine src _ _ _ (ksk_s1 _ _) (fun _ => ksk_l1 _ _) fun E' => ?_
  rw [ht]
  refine PySem.W.keyH_tree (kz := bs.map k) (s := { s with heap := PySem.W.copyHeap s.heap vs }) (PySem.W.copyHeap_at s.heap vs) len (by rw [e.length]; exact hz) hal hk (fun d hd => ?_)
    (PySem.W.keyH_turns (s := { s with heap := PySem.W.copyHeap s.heap vs }) e fun v x hR hx h tk kp => turn v x hR hx h tk (old kp)) fun h' tk out c kp hD ko => ⟨rfl, h out c h' tk (old kp) hD ((ko.length len).trans e.length) (PySem.W.keyedOut_each k ko e)⟩
  obtain ⟨x, hx, rfl⟩ := List.mem_map.mp hd
  exact hu x hx
end
/-! a name, as it is -/
theorem name_pure {X : Cx} {pins : List (Addr × Obj)} {σ : L2.St} {H : Hp} {s : Shared} {i : Nat} {x : Str} {v : V} (p : Pos) (I : Inv X pins σ H s) (hN : X.N[i]? = some x) (e : σ[i]? = some (some v)) (hv : Vis X.env.scope x) (hd : (x == ("__debug__" : Str)) = false) (hcd : (x == ("__classdict__" : Str)) = false) :
    ∃ u, L2.RelV v u ∧ ∀ (A : Around) (Q E : Value → Shared → Prop), Q u s → wpAny (model X.prog X.w) A (eval (.Name x p) X.env) Q E s := by
  obtain ⟨m, hn, hl⟩ := I.loc
  obtain ⟨u, r, l⟩ := hl i x v hN e hv
  refine ⟨u, r, fun A Q E q => ?_⟩
  rcases l with ⟨hk, hm⟩ | ⟨hk | hk, c, hc, hcell⟩
  · exact wpAny_Name (wpAny_loadName_local I.ok.kind hk hn hm q) hd
  · exact wpAny_Name (wpAny_loadName_cell I.ok.kind hk hc hcell q) hd
  · exact wpAny_Name (wpAny_loadName_free I.ok.kind hk hc hcell q hcd) hd
theorem readsAll_two {h : Heap} {us : List Value} {a b : Int} {as : List Addr} (q : ReadsAll h us [.int a, .int b] as) : as = [] := by
  cases q with
  | cons r1 r2 =>
    cases r1
    cases r2 with
    | cons r3 r4 =>
      cases r3
      cases r4
      rfl
theorem reads_two {h : Heap} {v : Value} {a b : Int} {as : List Addr} (r : Reads h v (.tuple [.int a, .int b]) as) : as = [] := by
  cases r with
  | tuple _ _ _ q => exact readsAll_two q
end F3
namespace F3
open PySem PySem.Spec
open PyProof.Rows L2
/-! ### key=lambda i: (v[i], i) -/
abbrev keyBody (xp xi : Str) (p1 p2 p3 p4 p5 : Pos) (kk : Nat) : Expr := .Tuple [.Subscript (.Name xp p1) (.Name xi p2) p3, .Name xi p4] kk p5
section
variable {X : Cx} {pins : List (Addr × Obj)} {σ : L2.St} {H : Hp} {s : Shared}
theorem key_pure {params : Arguments} {scope : Scope} {xp xi : Str} {jp ji : Nat} {p1 p2 p3 p4 p5 : Pos} {kk : Nat} {f c' a b : Addr} {doc pm ctv : Value} {xs : List V} {i p r : Int} {t : Tok}
    (I : Inv X pins σ H s) (hr : Room 3 X.A) (L : LamT X.env.scope scope [xi]) (hN : X.N.Nodup) (hjp : X.N[jp]? = some xp) (hji : X.N[ji]? = some xi) (hfree : scope.names.lookup xp = some .free) (hne : jp ≠ ji) (hσ : σ[jp]? = some (some (.ref a)))
    (hf : s.heap.get? f = some (lamObj (X.env.qual ++ "<lambda>") params (keyBody xp xi p1 p2 p3 p4 p5 kk) scope (cloFrom X.env.cells scope.names []) .none doc pm c' ctv)) (hc : H c' = some (LamX.CodeO c' (X.env.qual ++ "<lambda>")))
    (hb : ∀ u : Value, bindArgs (PySem.W.kdv_fn "<lambda>" (X.env.qual ++ "<lambda>") params (.expr (keyBody xp xi p1 p2 p3 p4 p5 kk)) scope (cloFrom X.env.cells scope.names []) .none doc pm (.ref c') ctv) ⟨[u], []⟩ = pure [(xi, u)])
    (hl : SqL X.K H a xs) (h0 : 0 ≤ i) (hx : xs[i.toNat]? = some (.ref b)) (hd : Dp X.K H (.ref b) (.tuple [.int p, .int r]))
    (d1 : (xp == ("__debug__" : Str)) = false) (d2 : (xp == ("__classdict__" : Str)) = false) (d3 : (xi == ("__debug__" : Str)) = false) (d4 : (xi == ("__classdict__" : Str)) = false) :
    wpAny (model X.prog X.w) X.A.in1.in1 (call (.ref f) [.int i t]) (PySem.W.KeyPure (.tuple [.tuple [.int p, .int r], .int i]) s) (fun _ _ => False) s := by
  obtain ⟨⟨oc, cvs, t0, hoc, hdc, hvc⟩, _, _⟩ := I.hok c' _ hc
  have e0 : Env0 X.prog X.w X.K X.mg X.base X.A.in1.in1 X.stack s H := ⟨I.ok.frames, I.ok.mod, I.bs, Nat.le_trans I.ok.bsz I.sz, I.stack, I.stkFree, I.hok, I.bare⟩
  have nolim : s.heap.NoLimit := e0.mod.nolimit.keeps fun b o e => (e0.bs b o e).1
  have hlen : ji < σ.length := by
    rw [I.len]
    exact (List.getElem?_eq_some_iff.mp hji).1
  have b1 : BindsTo s (PySem.W.kdv_fn "<lambda>" (X.env.qual ++ "<lambda>") params (.expr (keyBody xp xi p1 p2 p3 p4 p5 kk)) scope (cloFrom X.env.cells scope.names []) .none doc pm (.ref c') ctv) ⟨[.int i t], []⟩ [(xi, .int i t)] := .of_eq (hb _)
  have b2 : ∀ y ∈ [(xi, Value.int i t)], scope.names.lookup y.1 = some .local := fun y hy => by
    simp at hy
    subst hy
    exact L.par _ (by simp)
  refine wpAny_call ?_
  refine PySem.W.kla_callFunE (by have := hr.dp; show X.A.depth < _; omega) hf rfl L.co L.gen rfl ⟨c', oc, cvs, t0, rfl, hoc, hdc, hvc⟩ ?_
  refine b1 _ _ _ _ (wpAny_newFunctionEnv (fun y hy => L.cell y hy) b2 (fun h₁ hns hsb => ⟨nolim.fresh _ hsb, ?_⟩) L.kind)
  show codeAny _ _ (.expr (keyBody xp xi p1 p2 p3 p4 p5 kk) (LamX.lamEnv X scope s.heap.objs.size f c')) _ _
  have kp : ∀ b o, s.heap.get? b = some o → h₁.get? b = some o := fun b o e => hsb.extBut b o (Nat.ne_of_lt (Heap.lt_size e)) (Heap.get?_push_of_some _ e)
  have J : Inv (LamX.lamCx X X.A.in1.in1 X.stack s H (fun _ _ _ => False) scope f c') [] (σ.set ji (some (.int i))) H { s with heap := h₁, toks := s.toks + [(xi, Value.int i t)].length } :=
    lam_startT I L e0 hr.hd (Un.kept fun _ _ e => e) hns kp (by simp) fun j y v e1 e2 e3 => set_vis (v0 := .int i) (u0 := .int i t) L hN hji I.len ⟨t, rfl⟩ e1 e2 e3
  obtain ⟨u1, r1, n1⟩ := name_pure p1 J hjp (v := .ref a) (by rw [List.getElem?_set_ne hne.symm]; exact hσ) (.inr (.inr hfree)) d1 d2
  obtain ⟨u2, r2, n2⟩ := name_pure p2 J hji (v := .int i) (List.getElem?_set_self hlen) (.inl (L.par _ (by simp))) d3 d4
  obtain ⟨u3, r3, n3⟩ := name_pure p4 J hji (v := .int i) (List.getElem?_set_self hlen) (.inl (L.par _ (by simp))) d3 d4
  obtain rfl : u1 = Value.ref a := r1
  obtain ⟨t2, rfl⟩ := r2
  obtain ⟨t3, rfl⟩ := r3
  obtain ⟨its, rv, pl, hz⟩ := J.list hl
  obtain ⟨w', ew, rw'⟩ := rv.get hx
  obtain ⟨as, rd⟩ := Dp.reads J _ _ _ hd rw'
  have hn := line63
  have hlt : i.toNat < xs.length := (List.getElem?_eq_some_iff.mp hx).1
  refine PySem.W.kla_codeExpr ?_
  refine wpAny_Tuple_spliced ?_
  refine Calls.spliced_cons (Subscript_ (n1 _ _ _ (n2 _ _ _ (item_listR pl.isList h0 (by omega) (by simpa using ew) ?_))))
  refine Calls.spliced_cons (n3 _ _ _ (Calls.spliced_nil ⟨by show 2 ≤ sizeLine; decide, ?_⟩))
  refine ⟨_, _, rfl, fun b o e => Heap.get?_push_of_some _ (kp b o e), ?_⟩
  have e1 := reads_two rd
  subst e1
  exact Reads.tuple (Heap.get?_push_size _ rfl) rfl rfl (ReadsAll.cons (as := []) (PyProof.Rows.Reads.keeps (fun b o e => Heap.get?_push_of_some _ e) rd) (ReadsAll.cons (Reads.int i t3) ReadsAll.nil))
end
def pairAt (qs : List (Int × Int)) (i : Int) : Int × Int := qs.getD i.toNat (0, 0)
def keyIx (qs : List (Int × Int)) (i : Int) : PyData := .tuple [.tuple [.int (pairAt qs i).1, .int (pairAt qs i).2], .int i]
def mkIx (qs : List (Int × Int)) (is : List Int) (A : AH) : Res D := if (is.all fun i => decide (0 ≤ i) && decide (i.toNat < qs.length)) = true then .ok (.lst ((isortLe (PySem.W.dataLe false (keyIx qs)) is).map .int)) A else .stuck
def gSortIx (x dv : D) (A : AH) : Res D := match (asM A dv).bind dpairs, (asL A x).bind dints with
  | some qs, some is => mkIx qs is A
  | _, _ => .stuck
/-- sorted(x, key=lambda i: (v[i], i)) -/
def sSortIx (jp : Nat) (fx : Ev → AH → Res D) : Ev → AH → Res D := fun env A => (fx env A).bind fun x A1 => match env[jp]? with
  | some (some dv) => gSortIx x dv A1
  | _ => .stuck
theorem vrs_ints {G : Gc} {γ : Gh} {H : Hp} : ∀ {ns : List Int} {vs : List V}, VRs G γ H (ns.map D.int) vs → vs = ns.map V.int
  | [], vs, h => by rw [List.map_nil] at h; unfold VRs at h; exact h
  | n :: ns, vs, h => by
    rw [List.map_cons] at h
    unfold VRs at h
    obtain ⟨v, r, rfl, h1, h2⟩ := h
    unfold VR at h1
    rw [h1, vrs_ints h2, List.map_cons]
theorem int_vrs {G : Gc} {γ : Gh} {H : Hp} : ∀ ns : List Int, VRs G γ H (ns.map D.int) (ns.map V.int)
  | [] => VRs.nil
  | n :: ns => VRs.cons (by unfold VR; rfl) (int_vrs ns)
abbrev IsI (u : Value) (i : Int) : Prop := ∃ t, u = .int i t
theorem each_ints : ∀ {ns : List Int} {its : List Value}, Vals (ns.map V.int) its → PySem.W.EachIs IsI its ns
  | [], _, r => by cases r; exact .nil
  | n :: ns, _, r => by
    cases r with
    | cons h t => exact .cons h (each_ints t)
theorem ints_each : ∀ {ns : List Int} {its : List Value}, PySem.W.EachIs IsI its ns → Vals (ns.map V.int) its
  | [], _, r => by cases r; exact .nil
  | n :: ns, _, r => by
    cases r with
    | cons h t => exact .cons h (ints_each t)
section
variable {X : Cx} {G : Gc} {W : WX} {k : Nat}
theorem je_sortIx (o : XO X G W (k + 3)) {c P : Addr} {params : Arguments} {scope : Scope} {lpos p pos kpos : Pos} {xp xi : Str} (jp ji : Nat) {p1 p2 p3 p4 p5 : Pos} {kk : Nat} {e : Expr} {fx : Ev → AH → Res D} (T : LamQ X G c P) (L : LamT X.env.scope scope [xi]) (hN : X.N.Nodup) (hjp : X.N[jp]? = some xp) (hji : X.N[ji]? = some xi)
    (hfree : scope.names.lookup xp = some .free) (hne : jp ≠ ji) (hdef : defaultsOf params X.env = ([], []))
    (hb : ∀ (q : Str) (cl : List (Str × Addr)) (doc pm cv ctv : Value) (u : Value), bindArgs (PySem.W.kdv_fn "<lambda>" q params (.expr (keyBody xp xi p1 p2 p3 p4 p5 kk)) scope cl .none doc pm cv ctv) ⟨[u], []⟩ = pure [(xi, u)])
    (hg : Gl X "sorted") (hm : X.mg "sorted" = none) (he : JE X G W e fx)
    (d1 : (xp == ("__debug__" : Str)) = false := by decide) (d2 : (xp == ("__classdict__" : Str)) = false := by decide) (d3 : (xi == ("__debug__" : Str)) = false := by decide) (d4 : (xi == ("__classdict__" : Str)) = false := by decide)
    (na : starEach [e] X.env = (false, eval e X.env) :: starEach [] X.env := by rfl) :
    JE X G W (.Call (.Name "sorted" p) [e] [⟨some "key", .Lambda params (keyBody xp xi p1 p2 p3 p4 p5 kk) scope lpos, kpos⟩] pos) (sSortIx jp fx) := by
  refine ⟨⟨fun pins s σ H Q I h => ?_⟩⟩
  obtain ⟨γ, A, env, S, h⟩ := h
  have u := o.room
  refine wpAny_Call_Name_kw (ld_blt I hg hm boot_sorted ?_)
  refine PyProof.Rows.callWith_kw (one_arg he.run I (R := fun v H1 => ∃ γ1 A1 d, Ext γ H γ1 H1 ∧ Rel G γ1 A1 H1 ∧ VR G γ1 H1 d v ∧ Post G γ1 H1 (match env[jp]? with
    | some (some dv) => gSortIx d dv A1
    | _ => .stuck) (fun γ' _ H' d => ∀ v, VR G γ' H' d v → Q v H') (fun c a H' => W c a σ H')) ⟨γ, A, env, S, ?_⟩ (fun v s1 x H1 I1 r1 q1 => ?_) na) (by rw [na]; rfl) (by rw [na]; rfl)
  · exact Post.bind h fun x A1 γ1 H1 e1 R1 h1 v r1 => ⟨γ1, A1, x, e1, R1, r1, h1⟩
  obtain ⟨γ1, A1, d, E1, R1, rd, h1⟩ := q1
  split at h1
  · rename_i dv hdv
    obtain ⟨vp, hvp, rvp⟩ := S.er jp dv hdv
    have rvp1 := VR.ext E1 _ _ rvp
    unfold gSortIx at h1
    split at h1
    · rename_i qs is q1 q2
      obtain ⟨ds1, m1, m2⟩ := Option.bind_eq_some_iff.mp q1
      obtain ⟨ds2, m3, m4⟩ := Option.bind_eq_some_iff.mp q2
      obtain ⟨b, ys, rfl, rys, hs⟩ := asL_at R1 rd m3
      have e1 := dpairs_map m2
      have e2 := ints_map m4
      subst e1
      subst e2
      unfold mkIx at h1
      split at h1
      · rename_i hall
        obtain rfl : v = Value.ref b := r1
        show wpAny _ _ (evalAll ((do let v ← eval _ X.env; standAt pos; pure v) :: [])) _ _ s1
        refine wpAny_evalAll_cons (wpAny_bind (PySem.W.kla_eval hdef ?_))
        rw [makeFunction_eq]
        simp only [List.zip_nil_right, List.filterMap_nil, List.isEmpty_nil, if_true, pure_bind]
        refine lam_tail I1 T.tb T.code R1 T.mem T.only (L.has I1.ok) fun f c' doc pm ctv H2 s2 I2 E2 R2 hf hfn hfr hc nc kp => ?_
        refine wpAny_bind (wpAny_standAt (wpAny_pure (wpAny_evalAll_nil ?_)))
        obtain ⟨a, xs, ea, rxs2, hl2⟩ := asM_at R2 (VR.ext E2 _ _ rvp1) m1
        subst ea
        obtain ⟨b', ys2, eb, rys2, hs2⟩ := asL_at R2 (VR.ext E2 _ _ rd) m3
        cases eb
        have e4 := vrs_ints rys2
        subst e4
        rw [o.gk] at hs2
        obtain ⟨its, rv, src⟩ : ∃ its : List Value, Vals (is.map V.int) its ∧ Sorts X.prog X.w X.A s2 b its ∧ is.length ≤ sizeLine := by
          rcases hs2 with hs2 | hs2
          · obtain ⟨its, rv, pl, hz⟩ := I2.list hs2
            exact ⟨its, rv, sorts_list pl.isList (by rw [← rv.length]; exact hz), by simpa using hz⟩
          · obtain ⟨its, rv, pl, hz⟩ := I2.tuple hs2
            exact ⟨its, rv, sorts_tup pl (by rw [← rv.length]; exact hz), by simpa using hz⟩
        obtain ⟨src, hz⟩ := src
        refine sorted_key (keyIx qs) src (each_ints rv) (PySem.W.AllAlike.of fun _ _ => by simp [keyIx, PySem.W.alike, PySem.W.alikeAll]) (PySem.W.Sortable.tuples fun _ => ⟨_, _, rfl⟩) hz (fun i _ => ?_) (fun a => ksk_t1 _ _) (fun v i ⟨t, hv⟩ hi h' tk kp' => ?_) fun out cc h' tk kp' hat hlen eo => ?_
        · have hd : (keyIx qs i).depth = 2 := by simp [keyIx, PyData.depth, PyData.depthAll]
          have := o.u65
          omega
        · subst hv
          have hi' := List.all_eq_true.mp hall i hi
          simp only [Bool.and_eq_true, decide_eq_true_eq] at hi'
          have I3 : Inv X pins σ H2 { s2 with heap := h', toks := tk } := I2.kept kp'
          have hq : (qs.map pD)[i.toNat]? = some (pD (pairAt qs i)) := by
            rw [List.getElem?_map, List.getElem?_eq_getElem hi'.2]
            unfold pairAt
            rw [List.getD_eq_getElem?_getD, List.getElem?_eq_getElem hi'.2]; rfl
          obtain ⟨w, hw, rw_⟩ := rxs2.get hq
          have dp := VR.dp (pD (pairAt qs i)) w (.tuple [.int (pairAt qs i).1, .int (pairAt qs i).2]) rw_ rfl
          have wr : ∃ bb, w = .ref bb := by
            unfold pD VR at rw_
            obtain ⟨bb, _, e, _⟩ := rw_
            exact ⟨bb, e⟩
          obtain ⟨bb, rfl⟩ := wr
          rw [o.gk] at dp
          exact key_pure I3 (u.mono (by omega)) L hN hjp hji hfree hne hvp (kp' _ _ hf) hc (hb _ _ _ _ _ _) (.inl (.inl hl2)) hi'.1 hw dp d1 d2 d3 d4
        · have hp : H2 (s2.heap.objs.size + 1) = none := I2.hok.fresh (Nat.le_succ _)
          refine ⟨.ref _, upd H2 (s2.heap.objs.size + 1) (.lst ((is.mergeSort (PySem.W.dataLe false (keyIx qs))).map V.int)), I2.laid (t' := tk) kp' (Nat.le_succ _) (show ObjOk X.prog X.w _ _ _ (.lst _) from ⟨by rw [List.length_map, List.length_mergeSort]; exact hz, out, cc, ints_each eo, hat⟩), rfl, ?_⟩
          have h2 := Post.ext E2 h1
          refine Post.new (ob := .lst ((is.mergeSort (PySem.W.dataLe false (keyIx qs))).map V.int)) R2 hp h2 _ ?_
          rw [← isort_data]
          exact VR.newL R2 hp (int_vrs _)
      · exact h1.elim
    · exact h1.elim
  · exact h1.elim
end
end F3
namespace F3
open PySem PySem.Spec
open PyProof.Rows L2
/-! ### def f(a, .., *v) -/
def runV (n p : Nat) (g : Ev → AH → SR) (ds : List D) (A : AH) : Res D := if p ≤ ds.length ∧ ds.length ≤ sizeLine then runF n (p + 1) g (ds.take p ++ [.tup (ds.drop p)]) A else .stuck
section
variable {P : Program} {w : World} {K : PySem.W.Frag} {mg : Str → Option Value} {base : Heap} {G : Gc}
theorem vrs_app {γ : Gh} {H : Hp} : ∀ {a b : List D} {vs : List V}, VRs G γ H (a ++ b) vs → ∃ v1 v2, vs = v1 ++ v2 ∧ VRs G γ H a v1 ∧ VRs G γ H b v2
  | [], b, vs, h => ⟨[], vs, rfl, VRs.nil, h⟩
  | x :: a, b, vs, h => by
    have h' : VRs G γ H (x :: (a ++ b)) vs := h
    unfold VRs at h'
    obtain ⟨v, r, rfl, h1, h2⟩ := h'
    obtain ⟨v1, v2, rfl, h3, h4⟩ := vrs_app h2
    exact ⟨v :: v1, v2, rfl, VRs.cons h1 h3, h4⟩
theorem fnV_of {x qual : Str} {st : Stmt} {f : Addr} {fd : FuncData} {N ps : List Str} {pv : Str} {k : Nat} {g : Ev → AH → SR} (F : Fun K x qual st f fd) (Sc : FnScope N (ps ++ [pv]) (defScope st)) (hK : G.K = K)
    (hb : ∀ (kV doc pm : Value) (an : Option Addr) (cdv ct : Value) (us rest : List Value), us.length = ps.length → bindArgs (PySem.W.fnOf x qual (defArgs st) (defBody st) (defScope st) .none kV doc pm an cdv ct) ⟨us ++ rest, []⟩ = (newTuple rest >>= fun t => pure (ps.zip us ++ [(pv, t)])))
    (body : ∀ (cdv : Value) (A : Around) (outer : List Env) (s : Shared) (H : Hp) (E : XK), XO (cxOf (L2.CX P w) P w K mg base N qual (defScope st) f cdv A outer s H E) G (fun c d _ H => E c d H) k →
      JB (cxOf (L2.CX P w) P w K mg base N qual (defScope st) f cdv A outer s H E) G (fun c d _ H => E c d H) (defBody st) g) :
    FnG P w K mg base G (k + 1) f (runV N.length ps.length g) := by
  intro A outer s H us vs ds γ Ah Q E hr hg e0 r R rv h
  obtain ⟨oc, od, kV, doc, pm, an, cdv, ct, osl, rfl, lk, hcd⟩ := F.ex
  unfold runV at h
  split at h
  · rename_i hl
    have eds : ds = ds.take ps.length ++ ds.drop ps.length := (List.take_append_drop _ _).symm
    have l1 : (ds.take ps.length).length = ps.length := by rw [List.length_take]; omega
    have l2 : (ds.drop ps.length).length ≤ sizeLine := by rw [List.length_drop]; omega
    rw [eds] at rv
    generalize ds.take ps.length = da at *
    generalize ds.drop ps.length = db at *
    obtain ⟨ws, rest, rfl, ra, rb⟩ := vrs_app rv
    obtain ⟨u1, u2, rfl, r1, r2⟩ := StX.vals_split r
    have hn : H s.heap.objs.size = none := e0.hok.fresh (Nat.le_refl _)
    have lw : ws.length = ps.length := by rw [← ra.length]; exact l1
    have lr : rest.length ≤ sizeLine := by rw [← rb.length]; exact l2
    have hl1 : u1.length = ps.length := by rw [← r1.length]; exact lw
    have hl2 : u2.length ≤ sizeLine := by rw [← r2.length]; exact lr
    refine StX.run_bnd lk hcd Sc hr e0 (G := fun xs H2 => ∃ p, H p = none ∧ xs = ws ++ [V.ref p] ∧ H2 = upd H p (.tup rest)) (fun A' Ex Q' hq => ?_) fun s2 H2 xs ⟨p, hp, ex, eH⟩ hr' => ?_
    · rw [hb _ _ _ _ _ _ u1 u2 hl1]
      refine wpAny_bind (wpAny_newTuple (wpAny_pure ?_) hl2)
      have new : ObjOk P w (upd H s.heap.objs.size (.tup rest)) (s.heap.push { cls := .type "tuple", data := .seq u2.toArray }) s.heap.objs.size (.tup rest) := ⟨lr, u2, r2, ⟨_, Heap.get?_push_size _ rfl, rfl, _, rfl⟩⟩
      have un := StX.un_laid (fs := frs outer) (s := s) (o := { cls := .type "tuple", data := .seq u2.toArray }) (u := .tup rest) hn
      have z := hq _ _ (ws ++ [V.ref s.heap.objs.size]) (u1 ++ [Value.ref s.heap.objs.size]) (StX.env0_laid e0 new) un rfl (fun e s' => StX.cxUp outer s H _ _ E e s' un (fun b o q => Heap.get?_push_of_some _ q) rfl) (r1.append (.cons rfl .nil))
        (by rw [List.length_append, List.length_append, lw]; rfl) ⟨_, hn, rfl, rfl⟩
      rw [List.zip_append hl1.symm] at z
      exact z
    · subst ex
      subst eH
      have o : XO (cxOf (L2.CX P w) P w K mg base N qual (defScope st) f cdv A outer s2 (upd H p (.tup rest)) E) G (fun c d _ H => E c d H) k :=
        ⟨takes_of rfl rfl rfl rfl, passes_of rfl, rfl, hr', hg, hK⟩
      have R2 := R.laid (ob := .tup rest) hp
      have E2 : Ext γ H γ (upd H p (.tup rest)) := Ext.laid hp
      have rv2 : VRs G γ (upd H p (.tup rest)) (da ++ [.tup db]) (ws ++ [V.ref p]) := VRs.append (VRs.ext E2 _ _ ra) (VRs.cons (VR.newT R hp rb) VRs.nil)
      have h2 := Post.ext E2 h
      have hNp : ps.length + 1 ≤ N.length := by
        have := congrArg List.length Sc.pre
        rw [List.length_take, List.length_append] at this
        simp at this
        omega
      have ldv : (da ++ [D.tup db]).length = ps.length + 1 := by rw [List.length_append, l1]; rfl
      unfold runF at h2
      rw [if_pos ldv] at h2
      refine ⟨_, (body cdv A outer s2 _ E o).run, γ, Ah, (da ++ [D.tup db]).map some ++ List.replicate (N.length - (ps.length + 1)) none, ⟨R2, ?_, er_start rv2 N (by rw [List.length_append, lw]; rfl)⟩, ?_⟩
      · unfold L2.start
        simp only [List.length_append, List.length_map, List.length_replicate, lw, l1, List.length_cons, List.length_nil]
      · cases q : g ((da ++ [D.tup db]).map some ++ List.replicate (N.length - (ps.length + 1)) none) Ah with
        | nx env1 A1 =>
          rw [q] at h2
          exact fun γ' H' σ' e S => Post.clean R2 h2 γ' H' .non e S.rel (by unfold VR; rfl)
        | rt d A1 =>
          rw [q] at h2
          exact fun γ' H' v e R' r' => Post.clean R2 h2 γ' H' v e R' r'
        | ex x env1 A1 =>
          rw [q] at h2
          exact fun γ' H' σ' cls ad e S xr => Post.cleanX R2 h2 γ' H' cls ad e S.rel xr
        | bk env1 A1 => rw [q] at h2; exact h2.elim
        | ct env1 A1 => rw [q] at h2; exact h2.elim
        | stuck => rw [q] at h2; exact h2.elim
  · exact h.elim
theorem bindV0 {fd : FuncData} {rest : List Value} {a : Arg} {pv : Str} (h1 : fd.params = ⟨[], [], some a, [], [], none, []⟩) (hd : fd.defaults = .none) (ha : a.arg = pv) : bindArgs fd ⟨rest, []⟩ = (newTuple rest >>= fun t => pure [(pv, t)]) := by
  subst ha
  unfold bindArgs
  simp [h1, hd, seqItems?]
  rfl
theorem bindV1 {fd : FuncData} {u : Value} {rest : List Value} {p a : Arg} {x pv : Str} (h1 : fd.params = ⟨[], [p], some a, [], [], none, []⟩) (hd : fd.defaults = .none) (hx : p.arg = x) (ha : a.arg = pv) : bindArgs fd ⟨u :: rest, []⟩ = (newTuple rest >>= fun t => pure [(x, u), (pv, t)]) := by
  subst hx
  subst ha
  unfold bindArgs
  simp [h1, hd, seqItems?]
  rfl
end
end F3
namespace F3
open PySem PySem.Spec
open PyProof.Rows L2
/-! ### name += e, name -= e -/
def bAug (i : Nat) (f : Int → Int → Int) (fe : Ev → AH → Res D) : Ev → AH → SR := fun env A => match env[i]? with
  | some (some (.int a)) => lft (fe env A) env fun d A1 => match d with
    | .int b => .nx (env.set i (some (.int (f a b)))) A1
    | _ => .stuck
  | _ => .stuck
section
variable {X : Cx} {G : Gc} {W : WX} {k : Nat}
theorem js_augI {op : Operator} {f : Int → Int → Int} (hop : PIp X op (ipI f)) {x : Str} (i : Nat) {e : Expr} {pos' pos : Pos} {fe : Ev → AH → Res D} (he : JE X G W e fe) (hN : X.N.Nodup) (hi : X.N[i]? = some x) (hx : Loc X.env.scope x) (hf : X.fn x = true ∨ X.env.scope.names.lookup x = some .local) :
    JS X G W (.AugAssign (.Name x pos') op e pos) (bAug i f fe) := by
  refine ⟨PS.imp (ps_aug hN hi hx he.run hop hf) fun E σ H h => ?_⟩
  obtain ⟨γ, A, env, S, h⟩ := h
  unfold bAug at h
  split at h
  · rename_i a ha
    obtain ⟨v, e1, r⟩ := S.er i _ ha
    unfold VR at r
    subst r
    refine ⟨_, e1, γ, A, env, S, PostS.lft S h fun d A1 γ1 H1 e R h1 w rw_ => ?_⟩
    split at h1
    · rename_i b
      unfold VR at rw_
      refine ⟨a, b, rfl, rw_, ?_⟩
      have S1 := S.to e R
      exact h1 γ1 H1 _ (Ext.refl _ _) ⟨R, by simp [S.len], S1.er.set S1.len (by unfold VR; rfl)⟩
    · exact h1.elim
  · exact h.elim
theorem js_augAdd {x : Str} (i : Nat) {e : Expr} {pos' pos : Pos} {fe : Ev → AH → Res D} (he : JE X G W e fe) (hN : X.N.Nodup) (hi : X.N[i]? = some x) (hx : Loc X.env.scope x) (hf : X.fn x = true ∨ X.env.scope.names.lookup x = some .local) :
    JS X G W (.AugAssign (.Name x pos') .Add e pos) (bAug i (fun a b => a + b) fe) := js_augI ip_add i he hN hi hx hf
theorem js_augSub {x : Str} (i : Nat) {e : Expr} {pos' pos : Pos} {fe : Ev → AH → Res D} (he : JE X G W e fe) (hN : X.N.Nodup) (hi : X.N[i]? = some x) (hx : Loc X.env.scope x) (hf : X.fn x = true ∨ X.env.scope.names.lookup x = some .local) :
    JS X G W (.AugAssign (.Name x pos') .Sub e pos) (bAug i (fun a b => a - b) fe) := js_augI ip_sub i he hN hi hx hf
/-! ### list(range(..)), tuple(range(..)) -/
structure JRg (X : Cx) (G : Gc) (W : WX) (e : Expr) (f : Ev → AH → Res (Int × Int)) : Prop where
  run : PRg X e (fun σ H Q => ∃ γ A env, St3 G γ A env H σ ∧ Post G γ H (f env A) (fun _ _ H' d => Q d.1 d.2 H') (fun c a H' => W c a σ H'))
def rg1 (f : Ev → AH → Res D) : Ev → AH → Res (Int × Int) := fun env A => (f env A).bind fun d A1 => match d with
  | .int n => .ok (0, n) A1
  | _ => .stuck
def rg2 (f g : Ev → AH → Res D) : Ev → AH → Res (Int × Int) := fun env A => (f env A).bind fun d A1 => (g env A1).bind fun e A2 => match d, e with
  | .int m, .int n => .ok (m, n) A2
  | _, _ => .stuck
theorem PRg.imp {e : Expr} {t t' : L2.St → Hp → (Int → Int → Hp → Prop) → Prop} (h : PRg X e t) (q : ∀ σ H Q, t' σ H Q → t σ H Q) : PRg X e t' := fun pins s σ H Q I z => h pins s σ H Q I (q σ H Q z)
theorem jrg_1 {a : Expr} {p pos : Pos} {f : Ev → AH → Res D} (hg : Gl X "range") (hm : X.mg "range" = none) (ha : JE X G W a f) (na : starEach [a] X.env = (false, eval a X.env) :: starEach [] X.env := by rfl) : JRg X G W (.Call (.Name "range" p) [a] [] pos) (rg1 f) := by
  refine ⟨PRg.imp (prg_1 hg hm ha.run na) fun σ H Q h => ?_⟩
  obtain ⟨γ, A, env, S, h⟩ := h
  refine ⟨γ, A, env, S, Post.bind h fun d A1 γ1 H1 e1 R1 h1 v r1 => ?_⟩
  split at h1
  · rename_i n
    unfold VR at r1
    exact ⟨n, r1, h1 γ1 H1 (Ext.refl _ _) R1⟩
  · exact h1.elim
theorem jrg_2 {a b : Expr} {p pos : Pos} {f g : Ev → AH → Res D} (hg : Gl X "range") (hm : X.mg "range" = none) (ha : JE X G W a f) (hb : JE X G W b g) (na : starEach [a, b] X.env = (false, eval a X.env) :: starEach [b] X.env := by rfl) (nb : starEach [b] X.env = (false, eval b X.env) :: starEach [] X.env := by rfl) (hp : (backTo pos (starEach [b] X.env)).any (·.1) = false := by rfl) :
    JRg X G W (.Call (.Name "range" p) [a, b] [] pos) (rg2 f g) := by
  refine ⟨PRg.imp (prg_2 hg hm ha.run hb.run na nb hp) fun σ H Q h => ?_⟩
  obtain ⟨γ, A, env, S, h⟩ := h
  refine ⟨γ, A, env, S, Post.bind h fun d A1 γ1 H1 e1 R1 h1 v r1 => ?_⟩
  refine ⟨γ1, A1, env, S.to e1 R1, Post.bind h1 fun d2 A2 γ2 H2 e2 R2 h2 w r2 => ?_⟩
  have r1' := VR.ext e2 _ _ r1
  split at h2
  · rename_i m n
    unfold VR at r1' r2
    exact ⟨m, n, r1', r2, h2 γ2 H2 (Ext.refl _ _) R2⟩
  · exact h2.elim
def rgOk (a b : Int) : Bool := decide (-(2 ^ 62) ≤ a) && decide (a < 2 ^ 62) && decide (-(2 ^ 62) ≤ b) && decide (b < 2 ^ 62) && decide ((b - a).toNat ≤ 2 ^ 24)
theorem rgOk_ok {a b : Int} (h : rgOk a b = true) : RgOk a b := by
  unfold rgOk at h
  simp only [Bool.and_eq_true, decide_eq_true_eq] at h
  exact ⟨h.1.1.1.1, h.1.1.1.2, h.1.1.2, h.1.2, h.2⟩
def rgD (a b : Int) : List D := (List.range (b - a).toNat).map fun i => D.int (a + (i : Nat))
theorem rgD_vrs {γ : Gh} {H : Hp} (a b : Int) : VRs G γ H (rgD a b) (rgV a b) := by
  unfold rgD rgV
  generalize List.range (b - a).toNat = l
  induction l with
  | nil => exact VRs.nil
  | cons i l ih => exact VRs.cons (by unfold VR; rfl) ih
def sLstRg (f : Ev → AH → Res (Int × Int)) : Ev → AH → Res D := fun env A => (f env A).bind fun d A1 => if rgOk d.1 d.2 = true then .ok (.lst (rgD d.1 d.2)) A1 else .stuck
def sTupRg (f : Ev → AH → Res (Int × Int)) : Ev → AH → Res D := fun env A => (f env A).bind fun d A1 => if rgOk d.1 d.2 = true then .ok (.tup (rgD d.1 d.2)) A1 else .stuck
theorem je_lstRg (o : XO X G W k) {e : Expr} {p pos : Pos} {f : Ev → AH → Res (Int × Int)} (hg : Gl X "list") (hm : X.mg "list" = none) (he : JRg X G W e f) (na : starEach [e] X.env = (false, eval e X.env) :: starEach [] X.env := by rfl) : JE X G W (.Call (.Name "list" p) [e] [] pos) (sLstRg f) := by
  refine ⟨PE.imp (pe_listRg o.calm hg hm he.run na) fun σ H Q h => ?_⟩
  obtain ⟨γ, A, env, S, h⟩ := h
  refine ⟨γ, A, env, S, Post.bind h fun d A1 γ1 H1 e1 R1 h1 => ?_⟩
  split at h1
  · rename_i hz
    exact ⟨rgOk_ok hz, fun q hq => Post.new (ob := .lst (rgV d.1 d.2)) R1 hq h1 _ (VR.newL R1 hq (rgD_vrs _ _))⟩
  · exact h1.elim
theorem je_tupRg (o : XO X G W k) {e : Expr} {p pos : Pos} {f : Ev → AH → Res (Int × Int)} (hg : Gl X "tuple") (hm : X.mg "tuple" = none) (he : JRg X G W e f) (na : starEach [e] X.env = (false, eval e X.env) :: starEach [] X.env := by rfl) : JE X G W (.Call (.Name "tuple" p) [e] [] pos) (sTupRg f) := by
  refine ⟨PE.imp (pe_tupRg o.calm hg hm he.run na) fun σ H Q h => ?_⟩
  obtain ⟨γ, A, env, S, h⟩ := h
  refine ⟨γ, A, env, S, Post.bind h fun d A1 γ1 H1 e1 R1 h1 => ?_⟩
  split at h1
  · rename_i hz
    exact ⟨rgOk_ok hz, fun q hq => Post.new (ob := .tup (rgV d.1 d.2)) R1 hq h1 _ (VR.newT R1 hq (rgD_vrs _ _))⟩
  · exact h1.elim
end
end F3
namespace F3
open PySem PySem.Spec
open PyProof.Rows L2
section
variable {X : Cx} {G : Gc} {W : WX} {k : Nat}
theorem XO.inD (o : XO X G W k) : CO X G .In gInD := ⟨_, op_inUD o.u65, ok_inD o.gk⟩
theorem XO.notInD (o : XO X G W k) : CO X G .NotIn gNotInD := ⟨_, op_notInUD o.u65, ok_notInD o.gk⟩
/-- a, b, c = x, y, z with three local names -/
def bPar3 (i j l : Nat) (f : Ev → AH → Res (List D)) : Ev → AH → SR := fun env A => lft (f env A) env fun ds A1 => match ds with
  | [x, y, z] => .nx (((env.set i (some x)).set j (some y)).set l (some z)) A1
  | _ => .stuck
theorem js_par3 (o : XO X G W k) {i j l : Nat} {x y z : Str} {a b c : Expr} {f : Ev → AH → Res (List D)} {px py pz pt pos : Pos} {kt k2 pt2} (hN : X.N.Nodup) (hi : X.N[i]? = some x) (hj : X.N[j]? = some y) (hl : X.N[l]? = some z) (hij : i ≠ j) (hil : i ≠ l) (hjl : j ≠ l)
    (hx : X.env.scope.names.lookup x = some .local) (hy : X.env.scope.names.lookup y = some .local) (hz : X.env.scope.names.lookup z = some .local) (ha : JA X G W [a, b, c] f)
    (hw : swappedStores [.Tuple [.Name x px, .Name y py, .Name z pz] kt pt] (.Tuple [a, b, c] k2 pt2) X.env = pure (some [x, y, z]))
    (hs : swapsWithSole [.Tuple [.Name x px, .Name y py, .Name z pz] kt pt] (.Tuple [a, b, c] k2 pt2) pos.line X.env = pure false := by rfl) :
    JS X G W (.Assign [.Tuple [.Name x px, .Name y py, .Name z pz] kt pt] (.Tuple [a, b, c] k2 pt2) pos) (bPar3 i j l f) := by
  refine ⟨PS.imp (ps_par3 o.calm hN hi hj hl hij hil hjl hx hy hz ha.run hw hs) fun E σ H h => ?_⟩
  obtain ⟨γ, A, env, S, h⟩ := h
  refine ⟨γ, A, env, S, PostS.lft S h fun d A1 γ1 H1 e1 R1 h1 vs r1 => ?_⟩
  match d, h1, r1 with
  | [x, y, z], h1, r1 =>
    unfold VRs at r1
    obtain ⟨v, rs, rfl, q1, r2⟩ := r1
    unfold VRs at r2
    obtain ⟨u, rs, rfl, q2, r3⟩ := r2
    unfold VRs at r3
    obtain ⟨w, rs, rfl, q3, r4⟩ := r3
    unfold VRs at r4
    subst r4
    have S1 := S.to e1 R1
    exact ⟨v, u, w, rfl, h1 γ1 H1 _ (Ext.refl _ _) ⟨R1, by simp [S.len], ((S1.er.set S1.len q1).set (by simp [S.len]) q2).set (by simp [S.len]) q3⟩⟩
  | [], h1, _ => exact h1.elim
  | [_], h1, _ => exact h1.elim
  | [_, _], h1, _ => exact h1.elim
  | _ :: _ :: _ :: _ :: _, h1, _ => exact h1.elim
end
end F3
namespace F3
open PySem PySem.Spec
open PyProof.Rows L2
/-! ### a comprehension's list, changed later -/
section
variable {G : Gc} {γ : Gh} {H : Hp} {A : AH} {p : Addr}
/-- what was put aside becomes a changed thing -/
theorem Rel.promote {ao : AO} (R : Rel G γ A H) (h : γ.o p = some none) (new : OR G (γ.more A.length p) H A.length ao p) : Rel G (γ.more A.length p) (A ++ [ao]) H := by
  have e0 : Ext0 γ H (γ.more A.length p) H := ⟨fun i a e => by show (γ.ρ ++ [p])[i]? = some a; rw [List.getElem?_append_left (List.getElem?_eq_some_iff.mp e).1]; exact e, fun b o e n _ => ⟨e, by rw [Gh.more_ne (fun z => by rw [z, h] at n; cases n)]; exact n⟩, fun _ _ _ e => e⟩
  have hl := R.len
  refine ⟨by show (γ.ρ ++ [p]).length = _; simp [hl], fun i o e => ?_, fun a x e => ?_, fun q hq => ?_, fun a xs e => by
    by_cases z : a = p
    · subst z; rw [R.tupo _ xs e] at h; cases h
    · rw [Gh.more_ne z]; exact R.tupo a xs e⟩
  · by_cases hi : i < A.length
    · rw [List.getElem?_append_left hi] at e
      obtain ⟨a, e1, e2, r⟩ := R.at_ i o e
      have na : a ≠ p := fun z => by rw [z, h] at e2; cases e2
      refine ⟨a, e0.ρ i a e1, by rw [Gh.more_ne na]; exact e2, r.ext (j := i) e0 rfl fun dx q => ⟨rfl, ?_⟩⟩
      rw [Gh.more_ne (fun z => by rw [z, h] at q; cases q)]; exact q
    · have hi2 : i = A.length := by
        have := (List.getElem?_eq_some_iff.mp e).1
        simp at this; omega
      subst hi2
      simp at e
      subst e
      exact ⟨p, by show (γ.ρ ++ [p])[A.length]? = some p; rw [← hl]; simp, Gh.more_same, new⟩
  · by_cases z : a = p
    · subst z
      rw [Gh.more_same] at e
      cases e
      exact ⟨(R.dom a _ h).1, fun i q => by cases q; simp⟩
    · rw [Gh.more_ne z] at e
      obtain ⟨d1, d2⟩ := R.dom a x e
      exact ⟨d1, fun i q => by have := d2 i q; simp; omega⟩
  · obtain ⟨n, ps, h1, h2, h3⟩ := R.tab q hq
    refine ⟨by rw [Gh.more_ne (fun z => by rw [z, h] at n; cases n)]; exact n, ps, h1, h2, fun pos cv hc => ?_⟩
    obtain ⟨c, c1, c2, c3⟩ := h3 pos cv hc
    exact ⟨c, c1, c2, by rw [Gh.more_ne (fun z => by rw [z, h] at c3; cases c3)]; exact c3⟩
end
section
variable {X : Cx} {G : Gc} {W : WX} {k : Nat}
theorem comp_coreG {β : Type} {fin : List D → AH → Res β} {R0 : Gh → AH → Hp → β → Prop} {σ : L2.St} {vs js : List Nat} {st : Ev → D → Option Ev} {t : Ev → AH → Res Bool} {f : Ev → AH → Res D} {g : TG} {tt : TT} {te : TE} {J : It} {ds : List D} {γ1 : Gh} {A1 : AH} {H1 : Hp} {env : Ev} {Q : VK} {Wx : WXe}
    (hg : ∀ (v : V) (σ : L2.St) (H : Hp) (Q : L2.St → Hp → Prop), (∃ γ A env d env', St3 G γ A env H σ ∧ VR G γ H d v ∧ st env d = some env' ∧ ∀ σ', St3 G γ A env' H σ' → σ'.length = σ.length → (∀ j, j ∉ js → σ'[j]? = σ[j]?) → Q σ' H) → g v σ H Q)
    (ht : ∀ σ H Q, tB3 G W0 t σ H Q → tt σ H Q) (he : ∀ σ H Q, tE G W0 f σ H Q → te σ H Q) (hj : ∀ j ∈ js, j ∈ vs) (S : St3 G γ1 A1 env H1 σ) (hJ : Yl G γ1 H1 J ds) (hz : ds.length ≤ sizeLine)
    (hfin : ∀ γ A H acc accV DD, H1 DD = none → Ext γ1 H1 γ H → Rel G γ A H → γ.o DD = some none → H DD = some (.lst accV) → VRs G γ H acc accV → Post G γ1 H1 (fin acc A) R0 Wx → Q (.ref DD) H)
    (h : Post G γ1 H1 ((compL st t f ds (wip vs env) A1).bind fin) R0 Wx) :
    ∀ D, H1 D = none → ∃ W : Nat → Nat → Hp → Prop, (∃ m, W 0 m (upd H1 D (.lst []))) ∧ ∀ i m H, W i m H →
      (J.stop i H ∧ Q (.ref D) H) ∨ (J.go i H ∧ ∃ Nx : Hp → Prop, (∀ H', Nx H' → ∃ m', m' < m ∧ W (i + 1) m' H') ∧ ∀ x H', J.yld i H x H' → g x (wipe σ vs) H' fun σ2 H2 => wipe σ2 vs = wipe σ vs ∧ tt σ2 H2 fun b H3 =>
        if b = true then te σ2 H3 fun y H4 => ∃ acc, H4 D = some (.lst acc) ∧ acc.length < sizeLine ∧ Nx (upd H4 D (.lst (acc ++ [y]))) else Nx H3) := by
  intro DD hD
  let Wn : Nat → Hp → Prop := fun i H => i ≤ ds.length ∧ ∃ γ A acc accV, Ext γ1 H1 γ H ∧ Rel G γ A H ∧ γ.o DD = some none ∧ H DD = some (.lst accV) ∧ VRs G γ H acc accV ∧ acc.length ≤ i ∧
    ∃ r, compL st t f (ds.drop i) (wip vs env) A = r ∧ Post G γ1 H1 (r.bind fun xs A3 => fin (acc ++ xs) A3) R0 Wx
  refine ⟨fun i m H => m = ds.length - i ∧ Wn i H, ⟨ds.length, by simp, Nat.zero_le _, γ1.hide DD, A1, [], [], Ext.hide hD, S.rel.hide hD, Gh.hide_same, upd_same, VRs.nil, Nat.le_refl _, _, rfl, ?_⟩, ?_⟩
  · rw [List.drop_zero]
    cases q : compL st t f ds (wip vs env) A1 with
    | ok xs A3 => rw [q] at h; exact h
    | ex x A3 => rw [q] at h; exact h
    | stuck => rw [q] at h; exact h
  · rintro i m H ⟨rfl, hi, γ, A, acc, accV, e, R, ho, hH, rv, hl, r, hr, hp⟩
    obtain ⟨y1, y2⟩ := hJ i γ H A e.toExt0 R
    by_cases hlt : i < ds.length
    · obtain ⟨g1, g2⟩ := y1 ds[i] (List.getElem?_eq_getElem hlt)
      rw [List.drop_eq_getElem_cons hlt] at hr
      unfold compL at hr
      refine .inr ⟨g1, Wn (i + 1), fun H' q => ⟨ds.length - (i + 1), by omega, rfl, q⟩, fun x H2 hy => ?_⟩
      obtain ⟨e2, R2, r2⟩ := g2 x H2 hy
      have S2 : St3 G γ A (wip vs env) H2 (wipe σ vs) := ⟨R2, by rw [wip_length, wipe_length]; exact S.len, wip_er ((S.er.ext e).ext e2) vs⟩
      cases q : st (wip vs env) ds[i] with
      | none => rw [q] at hr; subst hr; exact hp.elim
      | some env1 =>
        rw [q] at hr
        simp only at hr
        refine hg x _ H2 _ ⟨γ, A, wip vs env, ds[i], env1, S2, r2, q, fun σ3 S3 l3 k3 => ⟨wipe_eq l3 k3 hj, ?_⟩⟩
        cases q2 : t env1 A with
        | ex z A3 => rw [q2] at hr; subst hr; exact hp.elim
        | stuck => rw [q2] at hr; subst hr; exact hp.elim
        | ok b A3 =>
          rw [q2] at hr
          refine ht _ _ _ ⟨γ, A, env1, S3, ?_⟩
          rw [q2]
          intro γ3 H3 e3 R3
          obtain ⟨hD2, _⟩ := e2.hid DD _ hH ho
          obtain ⟨hD3, ho3⟩ := e3.hid DD _ hD2 ho
          have rv3 := VRs.ext e3 _ _ (VRs.ext e2 _ _ rv)
          cases b with
          | false =>
            rw [if_neg Bool.false_ne_true]
            exact ⟨hlt, γ3, A3, acc, accV, (e.trans e2).trans e3, R3, ho3, hD3, rv3, by omega, r, hr, hp⟩
          | true =>
            rw [if_pos rfl]
            simp only at hr
            refine he _ _ _ ⟨γ3, A3, env1, S3.to e3 R3, ?_⟩
            cases q3 : f env1 A3 with
            | ex z A4 => rw [q3] at hr; subst hr; exact hp.elim
            | stuck => rw [q3] at hr; subst hr; exact hp.elim
            | ok y A4 =>
              rw [q3] at hr
              intro γ4 H4 e4 R4 v r4
              obtain ⟨hD4, ho4⟩ := e4.hid DD _ hD3 ho3
              have rv4 := VRs.ext e4 _ _ rv3
              have e0 : Ext0 γ4 H4 γ4 (upd H4 DD (.lst (accV ++ [v]))) := Ext0.grow ho4 hD4
              refine ⟨accV, hD4, by rw [← rv4.length]; omega, hlt, γ4, A4, acc ++ [y], accV ++ [v], ?_, R4.grow ho4 hD4, ho4, upd_same, (VRs.ext0 e0 _ _ rv4).append (VRs.cons (VR.ext0 e0 _ _ r4) VRs.nil), by rw [List.length_append]; simp; omega, _, rfl, ?_⟩
              · have eb := ((e.trans e2).trans e3).trans e4
                have nD : ∀ b o, H1 b = some o → b ≠ DD := fun b o q => ne_of_none q hD
                exact ⟨⟨eb.ρ, fun b o q n tt => ⟨by rw [upd_ne (nD b o q)]; exact (eb.keep b o q n tt).1, (eb.keep b o q n tt).2⟩, fun b o u q => by rw [upd_ne (nD b _ q)]; exact eb.frz _ _ _ q⟩, fun b o q n => ⟨by rw [upd_ne (nD b o q)]; exact (eb.hid b o q n).1, (eb.hid b o q n).2⟩⟩
              · subst hr
                simp only at hp
                cases q4 : compL st t f (ds.drop (i + 1)) (wip vs env) A4 with
                | ok xs A5 =>
                  rw [q4] at hp
                  simp only [Res.bind] at hp ⊢
                  rw [List.append_assoc]
                  exact hp
                | ex z A5 => rw [q4] at hp; exact hp
                | stuck => rw [q4] at hp; exact hp
    · have hi2 : i = ds.length := by omega
      refine .inl ⟨y2 (by omega), ?_⟩
      rw [List.drop_eq_nil_of_le (by omega)] at hr
      unfold compL at hr
      subst hr
      simp only [Res.bind, List.append_nil] at hp
      exact hfin γ A H acc accV DD hD e R ho hH rv hp
def mkM (ds : List D) (A : AH) : Res D := .ok (.ref A.length) (A ++ [.lst ds])
def sLCM (vs : List Nat) (fi : Ev → AH → Res (List D)) (st : Ev → D → Option Ev) (t : Ev → AH → Res Bool) (f : Ev → AH → Res D) : Ev → AH → Res D := fun env A => (sComp vs fi st t f env A).bind mkM
theorem fin_mut {γ1 : Gh} {H1 : Hp} {Q : VK} {Wx : WXe} : ∀ γ A H acc accV DD, H1 DD = none → Ext γ1 H1 γ H → Rel G γ A H → γ.o DD = some none → H DD = some (.lst accV) → VRs G γ H acc accV → Post G γ1 H1 (mkM acc A) (fun γ' _ H' d => ∀ v, VR G γ' H' d v → Q v H') Wx → Q (.ref DD) H := by
  intro γ A H acc accV DD hD e R ho hH rv h
  have nD : ∀ b o, H1 b = some o → b ≠ DD := fun b o q => ne_of_none q hD
  have e0 : Ext0 γ H (γ.more A.length DD) H := ⟨fun i a e => by show (γ.ρ ++ [DD])[i]? = some a; rw [List.getElem?_append_left (List.getElem?_eq_some_iff.mp e).1]; exact e, fun b o e n _ => ⟨e, by rw [Gh.more_ne (fun z => by rw [z, ho] at n; cases n)]; exact n⟩, fun _ _ _ e => e⟩
  have e5 : Ext γ1 H1 (γ.more A.length DD) H :=
    ⟨e.toExt0.trans e0, fun b o q n => ⟨(e.hid b o q n).1, by rw [Gh.more_ne (nD b o q)]; exact (e.hid b o q n).2⟩⟩
  refine h _ H e5 (R.promote ho ⟨accV, hH, VRs.ext0 e0 _ _ rv⟩) (.ref DD) ?_
  unfold VR
  refine ⟨DD, rfl, ?_⟩
  show (γ.ρ ++ [DD])[A.length]? = some DD
  rw [← R.len]; simp
/-- y = [..], changed later -/
theorem je_compM (o : XO X G W k) {elt tg iter : Expr} {ifs : List Expr} {scope : Scope} {own : List (Str × Nat)} {pos : Pos} {js : List Nat} {fi : Ev → AH → Res (List D)} {st : Ev → D → Option Ev} {t : Ev → AH → Res Bool} {f : Ev → AH → Res D}
    (hN : X.N.Nodup) (hi : JI X G W tg iter fi) (ok : BlkOk X.N X.env.scope scope own)
    (hg : ∀ (s : Shared) (H : Hp) (C : Addr) (cl : List (Str × Addr)) (fp : List Addr), JG (X.blk s H scope (compEnvC scope cl C X.env) fp) G tg js st)
    (ht : ∀ (s : Shared) (H : Hp) (C : Addr) (cl : List (Str × Addr)) (fp : List Addr), JTs (X.blk s H scope (compEnvC scope cl C X.env) fp) G W0 ifs t)
    (he : ∀ (s : Shared) (H : Hp) (C : Addr) (cl : List (Str × Addr)) (fp : List Addr), JE (X.blk s H scope (compEnvC scope cl C X.env) fp) G W0 elt f)
    (hj : (js.all fun j => (own.map (·.2)).contains j) = true)
    (hfs : ∀ x, foldedSetIterable iter X.env x = pure x := by intro _; rfl) :
    JE X G W (.ListComp elt [⟨tg, iter, ifs, 0⟩] scope pos) (sLCM (own.map (·.2)) fi st t f) := by
  refine ⟨PE.imp (pe_lc o.calm hN hi.run ok (fun s H C cl fp => (hg s H C cl fp).run) (fun s H C cl fp => (ht s H C cl fp).run) (fun s H C cl fp => (he s H C cl fp).run) hfs) fun σ H Q h => ?_⟩
  obtain ⟨γ, A, env, S, h⟩ := h
  have hj' : ∀ j ∈ js, j ∈ own.map (·.2) := fun j q => by simpa using List.all_eq_true.mp hj j q
  refine ⟨γ, A, env, S, ?_⟩
  have h' : Post G γ H ((fi env A).bind fun ds A1 => (if ds.length ≤ sizeLine then compL st t f ds (wip (own.map (·.2)) env) A1 else .stuck).bind mkM) (fun γ' _ H' d => ∀ v, VR G γ' H' d v → Q v H') (fun c a H' => W c a σ H') := by
    unfold sLCM sComp at h
    cases q : fi env A with
    | ok ds A1 => rw [q] at h; exact h
    | ex x A1 => rw [q] at h; exact h
    | stuck => rw [q] at h; exact h
  refine Post.bind h' fun ds A1 γ1 H1 e1 R1 h1 J hJ => ?_
  by_cases hz : ds.length ≤ sizeLine
  · rw [if_pos hz] at h1
    exact comp_coreG (fin := mkM) (js := js) (st := st) (t := t) (f := f) (Wx := fun c a H' => W c a σ H') (fun v σ H Q h => h) (fun σ H Q h => h) (fun σ H Q h => h) hj' (S.to e1 R1) hJ hz fin_mut h1
  · rw [if_neg hz] at h1; exact h1.elim
theorem js_setLcM (o : XO X G W k) {i : Nat} {y : Str} {py : Pos} {elt tg iter : Expr} {ifs : List Expr} {scope : Scope} {own : List (Str × Nat)} {pos spos : Pos} {js : List Nat} {fi : Ev → AH → Res (List D)} {st : Ev → D → Option Ev} {t : Ev → AH → Res Bool} {f : Ev → AH → Res D}
    (hN : X.N.Nodup) (hy : X.N[i]? = some y) (hyl : X.env.scope.names.lookup y = some .local) (hsw : swapsWith (.ListComp elt [⟨tg, iter, ifs, 0⟩] scope pos) (some (.Name y py)) spos.line X.env = pure true) (hi : JI X G W tg iter fi) (ok : BlkOk X.N X.env.scope scope own)
    (hg : ∀ (s : Shared) (H : Hp) (C : Addr) (cl : List (Str × Addr)) (fp : List Addr), JG (X.blk s H scope (compEnvC scope cl C X.env) fp) G tg js st)
    (ht : ∀ (s : Shared) (H : Hp) (C : Addr) (cl : List (Str × Addr)) (fp : List Addr), JTs (X.blk s H scope (compEnvC scope cl C X.env) fp) G W0 ifs t)
    (he : ∀ (s : Shared) (H : Hp) (C : Addr) (cl : List (Str × Addr)) (fp : List Addr), JE (X.blk s H scope (compEnvC scope cl C X.env) fp) G W0 elt f)
    (hj : (js.all fun j => (own.map (·.2)).contains j) = true)
    (hfs : ∀ x, foldedSetIterable iter X.env x = pure x := by intro _; rfl) :
    JS X G W (.Assign [.Name y py] (.ListComp elt [⟨tg, iter, ifs, 0⟩] scope pos) spos) (bSet (gNm i) (sLCM (own.map (·.2)) fi st t f)) := by
  refine ⟨PS.imp (ps_setLc o.calm hN hy hyl hsw hi.run ok (fun s H C cl fp => (hg s H C cl fp).run) (fun s H C cl fp => (ht s H C cl fp).run) (fun s H C cl fp => (he s H C cl fp).run) hfs) fun E σ H h => ?_⟩
  obtain ⟨γ, A, env, S, h⟩ := h
  have hj' : ∀ j ∈ js, j ∈ own.map (·.2) := fun j q => by simpa using List.all_eq_true.mp hj j q
  have h0 : Post G γ H (sLCM (own.map (·.2)) fi st t f env A) (fun γ' _ H' d => ∀ v, VR G γ' H' d v → gName i v σ H' E.nx) (fun c a H' => W c a σ H') := PostS.lft S h fun d A1 γ1 H1 e1 R1 h1 v r1 => by
    have S1 := S.to e1 R1
    exact h1 γ1 H1 _ (Ext.refl _ _) ⟨R1, by simp [S.len], S1.er.set S.len r1⟩
  refine ⟨γ, A, env, S, ?_⟩
  have h' : Post G γ H ((fi env A).bind fun ds A1 => (if ds.length ≤ sizeLine then compL st t f ds (wip (own.map (·.2)) env) A1 else .stuck).bind mkM) (fun γ' _ H' d => ∀ v, VR G γ' H' d v → gName i v σ H' E.nx) (fun c a H' => W c a σ H') := by
    unfold sLCM sComp at h0
    cases q : fi env A with
    | ok ds A1 => rw [q] at h0; exact h0
    | ex x A1 => rw [q] at h0; exact h0
    | stuck => rw [q] at h0; exact h0
  refine Post.bind h' fun ds A1 γ1 H1 e1 R1 h1 J hJ => ?_
  by_cases hz : ds.length ≤ sizeLine
  · rw [if_pos hz] at h1
    exact comp_coreG (fin := mkM) (js := js) (st := st) (t := t) (f := f) (Q := fun v H' => gName i v σ H' E.nx) (Wx := fun c a H' => W c a σ H') (fun v σ H Q h => h) (fun σ H Q h => h) (fun σ H Q h => h) hj' (S.to e1 R1) hJ hz fin_mut h1
  · rw [if_neg hz] at h1; exact h1.elim
end
end F3
namespace F3
open PySem PySem.Spec
open PyProof.Rows L2
/-! ### list(zip(a, b)): the tuples are kept, so zip makes a new one at each turn -/
abbrev IsZipG (h : Heap) (z TI TO : Addr) (f0 f1 : Value) : Prop := h.get? z = some { cls := .type "zip", dict := none, data := .fields #[f0, f1, .bool false, .ref TI, .ref TO], slots := #[] }
theorem zip_no_len : typeLookup (.type "zip") "__len__" = pure none := by rw [typeLookup_type, builtinLookup_eq_fast]; kernel_rfl
theorem zip_no_hint : typeLookup (.type "zip") "__length_hint__" = pure none := by rw [typeLookup_type, builtinLookup_eq_fast]; kernel_rfl
section
variable {prog : Program} {w : World} {A : Around} {E : Value → Shared → Prop} {s : Shared}
theorem wpAny_alive {M : Model} {a : Addr} {Q : Option Obj → Shared → Prop} (h : Q (s.heap.get? a) s) : wpAny M A (loadIfAlive a) Q E s := fun Γ p hΓ => by
  unfold loadIfAlive
  rw [Sem.wp_loadIfAlive]
  exact (wpAny_pure (M := M) (A := A) (E := E) h) Γ p hΓ
/-- whether the tuple is free again: it is not -/
theorem kept_tuple {z TI TO T : Addr} {b : Bool} {oT : Obj} {Q : Bool → Shared → Prop} (hz : IsZipG s.heap z TI TO (rawInt T) (.bool b)) (hT : s.heap.get? T = some oT)
    (h : ∀ h', IsZipG h' z TI TO (rawInt T) (.bool true) → Heap.SameBut z s.heap h' → Q false { s with heap := h' }) : wpAny (model prog w) A (Builtin.SmallTypes.ownedTupleIsFree (.ref z)) Q E s := by
  unfold Builtin.SmallTypes.ownedTupleIsFree
  refine wpAny_bind (wpAny_field hz rfl (x := rawInt T) rfl ?_)
  show wpAny _ _ (loadIfAlive (T : Int).toNat >>= _) _ _ _
  refine wpAny_bind (wpAny_alive ?_)
  rw [Int.toNat_natCast, hT]
  refine wpAny_bind (wpAny_field hz rfl (x := .bool b) rfl ?_)
  cases b with
  | true =>
    have e : (Value.bool true != Value.bool true) = false := by decide
    simp only [e]
    exact wpAny_pure (h s.heap hz ⟨rfl, fun _ _ => rfl⟩)
  | false =>
    have e : (Value.bool false != Value.bool true) = true := by decide
    simp only [e, if_true]
    refine wpAny_bind (wpAny_setField_rec hz (by simp) fun h₁ hz₁ hs₁ => ?_)
    exact wpAny_pure (h h₁ hz₁ hs₁)
theorem zip_more {z TI TO i1 i2 l1 l2 T : Addr} {bb : Bool} {oT : Obj} {k1 k2 : Nat} {xs ys : Array Value} {x y : Value} {Q : Value → Shared → Prop} (D : ZipApart z TI TO i1 i2 l1 l2)
    (hz : IsZipG s.heap z TI TO (rawInt T) (.bool bb)) (hT : s.heap.get? T = some oT) (hTI : IsPair s.heap TI (.ref i1) (.ref i2))
    (h1 : s.heap.IsListIter i1 l1 k1) (h2 : s.heap.IsListIter i2 l2 k2) (hl1 : s.heap.IsList l1 xs) (hl2 : s.heap.IsList l2 ys) (hx : xs[k1]? = some x) (hy : ys[k2]? = some y)
    (hQ : ∀ h', IsZipG h' z TI TO (rawInt T) (.bool true) → h'.IsListIter i1 l1 (k1 + 1) → h'.IsListIter i2 l2 (k2 + 1) → IsPair h' s.heap.objs.size x y → h'.objs.size = s.heap.objs.size + 1 →
      (∀ c o, c ≠ z → c ≠ i1 → c ≠ i2 → s.heap.get? c = some o → h'.get? c = some o) → Q (.ref s.heap.objs.size) { s with heap := h' }) :
    wpAny (model prog w) A (Builtin.«zip.__next__» ⟨[.ref z], []⟩) (fun fin s' => ∃ v, fin = .done (.ret v) ∧ Q v s') E s := by
  show wpAny _ _ (field (.ref z) 2 >>= _) _ _ _
  refine wpAny_bind (wpAny_field hz rfl (x := .bool false) rfl ?_)
  show wpAny _ _ (field (.ref z) 3 >>= _) _ _ _
  refine wpAny_bind (wpAny_field hz rfl (x := .ref TI) rfl ?_)
  refine wpAny_bind (wpAny_seqItems hTI rfl ?_)
  show wpAny _ _ (Builtin.SmallTypes.ownedTupleIsFree (.ref z) >>= _) _ _ _
  refine wpAny_bind (kept_tuple hz hT fun h₁ hz₁ hs₁ => ?_)
  simp only [Bool.false_eq_true, if_false]
  refine wpAny_bind ?_
  rw [← Array.forIn_toList]
  simp only [List.forIn_cons, List.forIn_nil]
  refine wpAny_bind (wpAny_bind (wpAny_holding ?_))
  show wpAny _ _ (Builtin.SmallTypes.nextOf (.ref i1) >>= _) _ _ _
  refine wpAny_bind (wpAny_nextOf_list_item (h1.extBut hs₁.extBut D.i1z) (hl1.extBut hs₁.extBut D.l1z) hx fun h₂ h1₂ hs₂ => wpAny_pure ?_)
  refine wpAny_pure ?_
  refine wpAny_bind (wpAny_bind (wpAny_holding ?_))
  show wpAny _ _ (Builtin.SmallTypes.nextOf (.ref i2) >>= _) _ _ _
  refine wpAny_bind (wpAny_nextOf_list_item ((h2.extBut hs₁.extBut D.i2z).extBut hs₂.extBut D.i12.symm)
    ((hl2.extBut hs₁.extBut D.l2z).extBut hs₂.extBut D.l2i1) hy fun h₄ h2₄ hs₄ => wpAny_pure ?_)
  refine wpAny_pure (wpAny_pure ?_)
  refine wpAny_bind (wpAny_newTuple ?_ (by show 2 ≤ sizeLine; decide))
  have hsz : h₄.objs.size = s.heap.objs.size := by rw [hs₄.1, hs₂.1, hs₁.1]
  have hz₄ : IsZipG h₄ z TI TO (rawInt T) (.bool true) := hs₄.extBut _ _ D.i2z.symm (hs₂.extBut _ _ D.i1z.symm hz₁)
  have hk₄ : ∀ c o, c ≠ z → c ≠ i1 → c ≠ i2 → s.heap.get? c = some o → h₄.get? c = some o := fun c o c1 c3 c4 e =>
    hs₄.extBut _ _ c4 (hs₂.extBut _ _ c3 (hs₁.extBut _ _ c1 e))
  have h1₄ : h₄.IsListIter i1 l1 (k1 + 1) := h1₂.extBut hs₄.extBut D.i12
  refine wpAny_pure ⟨_, rfl, ?_⟩
  have hT₈ : IsPair (h₄.push { cls := .type "tuple", data := .seq #[x, y] }) h₄.objs.size x y := Heap.get?_push_size _ rfl
  have hp : (h₄.push { cls := .type "tuple", data := .seq #[x, y] }).objs.size = h₄.objs.size + 1 := Heap.size_push ..
  show Q (.ref h₄.objs.size) _
  rw [hsz] at hT₈ hp
  rw [hsz]
  exact hQ _ (Heap.get?_push_of_some _ hz₄) (h1₄.at fun o e => Heap.get?_push_of_some _ e) (h2₄.at fun o e => Heap.get?_push_of_some _ e) hT₈ hp fun c o c1 c3 c4 e => Heap.get?_push_of_some _ (hk₄ c o c1 c3 c4 e)
theorem zip_more_end {z TI TO i1 i2 l1 l2 T : Addr} {bb : Bool} {oT : Obj} {k1 k2 : Nat} {xs ys : Array Value} {Q : Fin → Shared → Prop} (hh : A.handled = none) (D : ZipApart z TI TO i1 i2 l1 l2)
    (hz : IsZipG s.heap z TI TO (rawInt T) (.bool bb)) (hT : s.heap.get? T = some oT) (hTI : IsPair s.heap TI (.ref i1) (.ref i2))
    (h1 : s.heap.IsListIter i1 l1 k1) (h2 : s.heap.IsListIter i2 l2 k2) (hl1 : s.heap.IsList l1 xs) (hl2 : s.heap.IsList l2 ys) (hend : xs[k1]? = none ∨ ys[k2]? = none)
    (hE : ∀ h' e, (∀ c o, c ≠ z → c ≠ i1 → c ≠ i2 → s.heap.get? c = some o → h'.get? c = some o) → (∃ o, h'.get? e = some o ∧ o.cls = .type "StopIteration") → E (.ref e) { s with heap := h' }) :
    wpAny (model prog w) A (Builtin.«zip.__next__» ⟨[.ref z], []⟩) Q E s := by
  show wpAny _ _ (field (.ref z) 2 >>= _) _ _ _
  refine wpAny_bind (wpAny_field hz rfl (x := .bool false) rfl ?_)
  show wpAny _ _ (field (.ref z) 3 >>= _) _ _ _
  refine wpAny_bind (wpAny_field hz rfl (x := .ref TI) rfl ?_)
  refine wpAny_bind (wpAny_seqItems hTI rfl ?_)
  show wpAny _ _ (Builtin.SmallTypes.ownedTupleIsFree (.ref z) >>= _) _ _ _
  refine wpAny_bind (kept_tuple hz hT fun h₁ hz₁ hs₁ => ?_)
  simp only [Bool.false_eq_true, if_false]
  refine wpAny_bind ?_
  rw [← Array.forIn_toList]
  simp only [List.forIn_cons, List.forIn_nil]
  refine wpAny_bind (wpAny_bind (wpAny_holding ?_))
  show wpAny _ _ (Builtin.SmallTypes.nextOf (.ref i1) >>= _) _ _ _
  cases hx : xs[k1]? with
  | none =>
    refine wpAny_bind (wpAny_nextOf_list_end hh (h1.extBut hs₁.extBut D.i1z) (hl1.extBut hs₁.extBut D.l1z) hx fun h₂ e hs₂ he => ?_)
    exact hE h₂ e (fun c o c1 c3 _ x => hs₂ _ _ c3 (hs₁.extBut _ _ c1 x)) he
  | some x =>
    have hy : ys[k2]? = none := by rcases hend with h | h; rw [hx] at h; cases h; exact h
    refine wpAny_bind (wpAny_nextOf_list_item (h1.extBut hs₁.extBut D.i1z) (hl1.extBut hs₁.extBut D.l1z) hx fun h₂ h1₂ hs₂ => wpAny_pure ?_)
    refine wpAny_pure ?_
    refine wpAny_bind (wpAny_bind (wpAny_holding ?_))
    show wpAny _ _ (Builtin.SmallTypes.nextOf (.ref i2) >>= _) _ _ _
    refine wpAny_bind (wpAny_nextOf_list_end hh ((h2.extBut hs₁.extBut D.i2z).extBut hs₂.extBut D.i12.symm)
      ((hl2.extBut hs₁.extBut D.l2z).extBut hs₂.extBut D.l2i1) hy fun h₄ e hs₄ he => ?_)
    exact hE h₄ e (fun c o c1 c3 c4 x => hs₄ _ _ c4 (hs₂.extBut _ _ c3 (hs₁.extBut _ _ c1 x))) he
/-! ### the walk -/
structure ZS (b0 : Nat) (h0 : Heap) (z TI TO i1 i2 l1 l2 : Addr) (xs ys : Array Value) (i : Nat) (acc : Array Value) (h : Heap) : Prop where
  zip : (i = 0 ∧ IsZipG h z TI TO .none (.bool false)) ∨ (∃ (T : Addr) (b : Bool) (oT : Obj), IsZipG h z TI TO (rawInt T) (.bool b) ∧ h.get? T = some oT ∧ b0 ≤ T)
  ti : IsPair h TI (.ref i1) (.ref i2)
  tO : ∃ a b, IsPair h TO a b
  it1 : h.IsListIter i1 l1 i
  it2 : h.IsListIter i2 l2 i
  l1 : h.IsList l1 xs
  l2 : h.IsList l2 ys
  size : acc.size = i
  items : ∀ (j : Nat) v, acc[j]? = some v → v = .ref (b0 + j) ∧ ∃ x y, xs[j]? = some x ∧ ys[j]? = some y ∧ IsPair h (b0 + j) x y
  old : ∀ c o, c ≠ z → c ≠ TO → c ≠ i1 → c ≠ i2 → h0.get? c = some o → h.get? c = some o
  hs : h.objs.size = b0 + i
theorem zs_nextS {S : Addr} {cS : Nat} {z TI TO i1 i2 l1 l2 : Addr} {xs ys : Array Value} {b0 : Nat} {h0 : Heap} {i : Nat} {acc : Array Value} {x y : Value} {Q : Option Value → Shared → Prop} (D : ZipApart z TI TO i1 i2 l1 l2)
    (lt : ∀ c ∈ [z, TI, TO, i1, i2, l1, l2], c < b0) (hS : S ∉ [z, TI, TO, i1, i2, l1, l2]) (hI : ∀ j, b0 + j ≠ S) (hSl : s.heap.get? S = some { cls := .type "list", dict := none, data := .seq acc cS, slots := #[] })
    (Z : ZS b0 h0 z TI TO i1 i2 l1 l2 xs ys i acc s.heap) (hx : xs[i]? = some x) (hy : ys[i]? = some y)
    (hQ : ∀ h', ZS b0 h0 z TI TO i1 i2 l1 l2 xs ys (i + 1) (acc.push (.ref (b0 + i))) h' → h'.get? S = some { cls := .type "list", dict := none, data := .seq acc cS, slots := #[] } → Q (some (.ref (b0 + i))) { s with heap := h' }) : wpAny (model prog w) A (pyNext (.ref z)) Q E s := by
  have hS' := hS
  simp only [List.mem_cons, List.not_mem_nil, or_false, not_or] at hS'
  obtain ⟨n1, n2, n3, n4, n5, n6, n7⟩ := hS'
  have gz : ∀ j, b0 + j ≠ z := fun j => Nat.ne_of_gt (Nat.lt_of_lt_of_le (lt z (by simp)) (Nat.le_add_right _ _))
  have gTO : ∀ j, b0 + j ≠ TO := fun j => Nat.ne_of_gt (Nat.lt_of_lt_of_le (lt TO (by simp)) (Nat.le_add_right _ _))
  have g1 : ∀ j, b0 + j ≠ i1 := fun j => Nat.ne_of_gt (Nat.lt_of_lt_of_le (lt i1 (by simp)) (Nat.le_add_right _ _))
  have g2 : ∀ j, b0 + j ≠ i2 := fun j => Nat.ne_of_gt (Nat.lt_of_lt_of_le (lt i2 (by simp)) (Nat.le_add_right _ _))
  have fin : ∀ h', ((∃ (T : Addr) (b : Bool) (oT : Obj), IsZipG h' z TI TO (rawInt T) (.bool b) ∧ h'.get? T = some oT ∧ b0 ≤ T)) → h'.IsListIter i1 l1 (i + 1) → h'.IsListIter i2 l2 (i + 1) → IsPair h' s.heap.objs.size x y → h'.objs.size = s.heap.objs.size + 1 → (∃ a b, IsPair h' TO a b) →
      (∀ c o, c ≠ z → c ≠ TO → c ≠ i1 → c ≠ i2 → s.heap.get? c = some o → h'.get? c = some o) → ZS b0 h0 z TI TO i1 i2 l1 l2 xs ys (i + 1) (acc.push (.ref (b0 + i))) h' := fun h' a1 a2 a3 a4 a5 a6 hk => {
    zip := .inr a1, ti := hk _ _ D.TIz D.TITO D.TIi1 D.TIi2 Z.ti, tO := a6, it1 := a2, it2 := a3
    l1 := Z.l1.at fun o e => hk _ o D.l1z D.l1TO D.l1i1 D.l1i2 e
    l2 := Z.l2.at fun o e => hk _ o D.l2z D.l2TO D.l2i1 D.l2i2 e
    size := by rw [Array.size_push, Z.size]
    items := fun j v hj => by
      rw [Array.getElem?_push] at hj
      split at hj
      · rename_i e
        rw [Z.size] at e
        cases hj
        subst e
        refine ⟨rfl, x, y, hx, hy, ?_⟩
        rw [Z.hs] at a4
        exact a4
      · obtain ⟨e, x', y', q1, q2, q3⟩ := Z.items j v hj
        exact ⟨e, x', y', q1, q2, hk _ _ (gz j) (gTO j) (g1 j) (g2 j) q3⟩
    old := fun c o c1 c2 c3 c4 e => hk c o c1 c2 c3 c4 (Z.old c o c1 c2 c3 c4 e)
    hs := by rw [a5, Z.hs, Nat.add_assoc] }
  obtain ⟨a, b, hTO⟩ := Z.tO
  rcases Z.zip with ⟨_, hz⟩ | ⟨T, bb, oT, hz, hT, hTl⟩
  · refine wpAny_pyNext_zip_item D hz Z.ti hTO Z.it1 Z.it2 Z.l1 Z.l2 hx hy fun h' a1 a2 a3 a4 a5 a6 hk => ?_
    have e : s.heap.objs.size = b0 + i := Z.hs
    rw [e]
    exact hQ h' (fin h' ⟨_, _, _, a1, a5, by rw [e]; exact Nat.le_add_right _ _⟩ a3 a4 a5 a6 ⟨_, _, a2⟩ hk) (hk _ _ n1 n3 n4 n5 hSl)
  · have hTy : s.TypeIs (.ref z) "zip" := ⟨_, hz, rfl⟩
    have gT : ∀ c, c < b0 → T ≠ c := fun c hc => Nat.ne_of_gt (Nat.lt_of_lt_of_le hc hTl)
    unfold pyNext
    refine wpAny_bind (wpAny_attempt (wpAny_callSpecial?_slot (name := Str.ofString "__next__") hTy F.slot_zip_next
      (wpAny_call_entry F.slot_zip_next hTy F.entry_zip_next
        (zip_more D hz hT Z.ti Z.it1 Z.it2 Z.l1 Z.l2 hx hy fun h' a1 a3 a4 a5 a6 a7 => wpAny_pure ?_) (F.args_zip_next_1 _))))
    have e : s.heap.objs.size = b0 + i := Z.hs
    rw [e]
    exact hQ h' (fin h' ⟨_, _, _, a1, a7 _ _ (gT z (lt _ (by simp))) (gT i1 (lt _ (by simp))) (gT i2 (lt _ (by simp))) hT, hTl⟩ a3 a4 a5 a6 ⟨_, _, a7 _ _ D.TOz D.TOi1 D.TOi2 hTO⟩ fun c o c1 _ c3 c4 => a7 c o c1 c3 c4) (a7 _ _ n1 n4 n5 hSl)
theorem zs_end (hh : A.handled = none) {z TI TO i1 i2 l1 l2 : Addr} {xs ys : Array Value} {b0 : Nat} {h0 : Heap} {i : Nat} {acc : Array Value} {Q : Option Value → Shared → Prop} (D : ZipApart z TI TO i1 i2 l1 l2)
    (Z : ZS b0 h0 z TI TO i1 i2 l1 l2 xs ys i acc s.heap) (hend : xs[i]? = none ∨ ys[i]? = none)
    (hQ : ∀ h', (∀ c o, c ≠ z → c ≠ TO → c ≠ i1 → c ≠ i2 → s.heap.get? c = some o → h'.get? c = some o) → Q none { s with heap := h' }) : wpAny (model prog w) A (pyNext (.ref z)) Q E s := by
  obtain ⟨a, b, hTO⟩ := Z.tO
  rcases Z.zip with ⟨_, hz⟩ | ⟨T, bb, oT, hz, hT, hTl⟩
  · exact wpAny_pyNext_zip_end hh D hz Z.ti hTO Z.it1 Z.it2 Z.l1 Z.l2 hend hQ
  · have hTy : s.TypeIs (.ref z) "zip" := ⟨_, hz, rfl⟩
    unfold pyNext
    refine wpAny_bind (wpAny_attempt (wpAny_callSpecial?_slot (name := Str.ofString "__next__") hTy F.slot_zip_next
      (wpAny_call_entry F.slot_zip_next hTy F.entry_zip_next (zip_more_end hh D hz hT Z.ti Z.it1 Z.it2 Z.l1 Z.l2 hend fun h' e hk he => ?_) (F.args_zip_next_1 _))))
    obtain ⟨o, ho, hc⟩ := he
    refine wpAny_bind (wpAny_isInstance (T := "StopIteration") (b := true) ⟨o, ho, hc⟩ isSubtype_stop ?_)
    exact wpAny_pure (hQ _ fun c o c1 _ c3 c4 => hk c o c1 c3 c4)
theorem ZS.upd {z TI TO i1 i2 l1 l2 S : Addr} {xs ys : Array Value} {b0 : Nat} {h0 h h' : Heap} {i : Nat} {acc : Array Value} (hS : S ∉ [z, TI, TO, i1, i2, l1, l2]) (hS0 : ∀ o, h0.get? S = some o → False) (Z : ZS b0 h0 z TI TO i1 i2 l1 l2 xs ys i acc h) (hk : ∀ c o, c ≠ S → h.get? c = some o → h'.get? c = some o) (hs : h'.objs.size = h.objs.size) (hI : ∀ j, b0 + j ≠ S) : ZS b0 h0 z TI TO i1 i2 l1 l2 xs ys i acc h' := by
  simp only [List.mem_cons, List.not_mem_nil, or_false, not_or] at hS
  obtain ⟨n1, n2, n3, n4, n5, n6, n7⟩ := hS
  exact {
    zip := by
      rcases Z.zip with ⟨e, hz⟩ | ⟨T, bb, oT, hz, hT, hTl⟩
      · exact .inl ⟨e, hk _ _ (Ne.symm n1) hz⟩
      · refine .inr ⟨T, bb, oT, hk _ _ (Ne.symm n1) hz, hk _ _ (fun e => hI (T - b0) ((Nat.add_sub_cancel' hTl).trans e)) hT, hTl⟩
    ti := hk _ _ (Ne.symm n2) Z.ti
    tO := let ⟨a, b, e⟩ := Z.tO; ⟨a, b, hk _ _ (Ne.symm n3) e⟩
    it1 := Z.it1.at fun o e => hk _ o (Ne.symm n4) e
    it2 := Z.it2.at fun o e => hk _ o (Ne.symm n5) e
    l1 := Z.l1.at fun o e => hk _ o (Ne.symm n6) e
    l2 := Z.l2.at fun o e => hk _ o (Ne.symm n7) e
    size := Z.size
    items := fun j v e => let ⟨a, x, y, b, c, d⟩ := Z.items j v e; ⟨a, x, y, b, c, hk _ _ (hI j) d⟩
    old := fun c o c1 c2 c3 c4 e => hk c o (fun z => hS0 o (z ▸ e)) (Z.old c o c1 c2 c3 c4 e)
    hs := hs.trans Z.hs }
structure FZ (b0 : Nat) (h0 : Heap) (z TO i1 i2 : Addr) (xs ys : Array Value) (acc : Array Value) (h : Heap) : Prop where
  size : acc.size = min xs.size ys.size
  items : ∀ (j : Nat) v, acc[j]? = some v → v = .ref (b0 + j) ∧ ∃ x y, xs[j]? = some x ∧ ys[j]? = some y ∧ IsPair h (b0 + j) x y
  old : ∀ c o, c ≠ z → c ≠ TO → c ≠ i1 → c ≠ i2 → h0.get? c = some o → h.get? c = some o
theorem zip_loop {R : Result → Shared → Prop} (hh : A.handled = none) {z TI TO i1 i2 l1 l2 S : Addr} {xs ys : Array Value} {b0 : Nat} {h0 : Heap} (D : ZipApart z TI TO i1 i2 l1 l2)
    (lt : ∀ c ∈ [z, TI, TO, i1, i2, l1, l2], c < b0) (hS : S ∉ [z, TI, TO, i1, i2, l1, l2]) (hS0 : ∀ o, h0.get? S = some o → False) (hSb : S < b0) (res : Value) (hn : min xs.size ys.size ≤ sizeLine) :
    ∀ (k i : Nat) (s : Shared) (acc : Array Value) (c : Nat), min xs.size ys.size - i = k → i ≤ min xs.size ys.size → ZS b0 h0 z TI TO i1 i2 l1 l2 xs ys i acc s.heap → s.heap.get? S = some { cls := .type "list", dict := none, data := .seq acc c, slots := #[] } →
    (∀ h' acc' c', h'.get? S = some { cls := .type "list", dict := none, data := .seq acc' c', slots := #[] } → FZ b0 h0 z TO i1 i2 xs ys acc' h' → R (.ok (.ret res)) { s with heap := h' }) →
    codeAny (model prog w) A (.builtin "list.extend.loop" ⟨[.ref S, .ref z, res], []⟩) R s := by
  have hI : ∀ j, b0 + j ≠ S := fun j => Nat.ne_of_gt (Nat.lt_of_lt_of_le hSb (Nat.le_add_right _ _))
  have hS' := hS
  simp only [List.mem_cons, List.not_mem_nil, or_false, not_or] at hS'
  obtain ⟨n1, n2, n3, n4, n5, n6, n7⟩ := hS'
  intro k
  induction k with
  | zero =>
    intro i s acc c hk hi Z hSl hR
    have hin : i = min xs.size ys.size := by omega
    refine codeAny_builtin F.entry_extend_loop ?_
    rw [Around.under_plainId F.plain_extend_loop _]
    show wpAny _ A.in1 (pyNext (.ref z) >>= _) _ _ s
    have hend : xs[i]? = none ∨ ys[i]? = none := by
      rcases Nat.le_total xs.size ys.size with h | h
      · exact .inl (Array.getElem?_eq_none (by rw [hin, Nat.min_eq_left h]; exact Nat.le_refl _))
      · exact .inr (Array.getElem?_eq_none (by rw [hin, Nat.min_eq_right h]; exact Nat.le_refl _))
    refine wpAny_bind (zs_end (A := A.in1) hh D Z hend fun h' hk' => ?_)
    have gg : ∀ j, ∀ c ∈ [z, TI, TO, i1, i2, l1, l2], b0 + j ≠ c := fun j c hc => Nat.ne_of_gt (Nat.lt_of_lt_of_le (lt c hc) (Nat.le_add_right _ _))
    refine wpAny_pure (hR h' acc c (hk' _ _ n1 n3 n4 n5 hSl) ⟨Z.size.trans hin, fun j v e => ?_, fun c o c1 c2 c3 c4 e => hk' c o c1 c2 c3 c4 (Z.old c o c1 c2 c3 c4 e)⟩)
    obtain ⟨e1, x, y, q1, q2, q3⟩ := Z.items j v e
    exact ⟨e1, x, y, q1, q2, hk' _ _ (gg j z (by simp)) (gg j TO (by simp)) (gg j i1 (by simp)) (gg j i2 (by simp)) q3⟩
  | succ k ih =>
    intro i s acc c hk hi Z hSl hR
    have hlt : i < min xs.size ys.size := by omega
    have hix : i < xs.size := Nat.lt_of_lt_of_le hlt (Nat.min_le_left ..)
    have hiy : i < ys.size := Nat.lt_of_lt_of_le hlt (Nat.min_le_right ..)
    refine codeAny_builtin F.entry_extend_loop ?_
    rw [Around.under_plainId F.plain_extend_loop _]
    show wpAny _ A.in1 (pyNext (.ref z) >>= _) _ _ s
    have keepS : ∀ h', ZS b0 h0 z TI TO i1 i2 l1 l2 xs ys (i + 1) (acc.push (.ref (b0 + i))) h' → True := fun _ _ => trivial
    refine wpAny_bind (zs_nextS D lt hS hI hSl Z (Array.getElem?_eq_getElem hix) (Array.getElem?_eq_getElem hiy) fun h' Z' hSl' => ?_)
    show wpAny _ A.in1 (updateSeq S (·.push (.ref (b0 + i))) >>= _) _ _ _
    refine wpAny_bind ?_
    refine wpAny_updateSeq hSl' rfl (wpAny_pure ⟨plainId_quiet F.plain_extend_loop _, ih (i + 1) _ (acc.push (.ref (b0 + i))) _ (by omega) hlt
      (Z'.upd hS hS0 (fun c o hc e => (Heap.get?_update_other _ _ (Ne.symm hc)).trans e) (Heap.size_update ..) hI) (Heap.get?_update_self _ hSl' rfl) hR⟩)
      (by rw [Z.size]; omega) (by show (acc.push _).size ≤ sizeLine + 1; rw [Array.size_push, Z.size]; omega)
theorem zip_init {R : Result → Shared → Prop} (hh : A.handled = none) {z TI TO i1 i2 l1 l2 S : Addr} {xs ys : Array Value} {h0 : Heap} (D : ZipApart z TI TO i1 i2 l1 l2)
    (lt : ∀ c ∈ [z, TI, TO, i1, i2, l1, l2], c < s.heap.objs.size) (hS : S ∉ [z, TI, TO, i1, i2, l1, l2]) (hS0 : ∀ o, h0.get? S = some o → False) (hn : min xs.size ys.size ≤ sizeLine)
    (hSl : s.heap.get? S = some { cls := .type "list", data := .seq #[] }) (Z : ZS s.heap.objs.size h0 z TI TO i1 i2 l1 l2 xs ys 0 #[] s.heap) (hzt : s.TypeIs (.ref z) "zip")
    (hR : ∀ h' acc' c', h'.get? S = some { cls := .type "list", dict := none, data := .seq acc' c', slots := #[] } → FZ s.heap.objs.size h0 z TO i1 i2 xs ys acc' h' → R (.ok (.ret .none)) { s with heap := h' }) :
    wpAny (model prog w) A.in1 (Builtin.«list.__init__» ⟨[.ref S, .ref z], []⟩)
      (fun fin s' => match fin with | .done f => R (.ok f) s' | .again c' => c'.quiet = true ∧ codeAny (model prog w) A c' R s') (fun e s' => R (.error e) s') s := by
  have hSb : S < s.heap.objs.size := Heap.lt_size hSl
  have hI : ∀ j, s.heap.objs.size + j ≠ S := fun j => Nat.ne_of_gt (Nat.lt_of_lt_of_le hSb (Nat.le_add_right _ _))
  have hSI : S ≠ z := fun e => hS (by simp [e])
  show wpAny _ A.in1 (do let old ← Builtin.List.listItems (.ref S); Builtin.List.listUpdate (.ref S) (fun _ => #[]); letGo old.toList.reverse; Builtin.List.listExtendWith (.ref S) (.ref z) .none) _ _ s
  refine wpAny_bind ?_
  unfold Builtin.List.listItems
  refine wpAny_bind (wpAny_seqItems hSl rfl (wpAny_pure ?_))
  show wpAny _ A.in1 (updateSeq S (fun _ => #[]) >>= fun _ => letGo (#[] : Array Value).toList.reverse >>= fun _ => Builtin.List.listExtendWith (.ref S) (.ref z) .none) _ _ s
  refine wpAny_bind (wpAny_updateSeq hSl rfl ?_)
  have hS₂ := Heap.get?_update_self (Obj.mapSeq (fun _ => (#[] : Array Value))) hSl rfl
  have Z₂ : ZS s.heap.objs.size h0 z TI TO i1 i2 l1 l2 xs ys 0 #[] (s.heap.update S (Obj.mapSeq (fun _ => (#[] : Array Value)))) := Z.upd hS hS0 (fun c o hc e => (Heap.get?_update_other _ _ (Ne.symm hc)).trans e) (Heap.size_update ..) hI
  have hz₂ : Shared.TypeIs { s with heap := s.heap.update S (Obj.mapSeq (fun _ => (#[] : Array Value))) } (.ref z) "zip" := by
    obtain ⟨o, ho, hc⟩ := hzt
    exact ⟨o, (Heap.get?_update_other _ _ hSI).trans ho, hc⟩
  refine wpAny_bind (wpAny_letGo ?_)
  unfold Builtin.List.listExtendWith
  refine wpAny_bind (wpAny_typeOf hz₂ ?_)
  have h1 : Builtin.List.listSameRef (.ref S) (.ref z) = false := by simp [Builtin.List.listSameRef, hSI]
  have h2 : (Value.type "zip" == Value.type "list") = false := by decide
  have h3 : (Value.type "zip" == Value.type "tuple") = false := by decide
  simp only [h1, h2, h3, Bool.or_false, Bool.false_eq_true, if_false]
  have hz0 : ∃ f0 f1, IsZipG (s.heap.update S (Obj.mapSeq (fun _ => (#[] : Array Value)))) z TI TO f0 f1 := by
    rcases Z₂.zip with ⟨_, e⟩ | ⟨T, b, oT, e, _⟩
    · exact ⟨_, _, e⟩
    · exact ⟨_, _, e⟩
  have hit : ∀ {Q : Value → Shared → Prop} {E : Value → Shared → Prop}, Q (.ref z) { s with heap := s.heap.update S (Obj.mapSeq (fun _ => (#[] : Array Value))) } → wpAny (model prog w) A.in1 (pyIter (.ref z)) Q E { s with heap := s.heap.update S (Obj.mapSeq (fun _ => (#[] : Array Value))) } := fun h => by
    refine wpAny_pyIter_slot hz₂ F.slot_zip_iter (wpAny_call_entry F.slot_zip_iter hz₂ F.entry_zip_iter ?_ (F.args_zip_iter_1 _))
    show wpAny _ _ (ret (.ref z)) _ _ _
    exact wpAny_pure ⟨_, rfl, "zip", _, hz₂, F.slot_zip_next.lookup, h⟩
  refine wpAny_bind (hit ?_)
  refine wpAny_bind (wpAny_holding ?_)
  unfold Builtin.List.listLengthHint
  refine wpAny_bind (wpAny_specialOf hz₂ zip_no_len ?_)
  show wpAny _ A.in1 (specialOf (Value.ref z) (Str.ofString "__length_hint__") >>= _) _ _ _
  refine wpAny_bind (wpAny_specialOf hz₂ zip_no_hint ?_)
  refine wpAny_pure ?_
  show wpAny _ A.in1 (rule "list.extend.makes-room" >>= fun _ => Builtin.List.listTouch (.ref S) >>= fun _ =>
    again (.builtin "list.extend.loop" ⟨[.ref S, .ref z, .none], []⟩)) _ _ _
  refine wpAny_bind (wpAny_rule ?_)
  refine wpAny_bind ?_
  show wpAny _ A.in1 (updateSeq S (·.push .none) >>= fun _ => updateSeq S (·.pop)) _ _ _
  refine wpAny_bind (wpAny_updateSeq hS₂ rfl ?_)
  have hS₃ := Heap.get?_update_self (Obj.mapSeq (·.push Value.none)) hS₂ rfl
  refine wpAny_updateSeq (hz := by seq_fits) hS₃ rfl ?_
  have hS₄ := Heap.get?_update_self (Obj.mapSeq (·.pop)) hS₃ rfl
  have Z₃ := Z₂.upd hS hS0 (h' := ((s.heap.update S (Obj.mapSeq (fun _ => (#[] : Array Value)))).update S (Obj.mapSeq (·.push Value.none)))) (fun c o hc e => (Heap.get?_update_other _ _ (Ne.symm hc)).trans e) (Heap.size_update ..) hI
  have Z₄ := Z₃.upd hS hS0 (h' := (((s.heap.update S (Obj.mapSeq (fun _ => (#[] : Array Value)))).update S (Obj.mapSeq (·.push Value.none))).update S (Obj.mapSeq (·.pop)))) (fun c o hc e => (Heap.get?_update_other _ _ (Ne.symm hc)).trans e) (Heap.size_update ..) hI
  exact wpAny_pure ⟨plainId_quiet F.plain_extend_loop _, zip_loop hh D lt hS hS0 hSb .none hn _ 0 _ _ _ rfl (Nat.zero_le _) Z₄ hS₄ fun h' acc' c' e F => hR h' acc' c' e F⟩
theorem ane {a b : Nat} (h : a ≠ b) : @Ne Addr a b := h
theorem alt {a b : Nat} (h : a < b) : @LT.lt Addr _ a b := h
/-- list(zip(a, b)) of two lists, from the call of zip on -/
theorem call_list_zip (hh : A.handled = none) {l1 l2 : Addr} {xs ys : Array Value} {h' : Heap} {Q : Value → Shared → Prop} (hl1 : s.heap.IsList l1 xs) (hl2 : s.heap.IsList l2 ys) (hn : min xs.size ys.size ≤ sizeLine)
    (a1 : IsZip h' (s.heap.objs.size + 4) (s.heap.objs.size + 2) (s.heap.objs.size + 3) .none) (a2 : IsPair h' (s.heap.objs.size + 2) (.ref s.heap.objs.size) (.ref (s.heap.objs.size + 1)))
    (a3 : IsPair h' (s.heap.objs.size + 3) .none .none) (a4 : h'.IsListIter s.heap.objs.size l1 0) (a5 : h'.IsListIter (s.heap.objs.size + 1) l2 0) (a6 : h'.objs.size = s.heap.objs.size + 5)
    (a7 : ∀ c o, s.heap.get? c = some o → h'.get? c = some o)
    (hQ : ∀ h'' acc' c', h''.get? (s.heap.objs.size + 5) = some { cls := .type "list", dict := none, data := .seq acc' c', slots := #[] } → acc'.size = min xs.size ys.size →
      (∀ (j : Nat) v, acc'[j]? = some v → v = .ref (s.heap.objs.size + 6 + j) ∧ ∃ x y, xs[j]? = some x ∧ ys[j]? = some y ∧ IsPair h'' (s.heap.objs.size + 6 + j) x y) →
      (∀ c o, s.heap.get? c = some o → h''.get? c = some o) → Q (.ref (s.heap.objs.size + 5)) { s with heap := h'' }) :
    wpAny (model prog w) A (call (.type "list") [.ref (s.heap.objs.size + 4)]) Q E { s with heap := h' } := by
  have t1 : l1 < s.heap.objs.size := by obtain ⟨_, e, _⟩ := hl1; exact Heap.lt_size e
  have t2 : l2 < s.heap.objs.size := by obtain ⟨_, e, _⟩ := hl2; exact Heap.lt_size e
  generalize hn0 : s.heap.objs.size = n0 at *
  have t1 : @LT.lt Nat _ l1 n0 := t1
  have t2 : @LT.lt Nat _ l2 n0 := t2
  have D : ZipApart (n0 + 4) (n0 + 2) (n0 + 3) n0 (n0 + 1) l1 l2 := by
    constructor <;> exact ane (by omega)
  have ps : (h'.push { cls := .type "list", data := .seq #[] }).objs.size = n0 + 6 := by rw [Heap.size_push, a6]
  refine callType_codes (Q₁ := fun obj s₁ => obj = .ref (n0 + 5) ∧ s₁ = { s with heap := h'.push { cls := .type "list", data := .seq #[] } }) F.called_list (F.typeCall_list_1 _) F.entry_list_init
    (code_list_new _ ⟨by show Value.ref h'.objs.size = _; rw [a6], rfl⟩) fun obj s₁ h₁ => ?_
  obtain ⟨rfl, rfl⟩ := h₁
  have hS : (h'.push { cls := .type "list", data := .seq #[] }).get? (n0 + 5) = some { cls := .type "list", data := .seq #[] } := by
    rw [← a6]; exact Heap.get?_push_size _ rfl
  have up : ∀ c o, h'.get? c = some o → (h'.push { cls := .type "list", data := .seq #[] }).get? c = some o := fun c o e => Heap.get?_push_of_some _ e
  have hS0 : ∀ o, s.heap.get? (n0 + 5) = some o → False := fun o e => by
    have := Heap.lt_size e
    rw [hn0] at this
    exact absurd (show @LT.lt Nat _ (n0 + 5) n0 from this) (by omega)
  refine ⟨⟨_, hS, rfl⟩, F.args_list_init_2 _ _, zip_init (A := A.in1) (s := { s with heap := h'.push { cls := .type "list", data := .seq #[] } }) (h0 := s.heap) hh D ?_ ?_ hS0 hn hS ?_ ⟨_, up _ _ a1, rfl⟩ fun h'' acc' c' e F => ⟨rfl, hQ h'' acc' c' e F.size (fun j v hj => ?_) fun c o he => ?_⟩⟩
  · intro c hc
    show c < (h'.push { cls := .type "list", data := .seq #[] }).objs.size
    rw [ps]
    simp only [List.mem_cons, List.not_mem_nil, or_false] at hc
    rcases hc with rfl | rfl | rfl | rfl | rfl | rfl | rfl <;> exact alt (by omega)
  · simp only [List.mem_cons, List.not_mem_nil, or_false, not_or]
    refine ⟨?_, ?_, ?_, ?_, ?_, ?_, ?_⟩ <;> exact ane (by omega)
  · exact {
      zip := .inl ⟨rfl, up _ _ a1⟩, ti := up _ _ a2, tO := ⟨_, _, up _ _ a3⟩, it1 := a4.at fun o e => up _ o e, it2 := a5.at fun o e => up _ o e
      l1 := hl1.at fun o e => up _ o (a7 _ o e), l2 := hl2.at fun o e => up _ o (a7 _ o e), size := rfl
      items := fun j v e => by simp at e
      old := fun c o _ _ _ _ e => up _ _ (a7 _ _ e), hs := rfl }
  · have := F.items j v hj
    show v = .ref (n0 + 6 + j) ∧ _
    rw [ps] at this
    exact this
  · have hc : @LT.lt Nat _ c n0 := by have := Heap.lt_size he; rw [hn0] at this; exact this
    exact F.old c o (ane (by omega)) (ane (by omega)) (ane (by omega)) (ane (by omega)) he
end
/-! ### new pairs are laid -/
inductive LaidP : Hp → List (V × V) → List V → Hp → Prop
  | nil {H : Hp} : LaidP H [] [] H
  | cons {H H' : Hp} {p : Addr} {x y : V} {ps : List (V × V)} {us : List V} : H p = none → LaidP (upd H p (.tup [x, y])) ps us H' → LaidP H ((x, y) :: ps) (.ref p :: us) H'
theorem LaidP.length {H H' : Hp} {ps : List (V × V)} {us : List V} (h : LaidP H ps us H') : us.length = ps.length := by
  induction h with
  | nil => rfl
  | cons _ _ ih => rw [List.length_cons, List.length_cons, ih]
theorem LaidP.fold {G : Gc} {γ : Gh} {A : AH} {H H' : Hp} {ps : List (V × V)} {us : List V} (h : LaidP H ps us H') : ∀ {ds es : List D} {vs ws : List V}, ps = vs.zip ws → Rel G γ A H → VRs G γ H ds vs → VRs G γ H es ws → Rel G γ A H' ∧ Ext γ H γ H' ∧ VRs G γ H' (zipD ds es) us := by
  induction h with
  | nil =>
    intro ds es vs ws e R r1 r2
    refine ⟨R, Ext.refl _ _, ?_⟩
    have e1 := r1.length
    have e2 := r2.length
    cases vs with
    | nil =>
      cases ds with
      | nil => unfold zipD; exact VRs.nil
      | cons d ds => simp at e1
    | cons v vs =>
      cases ws with
      | nil =>
        cases es with
        | nil => cases ds <;> (unfold zipD; exact VRs.nil)
        | cons d es => simp at e2
      | cons w ws => simp at e
  | @cons H H' p x y ps us hp _ ih =>
    intro ds es vs ws e R r1 r2
    cases vs with
    | nil => simp at e
    | cons v vs =>
      cases ws with
      | nil => simp at e
      | cons w ws =>
        rw [List.zip_cons_cons] at e
        injection e with e1 e2
        injection e1 with e3 e4
        subst e3
        subst e4
        cases ds with
        | nil => unfold VRs at r1; cases r1
        | cons d ds =>
          cases es with
          | nil => unfold VRs at r2; cases r2
          | cons f es =>
            unfold VRs at r1 r2
            obtain ⟨_, _, q1, d1, d2⟩ := r1
            obtain ⟨_, _, q2, f1, f2⟩ := r2
            cases q1
            cases q2
            have X : Ext γ H γ (upd H p (.tup [x, y])) := Ext.laid hp
            obtain ⟨R', E', V'⟩ := ih e2 (R.laid hp) (VRs.ext X _ _ d2) (VRs.ext X _ _ f2)
            refine ⟨R', X.trans E', ?_⟩
            unfold zipD
            exact VRs.cons (VR.ext E' _ _ (VR.newT R hp (VRs.cons d1 (VRs.cons f1 VRs.nil)))) V'
section
variable {P : Program} {w : World} {h0 h'' : Heap} {H0 : Hp}
theorem hok_new {H : Hp} {h : Heap} {a : Addr} {ob : HO} (x : HOk P w H h) (hn : H a = none) (new : ObjOk P w (upd H a ob) h a ob) : HOk P w (upd H a ob) h := fun b u e => by
  have nb : ∀ {c v}, H c = some v → c ≠ a := fun q => ne_of_none q hn
  rcases Classical.em (b = a) with z | z
  · rw [z, upd_same] at e
    injection e with e
    rw [z, ← e]
    exact new
  · rw [upd_ne z] at e
    exact (x b u e).stay (fun _ _ _ q => q) (fun c q => (upd_ne (nb q)).trans q) fun c xs q => (upd_ne (nb q)).trans q
structure LQ (P : Program) (w : World) (h0 : Heap) (H0 : Hp) (h'' : Heap) (a0 a : Nat) (H : Hp) : Prop where
  low : ∀ b, b < h0.objs.size → H b = H0 b
  old : ∀ b u, H0 b = some u → H b = some u
  none : ∀ b, h0.objs.size ≤ b → (b < a0 ∨ a ≤ b) → H b = none
  hok : HOk P w H h''
theorem laid_pairs {a0 : Nat} (h0a : h0.objs.size ≤ a0) : ∀ (ps : List (V × V)) (a : Nat) (H : Hp), a0 ≤ a → LQ P w h0 H0 h'' a0 a H →
    (∀ (k : Nat) (p : V × V), ps[k]? = some p → ∃ x y, IsPair h'' (a + k) x y ∧ RelV p.1 x ∧ RelV p.2 y) → ∃ us H2, LaidP H ps us H2 ∧ LQ P w h0 H0 h'' a0 (a + ps.length) H2 ∧ ∀ (k : Nat) v, us[k]? = some v → v = .ref (a + k)
  | [], a, H, _, q, _ => ⟨[], H, .nil, q, fun k v e => by simp at e⟩
  | p :: ps, a, H, ha, q, f => by
    obtain ⟨x, y, e, r1, r2⟩ := f 0 p rfl
    have hn : H a = none := q.none a (Nat.le_trans h0a ha) (.inr (Nat.le_refl _))
    have q' : LQ P w h0 H0 h'' a0 (a + 1) (upd H a (.tup [p.1, p.2])) := {
      low := fun b hb => by rw [upd_ne (Nat.ne_of_lt (Nat.lt_of_lt_of_le hb (Nat.le_trans h0a ha)))]; exact q.low b hb
      old := fun b u e => by
        have e1 := q.old b u e
        rw [upd_ne (ne_of_none e1 hn)]; exact e1
      none := fun b hb h => by
        have : b ≠ a := by
          rcases h with h | h
          · exact Nat.ne_of_lt (Nat.lt_of_lt_of_le h ha)
          · exact Nat.ne_of_gt h
        rw [upd_ne this]
        exact q.none b hb (h.imp id fun h => Nat.le_trans (Nat.le_succ _) h)
      hok := hok_new q.hok hn (show ObjOk P w _ _ _ (.tup [p.1, p.2]) from ⟨by show 2 ≤ sizeLine; decide, [x, y], .cons r1 (.cons r2 .nil), _, e, rfl, _, rfl⟩) }
    obtain ⟨us, H2, L, q2, g⟩ := laid_pairs h0a ps (a + 1) _ (Nat.le_trans ha (Nat.le_succ _)) q' fun k p' e => by
      obtain ⟨x', y', z1, z2, z3⟩ := f (k + 1) p' e
      exact ⟨x', y', by rw [Nat.add_assoc, Nat.add_comm 1 k]; exact z1, z2, z3⟩
    refine ⟨.ref a :: us, H2, .cons hn L, by rw [List.length_cons, Nat.add_comm ps.length 1, ← Nat.add_assoc]; exact q2, fun k v e => ?_⟩
    cases k with
    | zero => simp at e; exact e.symm
    | succ k =>
      have := g k v e
      rw [Nat.add_assoc, Nat.add_comm 1 k] at this
      exact this
end
def tLstZip (K : PySem.W.Frag) (ta : TA) : TE := fun σ H Q => ta σ H fun xs H1 => ∃ a b vs ws, xs = [.ref a, .ref b] ∧ SqL K H1 a vs ∧ SqL K H1 b ws ∧ ∀ us H2, LaidP H1 (vs.zip ws) us H2 → ∀ q, H2 q = none → Q (.ref q) (upd H2 q (.lst us))
theorem pe_lstZip {X : Cx} {e e2 : Expr} {ta : TA} {p pos p2 pos2 : Pos} (hc : X.calm = true) (hg : Gl X "list") (hm : X.mg "list" = none) (hg2 : Gl X "zip") (hm2 : X.mg "zip" = none) (ha : PA X [e, e2] ta)
    (na : starEach [.Call (.Name "zip" p2) [e, e2] [] pos2] X.env = (false, eval (.Call (.Name "zip" p2) [e, e2] [] pos2) X.env) :: starEach [] X.env := by rfl)
    (hs : starEach [e, e2] X.env = (false, eval e X.env) :: starEach [e2] X.env := by rfl) (hpl : (backTo pos2 (starEach [e2] X.env)).any (·.1) = false := by rfl) :
    PE X (.Call (.Name "list" p) [.Call (.Name "zip" p2) [e, e2] [] pos2] [] pos) (tLstZip X.K ta) := by
  refine ⟨fun pins s σ H Q I h => ?_⟩
  refine Call_ (ld_blt I hg hm boot_list (PyProof.Rows.callWith_type1 (args_cons (Call_ (ld_blt I hg2 hm2 PyProof.Rows.boot_zip (PyProof.Rows.callWith_type1 (thn (ha.run pos2 pins s σ H _ I h) fun us s1 ⟨vs, H1, I1, r1, q1⟩ => ?_) hs hpl))) na) na))
  obtain ⟨a, b, xs, ys, ex, hqx, hqy, q1⟩ := q1
  subst ex
  cases r1 with
  | cons r rr =>
    cases rr with
    | cons r' rr =>
      cases rr
      cases r
      cases r'
      obtain ⟨its, rv, p1, z1⟩ := I1.list hqx
      obtain ⟨its2, rv2, p2, z2⟩ := I1.list hqy
      have m1 : min its.toArray.size its2.toArray.size ≤ sizeLine := Nat.le_trans (Nat.min_le_left ..) (by rw [List.size_toArray, ← rv.length]; exact z1)
      refine call_zip_2 p1.isList p2.isList fun h' b1 b2 b3 b4 b5 b6 b7 => args_nil ?_
      refine call_list_zip (I1.ok.hd hc) p1.isList p2.isList m1 b1 b2 b3 b4 b5 b6 b7 fun h'' acc' c' hS hsz hit hk => ?_
      have lz : (xs.zip ys).length = acc'.size := by
        rw [hsz, List.length_zip, List.size_toArray, List.size_toArray, rv.length, rv2.length]
      obtain ⟨us, H2, L, q, g⟩ := laid_pairs (P := X.prog) (w := X.w) (h0 := s1.heap) (H0 := H1) (h'' := h'') (a0 := s1.heap.objs.size + 6) (Nat.le_add_right _ _) (xs.zip ys) (s1.heap.objs.size + 6) H1 (Nat.le_refl _)
        { low := fun _ _ => rfl, old := fun _ _ e => e, none := fun b hb _ => I1.hok.fresh hb, hok := I1.hok.kept hk } fun k pr e => by
          have hlt : k < acc'.size := by rw [← lz]; exact (List.getElem?_eq_some_iff.mp e).1
          obtain ⟨_, x, y, g1, g2, g3⟩ := hit k _ (Array.getElem?_eq_getElem hlt)
          rw [List.getElem?_toArray] at g1 g2
          rw [List.getElem?_zip_eq_some] at e
          obtain ⟨u1, w1, w2⟩ := rv.get e.1
          obtain ⟨u2, w3, w4⟩ := rv2.get e.2
          rw [g1] at w1
          rw [g2] at w3
          cases w1
          cases w3
          exact ⟨x, y, g3, w2, w4⟩
      have hq : H2 (s1.heap.objs.size + 5) = none := q.none _ (Nat.le_add_right _ _) (.inl (Nat.lt_succ_self _))
      have U : Un X.fs [] H1 (upd H2 (s1.heap.objs.size + 5) (.lst us)) s1.heap h'' := {
        keep := fun b u e _ _ _ => hk b u e
        slot := fun b u e _ _ _ => ⟨u.slots, hk b u e⟩
        free := fun b u e n _ => by
          have hb := Heap.lt_size e
          rw [upd_ne (Nat.ne_of_lt (Nat.lt_of_lt_of_le hb (Nat.le_add_right _ _))), q.low b hb]; exact n
        there := fun b u e _ => ⟨u, hk b u e⟩
        tups := fun b xs e => by have := q.old b _ e; rw [upd_ne (ne_of_none this hq)]; exact this
        frzs := fun b o u e => by have := q.old b _ e; rw [upd_ne (ne_of_none this hq)]; exact this
        tbls := fun b ps e => ⟨#[], by have := q.old b _ e; rw [upd_ne (ne_of_none this hq), this]; simp⟩ }
      have lu : us.length = acc'.toList.length := by rw [L.length, lz, Array.length_toList]
      refine ⟨.ref (s1.heap.objs.size + 5), upd H2 (s1.heap.objs.size + 5) (.lst us), I1.un U (hok_new q.hok hq (show ObjOk X.prog X.w _ _ _ (.lst us) from ⟨?_, acc'.toList, c', ?_, ?_⟩)), rfl, q1 us H2 L _ hq⟩
      · rw [lu, Array.length_toList, hsz]; exact m1
      · refine vals_of_at lu fun j x u e1 e2 => ?_
        rw [g j x e1, (hit j u (by rw [← Array.getElem?_toList]; exact e2)).1]
        rfl
      · rw [Array.toArray_toList]; exact hS
def sLstZip (f : Ev → AH → Res (List D)) : Ev → AH → Res D := fun env A => (f env A).bind fun ds A1 => match ds with
  | [.lst xs, .lst ys] => .ok (.lst (zipD xs ys)) A1
  | _ => .stuck
section
variable {X : Cx} {G : Gc} {W : WX} {k : Nat}
theorem je_lstZip (o : XO X G W k) {e e2 : Expr} {p pos p2 pos2 : Pos} {f : Ev → AH → Res (List D)} (hg : Gl X "list") (hm : X.mg "list" = none) (hg2 : Gl X "zip") (hm2 : X.mg "zip" = none) (h : JA X G W [e, e2] f)
    (na : starEach [.Call (.Name "zip" p2) [e, e2] [] pos2] X.env = (false, eval (.Call (.Name "zip" p2) [e, e2] [] pos2) X.env) :: starEach [] X.env := by rfl)
    (hs : starEach [e, e2] X.env = (false, eval e X.env) :: starEach [e2] X.env := by rfl) (hpl : (backTo pos2 (starEach [e2] X.env)).any (·.1) = false := by rfl) :
    JE X G W (.Call (.Name "list" p) [.Call (.Name "zip" p2) [e, e2] [] pos2] [] pos) (sLstZip f) := by
  refine ⟨PE.imp (pe_lstZip o.calm hg hm hg2 hm2 h.run na hs hpl) fun σ H Q h => ?_⟩
  obtain ⟨γ, A, env, S, h⟩ := h
  refine ⟨γ, A, env, S, Post.bind h fun ds A1 γ1 H1 e1 R1 h1 vs r1 => ?_⟩
  split at h1
  · obtain ⟨v, w, rfl, r2, r3⟩ := r1.two
    unfold VR at r2 r3
    obtain ⟨a, us, rfl, f1, n1, q1⟩ := r2
    obtain ⟨b, ws, rfl, f2, n2, q2⟩ := r3
    refine ⟨a, b, us, ws, rfl, SqL.of f1, SqL.of f2, fun us' H2 L q hq => ?_⟩
    obtain ⟨R2, E2, V2⟩ := L.fold rfl R1 q1 q2
    exact h1 γ1 _ (E2.trans (Ext.laid hq)) (R2.laid hq) _ (VR.newL R2 hq V2)
  · exact h1.elim
end
end F3
namespace F3
open PySem PySem.Spec
open PyProof.Rows L2
/-! ### enumerate of a tuple -/
theorem dr_tup {prog : Program} {w : World} {A : Around} (hh : A.handled = none) (it t : Addr) (hne : t ≠ it) (items : Array Value) :
    Draws prog w A it [it, t] items.size (fun i v => items[i]? = some v) (fun i h => h.IsTupleIter it t i ∧ h.IsTuple t items) := {
  live := fun _ _ q => let ⟨o, e, _⟩ := q.1; ⟨o, e⟩
  frame := fun _ _ _ q k => And.intro (q.1.at fun o e => k it List.mem_cons_self o e) (q.2.at fun o e => k t (List.mem_cons_of_mem _ List.mem_cons_self) o e)
  item := fun i s Q E lt q hq => RZ.nextOf_tuple_item q.1 q.2 (Array.getElem?_eq_getElem lt) fun h' a b => hq _ h' s.toks (Array.getElem?_eq_getElem lt) ⟨a, q.2.extBut b.extBut hne⟩ b
  done := fun s Q E q hq => RZ.nextOf_tuple_end hh q.1 q.2 (Array.getElem?_eq_none (Nat.le_refl _)) hq }
def IteT (K : PySem.W.Frag) (a : Addr) : It where
  go := fun i H => ∃ (xs : List V) (x : V), SqT K H a xs ∧ xs[i]? = some x
  yld := fun i H v H' => ∃ T x, v = .ref T ∧ H T = none ∧ H' = upd H T (.tup [.int (i : Nat), x]) ∧ ∀ xs, SqT K H a xs → xs[i]? = some x
  stop := fun i H => ∃ xs : List V, SqT K H a xs ∧ xs.length ≤ i
theorem turn_enumT {P : Program} {w : World} {K : PySem.W.Frag} {elts : List Expr} {kk : Nat} {tpos : Pos} (a e it : Addr) :
    Turn P w K (.Tuple elts kk tpos) (IteT K a) [e, it] e (fun i h => (∃ old, IsEnum h e it ((i : Nat) : Int) old) ∧ h.IsTupleIter it a i ∧ e ≠ it ∧ a ≠ it ∧ a ≠ e) where
  mem := List.mem_cons_self
  obj := fun i h st b hb => by
    obtain ⟨⟨old, he⟩, ⟨o, ho, hc, hd⟩, _⟩ := st
    rcases List.mem_cons.mp hb with z | z
    · rw [z]; exact ⟨_, he, fun v q => nomatch q⟩
    · rw [List.mem_singleton.mp z]; exact ⟨o, ho, fun v q => by rw [hd] at q; cases q⟩
  keep := fun i h h' st k => let ⟨⟨old, he⟩, hi, r⟩ := st; ⟨⟨old, k e (by simp) _ he⟩, hi.at fun o q => k it (by simp) o q, r⟩
  item := by
    intro X hP hw hK hc i pins s σ H E I hf st hg
    subst hP hw hK
    obtain ⟨⟨old, he⟩, hit, hne, hai, hae⟩ := st
    obtain ⟨xs, x, hq, hx⟩ := hg
    obtain ⟨its, rv, p, hz⟩ := I.tuple hq
    obtain ⟨u, hu, ru⟩ := rv.get hx
    have hel : e < s.heap.objs.size := Heap.lt_size he
    have hil : it < s.heap.objs.size := by obtain ⟨_, q, _⟩ := hit; exact Heap.lt_size q
    have hi : i < its.toArray.size := by rw [List.size_toArray]; exact (List.getElem?_eq_some_iff.mp hu).1
    have D := dr_tup (prog := X.prog) (w := X.w) (A := X.A.in1) (I.ok.hd hc) it a hai its.toArray
    refine wpAny_pyNext_enum_itemD D he ⟨hit, p⟩ hi hne (by simp [hne, Ne.symm hae]) fun u' h' tk hu' ho st' hT hsz hk => ?_
    have eu : u' = u := by
      rw [List.getElem?_toArray, hu] at hu'
      exact (Option.some.inj hu').symm
    subst eu
    refine ⟨_, rfl, wpAny_letOwnedTupleGo_enum (s := { s with heap := h', toks := tk + 1 }) ho fun h'' he' sb => ?_⟩
    have fresh : ∀ b, b < s.heap.objs.size → s.heap.objs.size ≠ b := fun b hb => Nat.ne_of_gt hb
    have hT2 := (sb.2 _ (fresh e hel)).trans hT
    have new : ObjOk X.prog X.w (upd H s.heap.objs.size (.tup [.int (i : Nat), x])) h'' s.heap.objs.size (.tup [.int (i : Nat), x]) :=
      ⟨by show 2 ≤ sizeLine; decide, [.int i tk, u'], .cons ⟨_, rfl⟩ (.cons ru .nil), ⟨_, hT2, rfl, _, rfl⟩⟩
    have I1 : Inv X pins σ (upd H s.heap.objs.size (.tup [.int (i : Nat), x])) { s with heap := h'', toks := tk + 1 } :=
      I.turnedNew (ch := [e, it]) (fun b ob hb q => by
        simp only [List.mem_cons, List.not_mem_nil, or_false, not_or] at hb
        exact (sb.2 b hb.1).trans (hk b ob hb.1 hb.2 q)) hf (Nat.le_refl _) new
    refine ⟨.ref s.heap.objs.size, _, I1, rfl, ⟨_, x, rfl, I.hok.fresh (Nat.le_refl _), rfl, fun ys hy => by rw [I.tuple_inj hy hq]; exact hx⟩, ⟨⟨u', ?_⟩, st'.1.at fun o q => (sb.2 it (Ne.symm hne)).trans q, hne, hai, hae⟩, fun b hb => ?_⟩
    · rw [Int.natCast_succ]; exact he'
    · have hb' : b < s.heap.objs.size := by
        rcases List.mem_cons.mp hb with z | z
        · rw [z]; exact hel
        · rw [List.mem_singleton.mp z]; exact hil
      rw [upd_ne (Nat.ne_of_lt hb')]
      exact (hf b hb).1
  done := by
    intro X hP hw hK hc i pins s σ H E I hf st hg
    subst hP hw hK
    obtain ⟨⟨old, he⟩, hit, hne, hai, hae⟩ := st
    obtain ⟨xs, hq, hx⟩ := hg
    obtain ⟨its, rv, p, hz⟩ := I.tuple hq
    have hl := rv.length
    have hT : s.TypeIs (.ref e) "enumerate" := ⟨_, he, rfl⟩
    have hi : its.toArray[i]? = none := Array.getElem?_eq_none (by rw [List.size_toArray, ← hl]; exact hx)
    unfold pyNext
    refine wpAny_bind (wpAny_attempt (wpAny_callSpecial?_slot (name := Str.ofString "__next__") hT F.slot_enumerate_next
      (wpAny_call_entry F.slot_enumerate_next hT F.entry_enumerate_next ?_ (F.args_enumerate_next_1 _))))
    show wpAny _ _ (field (.ref e) 2 >>= _) _ _ _
    refine wpAny_bind (wpAny_field he rfl (x := .ref it) rfl ?_)
    refine wpAny_bind (RZ.nextOf_tuple_end (A := X.A.in1) (I.ok.hd hc) hit p hi fun h' x eb hx' => ?_)
    obtain ⟨o, ho, hcl⟩ := hx'
    refine wpAny_bind (wpAny_isInstance (T := "StopIteration") (b := true) ⟨o, ho, hcl⟩ isSubtype_stop ?_)
    obtain ⟨f0, f1, f2, f3, f4, f5⟩ := hf it (by simp)
    exact wpAny_pure ⟨rfl, I.turned (t' := s.toks) (fun b o hb q => eb b o hb q) f0 f1 f3 f4 f5⟩
  self := fun A i s Q E st h => let ⟨⟨_, he⟩, _⟩ := st; wpAny_pyIter_enum he h
/-- enumerate.__new__ of what begins an iterator -/
theorem meets_enumT (t : Addr) (items : Array Value) :
    Meets (Builtin.«enumerate.__new__» ⟨[.type "enumerate", .ref t], []⟩) (fun _ R s => s.heap.IsTuple t items ∧
      R (.ok (.ret (.ref (s.heap.push { cls := .type "tuple_iterator", data := .fields #[.ref t, .int 0 0] }).objs.size)))
        { s with heap := (s.heap.push { cls := .type "tuple_iterator", data := .fields #[.ref t, .int 0 0] }).push { cls := .type "enumerate", data := .fields #[.none, .bool false, .ref s.heap.objs.size, rawInt 0, .none, .none] } }) :=
  .of_wp fun prog w A R s h => by
    obtain ⟨hp, g, d, tk, os⟩ := s
    obtain ⟨hl, h⟩ := h
    have hsub := sub_enumerate
    wp_walk
    refine wpAny_stack_any fun st => wpAny_pure ?_
    split
    · rename_i c _ _ _ _ _
      cases (c == Value.type "enumerate") <;> (wp_walk using wpAny_pyIter_tuple hl; exact ⟨_, rfl, h⟩)
    · wp_walk using wpAny_pyIter_tuple hl
      exact ⟨_, rfl, h⟩
section
variable {prog : Program} {w : World} {A : Around} {E : Value → Shared → Prop} {s : Shared}
theorem call_enumT {t : Addr} {items : Array Value} {Q : Value → Shared → Prop} (ht : s.heap.IsTuple t items)
    (h : ∀ h', IsEnum h' (s.heap.objs.size + 1) s.heap.objs.size 0 .none → h'.IsTupleIter s.heap.objs.size t 0 → h'.objs.size = s.heap.objs.size + 2 →
      (∀ b o, s.heap.get? b = some o → h'.get? b = some o) → Q (.ref (s.heap.objs.size + 1)) { s with heap := h' }) :
    wpAny (model prog w) A (call (.type "enumerate") [.ref t]) Q E s := by
  refine callType_new F.called_enumerate (by decide) (F.typeCall_enumerate_1 _) (F.newCall_enumerate_1 _) (fun obj => F.args_object_init_2 obj _) F.entry_enumerate_new (meets_enumT t items) ⟨ht, ?_⟩
  have hz : (s.heap.push { cls := .type "tuple_iterator", data := .fields #[.ref t, .int 0 0] }).objs.size = s.heap.objs.size + 1 := Heap.size_push ..
  have g1 : ∀ o2 : Obj, ((s.heap.push { cls := .type "tuple_iterator", data := .fields #[.ref t, .int 0 0] }).push o2).get? s.heap.objs.size = some { cls := .type "tuple_iterator", data := .fields #[.ref t, .int 0 0] } := fun o2 => Heap.get?_push_of_some _ (Heap.get?_push_size _ rfl)
  have g2 := Heap.get?_push_size (s.heap.push { cls := .type "tuple_iterator", data := .fields #[.ref t, .int 0 0] }) (o := { cls := .type "enumerate", data := .fields #[.none, .bool false, .ref s.heap.objs.size, rawInt 0, .none, .none] }) rfl
  rw [hz] at g2
  show _ ∧ _
  rw [hz]
  exact ⟨⟨_, g2, rfl⟩, h _ g2 ⟨_, g1 _, rfl, rfl⟩ (by rw [Heap.size_push, hz]) fun b o x => Heap.get?_push_of_some _ (Heap.get?_push_of_some _ x)⟩
end
def iEnuA (K : PySem.W.Frag) (ta : TA) : TI := fun σ H R => ta σ H fun vs H1 => ∃ a xs, vs = [.ref a] ∧ ((SqL K H1 a xs ∧ R (Ite K a) H1) ∨ (SqT K H1 a xs ∧ R (IteT K a) H1))
theorem pi_enumA {X : Cx} {e : Expr} {ta : TA} {p pos tpos : Pos} {elts : List Expr} {kk : Nat} (hg : Gl X "enumerate") (hm : X.mg "enumerate" = none) (ha : PA X [e] ta) (hs : starEach [e] X.env = [(false, eval e X.env)] := by rfl) :
    PI X (.Tuple elts kk tpos) (.Call (.Name "enumerate" p) [e] [] pos) (iEnuA X.K ta) := by
  refine ⟨fun pins s σ H R I h => ?_⟩
  refine Call_ (ld_blt I hg hm boot_enumerate (PyProof.Rows.callWith_type1 (thn (ha.run pos pins s σ H _ I h) fun us s1 ⟨vs, H1, I1, r1, q1⟩ => ?_) hs rfl))
  obtain ⟨a, xs, ex, q1⟩ := q1
  subst ex
  cases r1 with
  | cons r rr =>
    cases rr
    cases r
    have fresh : ∀ b, b ∈ [s1.heap.objs.size + 1, s1.heap.objs.size] → FpOk X pins H1 b := fun b hb => by
      have hle : s1.heap.objs.size ≤ b := by
        rcases List.mem_cons.mp hb with z | z
        · rw [z]; exact Nat.le_succ _
        · rw [List.mem_singleton.mp z]; exact Nat.le_refl _
      exact I1.fpOk hle (I1.hok.fresh hle)
    rcases q1 with ⟨hq, q⟩ | ⟨hq, q⟩
    · obtain ⟨its, rv, p', hz⟩ := I1.list hq
      refine call_enumerate_list p'.isList fun h' he hit hsz hk => wpAny_pyIter_enum he ?_
      exact ⟨s1.heap.objs.size + 1, [s1.heap.objs.size + 1, s1.heap.objs.size], _, _, H1, rfl, I1.kept (t' := s1.toks) hk, turn_enum a (s1.heap.objs.size + 1) s1.heap.objs.size, ⟨⟨.none, he⟩, hit, Nat.succ_ne_self _⟩, fresh, q⟩
    · obtain ⟨its, rv, p', hz⟩ := I1.tuple hq
      have al : a < s1.heap.objs.size := by obtain ⟨_, e1, _⟩ := id p'; exact Heap.lt_size e1
      refine call_enumT (show s1.heap.IsTuple a its.toArray from p') fun h' he hit hsz hk => wpAny_pyIter_enum he ?_
      exact ⟨s1.heap.objs.size + 1, [s1.heap.objs.size + 1, s1.heap.objs.size], _, _, H1, rfl, I1.kept (t' := s1.toks) hk, turn_enumT a (s1.heap.objs.size + 1) s1.heap.objs.size, ⟨⟨.none, he⟩, hit, Nat.succ_ne_self _, Nat.ne_of_lt al, Nat.ne_of_lt (Nat.lt_succ_of_lt al)⟩, fresh, q⟩
theorem yl_enumT {G : Gc} {γ : Gh} {H : Hp} {a : Addr} {ds : List D} {vs : List V} (f : FxT G γ H a vs) (r : VRs G γ H ds vs) : Yl G γ H (IteT G.K a) (enumD 0 ds) := by
  intro i γ' H' A e R
  have q := (e.fxT f).sq
  refine ⟨fun d z => ?_, fun z => ⟨vs, q, by rw [enumD_length] at z; rw [← r.length]; exact z⟩⟩
  obtain ⟨x, z1, rfl⟩ := enumD_get _ _ _ _ z
  obtain ⟨v, e1, rv⟩ := r.get z1
  refine ⟨⟨vs, v, q, e1⟩, fun u H2 hy => ?_⟩
  obtain ⟨T, x', rfl, hT, rfl, hx⟩ := hy
  have k1 := hx vs q
  rw [e1] at k1
  cases k1
  rw [Nat.zero_add]
  exact new_pair R hT (by unfold VR; rfl) (VR.ext0 e _ _ rv)
/-- enumerate of a list or of a tuple -/
def iEnumA (f : Ev → AH → Res (List D)) : Ev → AH → Res (List D) := fun env A => (f env A).bind fun ds A1 => match ds with
  | [.lst xs] => .ok (enumD 0 xs) A1
  | [.tup xs] => .ok (enumD 0 xs) A1
  | _ => .stuck
section
variable {X : Cx} {G : Gc} {W : WX} {k : Nat}
theorem ji_enumA (o : XO X G W k) {e : Expr} {p pos tpos : Pos} {elts : List Expr} {kk : Nat} {f : Ev → AH → Res (List D)} (hg : Gl X "enumerate") (hm : X.mg "enumerate" = none) (ha : JA X G W [e] f) (hs : starEach [e] X.env = [(false, eval e X.env)] := by rfl) :
    JI X G W (.Tuple elts kk tpos) (.Call (.Name "enumerate" p) [e] [] pos) (iEnumA f) := by
  refine ⟨PI.imp (pi_enumA hg hm ha.run hs) fun σ H R hw => ?_⟩
  obtain ⟨γ, A, env, S, hw⟩ := hw
  refine ⟨γ, A, env, S, Post.bind hw fun ds A1 γ1 H1 e1 R1 h1 vs r1 => ?_⟩
  split at h1
  · obtain ⟨v, rfl, r2⟩ := r1.one
    unfold VR at r2
    obtain ⟨a, us, rfl, f1, n1, q1⟩ := r2
    exact ⟨a, us, rfl, .inl ⟨SqL.of f1, h1 γ1 H1 (Ext.refl _ _) R1 _ (yl_enum f1 n1 q1 X.K)⟩⟩
  · obtain ⟨v, rfl, r2⟩ := r1.one
    unfold VR at r2
    obtain ⟨a, us, rfl, f1, q1⟩ := r2
    exact ⟨a, us, rfl, .inr ⟨o.gk ▸ f1.sq, h1 γ1 H1 (Ext.refl _ _) R1 _ (o.gk ▸ yl_enumT f1 q1)⟩⟩
  · exact h1.elim
end
end F3
namespace F3
open PySem PySem.Spec
open PyProof.Rows L2
/-! ### behind two statements: the lists that they made are changed no more -/
def frzE (A : AH) (n : Nat) : Ev → Option Ev
  | [] => some []
  | none :: r => (frzE A n r).map (none :: ·)
  | some d :: r => match frz A n 30 d, frzE A n r with
    | some e, some es => some (some e :: es)
    | _, _ => none
def fzK (n : Nat) (env1 : Ev) (A1 : AH) (g : Ev → AH → SR) : SR := match frzE A1 n env1 with
  | some env2 => if belowsO n (A1.take n) then g env2 (A1.take n) else .stuck
  | none => .stuck
def bFz (f1 f2 g : Ev → AH → SR) : Ev → AH → SR := fun env A => match f1 env A with
  | .nx env1 A1 => match f2 env1 A1 with
    | .nx env2 A2 => fzK A.length env2 A2 g
    | r => r
  | r => r
section
variable {G : Gc} {γ : Gh} {H : Hp} {A : AH} {n : Nat}
theorem frzE_of (R : Rel G γ A H) : ∀ (env env' : Ev), frzE A n env = some env' → env'.length = env.length ∧ ∀ (i : Nat) (d' : D), env'[i]? = some (some d') → ∃ d, env[i]? = some (some d) ∧ ∀ v, VR G γ H d v → VR G (γ.cut n) H d' v
  | [], env', e => by unfold frzE at e; cases e; exact ⟨rfl, fun i d' h => by simp at h⟩
  | none :: r, env', e => by
    unfold frzE at e
    obtain ⟨es, e1, rfl⟩ := Option.map_eq_some_iff.mp e
    obtain ⟨hl, h⟩ := frzE_of R r es e1
    refine ⟨by rw [List.length_cons, List.length_cons, hl], fun i d' q => ?_⟩
    cases i with
    | zero => simp at q
    | succ i => exact h i d' q
  | some d :: r, env', e => by
    unfold frzE at e
    cases q1 : frz A n 30 d with
    | none => rw [q1] at e; cases e
    | some d1 =>
      cases q2 : frzE A n r with
      | none => rw [q1, q2] at e; cases e
      | some es =>
        rw [q1, q2] at e
        cases e
        obtain ⟨hl, h⟩ := frzE_of R r es q2
        refine ⟨by rw [List.length_cons, List.length_cons, hl], fun i d' q => ?_⟩
        cases i with
        | zero => cases q; exact ⟨d, rfl, fun v => frz_of R _ _ _ v q1⟩
        | succ i => exact h i d' q
theorem St3.cut {env env' : Ev} {σ : L2.St} (S : St3 G γ A env H σ) (e : frzE A n env = some env') (b : belowsO n (A.take n) = true) : St3 G (γ.cut n) (A.take n) env' H σ := by
  obtain ⟨hl, h⟩ := frzE_of S.rel env env' e
  refine ⟨S.rel.cut b, hl.trans S.len, fun i d' q => ?_⟩
  obtain ⟨d, e1, e2⟩ := h i d' q
  obtain ⟨v, e3, r⟩ := S.er i d e1
  exact ⟨v, e3, e2 v r⟩
end
section
variable {X : Cx} {G : Gc} {W : WX} {k : Nat}
theorem jb_frz {s1 s2 : Stmt} {rest : List Stmt} {f1 f2 g : Ev → AH → SR} (h1 : JS X G W s1 f1) (h2 : JS X G W s2 f2) (h3 : JB X G W rest g) : JB X G W (s1 :: s2 :: rest) (bFz f1 f2 g) := by
  refine ⟨PSs.imp (pss_cons h1.run (pss_cons h2.run h3.run)) fun E σ H h => ?_⟩
  obtain ⟨γ, A, env, S, h⟩ := h
  refine ⟨γ, A, env, S, ?_⟩
  unfold bFz at h
  cases q : f1 env A with
  | nx env1 A1 =>
    rw [q] at h
    intro γ1 H1 σ1 e1 S1
    refine ⟨γ1, A1, env1, S1, ?_⟩
    simp only at h
    cases q2 : f2 env1 A1 with
    | nx env2 A2 =>
      rw [q2] at h
      intro γ2 H2 σ2 e2 S2
      simp only [fzK] at h
      split at h
      · rename_i env3 e3
        split at h
        · rename_i b
          exact ⟨γ2.cut A.length, A2.take A.length, env3, S2.cut e3 b, PostS.ext ((e1.trans e2).cut S.rel rfl) h⟩
        · exact h.elim
      · exact h.elim
    | _ => rw [q2] at h; exact PostS.ext e1 h
  | _ => rw [q] at h; exact h
end
end F3
namespace Lw
open PySem PySem.Spec
open PyProof.Rows L2 F3
/-- 0 script, 1 spot, 2 cell, 3 great -/
def b_law_jar : Ev → AH → SR := bSeq (bSet (gNm 2) (sIf (sTest (sBin gLt (sVar 1) (sCall gLen (sCons (sVar 0) (sNil))))) (sCall gInt (sCons (sBin gIx (sVar 0) (sVar 1)) (sNil))) (sBin gAdd (sBin gMulS (sC (.int 113)) (sVar 1)) (sC (.int 59))))) (bSeq (bSet (gNm 3) (sBin gMod (sCall gMax2 (sCons (sC (.int 0)) (sCons (sBin gSub (sCall gAbs (sCons (sVar 2) (sNil))) (sBin gPow (sC (.int 10)) (sC (.int 17)))) (sNil)))) (sBin gMulS (sBin gPow (sC (.int 10)) (sC (.int 58))) (sBin gPow (sC (.int 10)) (sC (.int 59)))))) (bRet (sLstM (sCons (sVar 3) (sCons (sBin gAdd (sBin gAdd (sBin gAdd (sBin gMulS (sBin gMod (sCall gAbs (sCons (sVar 2) (sNil))) (sC (.int 1152921504606847009))) (sC (.int 103))) (sBin gMulS (sC (.int 1013)) (sVar 1))) (sBin gMulS (sC (.int 71)) (sCall gInt (sCons (sBin gLt (sVar 2) (sC (.int 0))) (sNil))))) (sC (.int 13))) (sCons (sC (.int 0)) (sNil)))))))
def m_law_jar : List D → AH → Res D := runN 4 2 b_law_jar
theorem u_law_jar (x0 x1 : D) (A : AH) : m_law_jar [x0, x1] A = SR.finN (b_law_jar [some x0, some x1, none, none] A) := e_runN 4 2 _ _ rfl
/-- 0 value -/
def b_is_int : Ev → AH → SR := bRet (sAndV (sIsiB "int" (sVar 0)) (sNotV (sIsiB "bool" (sVar 0))))
def m_is_int : List D → AH → Res D := runF 1 1 b_is_int
theorem u_is_int (x0 : D) (A : AH) : m_is_int [x0] A = SR.fin A.length (b_is_int [some x0] A) := e_runF 1 1 _ _ rfl
/-- 0 value -/
def b_is_whole : Ev → AH → SR := bRet (sAndV (sCall m_is_int (sCons (sVar 0) (sNil))) (sChain gLt gLt (sUn gNeg (sC (.int 1000000000000000000000000000000000000000000000000000000000000))) (sVar 0) (sC (.int 1000000000000000000000000000000000000000000000000000000000000))))
def m_is_whole : List D → AH → Res D := runF 1 1 b_is_whole
theorem u_is_whole (x0 : D) (A : AH) : m_is_whole [x0] A = SR.fin A.length (b_is_whole [some x0] A) := e_runF 1 1 _ _ rfl
/-- 0 value, 1 low, 2 high -/
def b_is_within : Ev → AH → SR := bRet (sAndV (sCall m_is_whole (sCons (sVar 0) (sNil))) (sChain gLe gLe (sVar 1) (sVar 0) (sVar 2)))
def m_is_within : List D → AH → Res D := runF 3 3 b_is_within
theorem u_is_within (x0 x1 x2 : D) (A : AH) : m_is_within [x0, x1, x2] A = SR.fin A.length (b_is_within [some x0, some x1, some x2] A) := e_runF 3 3 _ _ rfl
/-- 0 size -/
def b_require_size : Ev → AH → SR := bIf (sNotT (sTest (sCall m_is_within (sCons (sVar 0) (sCons (sC (.int 1)) (sCons (sC (.int 7)) (sNil))))))) (bRaise (sMk1 4 (sCons (sVar 0) (sNil)))) (bNil)
def m_require_size : List D → AH → Res D := runF 1 1 b_require_size
theorem u_require_size (x0 : D) (A : AH) : m_require_size [x0] A = SR.fin A.length (b_require_size [some x0] A) := e_runF 1 1 _ _ rfl
/-- 0 size, 1 value, 2 tie, 3 one, 4 other -/
def b_are_ties : Ev → AH → SR := bSeq (bIf (sOrT (sNotT (sTest (sIsiB "tuple" (sVar 1)))) (sTest (sBin gGt (sCall gLen (sCons (sVar 1) (sNil))) (sC (.int 14))))) (bRet (sC (.bl false))) (bNil)) (bSeq (bIf (sNotT (sTest (sCall gAll (sCons (sLC [2] (iOf (sVar 1)) (gNm 2) (tTrue) (sAndV (sIsiB "tuple" (sVar 2)) (sBin gEq (sCall gLen (sCons (sVar 2) (sNil))) (sC (.int 2))))) (sNil))))) (bRet (sC (.bl false))) (bNil)) (bSeq (bIf (sNotT (sTest (sCall gAll (sCons (sLC [3, 4] (iOf (sVar 1)) (gTp (gMore (gNm 3) (gMore (gNm 4) (gEnd)))) (tTrue) (sAndV (sCall m_is_within (sCons (sVar 3) (sCons (sC (.int 0)) (sCons (sBin gSub (sVar 0) (sC (.int 1))) (sNil))))) (sCall m_is_within (sCons (sVar 4) (sCons (sVar 3) (sCons (sBin gSub (sVar 0) (sC (.int 1))) (sNil))))))) (sNil))))) (bRet (sC (.bl false))) (bNil)) (bRet (sCall gAll (sCons (sLC [3, 4] (iZip2 (sCons (sVar 1) (sCons (sSlice (sVar 1) (oSome (sC (.int 1))) (oNone)) (sNil)))) (gTp (gMore (gNm 3) (gMore (gNm 4) (gEnd)))) (tTrue) (sBin gLe (sVar 3) (sVar 4))) (sNil))))))
def m_are_ties : List D → AH → Res D := runF 5 2 b_are_ties
theorem u_are_ties (x0 x1 : D) (A : AH) : m_are_ties [x0, x1] A = SR.fin A.length (b_are_ties [some x0, some x1, none, none, none] A) := e_runF 5 2 _ _ rfl
/-- 0 self, 1 size, 2 ties -/
def b_Web_init : Ev → AH → SR := bSeq (bExpr (sCall m_require_size (sCons (sVar 1) (sNil)))) (bSeq (bIf (sNotT (sTest (sCall m_are_ties (sCons (sVar 1) (sCons (sVar 2) (sNil)))))) (bRaise (sMk0 1)) (bNil)) (bFlds (aMore (aFld 0 0 (sVar 0)) (aMore (aFld 0 1 (sVar 0)) (aEnd))) (sTup (sCons (sVar 1) (sCons (sVar 2) (sNil))))))
def m_Web_init : List D → AH → Res D := runF 3 3 b_Web_init
theorem u_Web_init (x0 x1 x2 : D) (A : AH) : m_Web_init [x0, x1, x2] A = SR.fin A.length (b_Web_init [some x0, some x1, some x2] A) := e_runF 3 3 _ _ rfl
/-- 0 jar, 1 many, 2 found, 3 one, 4 two -/
def b_law_dip : Ev → AH → SR := bSeq (bIf (sTest (sBin gGt (sBin gIx (sVar 0) (sC (.int 0))) (sC (.int 0)))) (bSeq (bSet (gNm 2) (sBin gMod (sCall gInt (sCons (sBin gIx (sVar 0) (sC (.int 0))) (sNil))) (sVar 1))) (bSeq (bStore (sVar 0) (sC (.int 0)) (sBin gFdiv (sBin gIx (sVar 0) (sC (.int 0))) (sVar 1))) (bRet (sVar 2)))) (bNil)) (bSeq (bStore (sVar 0) (sC (.int 2)) (sBin gAdd (sBin gIx (sVar 0) (sC (.int 2))) (sC (.int 1)))) (bSeq (bSet (gNm 3) (sBin gMod (sCall gInt (sCons (sBin gAdd (sBin gIx (sVar 0) (sC (.int 1))) (sBin gMulS (sC (.int 67867967)) (sBin gIx (sVar 0) (sC (.int 2))))) (sNil))) (sC (.int 2305843009213693951)))) (bSeq (bSet (gNm 4) (sBin gAdd (sBin gMulS (sBin gMod (sCall gInt (sCons (sBin gAdd (sBin gMulS (sVar 3) (sVar 3)) (sBin gMulS (sC (.int 109)) (sBin gIx (sVar 0) (sC (.int 2))))) (sNil))) (sC (.int 2305843009213693921))) (sC (.int 5999993))) (sVar 3))) (bRet (sBin gMod (sCall gInt (sCons (sBin gFdiv (sVar 4) (sC (.int 65537))) (sNil))) (sVar 1))))))
def m_law_dip : List D → AH → Res D := runF 5 2 b_law_dip
theorem u_law_dip (x0 x1 : D) (A : AH) : m_law_dip [x0, x1] A = SR.fin A.length (b_law_dip [some x0, some x1, none, none, none] A) := e_runF 5 2 _ _ rfl
/-- 0 jar, 1 items -/
def b_law_one : Ev → AH → SR := bRet (sBin gIx (sVar 1) (sCall m_law_dip (sCons (sVar 0) (sCons (sCall gLen (sCons (sVar 1) (sNil))) (sNil)))))
def m_law_one : List D → AH → Res D := runF 2 2 b_law_one
theorem u_law_one (x0 x1 : D) (A : AH) : m_law_one [x0, x1] A = SR.fin A.length (b_law_one [some x0, some x1] A) := e_runF 2 2 _ _ rfl
/-- 0 ask, 1 error -/
def b_law_met (φ : List D → AH → Res D) : Ev → AH → SR := bTry (bRet (sTup (sCons (sC (.str ⟨#[116, 111, 108, 100]⟩)) (sCons (sAct 0 φ sNil) (sNil))))) [⟨(mIn [1]), none, (fun x => bRet ((fun _ => sTup (sCons (sC (.str ⟨#[119, 101, 98]⟩)) (sNil))) x))⟩, ⟨(mIn [2]), none, (fun x => bRet ((fun _ => sTup (sCons (sC (.str ⟨#[108, 111, 116]⟩)) (sNil))) x))⟩, ⟨(mIn [3]), none, (fun x => bRet ((fun _ => sTup (sCons (sC (.str ⟨#[111, 112, 101, 114, 97, 116, 105, 111, 110]⟩)) (sNil))) x))⟩, ⟨(mIn [4]), some 1, (fun x => bRet ((fun x => sTup ((fun x => sCons ((fun _ => sC (.str ⟨#[110, 117, 109, 98, 101, 114]⟩)) x) ((fun x => sCons ((fX 4) x) ((fun _ => sNil) x)) x)) x)) x))⟩, ⟨(mIn [5]), some 1, (fun x => bRet ((fun x => sTup ((fun x => sCons ((fun _ => sC (.str ⟨#[109, 97, 110, 121]⟩)) x) ((fun x => sCons ((fX 5) x) ((fun _ => sNil) x)) x)) x)) x))⟩]
def m_law_met : (List D → AH → Res D) → List D → AH → Res D := runL 2 1 b_law_met
/-- 0 web -/
def b_require_web : Ev → AH → SR := bIf (sNotT (sTest (sIsiO 0 (sVar 0)))) (bRaise (sMk0 1)) (bNil)
def m_require_web : List D → AH → Res D := runF 1 1 b_require_web
theorem u_require_web (x0 : D) (A : AH) : m_require_web [x0] A = SR.fin A.length (b_require_web [some x0] A) := e_runF 1 1 _ _ rfl
/-- 0 size, 1 other, 2 fixed, 3 found, 4 free, 5 place -/
def b_names_behind : Ev → AH → SR := bSeq (bPar 3 4 (sCons (sLstM (sNil)) (sCons (sVar 0) sNil))) (bSeq (bFor (iRange1 (sCons (sUn (gFld 0 0) (sVar 1)) (sNil))) (gNm 5) (bSeq (bExpr (sAppend (sVar 3) (sGet2 (sVar 2) (sVar 5) (sVar 4)))) (bAug 4 (fun a b => a + b) (sIf (sTest (sBin gInD (sVar 5) (sVar 2))) (sC (.int 0)) (sC (.int 1)))))) (bRet (sTup (sCons (sVar 3) (sCons (sVar 4) (sNil))))))
def m_names_behind : List D → AH → Res D := runF 6 3 b_names_behind
theorem u_names_behind (x0 x1 x2 : D) (A : AH) : m_names_behind [x0, x1, x2] A = SR.fin A.length (b_names_behind [some x0, some x1, some x2, none, none, none] A) := e_runF 6 3 _ _ rfl
/-- 0 web, 1 other, 2 fixed, 3 left, 4 far_left, 5 names, 6 size, 7 index, 8 pairs, 9 one, 10 far, 11 tie -/
def b_put_on : Ev → AH → SR := bSeq (bSet (gTp (gMore (gNm 5) (gMore (gNm 6) (gEnd)))) (sCall m_names_behind (sCons (sUn (gFld 0 0) (sVar 0)) (sCons (sVar 1) (sCons (sVar 2) (sNil)))))) (bSeq (bSet (gNm 8) (sLCM [7, 11] (iEnumA (sCons (sUn (gFld 0 1) (sVar 0)) (sNil))) (gTp (gMore (gNm 7) (gMore (gNm 11) (gEnd)))) (sTest (sBin gNotInD (sVar 7) (sVar 3))) (sVar 11))) (bSeq (bFor (iEnumA (sCons (sUn (gFld 0 1) (sVar 1)) (sNil))) (gTp (gMore (gNm 7) (gMore (gTp (gMore (gNm 9) (gMore (gNm 10) (gEnd)))) (gEnd)))) (bIf (sTest (sBin gNotInD (sVar 7) (sVar 4))) (bExpr (sAppend (sVar 8) (sTup (sCons (sBin gIx (sVar 5) (sVar 9)) (sCons (sBin gIx (sVar 5) (sVar 10)) (sNil)))))) (bNil))) (bRet (sTup (sCons (sVar 6) (sCons (sVar 8) (sCons (sVar 5) (sNil))))))))
def m_put_on : List D → AH → Res D := runF 12 5 b_put_on
theorem u_put_on (x0 x1 x2 x3 x4 : D) (A : AH) : m_put_on [x0, x1, x2, x3, x4] A = SR.fin A.length (b_put_on [some x0, some x1, some x2, some x3, some x4, none, none, none, none, none, none, none] A) := e_runF 12 5 _ _ rfl
/-- 0 pairs, 1 pair -/
def b_ties_from : Ev → AH → SR := bRet (sCall gTuple (sCons (sCall (orC gSorted (gSortD false)) (sCons (sLC [1] (iOf (sVar 0)) (gNm 1) (tTrue) (sTup (sCons (sCall gMin1 (sCons (sVar 1) (sNil))) (sCons (sCall gMax1 (sCons (sVar 1) (sNil))) (sNil))))) (sNil))) (sNil)))
def m_ties_from : List D → AH → Res D := runF 2 1 b_ties_from
theorem u_ties_from (x0 : D) (A : AH) : m_ties_from [x0] A = SR.fin A.length (b_ties_from [some x0, none] A) := e_runF 2 1 _ _ rfl
/-- 0 size, 1 pairs -/
def b_made : Ev → AH → SR := bSeq (bIf (sTest (sBin gGt (sVar 0) (sC (.int 7)))) (bRaise (sMk1 5 (sCons (sC (.int 7)) (sNil)))) (bNil)) (bSeq (bIf (sTest (sBin gGt (sCall gLen (sCons (sVar 1) (sNil))) (sC (.int 14)))) (bRaise (sMk1 5 (sCons (sC (.int 14)) (sNil)))) (bNil)) (bRet (sCall (mMake 0 m_Web_init) (sCons (sVar 0) (sCons (sCall m_ties_from (sCons (sVar 1) (sNil))) (sNil))))))
def m_made : List D → AH → Res D := runF 2 2 b_made
theorem u_made (x0 x1 : D) (A : AH) : m_made [x0, x1] A = SR.fin A.length (b_made [some x0, some x1] A) := e_runF 2 2 _ _ rfl
/-- 0 web, 1 other, 2 size, 3 pairs, 4 names -/
def b_beside : Ev → AH → SR := bSeq (bExpr (sCall m_require_web (sCons (sVar 0) (sNil)))) (bSeq (bExpr (sCall m_require_web (sCons (sVar 1) (sNil)))) (bSeq (bSet (gTp (gMore (gNm 2) (gMore (gNm 3) (gMore (gNm 4) (gEnd))))) (sCall m_put_on (sCons (sVar 0) (sCons (sVar 1) (sCons (sDct []) (sCons (sTup (sNil)) (sCons (sTup (sNil)) (sNil)))))))) (bRet (sCall m_made (sCons (sVar 2) (sCons (sVar 3) (sNil)))))))
def m_beside : List D → AH → Res D := runF 5 2 b_beside
theorem u_beside (x0 x1 : D) (A : AH) : m_beside [x0, x1] A = SR.fin A.length (b_beside [some x0, some x1, none, none, none] A) := e_runF 5 2 _ _ rfl
/-- 0 web, 1 places, 2 place -/
def b_require_place : Ev → AH → SR := bSeq (bExpr (sCall m_require_web (sCons (sVar 0) (sNil)))) (bFor (iOf (sVar 1)) (gNm 2) (bIf (sNotT (sTest (sCall m_is_within (sCons (sVar 2) (sCons (sC (.int 0)) (sCons (sBin gSub (sUn (gFld 0 0) (sVar 0)) (sC (.int 1))) (sNil))))))) (bRaise (sMk1 4 (sCons (sVar 2) (sNil)))) (bNil)))
def m_require_place : List D → AH → Res D := runV 3 1 b_require_place
/-- 0 other, 1 far -/
def b_require_far_place : Ev → AH → SR := bSeq (bExpr (sCall m_require_web (sCons (sVar 0) (sNil)))) (bIf (sNotT (sTest (sCall m_is_within (sCons (sVar 1) (sCons (sC (.int 0)) (sCons (sBin gSub (sUn (gFld 0 0) (sVar 0)) (sC (.int 1))) (sNil))))))) (bRaise (sMk1 4 (sCons (sVar 1) (sNil)))) (bNil))
def m_require_far_place : List D → AH → Res D := runF 2 2 b_require_far_place
theorem u_require_far_place (x0 x1 : D) (A : AH) : m_require_far_place [x0, x1] A = SR.fin A.length (b_require_far_place [some x0, some x1] A) := e_runF 2 2 _ _ rfl
/-- 0 web, 1 place, 2 other, 3 far, 4 size, 5 pairs, 6 names -/
def b_joined : Ev → AH → SR := bSeq (bExpr (sCall m_require_web (sCons (sVar 0) (sNil)))) (bSeq (bExpr (sCall m_require_place (sCons (sVar 0) (sCons (sVar 1) (sNil))))) (bSeq (bExpr (sCall m_require_far_place (sCons (sVar 2) (sCons (sVar 3) (sNil))))) (bSeq (bSet (gTp (gMore (gNm 4) (gMore (gNm 5) (gMore (gNm 6) (gEnd))))) (sCall m_put_on (sCons (sVar 0) (sCons (sVar 2) (sCons (sDct [(sVar 3, sVar 1)]) (sCons (sTup (sNil)) (sCons (sTup (sNil)) (sNil)))))))) (bRet (sCall m_made (sCons (sVar 4) (sCons (sVar 5) (sNil))))))))
def m_joined : List D → AH → Res D := runF 7 4 b_joined
theorem u_joined (x0 x1 x2 x3 : D) (A : AH) : m_joined [x0, x1, x2, x3] A = SR.fin A.length (b_joined [some x0, some x1, some x2, some x3, none, none, none] A) := e_runF 7 4 _ _ rfl
/-- 0 web, 1 index -/
def b_require_tie : Ev → AH → SR := bSeq (bExpr (sCall m_require_web (sCons (sVar 0) (sNil)))) (bIf (sNotT (sTest (sCall m_is_within (sCons (sVar 1) (sCons (sC (.int 0)) (sCons (sBin gSub (sCall gLen (sCons (sUn (gFld 0 1) (sVar 0)) (sNil))) (sC (.int 1))) (sNil))))))) (bRaise (sMk1 4 (sCons (sVar 1) (sNil)))) (bNil))
def m_require_tie : List D → AH → Res D := runF 2 2 b_require_tie
theorem u_require_tie (x0 x1 : D) (A : AH) : m_require_tie [x0, x1] A = SR.fin A.length (b_require_tie [some x0, some x1] A) := e_runF 2 2 _ _ rfl
/-- 0 other, 1 far -/
def b_require_far_tie : Ev → AH → SR := bSeq (bExpr (sCall m_require_web (sCons (sVar 0) (sNil)))) (bIf (sNotT (sTest (sCall m_is_within (sCons (sVar 1) (sCons (sC (.int 0)) (sCons (sBin gSub (sCall gLen (sCons (sUn (gFld 0 1) (sVar 0)) (sNil))) (sC (.int 1))) (sNil))))))) (bRaise (sMk1 4 (sCons (sVar 1) (sNil)))) (bNil))
def m_require_far_tie : List D → AH → Res D := runF 2 2 b_require_far_tie
theorem u_require_far_tie (x0 x1 : D) (A : AH) : m_require_far_tie [x0, x1] A = SR.fin A.length (b_require_far_tie [some x0, some x1] A) := e_runF 2 2 _ _ rfl
/-- 0 ties, 1 one, 2 other -/
def b_require_no_loop : Ev → AH → SR := bIf (sTest (sCall gAny (sCons (sLC [1, 2] (iOf (sVar 0)) (gTp (gMore (gNm 1) (gMore (gNm 2) (gEnd)))) (tTrue) (sBin gEq (sVar 1) (sVar 2))) (sNil)))) (bRaise (sMk0 3)) (bNil)
def m_require_no_loop : List D → AH → Res D := runV 3 0 b_require_no_loop
/-- 0 web, 1 tie, 2 other, 3 far, 4 here, 5 there, 6 size, 7 pairs, 8 names -/
def b_along : Ev → AH → SR := bSeq (bExpr (sCall m_require_tie (sCons (sVar 0) (sCons (sVar 1) (sNil))))) (bSeq (bExpr (sCall m_require_far_tie (sCons (sVar 2) (sCons (sVar 3) (sNil))))) (bSeq (bPar 4 5 (sCons (sBin gIx (sUn (gFld 0 1) (sVar 0)) (sVar 1)) (sCons (sBin gIx (sUn (gFld 0 1) (sVar 2)) (sVar 3)) sNil))) (bSeq (bExpr (sCall m_require_no_loop (sCons (sVar 4) (sCons (sVar 5) (sNil))))) (bSeq (bSet (gTp (gMore (gNm 6) (gMore (gNm 7) (gMore (gNm 8) (gEnd))))) (sCall m_put_on (sCons (sVar 0) (sCons (sVar 2) (sCons (sDct [(sBin gIx (sVar 5) (sC (.int 0)), sBin gIx (sVar 4) (sC (.int 0))), (sBin gIx (sVar 5) (sC (.int 1)), sBin gIx (sVar 4) (sC (.int 1)))]) (sCons (sTup (sNil)) (sCons (sTup (sCons (sVar 3) (sNil))) (sNil)))))))) (bRet (sCall m_made (sCons (sVar 6) (sCons (sVar 7) (sNil)))))))))
def m_along : List D → AH → Res D := runF 9 4 b_along
theorem u_along (x0 x1 x2 x3 : D) (A : AH) : m_along [x0, x1, x2, x3] A = SR.fin A.length (b_along [some x0, some x1, some x2, some x3, none, none, none, none, none] A) := e_runF 9 4 _ _ rfl
/-- 0 web, 1 tie, 2 other, 3 far, 4 here, 5 there, 6 size, 7 pairs, 8 names -/
def b_in_line : Ev → AH → SR := bSeq (bExpr (sCall m_require_tie (sCons (sVar 0) (sCons (sVar 1) (sNil))))) (bSeq (bExpr (sCall m_require_far_tie (sCons (sVar 2) (sCons (sVar 3) (sNil))))) (bSeq (bPar 4 5 (sCons (sBin gIx (sUn (gFld 0 1) (sVar 0)) (sVar 1)) (sCons (sBin gIx (sUn (gFld 0 1) (sVar 2)) (sVar 3)) sNil))) (bSeq (bExpr (sCall m_require_no_loop (sCons (sVar 4) (sCons (sVar 5) (sNil))))) (bSeq (bSet (gTp (gMore (gNm 6) (gMore (gNm 7) (gMore (gNm 8) (gEnd))))) (sCall m_put_on (sCons (sVar 0) (sCons (sVar 2) (sCons (sDct [(sBin gIx (sVar 5) (sC (.int 0)), sBin gIx (sVar 4) (sC (.int 0)))]) (sCons (sTup (sCons (sVar 1) (sNil))) (sCons (sTup (sCons (sVar 3) (sNil))) (sNil)))))))) (bRet (sCall m_made (sCons (sVar 6) (sCons (sLst (sStar (sVar 7) (sCons (sTup (sCons (sBin gIx (sVar 4) (sC (.int 1))) (sCons (sBin gIx (sVar 8) (sBin gIx (sVar 5) (sC (.int 1)))) (sNil)))) (sNil)))) (sNil)))))))))
def m_in_line : List D → AH → Res D := runF 9 4 b_in_line
theorem u_in_line (x0 x1 x2 x3 : D) (A : AH) : m_in_line [x0, x1, x2, x3] A = SR.fin A.length (b_in_line [some x0, some x1, some x2, some x3, none, none, none, none, none] A) := e_runF 9 4 _ _ rfl
/-- 0 web, 1 one, 2 other, 3 far, 4 told -/
def b_law_two : Ev → AH → SR := bSeq (bSet (gNm 4) (sLstM (sCons (sCallL m_law_met (sLam bd0 (sBin gIs (sCall m_beside (sCons (sVar 0) (sCons (sVar 2) (sNil)))) (sC .non))) sNil) (sNil)))) (bSeq (bExpr (sAppend (sVar 4) (sCallL m_law_met (sLam bd0 (sBin gIs (sCall m_joined (sCons (sVar 0) (sCons (sVar 1) (sCons (sVar 2) (sCons (sVar 3) (sNil)))))) (sC .non))) sNil))) (bSeq (bExpr (sAppend (sVar 4) (sCallL m_law_met (sLam bd0 (sBin gIs (sCall m_along (sCons (sVar 0) (sCons (sVar 1) (sCons (sVar 2) (sCons (sVar 3) (sNil)))))) (sC .non))) sNil))) (bSeq (bExpr (sAppend (sVar 4) (sCallL m_law_met (sLam bd0 (sBin gIs (sCall m_in_line (sCons (sVar 0) (sCons (sVar 1) (sCons (sVar 2) (sCons (sVar 3) (sNil)))))) (sC .non))) sNil))) (bRet (sVar 4)))))
def m_law_two : List D → AH → Res D := runF 5 4 b_law_two
theorem u_law_two (x0 x1 x2 x3 : D) (A : AH) : m_law_two [x0, x1, x2, x3] A = SR.fin A.length (b_law_two [some x0, some x1, some x2, some x3, none] A) := e_runF 5 4 _ _ rfl
/-- 0 web, 1 tie, 2 many -/
def b_require_many : Ev → AH → SR := bSeq (bExpr (sCall m_require_tie (sCons (sVar 0) (sCons (sVar 1) (sNil))))) (bIf (sNotT (sTest (sCall m_is_within (sCons (sVar 2) (sCons (sC (.int 1)) (sCons (sC (.int 14)) (sNil))))))) (bRaise (sMk1 4 (sCons (sVar 2) (sNil)))) (bNil))
def m_require_many : List D → AH → Res D := runF 3 3 b_require_many
theorem u_require_many (x0 x1 x2 : D) (A : AH) : m_require_many [x0, x1, x2] A = SR.fin A.length (b_require_many [some x0, some x1, some x2] A) := e_runF 3 3 _ _ rfl
/-- 0 web, 1 tie, 2 many, 3 turn -/
def b_in_parallel : Ev → AH → SR := bSeq (bExpr (sCall m_require_many (sCons (sVar 0) (sCons (sVar 1) (sCons (sVar 2) (sNil)))))) (bRet (sCall m_made (sCons (sUn (gFld 0 0) (sVar 0)) (sCons (sLst (sStar (sUn (gFld 0 1) (sVar 0)) (sStar (sLC [3] (iRange1 (sCons (sBin gSub (sVar 2) (sC (.int 1))) (sNil))) (gNm 3) (tTrue) (sBin gIx (sUn (gFld 0 1) (sVar 0)) (sVar 1))) (sNil)))) (sNil)))))
def m_in_parallel : List D → AH → Res D := runF 4 3 b_in_parallel
theorem u_in_parallel (x0 x1 x2 : D) (A : AH) : m_in_parallel [x0, x1, x2] A = SR.fin A.length (b_in_parallel [some x0, some x1, some x2, none] A) := e_runF 4 3 _ _ rfl
/-- 0 web, 1 index, 2 many, 3 one, 4 other, 5 new, 6 way, 7 rest, 8 at, 9 tie -/
def b_rowed : Ev → AH → SR := bSeq (bSet (gTp (gMore (gNm 3) (gMore (gNm 4) (gEnd)))) (sBin gIx (sUn (gFld 0 1) (sVar 0)) (sVar 1))) (bSeq (bSet (gNm 5) (sLstRg (rg2 (sUn (gFld 0 0) (sVar 0)) (sBin gSub (sBin gAdd (sUn (gFld 0 0) (sVar 0)) (sVar 2)) (sC (.int 1)))))) (bSeq (bSet (gNm 6) (sLst (sCons (sVar 3) (sStar (sVar 5) (sCons (sVar 4) (sNil)))))) (bSeq (bSet (gNm 7) (sLC [8, 9] (iEnumA (sCons (sUn (gFld 0 1) (sVar 0)) (sNil))) (gTp (gMore (gNm 8) (gMore (gNm 9) (gEnd)))) (sTest (sBin gNe (sVar 8) (sVar 1))) (sVar 9))) (bRet (sTup (sCons (sBin gSub (sBin gAdd (sUn (gFld 0 0) (sVar 0)) (sVar 2)) (sC (.int 1))) (sCons (sLst (sStar (sVar 7) (sStar (sLstZip (sCons (sVar 6) (sCons (sSlice (sVar 6) (oSome (sC (.int 1))) (oNone)) (sNil)))) (sNil)))) (sNil))))))))
def m_rowed : List D → AH → Res D := runF 10 3 b_rowed
theorem u_rowed (x0 x1 x2 : D) (A : AH) : m_rowed [x0, x1, x2] A = SR.fin A.length (b_rowed [some x0, some x1, some x2, none, none, none, none, none, none, none] A) := e_runF 10 3 _ _ rfl
/-- 0 web, 1 tie, 2 many, 3 size, 4 pairs -/
def b_in_row : Ev → AH → SR := bSeq (bExpr (sCall m_require_many (sCons (sVar 0) (sCons (sVar 1) (sCons (sVar 2) (sNil)))))) (bSeq (bSet (gTp (gMore (gNm 3) (gMore (gNm 4) (gEnd)))) (sCall m_rowed (sCons (sVar 0) (sCons (sVar 1) (sCons (sVar 2) (sNil)))))) (bRet (sCall m_made (sCons (sVar 3) (sCons (sVar 4) (sNil))))))
def m_in_row : List D → AH → Res D := runF 5 3 b_in_row
theorem u_in_row (x0 x1 x2 : D) (A : AH) : m_in_row [x0, x1, x2] A = SR.fin A.length (b_in_row [some x0, some x1, some x2, none, none] A) := e_runF 5 3 _ _ rfl
/-- 0 web, 1 tie, 2 many, 3 more -/
def b_law_taken : Ev → AH → SR := bRet (sLst (sCons (sCallL m_law_met (sLam bd0 (sBin gIs (sCall m_in_parallel (sCons (sVar 0) (sCons (sVar 1) (sCons (sVar 2) (sNil))))) (sC .non))) sNil) (sCons (sCallL m_law_met (sLam (bdD 3 (.int 0)) (sBin gIs (sCall m_in_row (sCons (sVar 0) (sCons (sVar 1) (sCons (sVar 2) (sNil))))) (sC .non))) sNil) (sNil))))
def m_law_taken : List D → AH → Res D := runF 4 3 b_law_taken
theorem u_law_taken (x0 x1 x2 : D) (A : AH) : m_law_taken [x0, x1, x2] A = SR.fin A.length (b_law_taken [some x0, some x1, some x2, none] A) := e_runF 4 3 _ _ rfl
/-- 0 many, 1 value, 2 one, 3 other -/
def b_is_lot_of : Ev → AH → SR := bSeq (bIf (sOrT (sNotT (sTest (sIsiB "tuple" (sVar 1)))) (sNotT (sTest (sCall gAll (sCons (sLC [2] (iOf (sVar 1)) (gNm 2) (tTrue) (sCall m_is_within (sCons (sVar 2) (sCons (sC (.int 0)) (sCons (sBin gSub (sVar 0) (sC (.int 1))) (sNil)))))) (sNil)))))) (bRet (sC (.bl false))) (bNil)) (bRet (sCall gAll (sCons (sLC [2, 3] (iZip2 (sCons (sVar 1) (sCons (sSlice (sVar 1) (oSome (sC (.int 1))) (oNone)) (sNil)))) (gTp (gMore (gNm 2) (gMore (gNm 3) (gEnd)))) (tTrue) (sBin gLt (sVar 2) (sVar 3))) (sNil))))
def m_is_lot_of : List D → AH → Res D := runF 4 2 b_is_lot_of
theorem u_is_lot_of (x0 x1 : D) (A : AH) : m_is_lot_of [x0, x1] A = SR.fin A.length (b_is_lot_of [some x0, some x1, none, none] A) := e_runF 4 2 _ _ rfl
/-- 0 web, 1 lot -/
def b_require_lot_of_ties : Ev → AH → SR := bSeq (bExpr (sCall m_require_web (sCons (sVar 0) (sNil)))) (bIf (sNotT (sTest (sCall m_is_lot_of (sCons (sCall gLen (sCons (sUn (gFld 0 1) (sVar 0)) (sNil))) (sCons (sVar 1) (sNil)))))) (bRaise (sMk0 2)) (bNil))
def m_require_lot_of_ties : List D → AH → Res D := runF 2 2 b_require_lot_of_ties
theorem u_require_lot_of_ties (x0 x1 : D) (A : AH) : m_require_lot_of_ties [x0, x1] A = SR.fin A.length (b_require_lot_of_ties [some x0, some x1] A) := e_runF 2 2 _ _ rfl
/-- 0 web, 1 one, 2 other -/
def b_require_two_places : Ev → AH → SR := bSeq (bExpr (sCall m_require_place (sCons (sVar 0) (sCons (sVar 1) (sCons (sVar 2) (sNil)))))) (bIf (sTest (sBin gEq (sVar 1) (sVar 2))) (bRaise (sMk0 3)) (bNil))
def m_require_two_places : List D → AH → Res D := runF 3 3 b_require_two_places
theorem u_require_two_places (x0 x1 x2 : D) (A : AH) : m_require_two_places [x0, x1, x2] A = SR.fin A.length (b_require_two_places [some x0, some x1, some x2] A) := e_runF 3 3 _ _ rfl
/-- 0 web -/
def b_whole_lot : Ev → AH → SR := bRet (sTupRg (rg1 (sCall gLen (sCons (sUn (gFld 0 1) (sVar 0)) (sNil)))))
def m_whole_lot : List D → AH → Res D := runF 1 1 b_whole_lot
theorem u_whole_lot (x0 : D) (A : AH) : m_whole_lot [x0] A = SR.fin A.length (b_whole_lot [some x0] A) := e_runF 1 1 _ _ rfl
/-- 0 web, 1 lot, 2 one, 3 other, 4 inside, 5 outside, 6 index, 7 place -/
def b_does_hang_in : Ev → AH → SR := bSeq (bSet (gNm 4) (sLC2 [6, 7] (iOf (sVar 1)) (gNm 6) (tTrue) [7] (iOf (sBin gIx (sUn (gFld 0 1) (sVar 0)) (sVar 6))) (gNm 7) (tTrue) (sVar 7))) (bSeq (bSet (gNm 5) (sLC2 [6, 7] (iOf (sCall m_whole_lot (sCons (sVar 0) (sNil)))) (gNm 6) (sTest (sBin gNotInD (sVar 6) (sVar 1))) [7] (iOf (sBin gIx (sUn (gFld 0 1) (sVar 0)) (sVar 6))) (gNm 7) (tTrue) (sVar 7))) (bRet (sCall gAll (sCons (sLC [7] (iOf (sVar 4)) (gNm 7) (sTest (sBin gInD (sVar 7) (sVar 5))) (sBin gInD (sVar 7) (sTup (sCons (sVar 2) (sCons (sVar 3) (sNil)))))) (sNil)))))
def m_does_hang_in : List D → AH → Res D := runF 8 4 b_does_hang_in
theorem u_does_hang_in (x0 x1 x2 x3 : D) (A : AH) : m_does_hang_in [x0, x1, x2, x3] A = SR.fin A.length (b_does_hang_in [some x0, some x1, some x2, some x3, none, none, none, none] A) := e_runF 8 4 _ _ rfl
/-- 0 web, 1 lot, 2 one, 3 other -/
def b_does_hang : Ev → AH → SR := bSeq (bExpr (sCall m_require_web (sCons (sVar 0) (sNil)))) (bSeq (bExpr (sCall m_require_lot_of_ties (sCons (sVar 0) (sCons (sVar 1) (sNil))))) (bSeq (bExpr (sCall m_require_two_places (sCons (sVar 0) (sCons (sVar 2) (sCons (sVar 3) (sNil)))))) (bRet (sCall m_does_hang_in (sCons (sVar 0) (sCons (sVar 1) (sCons (sVar 2) (sCons (sVar 3) (sNil)))))))))
def m_does_hang : List D → AH → Res D := runF 4 4 b_does_hang
theorem u_does_hang (x0 x1 x2 x3 : D) (A : AH) : m_does_hang [x0, x1, x2, x3] A = SR.fin A.length (b_does_hang [some x0, some x1, some x2, some x3] A) := e_runF 4 4 _ _ rfl
/-- 0 web, 1 lot, 2 one, 3 other -/
def b_require_hanging : Ev → AH → SR := bSeq (bExpr (sCall m_require_web (sCons (sVar 0) (sNil)))) (bSeq (bExpr (sCall m_require_lot_of_ties (sCons (sVar 0) (sCons (sVar 1) (sNil))))) (bSeq (bExpr (sCall m_require_two_places (sCons (sVar 0) (sCons (sVar 2) (sCons (sVar 3) (sNil)))))) (bIf (sNotT (sTest (sCall m_does_hang_in (sCons (sVar 0) (sCons (sVar 1) (sCons (sVar 2) (sCons (sVar 3) (sNil)))))))) (bRaise (sMk0 3)) (bNil))))
def m_require_hanging : List D → AH → Res D := runF 4 4 b_require_hanging
theorem u_require_hanging (x0 x1 x2 x3 : D) (A : AH) : m_require_hanging [x0, x1, x2, x3] A = SR.fin A.length (b_require_hanging [some x0, some x1, some x2, some x3] A) := e_runF 4 4 _ _ rfl
/-- 0 web, 1 lot, 2 one, 3 other, 4 names, 5 found, 6 index, 7 tie, 8 pair, 9 place -/
def b_turned_pairs : Ev → AH → SR := bSeq (bSet (gNm 4) (sDct [(sVar 2, sVar 3), (sVar 3, sVar 2)])) (bSeq (bSet (gNm 5) (sLstM (sNil))) (bSeq (bFor (iEnumA (sCons (sUn (gFld 0 1) (sVar 0)) (sNil))) (gTp (gMore (gNm 6) (gMore (gNm 7) (gEnd)))) (bSeq (bSet (gNm 8) (sIf (sTest (sBin gInD (sVar 6) (sVar 1))) (sLC [9] (iOf (sVar 7)) (gNm 9) (tTrue) (sGet2 (sVar 4) (sVar 9) (sVar 9))) (sCall gListS (sCons (sVar 7) (sNil))))) (bExpr (sAppend (sVar 5) (sTup (sCons (sCall gMin1 (sCons (sVar 8) (sNil))) (sCons (sCall gMax1 (sCons (sVar 8) (sNil))) (sNil)))))))) (bRet (sVar 5))))
def m_turned_pairs : List D → AH → Res D := runF 10 4 b_turned_pairs
theorem u_turned_pairs (x0 x1 x2 x3 : D) (A : AH) : m_turned_pairs [x0, x1, x2, x3] A = SR.fin A.length (b_turned_pairs [some x0, some x1, some x2, some x3, none, none, none, none, none, none] A) := e_runF 10 4 _ _ rfl
/-- 0 web, 1 lot, 2 one, 3 other -/
def b_turned_part : Ev → AH → SR := bSeq (bExpr (sCall m_require_hanging (sCons (sVar 0) (sCons (sVar 1) (sCons (sVar 2) (sCons (sVar 3) (sNil))))))) (bRet (sCall (mMake 0 m_Web_init) (sCons (sUn (gFld 0 0) (sVar 0)) (sCons (sCall gTuple (sCons (sCall (orC gSorted (gSortD false)) (sCons (sCall m_turned_pairs (sCons (sVar 0) (sCons (sVar 1) (sCons (sVar 2) (sCons (sVar 3) (sNil)))))) (sNil))) (sNil))) (sNil)))))
def m_turned_part : List D → AH → Res D := runF 4 4 b_turned_part
theorem u_turned_part (x0 x1 x2 x3 : D) (A : AH) : m_turned_part [x0, x1, x2, x3] A = SR.fin A.length (b_turned_part [some x0, some x1, some x2, some x3] A) := e_runF 4 4 _ _ rfl
/-- 0 web, 1 lot, 2 one, 3 other, 4 row, 5 pairs, 6 index -/
def b_turn_in : Ev → AH → SR := bSeq (bSet (gNm 5) (sCall m_turned_pairs (sCons (sVar 0) (sCons (sVar 1) (sCons (sVar 2) (sCons (sVar 3) (sNil))))))) (bSeq (bSet (gNm 4) (sSortIx 5 (sCall m_whole_lot (sCons (sVar 0) (sNil))))) (bRet (sCall gTuple (sCons (sLC [6] (iOf (sCall m_whole_lot (sCons (sVar 0) (sNil)))) (gNm 6) (tTrue) (sMeth "list" gIndex (sVar 4) (sCons (sVar 6) (sNil)))) (sNil)))))
def m_turn_in : List D → AH → Res D := runF 7 4 b_turn_in
theorem u_turn_in (x0 x1 x2 x3 : D) (A : AH) : m_turn_in [x0, x1, x2, x3] A = SR.fin A.length (b_turn_in [some x0, some x1, some x2, some x3, none, none, none] A) := e_runF 7 4 _ _ rfl
/-- 0 web, 1 lot, 2 one, 3 other -/
def b_turn_names : Ev → AH → SR := bSeq (bExpr (sCall m_require_hanging (sCons (sVar 0) (sCons (sVar 1) (sCons (sVar 2) (sCons (sVar 3) (sNil))))))) (bRet (sCall m_turn_in (sCons (sVar 0) (sCons (sVar 1) (sCons (sVar 2) (sCons (sVar 3) (sNil)))))))
def m_turn_names : List D → AH → Res D := runF 4 4 b_turn_names
theorem u_turn_names (x0 x1 x2 x3 : D) (A : AH) : m_turn_names [x0, x1, x2, x3] A = SR.fin A.length (b_turn_names [some x0, some x1, some x2, some x3] A) := e_runF 4 4 _ _ rfl
/-- 0 size, 1 pairs, 2 pieces, 3 one, 4 other, 5 near, 6 whole, 7 place, 8 piece -/
def b_pieces_in : Ev → AH → SR := bSeq (bSet (gNm 2) (sLC [7] (iRange1 (sCons (sVar 0) (sNil))) (gNm 7) (tTrue) (sTup (sCons (sVar 7) (sNil))))) (bSeq (bFor (iOf (sVar 1)) (gTp (gMore (gNm 3) (gMore (gNm 4) (gEnd)))) (bSeq (bSet (gNm 5) (sLC [8] (iOf (sVar 2)) (gNm 8) (sOrT (sTest (sBin gInD (sVar 3) (sVar 8))) (sTest (sBin gInD (sVar 4) (sVar 8)))) (sVar 8))) (bSeq (bSet (gNm 6) (sCall gTuple (sCons (sCall (orC gSorted (gSortD false)) (sCons (sLC2 [8, 7] (iOf (sVar 5)) (gNm 8) (tTrue) [7] (iOf (sVar 8)) (gNm 7) (tTrue) (sVar 7)) (sNil))) (sNil)))) (bSet (gNm 2) (sBin gAdd (sLC [8] (iOf (sVar 2)) (gNm 8) (sTest (sBin gNotInD (sVar 8) (sVar 5))) (sVar 8)) (sLst (sCons (sVar 6) (sNil)))))))) (bRet (sCall (orC gSorted (gSortD false)) (sCons (sVar 2) (sNil)))))
def m_pieces_in : List D → AH → Res D := runF 9 2 b_pieces_in
theorem u_pieces_in (x0 x1 : D) (A : AH) : m_pieces_in [x0, x1] A = SR.fin A.length (b_pieces_in [some x0, some x1, none, none, none, none, none, none, none] A) := e_runF 9 2 _ _ rfl
/-- 0 web, 1 one, 2 other, 3 pairs, 4 found, 5 piece, 6 ties, 7 known, 8 tie, 9 index, 10 lot -/
def b_hanging_in : Ev → AH → SR := bSeq (bSet (gNm 3) (sLC [8] (iOf (sUn (gFld 0 1) (sVar 0))) (gNm 8) (sAndT (sTest (sBin gNotInD (sBin gIx (sVar 8) (sC (.int 0))) (sTup (sCons (sVar 1) (sCons (sVar 2) (sNil)))))) (sTest (sBin gNotInD (sBin gIx (sVar 8) (sC (.int 1))) (sTup (sCons (sVar 1) (sCons (sVar 2) (sNil))))))) (sVar 8))) (bFz (bSet (gNm 4) (sLstM (sNil))) (bFor (iOf (sCall m_pieces_in (sCons (sUn (gFld 0 0) (sVar 0)) (sCons (sVar 3) (sNil))))) (gNm 5) (bSeq (bSet (gNm 6) (sLC [9, 8] (iEnumA (sCons (sUn (gFld 0 1) (sVar 0)) (sNil))) (gTp (gMore (gNm 9) (gMore (gNm 8) (gEnd)))) (sOrT (sTest (sBin gInD (sBin gIx (sVar 8) (sC (.int 0))) (sVar 5))) (sTest (sBin gInD (sBin gIx (sVar 8) (sC (.int 1))) (sVar 5)))) (sVar 9))) (bIf (sAndT (sTest (sBin gNe (sVar 6) (sLst (sNil)))) (sAndT (sTest (sBin gNotInD (sVar 1) (sVar 5))) (sTest (sBin gNotInD (sVar 2) (sVar 5))))) (bExpr (sAppend (sVar 4) (sCall gTuple (sCons (sVar 6) (sNil))))) (bNil)))) (bSeq (bSet (gNm 7) (sLC2 [10, 9] (iOf (sVar 4)) (gNm 10) (tTrue) [9] (iOf (sVar 10)) (gNm 9) (tTrue) (sVar 9))) (bRet (sCall (orC gSorted (gSortD false)) (sCons (sLst (sStar (sVar 4) (sStar (sLC [9] (iOf (sCall m_whole_lot (sCons (sVar 0) (sNil)))) (gNm 9) (sTest (sBin gNotInD (sVar 9) (sVar 7))) (sTup (sCons (sVar 9) (sNil)))) (sNil)))) (sNil))))))
def m_hanging_in : List D → AH → Res D := runF 11 3 b_hanging_in
theorem u_hanging_in (x0 x1 x2 : D) (A : AH) : m_hanging_in [x0, x1, x2] A = SR.fin A.length (b_hanging_in [some x0, some x1, some x2, none, none, none, none, none, none, none, none] A) := e_runF 11 3 _ _ rfl
/-- 0 web, 1 one, 2 other -/
def b_hanging_lots : Ev → AH → SR := bSeq (bExpr (sCall m_require_web (sCons (sVar 0) (sNil)))) (bSeq (bExpr (sCall m_require_two_places (sCons (sVar 0) (sCons (sVar 1) (sCons (sVar 2) (sNil)))))) (bRet (sCall gTuple (sCons (sCall m_hanging_in (sCons (sVar 0) (sCons (sVar 1) (sCons (sVar 2) (sNil))))) (sNil)))))
def m_hanging_lots : List D → AH → Res D := runF 3 3 b_hanging_lots
theorem u_hanging_lots (x0 x1 x2 : D) (A : AH) : m_hanging_lots [x0, x1, x2] A = SR.fin A.length (b_hanging_lots [some x0, some x1, some x2] A) := e_runF 3 3 _ _ rfl
/-- 0 web, 1 lot, 2 one, 3 other, 4 told -/
def b_law_hung : Ev → AH → SR := bSeq (bSet (gNm 4) (sLstM (sCons (sCallL m_law_met (sLam bd0 (sBin gIs (sCall m_does_hang (sCons (sVar 0) (sCons (sVar 1) (sCons (sVar 2) (sCons (sVar 3) (sNil)))))) (sC .non))) sNil) (sNil)))) (bSeq (bExpr (sAppend (sVar 4) (sCallL m_law_met (sLam bd0 (sBin gIs (sCall m_turned_part (sCons (sVar 0) (sCons (sVar 1) (sCons (sVar 2) (sCons (sVar 3) (sNil)))))) (sC .non))) sNil))) (bSeq (bExpr (sAppend (sVar 4) (sCallL m_law_met (sLam bd0 (sBin gIs (sCall m_turn_names (sCons (sVar 0) (sCons (sVar 1) (sCons (sVar 2) (sCons (sVar 3) (sNil)))))) (sC .non))) sNil))) (bSeq (bExpr (sAppend (sVar 4) (sCallL m_law_met (sLam bd0 (sBin gIs (sCall m_hanging_lots (sCons (sVar 0) (sCons (sVar 2) (sCons (sVar 3) (sNil))))) (sC .non))) sNil))) (bRet (sVar 4)))))
def m_law_hung : List D → AH → Res D := runF 5 4 b_law_hung
theorem u_law_hung (x0 x1 x2 x3 : D) (A : AH) : m_law_hung [x0, x1, x2, x3] A = SR.fin A.length (b_law_hung [some x0, some x1, some x2, some x3, none] A) := e_runF 5 4 _ _ rfl
/-- 0 jar, 1 web, 2 whole, 3 none, 4 one, 5 far, 6 lot, 7 many -/
def b_law_right : Ev → AH → SR := bSeq (bPar 1 2 (sCons (sCall (mMake 0 m_Web_init) (sCons (sC (.int 3)) (sCons (sTup (sCons (sTup (sCons (sC (.int 0)) (sCons (sC (.int 1)) (sNil)))) (sCons (sTup (sCons (sC (.int 0)) (sCons (sC (.int 2)) (sNil)))) (sCons (sTup (sCons (sC (.int 1)) (sCons (sC (.int 2)) (sNil)))) (sNil))))) (sNil)))) (sCons (sTup (sCons (sC (.str ⟨#[116, 111, 108, 100]⟩)) (sCons (sC (.bl false)) (sNil)))) sNil))) (bSeq (bSet (gNm 3) (sCall m_law_one (sCons (sVar 0) (sCons (sLst (sCons (sC .non) (sCons (sC (.int 0)) (sCons (sC (.str ⟨#[119, 101, 98]⟩)) (sCons (sTup (sCons (sC (.int 3)) (sCons (sTup (sNil)) (sNil)))) (sCons (sLst (sNil)) (sCons (sDct []) (sNil)))))))) (sNil))))) (bSeq (bPar 4 5 (sCons (sCall m_law_one (sCons (sVar 0) (sCons (sLst (sCons (sC (.int 3)) (sCons (sUn gNeg (sC (.int 1))) (sCons (sC (.bl true)) (sCons (sC .non) (sCons (sC (.str ⟨#[48]⟩)) (sCons (sTup (sCons (sC (.int 0)) (sNil))) (sCons (sBin gPow (sC (.int 10)) (sC (.int 60))) (sNil))))))))) (sNil)))) (sCons (sCall m_law_one (sCons (sVar 0) (sCons (sLst (sCons (sC (.int 3)) (sCons (sUn gNeg (sC (.int 2))) (sCons (sC (.bl false)) (sCons (sC .non) (sCons (sC (.str ⟨#[49]⟩)) (sNil))))))) (sNil)))) sNil))) (bSeq (bSet (gNm 6) (sCall m_law_one (sCons (sVar 0) (sCons (sLst (sCons (sC .non) (sCons (sLst (sCons (sC (.int 0)) (sNil))) (sCons (sTup (sCons (sC (.int 3)) (sNil))) (sCons (sTup (sCons (sC (.int 1)) (sCons (sC (.int 0)) (sNil)))) (sCons (sTup (sCons (sC (.int 0)) (sCons (sC (.int 0)) (sNil)))) (sCons (sTup (sCons (sC (.bl true)) (sNil))) (sCons (sTup (sCons (sUn gNeg (sC (.int 1))) (sNil))) (sCons (sC (.int 0)) (sCons (sC (.str ⟨#[48]⟩)) (sNil))))))))))) (sNil))))) (bSeq (bSet (gNm 7) (sCall m_law_one (sCons (sVar 0) (sCons (sLst (sCons (sC (.int 0)) (sCons (sC (.int 15)) (sCons (sUn gNeg (sC (.int 1))) (sCons (sC (.bl true)) (sCons (sC .non) (sCons (sC (.str ⟨#[50]⟩)) (sCons (sBin gPow (sC (.int 10)) (sC (.int 60))) (sNil))))))))) (sNil))))) (bSeq (bIf (sTest (sBin gNe (sBin gAdd (sBin gAdd (sCall m_law_two (sCons (sVar 3) (sCons (sVar 4) (sCons (sVar 3) (sCons (sVar 5) (sNil)))))) (sCall m_law_taken (sCons (sVar 3) (sCons (sVar 4) (sCons (sVar 7) (sNil)))))) (sCall m_law_hung (sCons (sVar 3) (sCons (sVar 6) (sCons (sVar 4) (sCons (sVar 5) (sNil))))))) (sBin gMulS (sLst (sCons (sTup (sCons (sC (.str ⟨#[119, 101, 98]⟩)) (sNil))) (sNil))) (sC (.int 10))))) (bRet (sC (.bl false))) (bNil)) (bSeq (bIf (sOrT (sTest (sBin gNe (sCall gRepr (sCons (sCall m_law_two (sCons (sVar 1) (sCons (sVar 4) (sCons (sVar 3) (sCons (sVar 5) (sNil)))))) (sNil))) (sCall gRepr (sCons (sBin gAdd (sLst (sCons (sTup (sCons (sC (.str ⟨#[119, 101, 98]⟩)) (sNil))) (sNil))) (sBin gMulS (sLst (sCons (sTup (sCons (sC (.str ⟨#[110, 117, 109, 98, 101, 114]⟩)) (sCons (sVar 4) (sNil)))) (sNil))) (sC (.int 3)))) (sNil))))) (sTest (sBin gNe (sCall m_law_two (sCons (sVar 1) (sCons (sC (.int 0)) (sCons (sVar 3) (sCons (sVar 5) (sNil)))))) (sBin gMulS (sLst (sCons (sTup (sCons (sC (.str ⟨#[119, 101, 98]⟩)) (sNil))) (sNil))) (sC (.int 4)))))) (bRet (sC (.bl false))) (bNil)) (bSeq (bIf (sOrT (sTest (sBin gNe (sCall gRepr (sCons (sCall m_law_two (sCons (sVar 1) (sCons (sC (.int 0)) (sCons (sVar 1) (sCons (sVar 5) (sNil)))))) (sNil))) (sCall gRepr (sCons (sBin gAdd (sLst (sCons (sVar 2) (sNil))) (sBin gMulS (sLst (sCons (sTup (sCons (sC (.str ⟨#[110, 117, 109, 98, 101, 114]⟩)) (sCons (sVar 5) (sNil)))) (sNil))) (sC (.int 3)))) (sNil))))) (sTest (sBin gNe (sCall m_law_two (sCons (sVar 1) (sCons (sC (.int 0)) (sCons (sVar 1) (sCons (sC (.int 2)) (sNil)))))) (sBin gMulS (sLst (sCons (sVar 2) (sNil))) (sC (.int 4)))))) (bRet (sC (.bl false))) (bNil)) (bSeq (bIf (sTest (sBin gNe (sCall gRepr (sCons (sBin gAdd (sCall m_law_taken (sCons (sVar 1) (sCons (sVar 4) (sCons (sVar 7) (sNil))))) (sCall m_law_taken (sCons (sVar 1) (sCons (sC (.int 0)) (sCons (sVar 7) (sNil)))))) (sNil))) (sCall gRepr (sCons (sBin gAdd (sBin gMulS (sLst (sCons (sTup (sCons (sC (.str ⟨#[110, 117, 109, 98, 101, 114]⟩)) (sCons (sVar 4) (sNil)))) (sNil))) (sC (.int 2))) (sBin gMulS (sLst (sCons (sTup (sCons (sC (.str ⟨#[110, 117, 109, 98, 101, 114]⟩)) (sCons (sVar 7) (sNil)))) (sNil))) (sC (.int 2)))) (sNil))))) (bRet (sC (.bl false))) (bNil)) (bSeq (bIf (sOrT (sTest (sBin gNe (sCall gRepr (sCons (sCall m_law_hung (sCons (sVar 1) (sCons (sVar 6) (sCons (sVar 4) (sCons (sVar 5) (sNil)))))) (sNil))) (sCall gRepr (sCons (sBin gAdd (sBin gMulS (sLst (sCons (sTup (sCons (sC (.str ⟨#[108, 111, 116]⟩)) (sNil))) (sNil))) (sC (.int 3))) (sLst (sCons (sTup (sCons (sC (.str ⟨#[110, 117, 109, 98, 101, 114]⟩)) (sCons (sVar 4) (sNil)))) (sNil)))) (sNil))))) (sTest (sBin gNe (sCall gRepr (sCons (sCall m_law_hung (sCons (sVar 1) (sCons (sTup (sCons (sC (.int 0)) (sNil))) (sCons (sVar 4) (sCons (sVar 5) (sNil)))))) (sNil))) (sCall gRepr (sCons (sBin gMulS (sLst (sCons (sTup (sCons (sC (.str ⟨#[110, 117, 109, 98, 101, 114]⟩)) (sCons (sVar 4) (sNil)))) (sNil))) (sC (.int 4))) (sNil)))))) (bRet (sC (.bl false))) (bNil)) (bSeq (bIf (sOrT (sTest (sBin gNe (sCall gRepr (sCons (sCall m_law_hung (sCons (sVar 1) (sCons (sTup (sCons (sC (.int 0)) (sNil))) (sCons (sC (.int 1)) (sCons (sVar 5) (sNil)))))) (sNil))) (sCall gRepr (sCons (sBin gMulS (sLst (sCons (sTup (sCons (sC (.str ⟨#[110, 117, 109, 98, 101, 114]⟩)) (sCons (sVar 5) (sNil)))) (sNil))) (sC (.int 4))) (sNil))))) (sTest (sBin gNe (sCall m_law_hung (sCons (sVar 1) (sCons (sTup (sCons (sC (.int 0)) (sNil))) (sCons (sC (.int 1)) (sCons (sC (.int 1)) (sNil)))))) (sBin gMulS (sLst (sCons (sTup (sCons (sC (.str ⟨#[111, 112, 101, 114, 97, 116, 105, 111, 110]⟩)) (sNil))) (sNil))) (sC (.int 4)))))) (bRet (sC (.bl false))) (bNil)) (bRet (sAndV (sBin gEq (sCall m_law_hung (sCons (sVar 1) (sCons (sTup (sCons (sC (.int 0)) (sNil))) (sCons (sC (.int 1)) (sCons (sC (.int 2)) (sNil)))))) (sBin gAdd (sBin gAdd (sLst (sCons (sVar 2) (sNil))) (sBin gMulS (sLst (sCons (sTup (sCons (sC (.str ⟨#[111, 112, 101, 114, 97, 116, 105, 111, 110]⟩)) (sNil))) (sNil))) (sC (.int 2)))) (sLst (sCons (sVar 2) (sNil))))) (sBin gEq (sCall m_law_hung (sCons (sVar 1) (sCons (sTup (sCons (sC (.int 0)) (sNil))) (sCons (sC (.int 0)) (sCons (sC (.int 1)) (sNil)))))) (sBin gMulS (sLst (sCons (sVar 2) (sNil))) (sC (.int 4))))))))))))))))
def m_law_right : List D → AH → Res D := runF 8 1 b_law_right
theorem u_law_right (x0 : D) (A : AH) : m_law_right [x0] A = SR.fin A.length (b_law_right [some x0, none, none, none, none, none, none, none] A) := e_runF 8 1 _ _ rfl
/-- 0 script, 1 spot, 2 jar, 3 turn, 4 five, 5 full, 6 loop, 7 told, 8 due -/
def b_law : Ev → AH → SR := bSeq (bFor (iRange1 (sCons (sCall gMax2 (sCons (sC (.int 1)) (sCons (sCall gMin2 (sCons (sC (.int 2)) (sCons (sCall gLen (sCons (sVar 0) (sNil))) (sNil)))) (sNil)))) (sNil))) (gNm 1) (bSeq (bSet (gNm 2) (sCall m_law_jar (sCons (sVar 0) (sCons (sVar 1) (sNil))))) (bFor (iRange1 (sCons (sC (.int 6)) (sNil))) (gNm 3) (bIf (sNotT (sTest (sCall m_law_right (sCons (sVar 2) (sNil))))) (bRet (sC (.bl false))) (bNil))))) (bSeq (bPar3 4 5 6 (sCons (sCall (mMake 0 m_Web_init) (sCons (sC (.int 5)) (sCons (sTup (sCons (sTup (sCons (sC (.int 0)) (sCons (sC (.int 1)) (sNil)))) (sNil))) (sNil)))) (sCons (sCall (mMake 0 m_Web_init) (sCons (sC (.int 2)) (sCons (sBin gMulS (sTup (sCons (sTup (sCons (sC (.int 0)) (sCons (sC (.int 1)) (sNil)))) (sNil))) (sC (.int 14))) (sNil)))) (sCons (sCall (mMake 0 m_Web_init) (sCons (sC (.int 5)) (sCons (sTup (sCons (sTup (sCons (sC (.int 0)) (sCons (sC (.int 0)) (sNil)))) (sCons (sTup (sCons (sC (.int 0)) (sCons (sC (.int 1)) (sNil)))) (sNil)))) (sNil)))) sNil)))) (bSeq (bSet (gNm 7) (sLst (sCons (sCall m_law_two (sCons (sVar 4) (sCons (sC (.int 0)) (sCons (sVar 4) (sCons (sC (.int 0)) (sNil)))))) (sCons (sCall m_law_two (sCons (sVar 5) (sCons (sC (.int 0)) (sCons (sVar 5) (sCons (sC (.int 0)) (sNil)))))) (sCons (sCall m_law_two (sCons (sVar 6) (sCons (sC (.int 0)) (sCons (sVar 4) (sCons (sC (.int 0)) (sNil)))))) (sCons (sCall m_law_two (sCons (sVar 4) (sCons (sC (.int 0)) (sCons (sVar 6) (sCons (sC (.int 0)) (sNil)))))) (sNil))))))) (bSeq (bSet (gNm 8) (sLst (sCons (sBin gMulS (sLst (sCons (sTup (sCons (sC (.str ⟨#[109, 97, 110, 121]⟩)) (sCons (sC (.int 7)) (sNil)))) (sNil))) (sC (.int 4))) (sCons (sBin gMulS (sLst (sCons (sTup (sCons (sC (.str ⟨#[109, 97, 110, 121]⟩)) (sCons (sC (.int 14)) (sNil)))) (sNil))) (sC (.int 4))) (sCons (sBin gAdd (sBin gMulS (sLst (sCons (sTup (sCons (sC (.str ⟨#[109, 97, 110, 121]⟩)) (sCons (sC (.int 7)) (sNil)))) (sNil))) (sC (.int 2))) (sBin gMulS (sLst (sCons (sTup (sCons (sC (.str ⟨#[111, 112, 101, 114, 97, 116, 105, 111, 110]⟩)) (sNil))) (sNil))) (sC (.int 2)))) (sCons (sBin gAdd (sBin gMulS (sLst (sCons (sTup (sCons (sC (.str ⟨#[109, 97, 110, 121]⟩)) (sCons (sC (.int 7)) (sNil)))) (sNil))) (sC (.int 2))) (sBin gMulS (sLst (sCons (sTup (sCons (sC (.str ⟨#[111, 112, 101, 114, 97, 116, 105, 111, 110]⟩)) (sNil))) (sNil))) (sC (.int 2)))) (sNil))))))) (bSeq (bSet (gNm 7) (sBin gAdd (sVar 7) (sLst (sCons (sCall m_law_taken (sCons (sVar 4) (sCons (sC (.int 0)) (sCons (sC (.int 4)) (sNil))))) (sCons (sCall m_law_taken (sCons (sVar 5) (sCons (sC (.int 0)) (sCons (sC (.int 2)) (sNil))))) (sCons (sCall m_law_taken (sCons (sVar 5) (sCons (sC (.int 0)) (sCons (sC (.int 1)) (sNil))))) (sCons (sCall m_law_taken (sCons (sCall (mMake 0 m_Web_init) (sCons (sC (.int 1)) (sCons (sTup (sNil)) (sNil)))) (sCons (sC (.int 0)) (sCons (sC (.int 1)) (sNil))))) (sNil)))))))) (bRet (sBin gEq (sVar 7) (sBin gAdd (sVar 8) (sLst (sCons (sLst (sCons (sTup (sCons (sC (.str ⟨#[116, 111, 108, 100]⟩)) (sCons (sC (.bl false)) (sNil)))) (sCons (sTup (sCons (sC (.str ⟨#[109, 97, 110, 121]⟩)) (sCons (sC (.int 7)) (sNil)))) (sNil)))) (sCons (sBin gMulS (sLst (sCons (sTup (sCons (sC (.str ⟨#[109, 97, 110, 121]⟩)) (sCons (sC (.int 14)) (sNil)))) (sNil))) (sC (.int 2))) (sCons (sBin gMulS (sLst (sCons (sTup (sCons (sC (.str ⟨#[116, 111, 108, 100]⟩)) (sCons (sC (.bl false)) (sNil)))) (sNil))) (sC (.int 2))) (sCons (sBin gMulS (sLst (sCons (sTup (sCons (sC (.str ⟨#[110, 117, 109, 98, 101, 114]⟩)) (sCons (sC (.int 0)) (sNil)))) (sNil))) (sC (.int 2))) (sNil)))))))))))))
def m_law : List D → AH → Res D := runF 9 1 b_law
theorem u_law (x0 : D) (A : AH) : m_law [x0] A = SR.fin A.length (b_law [some x0, none, none, none, none, none, none, none, none] A) := e_runF 9 1 _ _ rfl
end Lw
namespace Lw
open PySem PySem.Spec
open PyProof.Rows L2 F3
def r0 : Ev → AH → SR := bPar 1 2 (sCons (sCall (mMake 0 m_Web_init) (sCons (sC (.int 3)) (sCons (sTup (sCons (sTup (sCons (sC (.int 0)) (sCons (sC (.int 1)) (sNil)))) (sCons (sTup (sCons (sC (.int 0)) (sCons (sC (.int 2)) (sNil)))) (sCons (sTup (sCons (sC (.int 1)) (sCons (sC (.int 2)) (sNil)))) (sNil))))) (sNil)))) (sCons (sTup (sCons (sC (.str ⟨#[116, 111, 108, 100]⟩)) (sCons (sC (.bl false)) (sNil)))) sNil))
def r1 : Ev → AH → SR := bSet (gNm 3) (sCall m_law_one (sCons (sVar 0) (sCons (sLst (sCons (sC .non) (sCons (sC (.int 0)) (sCons (sC (.str ⟨#[119, 101, 98]⟩)) (sCons (sTup (sCons (sC (.int 3)) (sCons (sTup (sNil)) (sNil)))) (sCons (sLst (sNil)) (sCons (sDct []) (sNil)))))))) (sNil))))
def r2 : Ev → AH → SR := bPar 4 5 (sCons (sCall m_law_one (sCons (sVar 0) (sCons (sLst (sCons (sC (.int 3)) (sCons (sUn gNeg (sC (.int 1))) (sCons (sC (.bl true)) (sCons (sC .non) (sCons (sC (.str ⟨#[48]⟩)) (sCons (sTup (sCons (sC (.int 0)) (sNil))) (sCons (sBin gPow (sC (.int 10)) (sC (.int 60))) (sNil))))))))) (sNil)))) (sCons (sCall m_law_one (sCons (sVar 0) (sCons (sLst (sCons (sC (.int 3)) (sCons (sUn gNeg (sC (.int 2))) (sCons (sC (.bl false)) (sCons (sC .non) (sCons (sC (.str ⟨#[49]⟩)) (sNil))))))) (sNil)))) sNil))
def r3 : Ev → AH → SR := bSet (gNm 6) (sCall m_law_one (sCons (sVar 0) (sCons (sLst (sCons (sC .non) (sCons (sLst (sCons (sC (.int 0)) (sNil))) (sCons (sTup (sCons (sC (.int 3)) (sNil))) (sCons (sTup (sCons (sC (.int 1)) (sCons (sC (.int 0)) (sNil)))) (sCons (sTup (sCons (sC (.int 0)) (sCons (sC (.int 0)) (sNil)))) (sCons (sTup (sCons (sC (.bl true)) (sNil))) (sCons (sTup (sCons (sUn gNeg (sC (.int 1))) (sNil))) (sCons (sC (.int 0)) (sCons (sC (.str ⟨#[48]⟩)) (sNil))))))))))) (sNil))))
def r4 : Ev → AH → SR := bSet (gNm 7) (sCall m_law_one (sCons (sVar 0) (sCons (sLst (sCons (sC (.int 0)) (sCons (sC (.int 15)) (sCons (sUn gNeg (sC (.int 1))) (sCons (sC (.bl true)) (sCons (sC .non) (sCons (sC (.str ⟨#[50]⟩)) (sCons (sBin gPow (sC (.int 10)) (sC (.int 60))) (sNil))))))))) (sNil))))
def r5 : Ev → AH → SR := bIf (sTest (sBin gNe (sBin gAdd (sBin gAdd (sCall m_law_two (sCons (sVar 3) (sCons (sVar 4) (sCons (sVar 3) (sCons (sVar 5) (sNil)))))) (sCall m_law_taken (sCons (sVar 3) (sCons (sVar 4) (sCons (sVar 7) (sNil)))))) (sCall m_law_hung (sCons (sVar 3) (sCons (sVar 6) (sCons (sVar 4) (sCons (sVar 5) (sNil))))))) (sBin gMulS (sLst (sCons (sTup (sCons (sC (.str ⟨#[119, 101, 98]⟩)) (sNil))) (sNil))) (sC (.int 10))))) (bRet (sC (.bl false))) (bNil)
def r6 : Ev → AH → SR := bIf (sOrT (sTest (sBin gNe (sCall gRepr (sCons (sCall m_law_two (sCons (sVar 1) (sCons (sVar 4) (sCons (sVar 3) (sCons (sVar 5) (sNil)))))) (sNil))) (sCall gRepr (sCons (sBin gAdd (sLst (sCons (sTup (sCons (sC (.str ⟨#[119, 101, 98]⟩)) (sNil))) (sNil))) (sBin gMulS (sLst (sCons (sTup (sCons (sC (.str ⟨#[110, 117, 109, 98, 101, 114]⟩)) (sCons (sVar 4) (sNil)))) (sNil))) (sC (.int 3)))) (sNil))))) (sTest (sBin gNe (sCall m_law_two (sCons (sVar 1) (sCons (sC (.int 0)) (sCons (sVar 3) (sCons (sVar 5) (sNil)))))) (sBin gMulS (sLst (sCons (sTup (sCons (sC (.str ⟨#[119, 101, 98]⟩)) (sNil))) (sNil))) (sC (.int 4)))))) (bRet (sC (.bl false))) (bNil)
def r7 : Ev → AH → SR := bIf (sOrT (sTest (sBin gNe (sCall gRepr (sCons (sCall m_law_two (sCons (sVar 1) (sCons (sC (.int 0)) (sCons (sVar 1) (sCons (sVar 5) (sNil)))))) (sNil))) (sCall gRepr (sCons (sBin gAdd (sLst (sCons (sVar 2) (sNil))) (sBin gMulS (sLst (sCons (sTup (sCons (sC (.str ⟨#[110, 117, 109, 98, 101, 114]⟩)) (sCons (sVar 5) (sNil)))) (sNil))) (sC (.int 3)))) (sNil))))) (sTest (sBin gNe (sCall m_law_two (sCons (sVar 1) (sCons (sC (.int 0)) (sCons (sVar 1) (sCons (sC (.int 2)) (sNil)))))) (sBin gMulS (sLst (sCons (sVar 2) (sNil))) (sC (.int 4)))))) (bRet (sC (.bl false))) (bNil)
def r8 : Ev → AH → SR := bIf (sTest (sBin gNe (sCall gRepr (sCons (sBin gAdd (sCall m_law_taken (sCons (sVar 1) (sCons (sVar 4) (sCons (sVar 7) (sNil))))) (sCall m_law_taken (sCons (sVar 1) (sCons (sC (.int 0)) (sCons (sVar 7) (sNil)))))) (sNil))) (sCall gRepr (sCons (sBin gAdd (sBin gMulS (sLst (sCons (sTup (sCons (sC (.str ⟨#[110, 117, 109, 98, 101, 114]⟩)) (sCons (sVar 4) (sNil)))) (sNil))) (sC (.int 2))) (sBin gMulS (sLst (sCons (sTup (sCons (sC (.str ⟨#[110, 117, 109, 98, 101, 114]⟩)) (sCons (sVar 7) (sNil)))) (sNil))) (sC (.int 2)))) (sNil))))) (bRet (sC (.bl false))) (bNil)
def r9 : Ev → AH → SR := bIf (sOrT (sTest (sBin gNe (sCall gRepr (sCons (sCall m_law_hung (sCons (sVar 1) (sCons (sVar 6) (sCons (sVar 4) (sCons (sVar 5) (sNil)))))) (sNil))) (sCall gRepr (sCons (sBin gAdd (sBin gMulS (sLst (sCons (sTup (sCons (sC (.str ⟨#[108, 111, 116]⟩)) (sNil))) (sNil))) (sC (.int 3))) (sLst (sCons (sTup (sCons (sC (.str ⟨#[110, 117, 109, 98, 101, 114]⟩)) (sCons (sVar 4) (sNil)))) (sNil)))) (sNil))))) (sTest (sBin gNe (sCall gRepr (sCons (sCall m_law_hung (sCons (sVar 1) (sCons (sTup (sCons (sC (.int 0)) (sNil))) (sCons (sVar 4) (sCons (sVar 5) (sNil)))))) (sNil))) (sCall gRepr (sCons (sBin gMulS (sLst (sCons (sTup (sCons (sC (.str ⟨#[110, 117, 109, 98, 101, 114]⟩)) (sCons (sVar 4) (sNil)))) (sNil))) (sC (.int 4))) (sNil)))))) (bRet (sC (.bl false))) (bNil)
def r10 : Ev → AH → SR := bIf (sOrT (sTest (sBin gNe (sCall gRepr (sCons (sCall m_law_hung (sCons (sVar 1) (sCons (sTup (sCons (sC (.int 0)) (sNil))) (sCons (sC (.int 1)) (sCons (sVar 5) (sNil)))))) (sNil))) (sCall gRepr (sCons (sBin gMulS (sLst (sCons (sTup (sCons (sC (.str ⟨#[110, 117, 109, 98, 101, 114]⟩)) (sCons (sVar 5) (sNil)))) (sNil))) (sC (.int 4))) (sNil))))) (sTest (sBin gNe (sCall m_law_hung (sCons (sVar 1) (sCons (sTup (sCons (sC (.int 0)) (sNil))) (sCons (sC (.int 1)) (sCons (sC (.int 1)) (sNil)))))) (sBin gMulS (sLst (sCons (sTup (sCons (sC (.str ⟨#[111, 112, 101, 114, 97, 116, 105, 111, 110]⟩)) (sNil))) (sNil))) (sC (.int 4)))))) (bRet (sC (.bl false))) (bNil)
def r11 : Ev → AH → SR := bRet (sAndV (sBin gEq (sCall m_law_hung (sCons (sVar 1) (sCons (sTup (sCons (sC (.int 0)) (sNil))) (sCons (sC (.int 1)) (sCons (sC (.int 2)) (sNil)))))) (sBin gAdd (sBin gAdd (sLst (sCons (sVar 2) (sNil))) (sBin gMulS (sLst (sCons (sTup (sCons (sC (.str ⟨#[111, 112, 101, 114, 97, 116, 105, 111, 110]⟩)) (sNil))) (sNil))) (sC (.int 2)))) (sLst (sCons (sVar 2) (sNil))))) (sBin gEq (sCall m_law_hung (sCons (sVar 1) (sCons (sTup (sCons (sC (.int 0)) (sNil))) (sCons (sC (.int 0)) (sCons (sC (.int 1)) (sNil)))))) (sBin gMulS (sLst (sCons (sVar 2) (sNil))) (sC (.int 4)))))
theorem right_eq : b_law_right = bSeq r0 (bSeq r1 (bSeq r2 (bSeq r3 (bSeq r4 (bSeq r5 (bSeq r6 (bSeq r7 (bSeq r8 (bSeq r9 (bSeq r10 r11)))))))))) := rfl
def w0 : Ev → AH → SR := bFor (iRange1 (sCons (sCall gMax2 (sCons (sC (.int 1)) (sCons (sCall gMin2 (sCons (sC (.int 2)) (sCons (sCall gLen (sCons (sVar 0) (sNil))) (sNil)))) (sNil)))) (sNil))) (gNm 1) (bSeq (bSet (gNm 2) (sCall m_law_jar (sCons (sVar 0) (sCons (sVar 1) (sNil))))) (bFor (iRange1 (sCons (sC (.int 6)) (sNil))) (gNm 3) (bIf (sNotT (sTest (sCall m_law_right (sCons (sVar 2) (sNil))))) (bRet (sC (.bl false))) (bNil))))
def w1 : Ev → AH → SR := bPar3 4 5 6 (sCons (sCall (mMake 0 m_Web_init) (sCons (sC (.int 5)) (sCons (sTup (sCons (sTup (sCons (sC (.int 0)) (sCons (sC (.int 1)) (sNil)))) (sNil))) (sNil)))) (sCons (sCall (mMake 0 m_Web_init) (sCons (sC (.int 2)) (sCons (sBin gMulS (sTup (sCons (sTup (sCons (sC (.int 0)) (sCons (sC (.int 1)) (sNil)))) (sNil))) (sC (.int 14))) (sNil)))) (sCons (sCall (mMake 0 m_Web_init) (sCons (sC (.int 5)) (sCons (sTup (sCons (sTup (sCons (sC (.int 0)) (sCons (sC (.int 0)) (sNil)))) (sCons (sTup (sCons (sC (.int 0)) (sCons (sC (.int 1)) (sNil)))) (sNil)))) (sNil)))) sNil)))
def w2 : Ev → AH → SR := bSet (gNm 7) (sLst (sCons (sCall m_law_two (sCons (sVar 4) (sCons (sC (.int 0)) (sCons (sVar 4) (sCons (sC (.int 0)) (sNil)))))) (sCons (sCall m_law_two (sCons (sVar 5) (sCons (sC (.int 0)) (sCons (sVar 5) (sCons (sC (.int 0)) (sNil)))))) (sCons (sCall m_law_two (sCons (sVar 6) (sCons (sC (.int 0)) (sCons (sVar 4) (sCons (sC (.int 0)) (sNil)))))) (sCons (sCall m_law_two (sCons (sVar 4) (sCons (sC (.int 0)) (sCons (sVar 6) (sCons (sC (.int 0)) (sNil)))))) (sNil))))))
def w3 : Ev → AH → SR := bSet (gNm 8) (sLst (sCons (sBin gMulS (sLst (sCons (sTup (sCons (sC (.str ⟨#[109, 97, 110, 121]⟩)) (sCons (sC (.int 7)) (sNil)))) (sNil))) (sC (.int 4))) (sCons (sBin gMulS (sLst (sCons (sTup (sCons (sC (.str ⟨#[109, 97, 110, 121]⟩)) (sCons (sC (.int 14)) (sNil)))) (sNil))) (sC (.int 4))) (sCons (sBin gAdd (sBin gMulS (sLst (sCons (sTup (sCons (sC (.str ⟨#[109, 97, 110, 121]⟩)) (sCons (sC (.int 7)) (sNil)))) (sNil))) (sC (.int 2))) (sBin gMulS (sLst (sCons (sTup (sCons (sC (.str ⟨#[111, 112, 101, 114, 97, 116, 105, 111, 110]⟩)) (sNil))) (sNil))) (sC (.int 2)))) (sCons (sBin gAdd (sBin gMulS (sLst (sCons (sTup (sCons (sC (.str ⟨#[109, 97, 110, 121]⟩)) (sCons (sC (.int 7)) (sNil)))) (sNil))) (sC (.int 2))) (sBin gMulS (sLst (sCons (sTup (sCons (sC (.str ⟨#[111, 112, 101, 114, 97, 116, 105, 111, 110]⟩)) (sNil))) (sNil))) (sC (.int 2)))) (sNil))))))
def w4 : Ev → AH → SR := bSet (gNm 7) (sBin gAdd (sVar 7) (sLst (sCons (sCall m_law_taken (sCons (sVar 4) (sCons (sC (.int 0)) (sCons (sC (.int 4)) (sNil))))) (sCons (sCall m_law_taken (sCons (sVar 5) (sCons (sC (.int 0)) (sCons (sC (.int 2)) (sNil))))) (sCons (sCall m_law_taken (sCons (sVar 5) (sCons (sC (.int 0)) (sCons (sC (.int 1)) (sNil))))) (sCons (sCall m_law_taken (sCons (sCall (mMake 0 m_Web_init) (sCons (sC (.int 1)) (sCons (sTup (sNil)) (sNil)))) (sCons (sC (.int 0)) (sCons (sC (.int 1)) (sNil))))) (sNil)))))))
def w5 : Ev → AH → SR := bRet (sBin gEq (sVar 7) (sBin gAdd (sVar 8) (sLst (sCons (sLst (sCons (sTup (sCons (sC (.str ⟨#[116, 111, 108, 100]⟩)) (sCons (sC (.bl false)) (sNil)))) (sCons (sTup (sCons (sC (.str ⟨#[109, 97, 110, 121]⟩)) (sCons (sC (.int 7)) (sNil)))) (sNil)))) (sCons (sBin gMulS (sLst (sCons (sTup (sCons (sC (.str ⟨#[109, 97, 110, 121]⟩)) (sCons (sC (.int 14)) (sNil)))) (sNil))) (sC (.int 2))) (sCons (sBin gMulS (sLst (sCons (sTup (sCons (sC (.str ⟨#[116, 111, 108, 100]⟩)) (sCons (sC (.bl false)) (sNil)))) (sNil))) (sC (.int 2))) (sCons (sBin gMulS (sLst (sCons (sTup (sCons (sC (.str ⟨#[110, 117, 109, 98, 101, 114]⟩)) (sCons (sC (.int 0)) (sNil)))) (sNil))) (sC (.int 2))) (sNil))))))))
theorem law_eq : b_law = bSeq w0 (bSeq w1 (bSeq w2 (bSeq w3 (bSeq w4 w5)))) := rfl
abbrev webV : D := .ins 0 [.int 3, .tup [.tup [.int 0, .int 1], .tup [.int 0, .int 2], .tup [.int 1, .int 2]]]
abbrev wholeV : D := .tup [.str ⟨#[116, 111, 108, 100]⟩, .bl false]
end Lw
namespace Lw
open PySem PySem.Spec
open PyProof.Rows L2 F3
def N6 : List D := [.non, .int 0, .str ⟨#[119, 101, 98]⟩, .tup [.int 3, .tup []], .lst [], .dct false [] []]
def O7 : List D := [.int 3, .int (-1), .bl true, .non, .str ⟨#[48]⟩, .tup [.int 0], .int (10 ^ 60)]
def F5 : List D := [.int 3, .int (-2), .bl false, .non, .str ⟨#[49]⟩]
def L9 : List D := [.non, .lst [.int 0], .tup [.int 3], .tup [.int 1, .int 0], .tup [.int 0, .int 0], .tup [.bl true], .tup [.int (-1)], .int 0, .str ⟨#[48]⟩]
def M7 : List D := [.int 0, .int 15, .int (-1), .bl true, .non, .str ⟨#[50]⟩, .int (10 ^ 60)]
abbrev evr (i : Nat) (none one far lot many : D) : Ev := [some (.ref i), some webV, some wholeV, some none, some one, some far, some lot, some many]
abbrev jr (g b : Int) (c : Nat) : AO := .lst [.int g, .int b, .int c]
inductive Shp : Nat → Nat → AH → Prop
  | a {n : Nat} (g b : Int) (c : Nat) : c ≤ n → Shp 0 n [jr g b c]
  | b {n : Nat} (x y : Int) (z : Nat) (g b : Int) (c : Nat) : c ≤ n → Shp 1 n [jr x y z, jr g b c]
theorem s5 {i n : Nat} {A : AH} (S : Shp i n A) {none one far lot many : D} (hnone : none ∈ N6) : r5 (evr i none one far lot many) A = .nx (evr i none one far lot many) A := by
  simp only [N6, List.mem_cons, List.not_mem_nil, or_false] at hnone
  cases S <;> rcases hnone with rfl | rfl | rfl | rfl | rfl | rfl <;> kernel_rfl
theorem s6_0 {i n : Nat} {A : AH} (S : Shp i n A) {none far lot many : D} (hnone : none ∈ N6) : r6 (evr i none (.int 3) far lot many) A = .nx (evr i none (.int 3) far lot many) A := by
  simp only [N6, List.mem_cons, List.not_mem_nil, or_false] at hnone
  cases S <;> rcases hnone with rfl | rfl | rfl | rfl | rfl | rfl <;> kernel_rfl
theorem s6_1 {i n : Nat} {A : AH} (S : Shp i n A) {none far lot many : D} (hnone : none ∈ N6) : r6 (evr i none (.int (-1)) far lot many) A = .nx (evr i none (.int (-1)) far lot many) A := by
  simp only [N6, List.mem_cons, List.not_mem_nil, or_false] at hnone
  cases S <;> rcases hnone with rfl | rfl | rfl | rfl | rfl | rfl <;> kernel_rfl
theorem s6_2 {i n : Nat} {A : AH} (S : Shp i n A) {none far lot many : D} (hnone : none ∈ N6) : r6 (evr i none (.bl true) far lot many) A = .nx (evr i none (.bl true) far lot many) A := by
  simp only [N6, List.mem_cons, List.not_mem_nil, or_false] at hnone
  cases S <;> rcases hnone with rfl | rfl | rfl | rfl | rfl | rfl <;> kernel_rfl
theorem s6_3 {i n : Nat} {A : AH} (S : Shp i n A) {none far lot many : D} (hnone : none ∈ N6) : r6 (evr i none (.non) far lot many) A = .nx (evr i none (.non) far lot many) A := by
  simp only [N6, List.mem_cons, List.not_mem_nil, or_false] at hnone
  cases S <;> rcases hnone with rfl | rfl | rfl | rfl | rfl | rfl <;> kernel_rfl
theorem s6_4 {i n : Nat} {A : AH} (S : Shp i n A) {none far lot many : D} (hnone : none ∈ N6) : r6 (evr i none (.str ⟨#[48]⟩) far lot many) A = .nx (evr i none (.str ⟨#[48]⟩) far lot many) A := by
  simp only [N6, List.mem_cons, List.not_mem_nil, or_false] at hnone
  cases S <;> rcases hnone with rfl | rfl | rfl | rfl | rfl | rfl <;> kernel_rfl
theorem s6_5 {i n : Nat} {A : AH} (S : Shp i n A) {none far lot many : D} (hnone : none ∈ N6) : r6 (evr i none (.tup [.int 0]) far lot many) A = .nx (evr i none (.tup [.int 0]) far lot many) A := by
  simp only [N6, List.mem_cons, List.not_mem_nil, or_false] at hnone
  cases S <;> rcases hnone with rfl | rfl | rfl | rfl | rfl | rfl <;> kernel_rfl
theorem s6_6 {i n : Nat} {A : AH} (S : Shp i n A) {none far lot many : D} (hnone : none ∈ N6) : r6 (evr i none (.int (10 ^ 60)) far lot many) A = .nx (evr i none (.int (10 ^ 60)) far lot many) A := by
  simp only [N6, List.mem_cons, List.not_mem_nil, or_false] at hnone
  cases S <;> rcases hnone with rfl | rfl | rfl | rfl | rfl | rfl <;> kernel_rfl
theorem s6 {i n : Nat} {A : AH} (S : Shp i n A) {none one far lot many : D} (hone : one ∈ O7) (hnone : none ∈ N6) : r6 (evr i none one far lot many) A = .nx (evr i none one far lot many) A := by
  simp only [O7, List.mem_cons, List.not_mem_nil, or_false] at hone
  rcases hone with rfl | rfl | rfl | rfl | rfl | rfl | rfl
  · exact s6_0 S hnone
  · exact s6_1 S hnone
  · exact s6_2 S hnone
  · exact s6_3 S hnone
  · exact s6_4 S hnone
  · exact s6_5 S hnone
  · exact s6_6 S hnone
theorem s7 {i n : Nat} {A : AH} (S : Shp i n A) {none one far lot many : D} (hfar : far ∈ F5) : r7 (evr i none one far lot many) A = .nx (evr i none one far lot many) A := by
  simp only [F5, List.mem_cons, List.not_mem_nil, or_false] at hfar
  cases S <;> rcases hfar with rfl | rfl | rfl | rfl | rfl <;> kernel_rfl
end Lw
namespace Lw
open PySem PySem.Spec
open PyProof.Rows L2 F3
theorem s8_0 {i n : Nat} {A : AH} (S : Shp i n A) {none far lot many : D} (hmany : many ∈ M7) : r8 (evr i none (.int 3) far lot many) A = .nx (evr i none (.int 3) far lot many) A := by
  simp only [M7, List.mem_cons, List.not_mem_nil, or_false] at hmany
  cases S <;> rcases hmany with rfl | rfl | rfl | rfl | rfl | rfl | rfl <;> kernel_rfl
theorem s8_1 {i n : Nat} {A : AH} (S : Shp i n A) {none far lot many : D} (hmany : many ∈ M7) : r8 (evr i none (.int (-1)) far lot many) A = .nx (evr i none (.int (-1)) far lot many) A := by
  simp only [M7, List.mem_cons, List.not_mem_nil, or_false] at hmany
  cases S <;> rcases hmany with rfl | rfl | rfl | rfl | rfl | rfl | rfl <;> kernel_rfl
theorem s8_2 {i n : Nat} {A : AH} (S : Shp i n A) {none far lot many : D} (hmany : many ∈ M7) : r8 (evr i none (.bl true) far lot many) A = .nx (evr i none (.bl true) far lot many) A := by
  simp only [M7, List.mem_cons, List.not_mem_nil, or_false] at hmany
  cases S <;> rcases hmany with rfl | rfl | rfl | rfl | rfl | rfl | rfl <;> kernel_rfl
theorem s8_3 {i n : Nat} {A : AH} (S : Shp i n A) {none far lot many : D} (hmany : many ∈ M7) : r8 (evr i none (.non) far lot many) A = .nx (evr i none (.non) far lot many) A := by
  simp only [M7, List.mem_cons, List.not_mem_nil, or_false] at hmany
  cases S <;> rcases hmany with rfl | rfl | rfl | rfl | rfl | rfl | rfl <;> kernel_rfl
theorem s8_4 {i n : Nat} {A : AH} (S : Shp i n A) {none far lot many : D} (hmany : many ∈ M7) : r8 (evr i none (.str ⟨#[48]⟩) far lot many) A = .nx (evr i none (.str ⟨#[48]⟩) far lot many) A := by
  simp only [M7, List.mem_cons, List.not_mem_nil, or_false] at hmany
  cases S <;> rcases hmany with rfl | rfl | rfl | rfl | rfl | rfl | rfl <;> kernel_rfl
theorem s8_5 {i n : Nat} {A : AH} (S : Shp i n A) {none far lot many : D} (hmany : many ∈ M7) : r8 (evr i none (.tup [.int 0]) far lot many) A = .nx (evr i none (.tup [.int 0]) far lot many) A := by
  simp only [M7, List.mem_cons, List.not_mem_nil, or_false] at hmany
  cases S <;> rcases hmany with rfl | rfl | rfl | rfl | rfl | rfl | rfl <;> kernel_rfl
theorem s8_6 {i n : Nat} {A : AH} (S : Shp i n A) {none far lot many : D} (hmany : many ∈ M7) : r8 (evr i none (.int (10 ^ 60)) far lot many) A = .nx (evr i none (.int (10 ^ 60)) far lot many) A := by
  simp only [M7, List.mem_cons, List.not_mem_nil, or_false] at hmany
  cases S <;> rcases hmany with rfl | rfl | rfl | rfl | rfl | rfl | rfl <;> kernel_rfl
theorem s8 {i n : Nat} {A : AH} (S : Shp i n A) {none one far lot many : D} (hone : one ∈ O7) (hmany : many ∈ M7) : r8 (evr i none one far lot many) A = .nx (evr i none one far lot many) A := by
  simp only [O7, List.mem_cons, List.not_mem_nil, or_false] at hone
  rcases hone with rfl | rfl | rfl | rfl | rfl | rfl | rfl
  · exact s8_0 S hmany
  · exact s8_1 S hmany
  · exact s8_2 S hmany
  · exact s8_3 S hmany
  · exact s8_4 S hmany
  · exact s8_5 S hmany
  · exact s8_6 S hmany
end Lw
namespace Lw
open PySem PySem.Spec
open PyProof.Rows L2 F3
theorem s9_0 {i n : Nat} {A : AH} (S : Shp i n A) {none one far many : D} (hone : one ∈ O7) : r9 (evr i none one far (.non) many) A = .nx (evr i none one far (.non) many) A := by
  simp only [O7, List.mem_cons, List.not_mem_nil, or_false] at hone
  cases S <;> rcases hone with rfl | rfl | rfl | rfl | rfl | rfl | rfl <;> kernel_rfl
theorem s9_1 {i n : Nat} {A : AH} (S : Shp i n A) {none one far many : D} (hone : one ∈ O7) : r9 (evr i none one far (.lst [.int 0]) many) A = .nx (evr i none one far (.lst [.int 0]) many) A := by
  simp only [O7, List.mem_cons, List.not_mem_nil, or_false] at hone
  cases S <;> rcases hone with rfl | rfl | rfl | rfl | rfl | rfl | rfl <;> kernel_rfl
theorem s9_2 {i n : Nat} {A : AH} (S : Shp i n A) {none one far many : D} (hone : one ∈ O7) : r9 (evr i none one far (.tup [.int 3]) many) A = .nx (evr i none one far (.tup [.int 3]) many) A := by
  simp only [O7, List.mem_cons, List.not_mem_nil, or_false] at hone
  cases S <;> rcases hone with rfl | rfl | rfl | rfl | rfl | rfl | rfl <;> kernel_rfl
theorem s9_3 {i n : Nat} {A : AH} (S : Shp i n A) {none one far many : D} (hone : one ∈ O7) : r9 (evr i none one far (.tup [.int 1, .int 0]) many) A = .nx (evr i none one far (.tup [.int 1, .int 0]) many) A := by
  simp only [O7, List.mem_cons, List.not_mem_nil, or_false] at hone
  cases S <;> rcases hone with rfl | rfl | rfl | rfl | rfl | rfl | rfl <;> kernel_rfl
theorem s9_4 {i n : Nat} {A : AH} (S : Shp i n A) {none one far many : D} (hone : one ∈ O7) : r9 (evr i none one far (.tup [.int 0, .int 0]) many) A = .nx (evr i none one far (.tup [.int 0, .int 0]) many) A := by
  simp only [O7, List.mem_cons, List.not_mem_nil, or_false] at hone
  cases S <;> rcases hone with rfl | rfl | rfl | rfl | rfl | rfl | rfl <;> kernel_rfl
theorem s9_5 {i n : Nat} {A : AH} (S : Shp i n A) {none one far many : D} (hone : one ∈ O7) : r9 (evr i none one far (.tup [.bl true]) many) A = .nx (evr i none one far (.tup [.bl true]) many) A := by
  simp only [O7, List.mem_cons, List.not_mem_nil, or_false] at hone
  cases S <;> rcases hone with rfl | rfl | rfl | rfl | rfl | rfl | rfl <;> kernel_rfl
theorem s9_6 {i n : Nat} {A : AH} (S : Shp i n A) {none one far many : D} (hone : one ∈ O7) : r9 (evr i none one far (.tup [.int (-1)]) many) A = .nx (evr i none one far (.tup [.int (-1)]) many) A := by
  simp only [O7, List.mem_cons, List.not_mem_nil, or_false] at hone
  cases S <;> rcases hone with rfl | rfl | rfl | rfl | rfl | rfl | rfl <;> kernel_rfl
theorem s9_7 {i n : Nat} {A : AH} (S : Shp i n A) {none one far many : D} (hone : one ∈ O7) : r9 (evr i none one far (.int 0) many) A = .nx (evr i none one far (.int 0) many) A := by
  simp only [O7, List.mem_cons, List.not_mem_nil, or_false] at hone
  cases S <;> rcases hone with rfl | rfl | rfl | rfl | rfl | rfl | rfl <;> kernel_rfl
theorem s9_8 {i n : Nat} {A : AH} (S : Shp i n A) {none one far many : D} (hone : one ∈ O7) : r9 (evr i none one far (.str ⟨#[48]⟩) many) A = .nx (evr i none one far (.str ⟨#[48]⟩) many) A := by
  simp only [O7, List.mem_cons, List.not_mem_nil, or_false] at hone
  cases S <;> rcases hone with rfl | rfl | rfl | rfl | rfl | rfl | rfl <;> kernel_rfl
theorem s9 {i n : Nat} {A : AH} (S : Shp i n A) {none one far lot many : D} (hlot : lot ∈ L9) (hone : one ∈ O7) : r9 (evr i none one far lot many) A = .nx (evr i none one far lot many) A := by
  simp only [L9, List.mem_cons, List.not_mem_nil, or_false] at hlot
  rcases hlot with rfl | rfl | rfl | rfl | rfl | rfl | rfl | rfl | rfl
  · exact s9_0 S hone
  · exact s9_1 S hone
  · exact s9_2 S hone
  · exact s9_3 S hone
  · exact s9_4 S hone
  · exact s9_5 S hone
  · exact s9_6 S hone
  · exact s9_7 S hone
  · exact s9_8 S hone
theorem s10 {i n : Nat} {A : AH} (S : Shp i n A) {none one far lot many : D} (hfar : far ∈ F5) : r10 (evr i none one far lot many) A = .nx (evr i none one far lot many) A := by
  simp only [F5, List.mem_cons, List.not_mem_nil, or_false] at hfar
  cases S <;> rcases hfar with rfl | rfl | rfl | rfl | rfl <;> kernel_rfl
theorem s11 {i n : Nat} {A : AH} (S : Shp i n A) {none one far lot many : D}  : r11 (evr i none one far lot many) A = .rt (.bl true) A := by
  cases S <;> kernel_rfl
end Lw
namespace Lw
open PySem PySem.Spec
open PyProof.Rows L2 F3
theorem log_lt {x : Int} (h : x.natAbs < 2 ^ 200) : x.natAbs.log2 < 9000 := by
  by_cases q : x.natAbs = 0
  · rw [q]; decide
  · rw [Nat.log2_lt q]
    exact Nat.lt_trans h (by decide +kernel)
theorem Shp.at_ {i n : Nat} {A : AH} (S : Shp i n A) : ∃ (g b : Int) (c : Nat), A[i]? = some (jr g b c) ∧ c ≤ n ∧ (∀ (g' : Int) (c' : Nat), c' ≤ n + 1 → Shp i (n + 1) (A.set i (jr g' b c'))) := by
  cases S with
  | a g b c h => exact ⟨g, b, c, rfl, h, fun g' c' h' => .a g' b c' h'⟩
  | b x y z g b c h => exact ⟨g, b, c, rfl, h, fun g' c' h' => .b x y z g' b c' h'⟩
theorem dip_of {i n : Nat} {A : AH} (S : Shp i n A) (hn : n ≤ 1000) (m : Nat) (h1 : 1 ≤ m) (h2 : m ≤ 1000) :
    ∃ (r : Nat) (A' : AH), m_law_dip [.ref i, .int m] A = .ok (.int r) A' ∧ r < m ∧ Shp i (n + 1) A' ∧ A'.length = A.length := by
  obtain ⟨g, b, c, at_, hc, st⟩ := S.at_
  have hm : (0 : Int) < m := by omega
  have hml : (m : Int).natAbs.log2 < 9000 := log_lt (by rw [Int.natAbs_natCast]; exact Nat.lt_of_le_of_lt h2 (by decide +kernel))
  have hmN : 0 < m := by omega
  have hmlN : m.log2 < 9000 := by rw [Int.natAbs_natCast] at hml; exact hml
  have ix0 : ixN 3 0 = some 0 := by decide
  have ix1 : ixN 3 1 = some 1 := by decide
  have ix2 : ixN 3 2 = some 2 := by decide
  have toN : ∀ x : Int, ∃ r : Nat, x % (m : Int) = (r : Int) ∧ r < m := fun x => by
    have q1 := Int.emod_nonneg x (show (m : Int) ≠ 0 by omega)
    have q2 := Int.emod_lt_of_pos x hm
    exact ⟨(x % (m : Int)).toNat, by omega, by omega⟩
  have hl : ∀ o, (A.set i o).length = A.length := fun o => List.length_set
  have cl : ∀ (d : D) (o : AO), clean A.length d (A.set i o) = .ok d (A.set i o) := fun d o => by
    have := clean_same (A := A.set i o) d
    rw [hl] at this; exact this
  have i0 : ∀ g b c : Int, atI [D.int g, D.int b, D.int c] 0 = some (.int g) := fun _ _ _ => rfl
  have i1 : ∀ g b c : Int, atI [D.int g, D.int b, D.int c] 1 = some (.int b) := fun _ _ _ => rfl
  have i2 : ∀ g b c : Int, atI [D.int g, D.int b, D.int c] 2 = some (.int c) := fun _ _ _ => rfl
  by_cases hg : 0 < g
  · obtain ⟨r, e1, e2⟩ := toN g
    refine ⟨r, A.set i (jr (g / m) b c), ?_, e2, st _ c (by omega), List.length_set⟩
    rw [u_law_dip]
    unfold b_law_dip
    simp [gIx, asL, at_, gCmpI, hg, i0, gInt, gMod, hmN, gFdiv, hmlN, ix0]
    rw [cl, e1]
  · have c1 : (c : Int) + 1 = ((c + 1 : Nat) : Int) := rfl
    have at3 : ∀ o : AO, (A.set i o)[i]? = some o := fun o => by
      rw [List.getElem?_set_self (List.getElem?_eq_some_iff.mp at_).1]
    have lc : ∀ k : Nat, k.log2 < 100 → k.log2 + (c + 1).log2 < 1000000 := fun k hk => by
      have : ((c + 1 : Nat) : Int).natAbs.log2 < 9000 := log_lt (by rw [Int.natAbs_natCast]; exact Nat.lt_of_le_of_lt (by omega : c + 1 ≤ 1001) (by decide +kernel))
      rw [Int.natAbs_natCast] at this
      omega
    have m1 : ∀ X, gMulS (.int 67867967) (.int ((c : Int) + 1)) X = .ok (.int (67867967 * ((c : Int) + 1))) X := fun X => by
      unfold gMulS gMul
      exact if_pos (lc _ (by decide +kernel))
    have m2 : ∀ X, gMulS (.int 109) (.int ((c : Int) + 1)) X = .ok (.int (109 * ((c : Int) + 1))) X := fun X => by
      unfold gMulS gMul
      exact if_pos (lc _ (by decide +kernel))
    have em : ∀ x q : Int, 0 < q → q < 2305843009213693952 → (x % q).natAbs.log2 < 9000 := fun x q h1 h2 => log_lt (by
      have := Int.emod_nonneg x (show q ≠ 0 by omega)
      have := Int.emod_lt_of_pos x h1
      omega)
    have m3 : ∀ (x : Int) X, gMulS (.int (x % 2305843009213693951)) (.int (x % 2305843009213693951)) X = .ok (.int (x % 2305843009213693951 * (x % 2305843009213693951))) X := fun x X => by
      have := em x 2305843009213693951 (by decide) (by decide)
      unfold gMulS gMul
      exact if_pos (by omega)
    have m4 : ∀ (x : Int) X, gMulS (.int (x % 2305843009213693921)) (.int 5999993) X = .ok (.int (x % 2305843009213693921 * 5999993)) X := fun x X => by
      have := em x 2305843009213693921 (by decide) (by decide)
      have l2 : (5999993 : Int).natAbs.log2 < 9000 := by decide +kernel
      unfold gMulS gMul
      exact if_pos (by omega)
    have l6 : Nat.log2 65537 < 9000 := by decide +kernel
    have key : ∃ y : Int, m_law_dip [.ref i, .int m] A = (clean A.length (.int (y % m)) (A.set i (jr g b (c + 1)))) := by
      rw [u_law_dip]
      unfold b_law_dip
      simp [gIx, asL, at_, at3, gCmpI, hg, i0, i1, i2, gInt, gMod, hmN, gFdiv, l6, ix2, gAdd, m1, m2, m3, m4]
      exact ⟨_, rfl⟩
    obtain ⟨y, hy⟩ := key
    obtain ⟨r, e1, e2⟩ := toN y
    exact ⟨r, A.set i (jr g b (c + 1)), by rw [hy, cl, e1], e2, st _ (c + 1) (by omega), List.length_set⟩
end Lw
namespace Lw
open PySem PySem.Spec
open PyProof.Rows L2 F3
theorem one_of {i n : Nat} {A : AH} (S : Shp i n A) (hn : n ≤ 1000) (xs : List D) (h1 : 1 ≤ xs.length) (h2 : xs.length ≤ 1000) :
    ∃ (x : D) (A' : AH), m_law_one [.ref i, .lst xs] A = .ok x A' ∧ x ∈ xs ∧ Shp i (n + 1) A' := by
  obtain ⟨r, A', e, hr, hS, hl⟩ := dip_of S hn xs.length h1 h2
  refine ⟨xs[r], A', ?_, List.getElem_mem hr, hS⟩
  have ix : atI xs (r : Int) = some xs[r] := by
    unfold atI ixN
    rw [if_pos (by omega), if_pos (by omega), Option.bind_some, Int.toNat_natCast, List.getElem?_eq_getElem hr]
  have cl := clean_same (A := A') xs[r]
  rw [hl] at cl
  rw [u_law_one]
  unfold b_law_one
  simp [gLen, asL, e, gIx, ix, cl]
theorem d0 {i n : Nat} {A : AH} (S : Shp i n A) : r0 [some (.ref i), none, none, none, none, none, none, none] A = .nx [some (.ref i), some webV, some wholeV, none, none, none, none, none] A := by
  cases S <;> kernel_rfl
theorem d1 {i n : Nat} {A : AH} (S : Shp i n A) (hn : n ≤ 1000) : ∃ (x : D) (A' : AH), r1 [some (.ref i), some webV, some wholeV, none, none, none, none, none] A = .nx [some (.ref i), some webV, some wholeV, some x, none, none, none, none] A' ∧ x ∈ N6 ∧ Shp i (n + 1) A' := by
  obtain ⟨x, A', e, hx, S'⟩ := one_of S hn N6 (by decide) (by decide)
  refine ⟨x, A', ?_, hx, S'⟩
  have k : r1 [some (.ref i), some webV, some wholeV, none, none, none, none, none] A = lft (m_law_one [.ref i, .lst N6] A) [some (.ref i), some webV, some wholeV, none, none, none, none, none] (fun d A1 => .nx [some (.ref i), some webV, some wholeV, some d, none, none, none, none] A1) := rfl
  rw [k, e]
  rfl
theorem par2 {f1 f2 : Ev → AH → Res D} {env : Ev} {A A1 A2 : AH} {x y : D} (h1 : f1 env A = .ok x A1) (h2 : f2 env A1 = .ok y A2) : bPar 4 5 (sCons f1 (sCons f2 sNil)) env A = .nx ((env.set 4 (some x)).set 5 (some y)) A2 := by
  have h : sCons f1 (sCons f2 sNil) env A = .ok [x, y] A2 := by simp [h1, h2]
  unfold bPar
  rw [h]
  rfl
theorem d2 {i n : Nat} {A : AH} (S : Shp i n A) (hn : n ≤ 999) (z : D) : ∃ (x y : D) (A' : AH), r2 [some (.ref i), some webV, some wholeV, some z, none, none, none, none] A = .nx [some (.ref i), some webV, some wholeV, some z, some x, some y, none, none] A' ∧ x ∈ O7 ∧ y ∈ F5 ∧ Shp i (n + 2) A' := by
  obtain ⟨x, A1, e1, hx, S1⟩ := one_of S (by omega) O7 (by decide) (by decide)
  obtain ⟨y, A2, e2, hy, S2⟩ := one_of S1 (by omega) F5 (by decide) (by decide)
  refine ⟨x, y, A2, ?_, hx, hy, S2⟩
  unfold r2
  exact par2 (x := x) (y := y) (A1 := A1) e1 e2
theorem d3 {i n : Nat} {A : AH} (S : Shp i n A) (hn : n ≤ 1000) (z u v : D) : ∃ (x : D) (A' : AH), r3 [some (.ref i), some webV, some wholeV, some z, some u, some v, none, none] A = .nx [some (.ref i), some webV, some wholeV, some z, some u, some v, some x, none] A' ∧ x ∈ L9 ∧ Shp i (n + 1) A' := by
  obtain ⟨x, A', e, hx, S'⟩ := one_of S hn L9 (by decide) (by decide)
  refine ⟨x, A', ?_, hx, S'⟩
  have k : r3 [some (.ref i), some webV, some wholeV, some z, some u, some v, none, none] A = lft (m_law_one [.ref i, .lst L9] A) [some (.ref i), some webV, some wholeV, some z, some u, some v, none, none] (fun d A1 => .nx [some (.ref i), some webV, some wholeV, some z, some u, some v, some d, none] A1) := rfl
  rw [k, e]
  rfl
theorem d4 {i n : Nat} {A : AH} (S : Shp i n A) (hn : n ≤ 1000) (z u v t : D) : ∃ (x : D) (A' : AH), r4 [some (.ref i), some webV, some wholeV, some z, some u, some v, some t, none] A = .nx (evr i z u v t x) A' ∧ x ∈ M7 ∧ Shp i (n + 1) A' := by
  obtain ⟨x, A', e, hx, S'⟩ := one_of S hn M7 (by decide) (by decide)
  refine ⟨x, A', ?_, hx, S'⟩
  have k : r4 [some (.ref i), some webV, some wholeV, some z, some u, some v, some t, none] A = lft (m_law_one [.ref i, .lst M7] A) [some (.ref i), some webV, some wholeV, some z, some u, some v, some t, none] (fun d A1 => .nx (evr i z u v t d) A1) := rfl
  rw [k, e]
  rfl
theorem seq_nx {f g : Ev → AH → SR} {env env1 : Ev} {A A1 : AH} (h : f env A = .nx env1 A1) : bSeq f g env A = g env1 A1 := by
  unfold bSeq
  rw [h]
theorem Shp.len {i n : Nat} {A : AH} (S : Shp i n A) : A.length = i + 1 := by cases S <;> rfl
theorem right_of {i n : Nat} {A : AH} (S : Shp i n A) (hn : n ≤ 900) : ∃ A', m_law_right [.ref i] A = .ok (.bl true) A' ∧ Shp i (n + 5) A' := by
  obtain ⟨x1, A1, e1, h1, S1⟩ := d1 S (by omega)
  obtain ⟨x2, x3, A2, e2, h2, h3, S2⟩ := d2 S1 (by omega) x1
  obtain ⟨x4, A3, e3, h4, S3⟩ := d3 S2 (by omega) x1 x2 x3
  obtain ⟨x5, A4, e4, h5, S4⟩ := d4 S3 (by omega) x1 x2 x3 x4
  refine ⟨A4, ?_, S4⟩
  rw [u_law_right, right_eq, seq_nx (d0 S), seq_nx e1, seq_nx e2, seq_nx e3, seq_nx e4, seq_nx (s5 S4 h1), seq_nx (s6 S4 h2 h1), seq_nx (s7 S4 h3), seq_nx (s8 S4 h2 h5), seq_nx (s9 S4 h4 h2), seq_nx (s10 S4 h3), s11 S4, fin_rt]
  have := clean_same (A := A4) (.bl true)
  rw [S4.len, ← S.len] at this
  exact this
end Lw
namespace Lw
open PySem PySem.Spec
open PyProof.Rows L2 F3
theorem jar_of (ns : List Int) (at_ : Nat) (h : at_ < 2) (A : AH) : ∃ g b : Int, m_law_jar [.scr (ns.map .int), .int at_] A = .ok (.ref A.length) (A ++ [jr g b 0]) := by
  have la : (at_ : Int).natAbs.log2 < 9000 := log_lt (by rw [Int.natAbs_natCast]; exact Nat.lt_of_lt_of_le h (by decide +kernel))
  obtain ⟨cell, hc⟩ : ∃ cell : Int, sIf (sTest (sBin gLt (sVar 1) (sCall gLen (sCons (sVar 0) (sNil))))) (sCall gInt (sCons (sBin gIx (sVar 0) (sVar 1)) (sNil))) (sBin gAdd (sBin gMulS (sC (.int 113)) (sVar 1)) (sC (.int 59))) [some (.scr (ns.map .int)), some (.int at_), none, none] A = .ok (.int cell) A := by
    by_cases q : at_ < ns.length
    · refine ⟨ns[at_], ?_⟩
      have q' : (at_ : Int) < ns.length := by omega
      have ix : atI (ns.map D.int) (at_ : Int) = some (.int ns[at_]) := by
        unfold atI ixN
        rw [if_pos (by omega), List.length_map, if_pos (by omega), Option.bind_some, Int.toNat_natCast, List.getElem?_map, List.getElem?_eq_getElem q]; rfl
      simp [gLt, gLen, asL, q', gIx, ix, gInt]
    · refine ⟨113 * at_ + 59, ?_⟩
      have q' : ¬ (at_ : Int) < ns.length := by omega
      have lg' : Nat.log2 113 + at_.log2 < 1000000 := by
        have h2 : Nat.log2 113 < 100 := by decide +kernel
        rw [Int.natAbs_natCast] at la
        omega
      simp [gLt, gLen, asL, q', gMulS, gMul, lg', gAdd]
  have p17 : gPow (.int 10) (.int 17) A = .ok (.int 100000000000000000) A := rfl
  have p58 : gPow (.int 10) (.int 58) A = .ok (.int 10000000000000000000000000000000000000000000000000000000000) A := rfl
  have p59 : gPow (.int 10) (.int 59) A = .ok (.int 100000000000000000000000000000000000000000000000000000000000) A := rfl
  have mb : gMulS (.int 10000000000000000000000000000000000000000000000000000000000) (.int 100000000000000000000000000000000000000000000000000000000000) A = .ok (.int (10000000000000000000000000000000000000000000000000000000000 * 100000000000000000000000000000000000000000000000000000000000)) A := by
    unfold gMulS gMul
    exact if_pos (by decide +kernel)
  have mm : ∀ x : Int, gMulS (.int (x % 1152921504606847009)) (.int 103) A = .ok (.int (x % 1152921504606847009 * 103)) A := fun x => by
    have k1 := Int.emod_nonneg x (show (1152921504606847009 : Int) ≠ 0 by decide)
    have k2 := Int.emod_lt_of_pos x (show (0 : Int) < 1152921504606847009 by decide)
    have l1 : (x % 1152921504606847009).natAbs.log2 < 9000 := log_lt (by omega)
    have l2 : (103 : Int).natAbs.log2 < 9000 := by decide +kernel
    unfold gMulS gMul
    exact if_pos (by omega)
  have m5 : gMulS (.int 1013) (.int at_) A = .ok (.int (1013 * at_)) A := by
    have l2 : (1013 : Int).natAbs.log2 < 9000 := by decide +kernel
    unfold gMulS gMul
    exact if_pos (by omega)
  have m71 : ∀ b : Bool, gMulS (.int 71) (.int (if b = true then 1 else 0)) A = .ok (.int (71 * (if b = true then 1 else 0))) A := fun b => by
    have l2 : (71 : Int).natAbs.log2 < 9000 := by decide +kernel
    have l3 : (if b = true then (1 : Int) else 0).natAbs.log2 < 9000 := by cases b <;> decide +kernel
    unfold gMulS gMul
    exact if_pos (by omega)
  obtain ⟨c, ga⟩ : ∃ c, gAbs [.int cell] A = .ok (.int c) A := ⟨_, rfl⟩
  have s17 : ∀ x, F3.gSub (.int x) (.int 100000000000000000) A = .ok (.int (x - 100000000000000000)) A := fun _ => rfl
  have gm : ∀ x, gMax2 [.int 0, .int x] A = .ok (.int (if x > 0 then x else 0)) A := fun _ => rfl
  have md : ∀ x, gMod (.int x) (.int (10000000000000000000000000000000000000000000000000000000000 * 100000000000000000000000000000000000000000000000000000000000)) A = .ok (.int (x % (10000000000000000000000000000000000000000000000000000000000 * 100000000000000000000000000000000000000000000000000000000000))) A := fun x => by
    unfold gMod; exact if_pos (by decide +kernel)
  have md2 : ∀ x, gMod (.int x) (.int 1152921504606847009) A = .ok (.int (x % 1152921504606847009)) A := fun x => by unfold gMod; exact if_pos (by decide +kernel)
  have gai : ∀ x y, gAdd (.int x) (.int y) A = .ok (.int (x + y)) A := fun _ _ => rfl
  have lt0 : gLt (.int cell) (.int 0) A = .ok (.bl (decide (cell < 0))) A := rfl
  have gi2 : ∀ b, gInt [.bl b] A = .ok (.int (if b = true then 1 else 0)) A := fun _ => rfl
  have ap : ∀ x y z : Int, ([D.int x, D.int y, D.int z]).length ≤ sizeLine := fun _ _ _ => by show 3 ≤ 16777216; decide
  refine ⟨(if c - 100000000000000000 > 0 then c - 100000000000000000 else 0) % (10000000000000000000000000000000000000000000000000000000000 * 100000000000000000000000000000000000000000000000000000000000),
    c % 1152921504606847009 * 103 + 1013 * at_ + 71 * (if decide (cell < 0) = true then 1 else 0) + 13, ?_⟩
  rw [u_law_jar]
  unfold b_law_jar
  rw [e_bSeq, e_bSet, hc]
  simp only [lft_ok, e_gNm, stTo_some, List.set_cons_succ, List.set_cons_zero, F3.seq_nx, e_bSeq, e_bSet, e_sBin, e_sCall, e_sCons, e_sNil, e_sC, e_sVar, List.getElem?_cons_succ, List.getElem?_cons_zero, bind_ok, p17, p58, p59, mb, ga, s17, gm, md, md2, mm, m5, lt0, gi2, m71, gai, e_bRet, e_sLstM, if_pos (ap _ _ _), finN_rt]
  rfl
end Lw
namespace Lw
open PySem PySem.Spec
open PyProof.Rows L2 F3
abbrev bodyT : Ev → AH → SR := bIf (sNotT (sTest (sCall m_law_right (sCons (sVar 2) (sNil))))) (bRet (sC (.bl false))) (bNil)
abbrev bodyJ : Ev → AH → SR := bSeq (bSet (gNm 2) (sCall m_law_jar (sCons (sVar 0) (sCons (sVar 1) (sNil))))) (bFor (iRange1 (sCons (sC (.int 6)) (sNil))) (gNm 3) bodyT)
abbrev ev9 (d : D) (x1 x2 x3 : Option D) : Ev := [some d, x1, x2, x3, none, none, none, none, none]
theorem turns_of {i : Nat} (d : D) (x1 : Option D) : ∀ (k lo n : Nat) (A : AH) (x3 : Option D), Shp i n A → n + 5 * k ≤ 900 → ∃ (A' : AH) (y3 : Option D), forL (gNm 3) bodyT (rngL lo 1 k) (ev9 d x1 (some (.ref i)) x3) A = .nx (ev9 d x1 (some (.ref i)) y3) A' ∧ Shp i (n + 5 * k) A'
  | 0, lo, n, A, x3, S, _ => ⟨A, x3, rfl, S⟩
  | k + 1, lo, n, A, x3, S, hl => by
    obtain ⟨A1, e1, S1⟩ := right_of S (by omega)
    obtain ⟨A2, z3, e2, S2⟩ := turns_of d x1 k (lo + 1) (n + 5) A1 (some (.int lo)) S1 (by omega)
    refine ⟨A2, z3, ?_, by have : n + 5 * (k + 1) = n + 5 + 5 * k := by omega
                           rw [this]; exact S2⟩
    show forL _ _ (D.int lo :: rngL ((lo : Int) + 1) 1 k) _ _ = _
    unfold forL
    simp only [e_gNm, List.set_cons_succ, List.set_cons_zero]
    have eb : bodyT (ev9 d x1 (some (.ref i)) (some (.int lo))) A = .nx (ev9 d x1 (some (.ref i)) (some (.int lo))) A1 := by
      simp [e1]
    rw [eb]
    exact e2
/-- the things before a spot -/
inductive Pre : Nat → AH → Prop
  | z : Pre 0 []
  | a (x y : Int) (z : Nat) : Pre 1 [jr x y z]
theorem jar_turn (ns : List Int) {at_ : Nat} {A : AH} (P : Pre at_ A) (x2 x3 : Option D) :
    ∃ (A' : AH) (y2 y3 : Option D), bodyJ (ev9 (.scr (ns.map .int)) (some (.int at_)) x2 x3) A = .nx (ev9 (.scr (ns.map .int)) (some (.int at_)) y2 y3) A' ∧ Shp at_ 30 A' := by
  have h : at_ < 2 := by cases P <;> decide
  obtain ⟨g, b, e1⟩ := jar_of ns at_ h A
  have S : Shp at_ 0 (A ++ [jr g b 0]) := by
    cases P with
    | z => exact .a g b 0 (Nat.le_refl _)
    | a x y z => exact .b x y z g b 0 (Nat.le_refl _)
  have hl : A.length = at_ := by cases P <;> rfl
  obtain ⟨A2, y3, e2, S2⟩ := turns_of (.scr (ns.map .int)) (some (.int at_)) 6 0 0 _ x3 S (by omega)
  have ir : ∀ e A', iRange1 (sCons (sC (.int 6)) sNil) e A' = .ok (rngL 0 1 6) A' := fun e A' => range1_ok (k := 6) rfl (by decide)
  refine ⟨A2, some (.ref at_), y3, ?_, S2⟩
  have e2' : forL (gNm 3) bodyT (rngL 0 1 6) (ev9 (.scr (ns.map .int)) (some (.int at_)) (some (.ref at_)) x3) (A ++ [jr g b 0]) = .nx (ev9 (.scr (ns.map .int)) (some (.int at_)) (some (.ref at_)) y3) A2 := e2
  have k1 : bSet (gNm 2) (sCall m_law_jar (sCons (sVar 0) (sCons (sVar 1) (sNil)))) (ev9 (.scr (ns.map .int)) (some (.int at_)) x2 x3) A = .nx (ev9 (.scr (ns.map .int)) (some (.int at_)) (some (.ref at_)) x3) (A ++ [jr g b 0]) := by
    simp [e1, hl]
  refine Eq.trans (Lw.seq_nx k1) ?_
  show lft (iRange1 (sCons (sC (.int 6)) sNil) _ _) _ _ = _
  rw [ir]
  exact e2'
theorem spots_of (ns : List Int) : ∀ k : Nat, 1 ≤ k → k ≤ 2 → ∃ (i : Nat) (A : AH) (y1 y2 y3 : Option D), forL (gNm 1) bodyJ (rngL 0 1 k) (ev9 (.scr (ns.map .int)) none none none) [] = .nx (ev9 (.scr (ns.map .int)) y1 y2 y3) A ∧ Shp i 30 A := by
  intro k h1 h2
  obtain ⟨A1, y2, y3, e1, S1⟩ := jar_turn ns .z none none
  have hk : k = 1 ∨ k = 2 := by omega
  rcases hk with rfl | rfl
  · refine ⟨0, A1, some (.int 0), y2, y3, ?_, S1⟩
    show forL _ _ (D.int 0 :: rngL ((0 : Int) + 1) 1 0) _ _ = _
    unfold forL
    simp only [e_gNm, List.set_cons_succ, List.set_cons_zero]
    have e1' : bodyJ (ev9 (.scr (ns.map .int)) (some (.int 0)) none none) [] = .nx (ev9 (.scr (ns.map .int)) (some (.int 0)) y2 y3) A1 := e1
    rw [e1']
    rfl
  · obtain ⟨x, y, z, rfl⟩ : ∃ x y z, A1 = [jr x y z] := by
      generalize hi : 0 = i0 at S1
      cases S1 with
      | a g b c _ => exact ⟨g, b, c, rfl⟩
      | b => cases hi
    obtain ⟨A2, z2, z3, e2, S2⟩ := jar_turn ns (.a x y z) y2 y3
    refine ⟨1, A2, some (.int 1), z2, z3, ?_, S2⟩
    show forL _ _ (D.int 0 :: D.int 1 :: rngL ((0 : Int) + 1 + 1) 1 0) _ _ = _
    unfold forL
    simp only [e_gNm, List.set_cons_succ, List.set_cons_zero]
    have e1' : bodyJ (ev9 (.scr (ns.map .int)) (some (.int 0)) none none) [] = .nx (ev9 (.scr (ns.map .int)) (some (.int 0)) y2 y3) [jr x y z] := e1
    rw [e1']
    simp only
    unfold forL
    simp only [e_gNm, List.set_cons_succ, List.set_cons_zero]
    have e2' : bodyJ (ev9 (.scr (ns.map .int)) (some (.int 1)) y2 y3) [jr x y z] = .nx (ev9 (.scr (ns.map .int)) (some (.int 1)) z2 z3) A2 := e2
    rw [e2']
    rfl
theorem last_of {i n : Nat} {A : AH} (S : Shp i n A) (d : D) (y1 y2 y3 : Option D) : bSeq w1 (bSeq w2 (bSeq w3 (bSeq w4 w5))) (ev9 d y1 y2 y3) A = .rt (.bl true) A := by
  cases S <;> kernel_rfl
theorem plain (ns : List Int) (hn : ns.length ≤ 63) : ∃ A, m_law [.scr (ns.map .int)] [] = .ok (.bl true) A := by
  obtain ⟨i, A, y1, y2, y3, e1, S⟩ := spots_of ns (max 1 (min 2 ns.length)) (by omega) (by omega)
  have ir : iRange1 (sCons (sCall gMax2 (sCons (sC (.int 1)) (sCons (sCall gMin2 (sCons (sC (.int 2)) (sCons (sCall gLen (sCons (sVar 0) (sNil))) (sNil)))) (sNil)))) (sNil)) (ev9 (.scr (ns.map .int)) none none none) [] = .ok (rngL 0 1 (max 1 (min 2 ns.length))) [] := by
    refine range1_ok ?_ (by omega)
    simp [gLen, asL, gMin2, gMax2]
    split <;> split <;> omega
  have k0 : w0 (ev9 (.scr (ns.map .int)) none none none) [] = .nx (ev9 (.scr (ns.map .int)) y1 y2 y3) A := by
    show lft (iRange1 _ _ _) _ _ = _
    rw [ir]
    exact e1
  have fin : ∃ A', clean ([] : AH).length (.bl true) A = .ok (.bl true) A' := by
    cases S <;> exact ⟨_, rfl⟩
  obtain ⟨A', e⟩ := fin
  refine ⟨A', ?_⟩
  rw [u_law, law_eq, Lw.seq_nx k0, last_of S, fin_rt]
  exact e
end Lw
namespace Lw
open PySem PySem.Spec
open PyProof.Rows L2 F3
def top (i : Nat) : Stmt := PySem.Challenge.pw_flowhues_k80_errors_of_joins.main.body.getD i (.Pass ⟨0, 0, 0, 0⟩)
abbrev st_law_jar : Stmt := top 54
abbrev st_is_int : Stmt := top 9
abbrev st_is_whole : Stmt := top 10
abbrev st_is_within : Stmt := top 11
abbrev st_require_size : Stmt := top 22
abbrev st_are_ties : Stmt := top 19
abbrev st_Web_init : Stmt := inClass (top 20) 1
abbrev st_law_dip : Stmt := top 55
abbrev st_law_one : Stmt := top 56
abbrev st_law_met : Stmt := top 58
abbrev st_require_web : Stmt := top 23
abbrev st_names_behind : Stmt := top 30
abbrev st_put_on : Stmt := top 31
abbrev st_ties_from : Stmt := top 15
abbrev st_made : Stmt := top 29
abbrev st_beside : Stmt := top 43
abbrev st_require_place : Stmt := top 25
abbrev st_require_far_place : Stmt := top 37
abbrev st_joined : Stmt := top 44
abbrev st_require_tie : Stmt := top 24
abbrev st_require_far_tie : Stmt := top 38
abbrev st_require_no_loop : Stmt := top 39
abbrev st_along : Stmt := top 45
abbrev st_in_line : Stmt := top 46
abbrev st_law_two : Stmt := top 59
abbrev st_require_many : Stmt := top 40
abbrev st_in_parallel : Stmt := top 47
abbrev st_rowed : Stmt := top 32
abbrev st_in_row : Stmt := top 48
abbrev st_law_taken : Stmt := top 60
abbrev st_is_lot_of : Stmt := top 13
abbrev st_require_lot_of_ties : Stmt := top 26
abbrev st_require_two_places : Stmt := top 41
abbrev st_whole_lot : Stmt := top 21
abbrev st_does_hang_in : Stmt := top 33
abbrev st_does_hang : Stmt := top 49
abbrev st_require_hanging : Stmt := top 42
abbrev st_turned_pairs : Stmt := top 34
abbrev st_turned_part : Stmt := top 50
abbrev st_turn_in : Stmt := top 35
abbrev st_turn_names : Stmt := top 51
abbrev st_pieces_in : Stmt := top 14
abbrev st_hanging_in : Stmt := top 36
abbrev st_hanging_lots : Stmt := top 52
abbrev st_law_hung : Stmt := top 61
abbrev st_law_right : Stmt := top 62
abbrev st_law : Stmt := top 63
structure Ad where
  law_jar : Addr
  is_int : Addr
  is_whole : Addr
  is_within : Addr
  require_size : Addr
  are_ties : Addr
  Web_init : Addr
  law_dip : Addr
  law_one : Addr
  law_met : Addr
  require_web : Addr
  names_behind : Addr
  put_on : Addr
  ties_from : Addr
  made : Addr
  beside : Addr
  require_place : Addr
  require_far_place : Addr
  joined : Addr
  require_tie : Addr
  require_far_tie : Addr
  require_no_loop : Addr
  along : Addr
  in_line : Addr
  law_two : Addr
  require_many : Addr
  in_parallel : Addr
  rowed : Addr
  in_row : Addr
  law_taken : Addr
  is_lot_of : Addr
  require_lot_of_ties : Addr
  require_two_places : Addr
  whole_lot : Addr
  does_hang_in : Addr
  does_hang : Addr
  require_hanging : Addr
  turned_pairs : Addr
  turned_part : Addr
  turn_in : Addr
  turn_names : Addr
  pieces_in : Addr
  hanging_in : Addr
  hanging_lots : Addr
  law_hung : Addr
  law_right : Addr
  law : Addr
  c_Web : Addr
  s_own_size : Addr
  s_own_ties : Addr
  k_law_two : Addr
  t_law_two : Addr
  k_law_taken : Addr
  t_law_taken : Addr
  k_turn_in : Addr
  t_turn_in : Addr
  k_law_hung : Addr
  t_law_hung : Addr
  x_InvalidWeb : Addr
  x_InvalidLot : Addr
  x_InvalidOperation : Addr
  x_InvalidNumber : Addr
  x_TooMany : Addr
  i_InvalidNumber : Addr
  i_TooMany : Addr
def clsOf (a : Ad) : Nat → Option Addr := fun c => if c = 0 then some a.c_Web else none
def xclOf (a : Ad) : Nat → Option Addr := fun c => if c = 1 then some a.x_InvalidWeb else if c = 2 then some a.x_InvalidLot else if c = 3 then some a.x_InvalidOperation else if c = 4 then some a.x_InvalidNumber else if c = 5 then some a.x_TooMany else none
def xflOf : Nat → Str := fun c => if c = 4 then "given" else if c = 5 then "limit" else ""
abbrev qn_law_two : Str := (("_law_two" : Str) ++ ".<locals>.") ++ "<lambda>"
abbrev qn_law_taken : Str := (("_law_taken" : Str) ++ ".<locals>.") ++ "<lambda>"
abbrev qn_turn_in : Str := (("turn_in" : Str) ++ ".<locals>.") ++ "<lambda>"
abbrev qn_law_hung : Str := (("_law_hung" : Str) ++ ".<locals>.") ++ "<lambda>"
def tabsOf (a : Ad) : List (Addr × Str) := [(a.t_law_two, qn_law_two), (a.t_law_taken, qn_law_taken), (a.t_turn_in, qn_turn_in), (a.t_law_hung, qn_law_hung)]
def codesOf (a : Ad) : List (Addr × Addr) := [(a.k_law_two, a.t_law_two), (a.k_law_taken, a.t_law_taken), (a.k_turn_in, a.t_turn_in), (a.k_law_hung, a.t_law_hung)]
def gcOf (K : PySem.W.Frag) (a : Ad) : Gc := ⟨K, clsOf a, xclOf a, tabsOf a, xflOf, none⟩
abbrev sx_InvalidNumber : Stmt := inClass (top 5) 0
abbrev sx_TooMany : Stmt := inClass (top 6) 0
structure Tx (P : Program) (K : PySem.W.Frag) (mg : Str → Option Value) (base : Heap) (a : Ad) (G : Gc) : Prop where
  gk : G.K = K
  f_law_jar : ∃ fd, Fun K "_law_jar" "_law_jar" st_law_jar a.law_jar fd
  g_law_jar : mg "_law_jar" = some (.ref a.law_jar)
  k_law_jar : PySem.W.keepIn K (.ref a.law_jar) = true
  f_is_int : ∃ fd, Fun K "is_int" "is_int" st_is_int a.is_int fd
  g_is_int : mg "is_int" = some (.ref a.is_int)
  k_is_int : PySem.W.keepIn K (.ref a.is_int) = true
  f_is_whole : ∃ fd, Fun K "is_whole" "is_whole" st_is_whole a.is_whole fd
  g_is_whole : mg "is_whole" = some (.ref a.is_whole)
  k_is_whole : PySem.W.keepIn K (.ref a.is_whole) = true
  f_is_within : ∃ fd, Fun K "is_within" "is_within" st_is_within a.is_within fd
  g_is_within : mg "is_within" = some (.ref a.is_within)
  k_is_within : PySem.W.keepIn K (.ref a.is_within) = true
  f_require_size : ∃ fd, Fun K "require_size" "require_size" st_require_size a.require_size fd
  g_require_size : mg "require_size" = some (.ref a.require_size)
  k_require_size : PySem.W.keepIn K (.ref a.require_size) = true
  f_are_ties : ∃ fd, Fun K "are_ties" "are_ties" st_are_ties a.are_ties fd
  g_are_ties : mg "are_ties" = some (.ref a.are_ties)
  k_are_ties : PySem.W.keepIn K (.ref a.are_ties) = true
  f_Web_init : ∃ fd, Fun K "__init__" "Web.__init__" st_Web_init a.Web_init fd
  f_law_dip : ∃ fd, Fun K "_law_dip" "_law_dip" st_law_dip a.law_dip fd
  g_law_dip : mg "_law_dip" = some (.ref a.law_dip)
  k_law_dip : PySem.W.keepIn K (.ref a.law_dip) = true
  f_law_one : ∃ fd, Fun K "_law_one" "_law_one" st_law_one a.law_one fd
  g_law_one : mg "_law_one" = some (.ref a.law_one)
  k_law_one : PySem.W.keepIn K (.ref a.law_one) = true
  f_law_met : ∃ fd, Fun K "_law_met" "_law_met" st_law_met a.law_met fd
  g_law_met : mg "_law_met" = some (.ref a.law_met)
  k_law_met : PySem.W.keepIn K (.ref a.law_met) = true
  f_require_web : ∃ fd, Fun K "require_web" "require_web" st_require_web a.require_web fd
  g_require_web : mg "require_web" = some (.ref a.require_web)
  k_require_web : PySem.W.keepIn K (.ref a.require_web) = true
  f_names_behind : ∃ fd, Fun K "names_behind" "names_behind" st_names_behind a.names_behind fd
  g_names_behind : mg "names_behind" = some (.ref a.names_behind)
  k_names_behind : PySem.W.keepIn K (.ref a.names_behind) = true
  f_put_on : ∃ fd, Fun K "put_on" "put_on" st_put_on a.put_on fd
  g_put_on : mg "put_on" = some (.ref a.put_on)
  k_put_on : PySem.W.keepIn K (.ref a.put_on) = true
  f_ties_from : ∃ fd, Fun K "ties_from" "ties_from" st_ties_from a.ties_from fd
  g_ties_from : mg "ties_from" = some (.ref a.ties_from)
  k_ties_from : PySem.W.keepIn K (.ref a.ties_from) = true
  f_made : ∃ fd, Fun K "made" "made" st_made a.made fd
  g_made : mg "made" = some (.ref a.made)
  k_made : PySem.W.keepIn K (.ref a.made) = true
  f_beside : ∃ fd, Fun K "beside" "beside" st_beside a.beside fd
  g_beside : mg "beside" = some (.ref a.beside)
  k_beside : PySem.W.keepIn K (.ref a.beside) = true
  f_require_place : ∃ fd, Fun K "require_place" "require_place" st_require_place a.require_place fd
  g_require_place : mg "require_place" = some (.ref a.require_place)
  k_require_place : PySem.W.keepIn K (.ref a.require_place) = true
  f_require_far_place : ∃ fd, Fun K "require_far_place" "require_far_place" st_require_far_place a.require_far_place fd
  g_require_far_place : mg "require_far_place" = some (.ref a.require_far_place)
  k_require_far_place : PySem.W.keepIn K (.ref a.require_far_place) = true
  f_joined : ∃ fd, Fun K "joined" "joined" st_joined a.joined fd
  g_joined : mg "joined" = some (.ref a.joined)
  k_joined : PySem.W.keepIn K (.ref a.joined) = true
  f_require_tie : ∃ fd, Fun K "require_tie" "require_tie" st_require_tie a.require_tie fd
  g_require_tie : mg "require_tie" = some (.ref a.require_tie)
  k_require_tie : PySem.W.keepIn K (.ref a.require_tie) = true
  f_require_far_tie : ∃ fd, Fun K "require_far_tie" "require_far_tie" st_require_far_tie a.require_far_tie fd
  g_require_far_tie : mg "require_far_tie" = some (.ref a.require_far_tie)
  k_require_far_tie : PySem.W.keepIn K (.ref a.require_far_tie) = true
  f_require_no_loop : ∃ fd, Fun K "require_no_loop" "require_no_loop" st_require_no_loop a.require_no_loop fd
  g_require_no_loop : mg "require_no_loop" = some (.ref a.require_no_loop)
  k_require_no_loop : PySem.W.keepIn K (.ref a.require_no_loop) = true
  f_along : ∃ fd, Fun K "along" "along" st_along a.along fd
  g_along : mg "along" = some (.ref a.along)
  k_along : PySem.W.keepIn K (.ref a.along) = true
  f_in_line : ∃ fd, Fun K "in_line" "in_line" st_in_line a.in_line fd
  g_in_line : mg "in_line" = some (.ref a.in_line)
  k_in_line : PySem.W.keepIn K (.ref a.in_line) = true
  f_law_two : ∃ fd, Fun K "_law_two" "_law_two" st_law_two a.law_two fd
  g_law_two : mg "_law_two" = some (.ref a.law_two)
  k_law_two : PySem.W.keepIn K (.ref a.law_two) = true
  f_require_many : ∃ fd, Fun K "require_many" "require_many" st_require_many a.require_many fd
  g_require_many : mg "require_many" = some (.ref a.require_many)
  k_require_many : PySem.W.keepIn K (.ref a.require_many) = true
  f_in_parallel : ∃ fd, Fun K "in_parallel" "in_parallel" st_in_parallel a.in_parallel fd
  g_in_parallel : mg "in_parallel" = some (.ref a.in_parallel)
  k_in_parallel : PySem.W.keepIn K (.ref a.in_parallel) = true
  f_rowed : ∃ fd, Fun K "rowed" "rowed" st_rowed a.rowed fd
  g_rowed : mg "rowed" = some (.ref a.rowed)
  k_rowed : PySem.W.keepIn K (.ref a.rowed) = true
  f_in_row : ∃ fd, Fun K "in_row" "in_row" st_in_row a.in_row fd
  g_in_row : mg "in_row" = some (.ref a.in_row)
  k_in_row : PySem.W.keepIn K (.ref a.in_row) = true
  f_law_taken : ∃ fd, Fun K "_law_taken" "_law_taken" st_law_taken a.law_taken fd
  g_law_taken : mg "_law_taken" = some (.ref a.law_taken)
  k_law_taken : PySem.W.keepIn K (.ref a.law_taken) = true
  f_is_lot_of : ∃ fd, Fun K "is_lot_of" "is_lot_of" st_is_lot_of a.is_lot_of fd
  g_is_lot_of : mg "is_lot_of" = some (.ref a.is_lot_of)
  k_is_lot_of : PySem.W.keepIn K (.ref a.is_lot_of) = true
  f_require_lot_of_ties : ∃ fd, Fun K "require_lot_of_ties" "require_lot_of_ties" st_require_lot_of_ties a.require_lot_of_ties fd
  g_require_lot_of_ties : mg "require_lot_of_ties" = some (.ref a.require_lot_of_ties)
  k_require_lot_of_ties : PySem.W.keepIn K (.ref a.require_lot_of_ties) = true
  f_require_two_places : ∃ fd, Fun K "require_two_places" "require_two_places" st_require_two_places a.require_two_places fd
  g_require_two_places : mg "require_two_places" = some (.ref a.require_two_places)
  k_require_two_places : PySem.W.keepIn K (.ref a.require_two_places) = true
  f_whole_lot : ∃ fd, Fun K "whole_lot" "whole_lot" st_whole_lot a.whole_lot fd
  g_whole_lot : mg "whole_lot" = some (.ref a.whole_lot)
  k_whole_lot : PySem.W.keepIn K (.ref a.whole_lot) = true
  f_does_hang_in : ∃ fd, Fun K "does_hang_in" "does_hang_in" st_does_hang_in a.does_hang_in fd
  g_does_hang_in : mg "does_hang_in" = some (.ref a.does_hang_in)
  k_does_hang_in : PySem.W.keepIn K (.ref a.does_hang_in) = true
  f_does_hang : ∃ fd, Fun K "does_hang" "does_hang" st_does_hang a.does_hang fd
  g_does_hang : mg "does_hang" = some (.ref a.does_hang)
  k_does_hang : PySem.W.keepIn K (.ref a.does_hang) = true
  f_require_hanging : ∃ fd, Fun K "require_hanging" "require_hanging" st_require_hanging a.require_hanging fd
  g_require_hanging : mg "require_hanging" = some (.ref a.require_hanging)
  k_require_hanging : PySem.W.keepIn K (.ref a.require_hanging) = true
  f_turned_pairs : ∃ fd, Fun K "turned_pairs" "turned_pairs" st_turned_pairs a.turned_pairs fd
  g_turned_pairs : mg "turned_pairs" = some (.ref a.turned_pairs)
  k_turned_pairs : PySem.W.keepIn K (.ref a.turned_pairs) = true
  f_turned_part : ∃ fd, Fun K "turned_part" "turned_part" st_turned_part a.turned_part fd
  g_turned_part : mg "turned_part" = some (.ref a.turned_part)
  k_turned_part : PySem.W.keepIn K (.ref a.turned_part) = true
  f_turn_in : ∃ fd, Fun K "turn_in" "turn_in" st_turn_in a.turn_in fd
  g_turn_in : mg "turn_in" = some (.ref a.turn_in)
  k_turn_in : PySem.W.keepIn K (.ref a.turn_in) = true
  f_turn_names : ∃ fd, Fun K "turn_names" "turn_names" st_turn_names a.turn_names fd
  g_turn_names : mg "turn_names" = some (.ref a.turn_names)
  k_turn_names : PySem.W.keepIn K (.ref a.turn_names) = true
  f_pieces_in : ∃ fd, Fun K "pieces_in" "pieces_in" st_pieces_in a.pieces_in fd
  g_pieces_in : mg "pieces_in" = some (.ref a.pieces_in)
  k_pieces_in : PySem.W.keepIn K (.ref a.pieces_in) = true
  f_hanging_in : ∃ fd, Fun K "hanging_in" "hanging_in" st_hanging_in a.hanging_in fd
  g_hanging_in : mg "hanging_in" = some (.ref a.hanging_in)
  k_hanging_in : PySem.W.keepIn K (.ref a.hanging_in) = true
  f_hanging_lots : ∃ fd, Fun K "hanging_lots" "hanging_lots" st_hanging_lots a.hanging_lots fd
  g_hanging_lots : mg "hanging_lots" = some (.ref a.hanging_lots)
  k_hanging_lots : PySem.W.keepIn K (.ref a.hanging_lots) = true
  f_law_hung : ∃ fd, Fun K "_law_hung" "_law_hung" st_law_hung a.law_hung fd
  g_law_hung : mg "_law_hung" = some (.ref a.law_hung)
  k_law_hung : PySem.W.keepIn K (.ref a.law_hung) = true
  f_law_right : ∃ fd, Fun K "_law_right" "_law_right" st_law_right a.law_right fd
  g_law_right : mg "_law_right" = some (.ref a.law_right)
  k_law_right : PySem.W.keepIn K (.ref a.law_right) = true
  f_law : ∃ fd, Fun K "law" "law" st_law a.law fd
  g_law : mg "law" = some (.ref a.law)
  k_law : PySem.W.keepIn K (.ref a.law) = true
  b_law_two : LamX.TabB base mg a.k_law_two a.t_law_two
  kc_law_two : fnCode K a.law_two = some (.ref a.k_law_two)
  lm_law_two : (a.t_law_two, qn_law_two) ∈ G.T
  lo_law_two : ∀ p ∈ G.T, p.1 = a.t_law_two → p.2 = qn_law_two
  b_law_taken : LamX.TabB base mg a.k_law_taken a.t_law_taken
  kc_law_taken : fnCode K a.law_taken = some (.ref a.k_law_taken)
  lm_law_taken : (a.t_law_taken, qn_law_taken) ∈ G.T
  lo_law_taken : ∀ p ∈ G.T, p.1 = a.t_law_taken → p.2 = qn_law_taken
  b_turn_in : LamX.TabB base mg a.k_turn_in a.t_turn_in
  kc_turn_in : fnCode K a.turn_in = some (.ref a.k_turn_in)
  lm_turn_in : (a.t_turn_in, qn_turn_in) ∈ G.T
  lo_turn_in : ∀ p ∈ G.T, p.1 = a.t_turn_in → p.2 = qn_turn_in
  b_law_hung : LamX.TabB base mg a.k_law_hung a.t_law_hung
  kc_law_hung : fnCode K a.law_hung = some (.ref a.k_law_hung)
  lm_law_hung : (a.t_law_hung, qn_law_hung) ∈ G.T
  lo_law_hung : ∀ p ∈ G.T, p.1 = a.t_law_hung → p.2 = qn_law_hung
  sc_Web : SC G K 0 a.c_Web
  g_Web : mg "Web" = some (.ref a.c_Web)
  mk_Web : Mk K a.c_Web a.Web_init
  io_Web : IsO G K 0 a.c_Web
  ib_bool : IsB G K "bool"
  ib_int : IsB G K "int"
  ib_tuple : IsB G K "tuple"
  sl_own_size : SlX.Slot1 K a.c_Web "own_size" a.s_own_size 0
  sl_own_ties : SlX.Slot1 K a.c_Web "own_ties" a.s_own_ties 1
  g_InvalidWeb : mg "InvalidWeb" = some (.ref a.x_InvalidWeb)
  xn_InvalidWeb : G.xcl 1 = some a.x_InvalidWeb
  g_InvalidLot : mg "InvalidLot" = some (.ref a.x_InvalidLot)
  xn_InvalidLot : G.xcl 2 = some a.x_InvalidLot
  g_InvalidOperation : mg "InvalidOperation" = some (.ref a.x_InvalidOperation)
  xn_InvalidOperation : G.xcl 3 = some a.x_InvalidOperation
  g_InvalidNumber : mg "InvalidNumber" = some (.ref a.x_InvalidNumber)
  xn_InvalidNumber : G.xcl 4 = some a.x_InvalidNumber
  xf_InvalidNumber : G.xfl 4 = "given"
  g_TooMany : mg "TooMany" = some (.ref a.x_TooMany)
  xn_TooMany : G.xcl 5 = some a.x_TooMany
  xf_TooMany : G.xfl 5 = "limit"
  tk_InvalidWeb : Tks G K (.ref a.x_InvalidWeb) (mIn [1])
  xp_InvalidWeb : XcP G K 1 a.x_InvalidWeb "ValueError" "ValueError.__new__" "ValueError.__init__" [.type "ValueError", .type "Exception", .type "BaseException", .type "object"]
  tk_InvalidLot : Tks G K (.ref a.x_InvalidLot) (mIn [2])
  xp_InvalidLot : XcP G K 2 a.x_InvalidLot "ValueError" "ValueError.__new__" "ValueError.__init__" [.type "ValueError", .type "Exception", .type "BaseException", .type "object"]
  tk_InvalidOperation : Tks G K (.ref a.x_InvalidOperation) (mIn [3])
  xp_InvalidOperation : XcP G K 3 a.x_InvalidOperation "ValueError" "ValueError.__new__" "ValueError.__init__" [.type "ValueError", .type "Exception", .type "BaseException", .type "object"]
  tk_InvalidNumber : Tks G K (.ref a.x_InvalidNumber) (mIn [4])
  xc_InvalidNumber : XfC K a.x_InvalidNumber
  xq_InvalidNumber : PySem.W.findIn K (.ref a.x_InvalidNumber) "given" = some none
  su_InvalidNumber : SupI P K a.x_InvalidNumber a.i_InvalidNumber "self" "given" "given" "IndexError" "IndexError.__new__" "IndexError.__init__" [.type "IndexError", .type "LookupError", .type "Exception", .type "BaseException", .type "object"] (defBody sx_InvalidNumber) (defScope sx_InvalidNumber)
  tk_TooMany : Tks G K (.ref a.x_TooMany) (mIn [5])
  xc_TooMany : XfC K a.x_TooMany
  xq_TooMany : PySem.W.findIn K (.ref a.x_TooMany) "limit" = some none
  su_TooMany : SupI P K a.x_TooMany a.i_TooMany "self" "limit" "limit" "OverflowError" "OverflowError.__new__" "OverflowError.__init__" [.type "OverflowError", .type "ArithmeticError", .type "Exception", .type "BaseException", .type "object"] (defBody sx_TooMany) (defScope sx_TooMany)
  n_abs : mg "abs" = none
  n_all : mg "all" = none
  n_any : mg "any" = none
  n_bool : mg "bool" = none
  n_enumerate : mg "enumerate" = none
  n_int : mg "int" = none
  n_isinstance : mg "isinstance" = none
  n_len : mg "len" = none
  n_list : mg "list" = none
  n_max : mg "max" = none
  n_min : mg "min" = none
  n_range : mg "range" = none
  n_repr : mg "repr" = none
  n_sorted : mg "sorted" = none
  n_tuple : mg "tuple" = none
  n_zip : mg "zip" = none
  c_GREAT : ∃ t, mg "GREAT" = some (.int 1000000000000000000000000000000000000000000000000000000000000 t)
  c_MAX_PLACES : ∃ t, mg "MAX_PLACES" = some (.int 7 t)
  c_MAX_TIES : ∃ t, mg "MAX_TIES" = some (.int 14 t)
  c_MOST_TAKEN : ∃ t, mg "MOST_TAKEN" = some (.int 14 t)
theorem clsEach {a : Ad} {c : Nat} {C : Addr} {q : Prop} (h : clsOf a c = some C) (h0 : c = 0 → C = a.c_Web → q) : q := by
  unfold clsOf at h
  split at h
  · rename_i e; cases h; exact h0 e rfl
  cases h
theorem xclEach {a : Ad} {c : Nat} {C : Addr} {q : Prop} (h : xclOf a c = some C) (h1 : c = 1 → C = a.x_InvalidWeb → q) (h2 : c = 2 → C = a.x_InvalidLot → q) (h3 : c = 3 → C = a.x_InvalidOperation → q) (h4 : c = 4 → C = a.x_InvalidNumber → q) (h5 : c = 5 → C = a.x_TooMany → q) : q := by
  unfold xclOf at h
  split at h
  · rename_i e; cases h; exact h1 e rfl
  split at h
  · rename_i e; cases h; exact h2 e rfl
  split at h
  · rename_i e; cases h; exact h3 e rfl
  split at h
  · rename_i e; cases h; exact h4 e rfl
  split at h
  · rename_i e; cases h; exact h5 e rfl
  cases h
section
variable {P : Program} {w : World} {K : PySem.W.Frag} {mg : Str → Option Value} {base : Heap} {G : Gc} {a : Ad}
theorem Tx.wl (T : Tx P K mg base a G) (l : Option Lm) : Tx P K mg base a (G.wl l) := ⟨T.gk, T.f_law_jar, T.g_law_jar, T.k_law_jar, T.f_is_int, T.g_is_int, T.k_is_int, T.f_is_whole, T.g_is_whole, T.k_is_whole, T.f_is_within, T.g_is_within, T.k_is_within, T.f_require_size, T.g_require_size, T.k_require_size, T.f_are_ties, T.g_are_ties, T.k_are_ties, T.f_Web_init, T.f_law_dip, T.g_law_dip, T.k_law_dip, T.f_law_one, T.g_law_one, T.k_law_one, T.f_law_met, T.g_law_met, T.k_law_met, T.f_require_web, T.g_require_web, T.k_require_web, T.f_names_behind, T.g_names_behind, T.k_names_behind, T.f_put_on, T.g_put_on, T.k_put_on, T.f_ties_from, T.g_ties_from, T.k_ties_from, T.f_made, T.g_made, T.k_made, T.f_beside, T.g_beside, T.k_beside, T.f_require_place, T.g_require_place, T.k_require_place, T.f_require_far_place, T.g_require_far_place, T.k_require_far_place, T.f_joined, T.g_joined, T.k_joined, T.f_require_tie, T.g_require_tie, T.k_require_tie, T.f_require_far_tie, T.g_require_far_tie, T.k_require_far_tie, T.f_require_no_loop, T.g_require_no_loop, T.k_require_no_loop, T.f_along, T.g_along, T.k_along, T.f_in_line, T.g_in_line, T.k_in_line, T.f_law_two, T.g_law_two, T.k_law_two, T.f_require_many, T.g_require_many, T.k_require_many, T.f_in_parallel, T.g_in_parallel, T.k_in_parallel, T.f_rowed, T.g_rowed, T.k_rowed, T.f_in_row, T.g_in_row, T.k_in_row, T.f_law_taken, T.g_law_taken, T.k_law_taken, T.f_is_lot_of, T.g_is_lot_of, T.k_is_lot_of, T.f_require_lot_of_ties, T.g_require_lot_of_ties, T.k_require_lot_of_ties, T.f_require_two_places, T.g_require_two_places, T.k_require_two_places, T.f_whole_lot, T.g_whole_lot, T.k_whole_lot, T.f_does_hang_in, T.g_does_hang_in, T.k_does_hang_in, T.f_does_hang, T.g_does_hang, T.k_does_hang, T.f_require_hanging, T.g_require_hanging, T.k_require_hanging, T.f_turned_pairs, T.g_turned_pairs, T.k_turned_pairs, T.f_turned_part, T.g_turned_part, T.k_turned_part, T.f_turn_in, T.g_turn_in, T.k_turn_in, T.f_turn_names, T.g_turn_names, T.k_turn_names, T.f_pieces_in, T.g_pieces_in, T.k_pieces_in, T.f_hanging_in, T.g_hanging_in, T.k_hanging_in, T.f_hanging_lots, T.g_hanging_lots, T.k_hanging_lots, T.f_law_hung, T.g_law_hung, T.k_law_hung, T.f_law_right, T.g_law_right, T.k_law_right, T.f_law, T.g_law, T.k_law, T.b_law_two, T.kc_law_two, T.lm_law_two, T.lo_law_two, T.b_law_taken, T.kc_law_taken, T.lm_law_taken, T.lo_law_taken, T.b_turn_in, T.kc_turn_in, T.lm_turn_in, T.lo_turn_in, T.b_law_hung, T.kc_law_hung, T.lm_law_hung, T.lo_law_hung, T.sc_Web.wl, T.g_Web, T.mk_Web, T.io_Web.wl, T.ib_bool.wl, T.ib_int.wl, T.ib_tuple.wl, T.sl_own_size, T.sl_own_ties, T.g_InvalidWeb, T.xn_InvalidWeb, T.g_InvalidLot, T.xn_InvalidLot, T.g_InvalidOperation, T.xn_InvalidOperation, T.g_InvalidNumber, T.xn_InvalidNumber, T.xf_InvalidNumber, T.g_TooMany, T.xn_TooMany, T.xf_TooMany, T.tk_InvalidWeb.wl, T.xp_InvalidWeb.wl, T.tk_InvalidLot.wl, T.xp_InvalidLot.wl, T.tk_InvalidOperation.wl, T.xp_InvalidOperation.wl, T.tk_InvalidNumber.wl, T.xc_InvalidNumber, T.xq_InvalidNumber, T.su_InvalidNumber, T.tk_TooMany.wl, T.xc_TooMany, T.xq_TooMany, T.su_TooMany, T.n_abs, T.n_all, T.n_any, T.n_bool, T.n_enumerate, T.n_int, T.n_isinstance, T.n_len, T.n_list, T.n_max, T.n_min, T.n_range, T.n_repr, T.n_sorted, T.n_tuple, T.n_zip, T.c_GREAT, T.c_MAX_PLACES, T.c_MAX_TIES, T.c_MOST_TAKEN⟩
theorem nd_law_jar : (["script", "spot", "cell", "great"] : List Str).Nodup := by decide +kernel
theorem fs_law_jar : FnScope ["script", "spot", "cell", "great"] ["script", "spot"] (defScope st_law_jar) := ⟨rfl, rfl, rfl, nd_law_jar, rfl, by decide +kernel, by decide +kernel⟩
theorem g_law_jar (T : Tx P K mg base a G) : FnG P w K mg base G 1 a.law_jar m_law_jar := by
  obtain ⟨fd, F⟩ := T.f_law_jar
  refine fnN_of (k := 0) F fs_law_jar T.gk (fun _ _ _ _ _ _ us hl => match us, hl with | [_, _], _ => rfl) fun cdv A outer s H E o => ?_
  exact jb_cons (js_asg (je_if (jtc o.lt (by rfl) (je_var 1 rfl (vf (by decide +kernel)) (by decide +kernel) (by decide +kernel)) (je_callB o.len (gf (by decide +kernel)) T.n_len bt_len (ja_cons (je_var 0 rfl (vf (by decide +kernel)) (by decide +kernel) (by decide +kernel)) (ja_nil)) (by decide +kernel) (by decide +kernel))) (je_callTy cb_int (gf (by decide +kernel)) T.n_int bt_int (ja_cons (je_ix o (je_var 0 rfl (vf (by decide +kernel)) (by decide +kernel) (by decide +kernel)) (je_var 1 rfl (vf (by decide +kernel)) (by decide +kernel) (by decide +kernel)) (fun _ _ => rfl)) (ja_nil)) (by decide +kernel) (by decide +kernel)) (je_add o (je_mulS o (je_int) (je_var 1 rfl (vf (by decide +kernel)) (by decide +kernel) (by decide +kernel))) (je_int))) (jg_name 2 nd_law_jar rfl (lf (by decide +kernel)) ff)) (jb_cons (js_asg (je_mod (je_callB o.max2 (gf (by decide +kernel)) T.n_max bt_max (ja_cons (je_int) (ja_cons (je_sub (je_callB cb_abs (gf (by decide +kernel)) T.n_abs bt_abs (ja_cons (je_var 2 rfl (vf (by decide +kernel)) (by decide +kernel) (by decide +kernel)) (ja_nil)) (by decide +kernel) (by decide +kernel)) (je_pow (je_int) (je_int))) (ja_nil))) (by decide +kernel) (by decide +kernel)) (je_mulS o (je_pow (je_int) (je_int)) (je_pow (je_int) (je_int)))) (jg_name 3 nd_law_jar rfl (lf (by decide +kernel)) ff)) (jb_one (js_ret (je_lstM (ja_cons (je_var 3 rfl (vf (by decide +kernel)) (by decide +kernel) (by decide +kernel)) (ja_cons (je_add o (je_add o (je_add o (je_mulS o (je_mod (je_callB cb_abs (gf (by decide +kernel)) T.n_abs bt_abs (ja_cons (je_var 2 rfl (vf (by decide +kernel)) (by decide +kernel) (by decide +kernel)) (ja_nil)) (by decide +kernel) (by decide +kernel)) (je_int)) (je_int)) (je_mulS o (je_int) (je_var 1 rfl (vf (by decide +kernel)) (by decide +kernel) (by decide +kernel)))) (je_mulS o (je_int) (je_callTy cb_int (gf (by decide +kernel)) T.n_int bt_int (ja_cons (jec o.lt (by rfl) (je_var 2 rfl (vf (by decide +kernel)) (by decide +kernel) (by decide +kernel)) (je_int)) (ja_nil)) (by decide +kernel) (by decide +kernel)))) (je_int)) (ja_cons (je_int) (ja_nil))))))))
theorem nd_is_int : (["value"] : List Str).Nodup := by decide +kernel
theorem fs_is_int : FnScope ["value"] ["value"] (defScope st_is_int) := ⟨rfl, rfl, rfl, nd_is_int, rfl, by decide +kernel, by decide +kernel⟩
theorem g_is_int (T : Tx P K mg base a G) : FnG P w K mg base G 1 a.is_int m_is_int := by
  obtain ⟨fd, F⟩ := T.f_is_int
  refine fnG_of (k := 0) F fs_is_int T.gk (fun _ _ _ _ _ _ us hl => match us, hl with | [_], _ => rfl) fun cdv A outer s H E o => ?_
  exact jb_one (js_ret (je_and (je_isiB o T.ib_int (je_var 0 rfl (vf (by decide +kernel)) (by decide +kernel) (by decide +kernel)) (gf (by decide +kernel)) T.n_isinstance bt_isinstance (by decide +kernel) (by decide +kernel) (gf (by decide +kernel)) T.n_int bt_int (by decide +kernel) (by decide +kernel)) (je_one (je_not (je_isiB o T.ib_bool (je_var 0 rfl (vf (by decide +kernel)) (by decide +kernel) (by decide +kernel)) (gf (by decide +kernel)) T.n_isinstance bt_isinstance (by decide +kernel) (by decide +kernel) (gf (by decide +kernel)) T.n_bool bt_bool (by decide +kernel) (by decide +kernel))))))
theorem nd_is_whole : (["value"] : List Str).Nodup := by decide +kernel
theorem fs_is_whole : FnScope ["value"] ["value"] (defScope st_is_whole) := ⟨rfl, rfl, rfl, nd_is_whole, rfl, by decide +kernel, by decide +kernel⟩
theorem g_is_whole (T : Tx P K mg base a G) : FnG P w K mg base G 2 a.is_whole m_is_whole := by
  obtain ⟨fd, F⟩ := T.f_is_whole
  refine fnG_of (k := 1) F fs_is_whole T.gk (fun _ _ _ _ _ _ us hl => match us, hl with | [_], _ => rfl) fun cdv A outer s H E o => ?_
  exact jb_one (js_ret (je_and (je_call o (g_is_int T) (by omega) (gf (by decide +kernel)) T.g_is_int T.k_is_int (ja_cons (je_var 0 rfl (vf (by decide +kernel)) (by decide +kernel) (by decide +kernel)) (ja_nil)) (by decide +kernel)) (je_one (jec2 o.lt o.lt (by rfl) (je_neg (je_gi (gf (by decide +kernel)) (by decide +kernel) T.c_GREAT)) (je_var 0 rfl (vf (by decide +kernel)) (by decide +kernel) (by decide +kernel)) (je_gi (gf (by decide +kernel)) (by decide +kernel) T.c_GREAT)))))
theorem nd_is_within : (["value", "low", "high"] : List Str).Nodup := by decide +kernel
theorem fs_is_within : FnScope ["value", "low", "high"] ["value", "low", "high"] (defScope st_is_within) := ⟨rfl, rfl, rfl, nd_is_within, rfl, by decide +kernel, by decide +kernel⟩
theorem g_is_within (T : Tx P K mg base a G) : FnG P w K mg base G 3 a.is_within m_is_within := by
  obtain ⟨fd, F⟩ := T.f_is_within
  refine fnG_of (k := 2) F fs_is_within T.gk (fun _ _ _ _ _ _ us hl => match us, hl with | [_, _, _], _ => rfl) fun cdv A outer s H E o => ?_
  exact jb_one (js_ret (je_and (je_call o (g_is_whole T) (by omega) (gf (by decide +kernel)) T.g_is_whole T.k_is_whole (ja_cons (je_var 0 rfl (vf (by decide +kernel)) (by decide +kernel) (by decide +kernel)) (ja_nil)) (by decide +kernel)) (je_one (jec2 o.le o.le (by rfl) (je_var 1 rfl (vf (by decide +kernel)) (by decide +kernel) (by decide +kernel)) (je_var 0 rfl (vf (by decide +kernel)) (by decide +kernel) (by decide +kernel)) (je_var 2 rfl (vf (by decide +kernel)) (by decide +kernel) (by decide +kernel))))))
theorem nd_require_size : (["size"] : List Str).Nodup := by decide +kernel
theorem fs_require_size : FnScope ["size"] ["size"] (defScope st_require_size) := ⟨rfl, rfl, rfl, nd_require_size, rfl, by decide +kernel, by decide +kernel⟩
theorem g_require_size (T : Tx P K mg base a G) : FnG P w K mg base G 4 a.require_size m_require_size := by
  obtain ⟨fd, F⟩ := T.f_require_size
  refine fnG_of (k := 3) F fs_require_size T.gk (fun _ _ _ _ _ _ us hl => match us, hl with | [_], _ => rfl) fun cdv A outer s H E o => ?_
  exact jb_one (js_if (jt_not (jt_val (je_call o (g_is_within T) (by omega) (gf (by decide +kernel)) T.g_is_within T.k_is_within (ja_cons (je_var 0 rfl (vf (by decide +kernel)) (by decide +kernel) (by decide +kernel)) (ja_cons (je_int) (ja_cons (je_gi (gf (by decide +kernel)) (by decide +kernel) T.c_MAX_PLACES) (ja_nil)))) (by decide +kernel)) (fun _ => rfl))) (jb_one (js_raise o (jm_sup o T.su_InvalidNumber T.xn_InvalidNumber T.xf_InvalidNumber (gf (by decide +kernel)) T.g_InvalidNumber (ja_cons (je_var 0 rfl (vf (by decide +kernel)) (by decide +kernel) (by decide +kernel)) (ja_nil)) (by decide +kernel)))) (jb_nil))
theorem nd_are_ties : (["size", "value", "tie", "one", "other"] : List Str).Nodup := by decide +kernel
theorem fs_are_ties : FnScope ["size", "value", "tie", "one", "other"] ["size", "value"] (defScope st_are_ties) := ⟨rfl, rfl, rfl, nd_are_ties, rfl, by decide +kernel, by decide +kernel⟩
theorem g_are_ties (T : Tx P K mg base a G) : FnG P w K mg base G 4 a.are_ties m_are_ties := by
  obtain ⟨fd, F⟩ := T.f_are_ties
  refine fnG_of (k := 3) F fs_are_ties T.gk (fun _ _ _ _ _ _ us hl => match us, hl with | [_, _], _ => rfl) fun cdv A outer s H E o => ?_
  exact jb_cons (js_if (jt_w (jw_or (jt_not (jt_val (je_isiB o T.ib_tuple (je_var 1 rfl (vf (by decide +kernel)) (by decide +kernel) (by decide +kernel)) (gf (by decide +kernel)) T.n_isinstance bt_isinstance (by decide +kernel) (by decide +kernel) (gf (by decide +kernel)) T.n_tuple bt_tuple (by decide +kernel) (by decide +kernel)) (fun _ => rfl))) (jw_or1 (jtc o.gt (by rfl) (je_callB o.len (gf (by decide +kernel)) T.n_len bt_len (ja_cons (je_var 1 rfl (vf (by decide +kernel)) (by decide +kernel) (by decide +kernel)) (ja_nil)) (by decide +kernel) (by decide +kernel)) (je_gi (gf (by decide +kernel)) (by decide +kernel) T.c_MAX_TIES))))) (jb_one (js_ret (je_bl))) (jb_nil)) (jb_cons (js_if (jt_not (jt_val (je_callB o.all (gf (by decide +kernel)) T.n_all bt_all (ja_cons (je_comp o (own := [("tie", 2)]) (js := [2]) nd_are_ties (ji_of o (je_var 1 rfl (vf (by decide +kernel)) (by decide +kernel) (by decide +kernel))) (bf (by decide +kernel)) (fun _ _ _ _ _ => jg_name 2 nd_are_ties rfl (lb (by decide +kernel)) (fb (by decide +kernel))) (fun _ _ _ _ _ => jts_nil) (fun _ _ _ _ _ => je_and (je_isiB o.blk T.ib_tuple (je_var 2 rfl (vb (by decide +kernel)) (by decide +kernel) (by decide +kernel)) (gb (by decide +kernel)) T.n_isinstance bt_isinstance (by decide +kernel) (by decide +kernel) (gb (by decide +kernel)) T.n_tuple bt_tuple (by decide +kernel) (by decide +kernel)) (je_one (jec o.blk.eq (by rfl) (je_callB o.blk.len (gb (by decide +kernel)) T.n_len bt_len (ja_cons (je_var 2 rfl (vb (by decide +kernel)) (by decide +kernel) (by decide +kernel)) (ja_nil)) (by decide +kernel) (by decide +kernel)) (je_int)))) (by decide)) (ja_nil)) (by decide +kernel) (by decide +kernel)) (fun _ => rfl))) (jb_one (js_ret (je_bl))) (jb_nil)) (jb_cons (js_if (jt_not (jt_val (je_callB o.all (gf (by decide +kernel)) T.n_all bt_all (ja_cons (je_comp o (own := [("one", 3), ("other", 4)]) (js := [3, 4]) nd_are_ties (ji_of o (je_var 1 rfl (vf (by decide +kernel)) (by decide +kernel) (by decide +kernel))) (bf (by decide +kernel)) (fun _ _ _ _ _ => jg_tup o.blk.calm o.blk.gk 2 (jgs_cons (jg_name 3 nd_are_ties rfl (lb (by decide +kernel)) (fb (by decide +kernel))) (jgs_cons (jg_name 4 nd_are_ties rfl (lb (by decide +kernel)) (fb (by decide +kernel))) (jgs_nil))) (gMore_len (gMore_len (gEnd_len)))) (fun _ _ _ _ _ => jts_nil) (fun _ _ _ _ _ => je_and (je_call o.blk (g_is_within T) (by omega) (gb (by decide +kernel)) T.g_is_within T.k_is_within (ja_cons (je_var 3 rfl (vb (by decide +kernel)) (by decide +kernel) (by decide +kernel)) (ja_cons (je_int) (ja_cons (je_sub (je_var 0 rfl (vbf (by decide +kernel)) (by decide +kernel) (by decide +kernel)) (je_int)) (ja_nil)))) (by decide +kernel)) (je_one (je_call o.blk (g_is_within T) (by omega) (gb (by decide +kernel)) T.g_is_within T.k_is_within (ja_cons (je_var 4 rfl (vb (by decide +kernel)) (by decide +kernel) (by decide +kernel)) (ja_cons (je_var 3 rfl (vb (by decide +kernel)) (by decide +kernel) (by decide +kernel)) (ja_cons (je_sub (je_var 0 rfl (vbf (by decide +kernel)) (by decide +kernel) (by decide +kernel)) (je_int)) (ja_nil)))) (by decide +kernel)))) (by decide)) (ja_nil)) (by decide +kernel) (by decide +kernel)) (fun _ => rfl))) (jb_one (js_ret (je_bl))) (jb_nil)) (jb_one (js_ret (je_callB o.all (gf (by decide +kernel)) T.n_all bt_all (ja_cons (je_comp o (own := [("one", 3), ("other", 4)]) (js := [3, 4]) nd_are_ties (ji_zip o (gf (by decide +kernel)) T.n_zip (ja_cons (je_var 1 rfl (vf (by decide +kernel)) (by decide +kernel) (by decide +kernel)) (ja_cons (je_slice o (je_var 1 rfl (vf (by decide +kernel)) (by decide +kernel) (by decide +kernel)) (jo_some (je_int)) (jo_none)) (ja_nil)))) (bf (by decide +kernel)) (fun _ _ _ _ _ => jg_tup o.blk.calm o.blk.gk 2 (jgs_cons (jg_name 3 nd_are_ties rfl (lb (by decide +kernel)) (fb (by decide +kernel))) (jgs_cons (jg_name 4 nd_are_ties rfl (lb (by decide +kernel)) (fb (by decide +kernel))) (jgs_nil))) (gMore_len (gMore_len (gEnd_len)))) (fun _ _ _ _ _ => jts_nil) (fun _ _ _ _ _ => jec o.blk.le (by rfl) (je_var 3 rfl (vb (by decide +kernel)) (by decide +kernel) (by decide +kernel)) (je_var 4 rfl (vb (by decide +kernel)) (by decide +kernel) (by decide +kernel))) (by decide)) (ja_nil)) (by decide +kernel) (by decide +kernel))))))
theorem nd_Web_init : (["self", "size", "ties"] : List Str).Nodup := by decide +kernel
theorem fs_Web_init : FnScope ["self", "size", "ties"] ["self", "size", "ties"] (defScope st_Web_init) := ⟨rfl, rfl, rfl, nd_Web_init, rfl, by decide +kernel, by decide +kernel⟩
theorem g_Web_init (T : Tx P K mg base a G) : FnG P w K mg base G 5 a.Web_init m_Web_init := by
  obtain ⟨fd, F⟩ := T.f_Web_init
  refine fnG_of (k := 4) F fs_Web_init T.gk (fun _ _ _ _ _ _ us hl => match us, hl with | [_, _, _], _ => rfl) fun cdv A outer s H E o => ?_
  exact jb_cons (js_expr (je_call o (g_require_size T) (by omega) (gf (by decide +kernel)) T.g_require_size T.k_require_size (ja_cons (je_var 1 rfl (vf (by decide +kernel)) (by decide +kernel) (by decide +kernel)) (ja_nil)) (by decide +kernel))) (jb_cons (js_if (jt_not (jt_val (je_call o (g_are_ties T) (by omega) (gf (by decide +kernel)) T.g_are_ties T.k_are_ties (ja_cons (je_var 1 rfl (vf (by decide +kernel)) (by decide +kernel) (by decide +kernel)) (ja_cons (je_var 2 rfl (vf (by decide +kernel)) (by decide +kernel) (by decide +kernel)) (ja_nil))) (by decide +kernel)) (fun _ => rfl))) (jb_one (js_raise o (jm_own T.xp_InvalidWeb T.g_InvalidWeb (gf (by decide +kernel)) (by decide +kernel)))) (jb_nil)) (jb_one (js_flds o 2 (jgas_cons (jga_fld T.sc_Web T.sl_own_size (je_var 0 rfl (vf (by decide +kernel)) (by decide +kernel) (by decide +kernel))) (jgas_cons (jga_fld T.sc_Web T.sl_own_ties (je_var 0 rfl (vf (by decide +kernel)) (by decide +kernel) (by decide +kernel))) (jgas_nil))) (aMore_len (aMore_len (aEnd_len))) (je_tup (ja_cons (je_var 1 rfl (vf (by decide +kernel)) (by decide +kernel) (by decide +kernel)) (ja_cons (je_var 2 rfl (vf (by decide +kernel)) (by decide +kernel) (by decide +kernel)) (ja_nil)))))))
theorem nd_law_dip : (["jar", "many", "found", "one", "two"] : List Str).Nodup := by decide +kernel
theorem fs_law_dip : FnScope ["jar", "many", "found", "one", "two"] ["jar", "many"] (defScope st_law_dip) := ⟨rfl, rfl, rfl, nd_law_dip, rfl, by decide +kernel, by decide +kernel⟩
theorem g_law_dip (T : Tx P K mg base a G) : FnG P w K mg base G 1 a.law_dip m_law_dip := by
  obtain ⟨fd, F⟩ := T.f_law_dip
  refine fnG_of (k := 0) F fs_law_dip T.gk (fun _ _ _ _ _ _ us hl => match us, hl with | [_, _], _ => rfl) fun cdv A outer s H E o => ?_
  exact jb_cons (js_if (jtc o.gt (by rfl) (je_ix o (je_var 0 rfl (vf (by decide +kernel)) (by decide +kernel) (by decide +kernel)) (je_int) (fun _ _ => rfl)) (je_int)) (jb_cons (js_asg (je_mod (je_callTy cb_int (gf (by decide +kernel)) T.n_int bt_int (ja_cons (je_ix o (je_var 0 rfl (vf (by decide +kernel)) (by decide +kernel) (by decide +kernel)) (je_int) (fun _ _ => rfl)) (ja_nil)) (by decide +kernel) (by decide +kernel)) (je_var 1 rfl (vf (by decide +kernel)) (by decide +kernel) (by decide +kernel))) (jg_name 2 nd_law_dip rfl (lf (by decide +kernel)) ff)) (jb_cons (js_store (je_var 0 rfl (vf (by decide +kernel)) (by decide +kernel) (by decide +kernel)) (je_int) (je_fdiv (je_ix o (je_var 0 rfl (vf (by decide +kernel)) (by decide +kernel) (by decide +kernel)) (je_int) (fun _ _ => rfl)) (je_var 1 rfl (vf (by decide +kernel)) (by decide +kernel) (by decide +kernel)))) (jb_one (js_ret (je_var 2 rfl (vf (by decide +kernel)) (by decide +kernel) (by decide +kernel)))))) (jb_nil)) (jb_cons (js_store (je_var 0 rfl (vf (by decide +kernel)) (by decide +kernel) (by decide +kernel)) (je_int) (je_add o (je_ix o (je_var 0 rfl (vf (by decide +kernel)) (by decide +kernel) (by decide +kernel)) (je_int) (fun _ _ => rfl)) (je_int))) (jb_cons (js_asg (je_mod (je_callTy cb_int (gf (by decide +kernel)) T.n_int bt_int (ja_cons (je_add o (je_ix o (je_var 0 rfl (vf (by decide +kernel)) (by decide +kernel) (by decide +kernel)) (je_int) (fun _ _ => rfl)) (je_mulS o (je_int) (je_ix o (je_var 0 rfl (vf (by decide +kernel)) (by decide +kernel) (by decide +kernel)) (je_int) (fun _ _ => rfl)))) (ja_nil)) (by decide +kernel) (by decide +kernel)) (je_int)) (jg_name 3 nd_law_dip rfl (lf (by decide +kernel)) ff)) (jb_cons (js_asg (je_add o (je_mulS o (je_mod (je_callTy cb_int (gf (by decide +kernel)) T.n_int bt_int (ja_cons (je_add o (je_mulS o (je_var 3 rfl (vf (by decide +kernel)) (by decide +kernel) (by decide +kernel)) (je_var 3 rfl (vf (by decide +kernel)) (by decide +kernel) (by decide +kernel))) (je_mulS o (je_int) (je_ix o (je_var 0 rfl (vf (by decide +kernel)) (by decide +kernel) (by decide +kernel)) (je_int) (fun _ _ => rfl)))) (ja_nil)) (by decide +kernel) (by decide +kernel)) (je_int)) (je_int)) (je_var 3 rfl (vf (by decide +kernel)) (by decide +kernel) (by decide +kernel))) (jg_name 4 nd_law_dip rfl (lf (by decide +kernel)) ff)) (jb_one (js_ret (je_mod (je_callTy cb_int (gf (by decide +kernel)) T.n_int bt_int (ja_cons (je_fdiv (je_var 4 rfl (vf (by decide +kernel)) (by decide +kernel) (by decide +kernel)) (je_int)) (ja_nil)) (by decide +kernel) (by decide +kernel)) (je_var 1 rfl (vf (by decide +kernel)) (by decide +kernel) (by decide +kernel))))))))
theorem nd_law_one : (["jar", "items"] : List Str).Nodup := by decide +kernel
theorem fs_law_one : FnScope ["jar", "items"] ["jar", "items"] (defScope st_law_one) := ⟨rfl, rfl, rfl, nd_law_one, rfl, by decide +kernel, by decide +kernel⟩
theorem g_law_one (T : Tx P K mg base a G) : FnG P w K mg base G 2 a.law_one m_law_one := by
  obtain ⟨fd, F⟩ := T.f_law_one
  refine fnG_of (k := 1) F fs_law_one T.gk (fun _ _ _ _ _ _ us hl => match us, hl with | [_, _], _ => rfl) fun cdv A outer s H E o => ?_
  exact jb_one (js_ret (je_ix o (je_var 1 rfl (vf (by decide +kernel)) (by decide +kernel) (by decide +kernel)) (je_call o (g_law_dip T) (by omega) (gf (by decide +kernel)) T.g_law_dip T.k_law_dip (ja_cons (je_var 0 rfl (vf (by decide +kernel)) (by decide +kernel) (by decide +kernel)) (ja_cons (je_callB o.len (gf (by decide +kernel)) T.n_len bt_len (ja_cons (je_var 1 rfl (vf (by decide +kernel)) (by decide +kernel) (by decide +kernel)) (ja_nil)) (by decide +kernel) (by decide +kernel)) (ja_nil))) (by decide +kernel)) (fun _ _ => rfl)))
theorem nd_law_met : (["ask", "error"] : List Str).Nodup := by decide +kernel
theorem fs_law_met : FnScope ["ask", "error"] ["ask"] (defScope st_law_met) := ⟨rfl, rfl, rfl, nd_law_met, rfl, by decide +kernel, by decide +kernel⟩
theorem g_law_met (T : Tx P K mg base a G) (N : G.lam = none) : FnL P w K mg base G 1 a.law_met m_law_met := by
  obtain ⟨fd, F⟩ := T.f_law_met
  refine fnL_of (k := 0) F fs_law_met T.gk N (fun _ _ _ _ _ _ us hl => match us, hl with | [_], _ => rfl) fun kk cdv A outer s E L φ act o => ?_
  have T := T.wl (some L)
  exact jb_one (js_try o nd_law_met rfl rfl (fun _ _ _ ot => jb_one (js_ret (je_tup (ja_cons (je_str ⟨#[116, 111, 108, 100]⟩ (by decide +kernel)) (ja_cons (je_act0 ot (by omega) N act rfl rfl (i := 0) rfl (vft (by decide +kernel)) (by decide +kernel) (by decide +kernel)) (ja_nil)))))) (HdJ.bare ⟨gf (by decide +kernel), (by decide +kernel), .inl T.g_InvalidWeb⟩ T.tk_InvalidWeb (jx_ret (jxe_je (fun _ _ => je_tup (ja_cons (je_str ⟨#[119, 101, 98]⟩ (by decide +kernel)) (ja_nil))))) (HdJ.bare ⟨gf (by decide +kernel), (by decide +kernel), .inl T.g_InvalidLot⟩ T.tk_InvalidLot (jx_ret (jxe_je (fun _ _ => je_tup (ja_cons (je_str ⟨#[108, 111, 116]⟩ (by decide +kernel)) (ja_nil))))) (HdJ.bare ⟨gf (by decide +kernel), (by decide +kernel), .inl T.g_InvalidOperation⟩ T.tk_InvalidOperation (jx_ret (jxe_je (fun _ _ => je_tup (ja_cons (je_str ⟨#[111, 112, 101, 114, 97, 116, 105, 111, 110]⟩ (by decide +kernel)) (ja_nil))))) (HdJ.named ⟨gf (by decide +kernel), (by decide +kernel), .inl T.g_InvalidNumber⟩ T.tk_InvalidNumber rfl (qf (by decide +kernel)) (jx_ret (jxe_tup (jxa_cons (jxe_je (fun _ _ => je_str ⟨#[110, 117, 109, 98, 101, 114]⟩ (by decide +kernel))) (jxa_cons (jxe_fld T.xn_InvalidNumber T.xf_InvalidNumber T.xc_InvalidNumber T.xq_InvalidNumber rfl (vf (by decide +kernel)) (by decide +kernel) (by decide +kernel)) (jxa_nil))))) (HdJ.named ⟨gf (by decide +kernel), (by decide +kernel), .inl T.g_TooMany⟩ T.tk_TooMany rfl (qf (by decide +kernel)) (jx_ret (jxe_tup (jxa_cons (jxe_je (fun _ _ => je_str ⟨#[109, 97, 110, 121]⟩ (by decide +kernel))) (jxa_cons (jxe_fld T.xn_TooMany T.xf_TooMany T.xc_TooMany T.xq_TooMany rfl (vf (by decide +kernel)) (by decide +kernel) (by decide +kernel)) (jxa_nil))))) (HdJ.nil)))))))
theorem nd_require_web : (["web"] : List Str).Nodup := by decide +kernel
theorem fs_require_web : FnScope ["web"] ["web"] (defScope st_require_web) := ⟨rfl, rfl, rfl, nd_require_web, rfl, by decide +kernel, by decide +kernel⟩
theorem g_require_web (T : Tx P K mg base a G) : FnG P w K mg base G 1 a.require_web m_require_web := by
  obtain ⟨fd, F⟩ := T.f_require_web
  refine fnG_of (k := 0) F fs_require_web T.gk (fun _ _ _ _ _ _ us hl => match us, hl with | [_], _ => rfl) fun cdv A outer s H E o => ?_
  exact jb_one (js_if (jt_not (jt_val (je_isiO o T.io_Web (je_var 0 rfl (vf (by decide +kernel)) (by decide +kernel) (by decide +kernel)) (gf (by decide +kernel)) T.n_isinstance bt_isinstance (by decide +kernel) (by decide +kernel) (gf (by decide +kernel)) T.g_Web (by decide +kernel)) (fun _ => rfl))) (jb_one (js_raise o (jm_own T.xp_InvalidWeb T.g_InvalidWeb (gf (by decide +kernel)) (by decide +kernel)))) (jb_nil))
theorem nd_names_behind : (["size", "other", "fixed", "found", "free", "place"] : List Str).Nodup := by decide +kernel
theorem fs_names_behind : FnScope ["size", "other", "fixed", "found", "free", "place"] ["size", "other", "fixed"] (defScope st_names_behind) := ⟨rfl, rfl, rfl, nd_names_behind, rfl, by decide +kernel, by decide +kernel⟩
theorem g_names_behind (T : Tx P K mg base a G) : FnG P w K mg base G 1 a.names_behind m_names_behind := by
  obtain ⟨fd, F⟩ := T.f_names_behind
  refine fnG_of (k := 0) F fs_names_behind T.gk (fun _ _ _ _ _ _ us hl => match us, hl with | [_, _, _], _ => rfl) fun cdv A outer s H E o => ?_
  exact jb_cons (js_par o (i := 3) (j := 4) nd_names_behind rfl rfl (by decide) (qf (by decide +kernel)) (qf (by decide +kernel)) (ja_cons (je_lstM (ja_nil)) (ja_cons (je_var 0 rfl (vf (by decide +kernel)) (by decide +kernel) (by decide +kernel)) ja_nil)) (by rfl)) (jb_cons (js_for o (ji_range1 (gf (by decide +kernel)) T.n_range (ja_cons (je_fld o T.sc_Web T.sl_own_size (je_var 1 rfl (vf (by decide +kernel)) (by decide +kernel) (by decide +kernel))) (ja_nil))) (jg_name 5 nd_names_behind rfl (lf (by decide +kernel)) ff) (jb_cons (js_expr (je_append o (je_var 3 rfl (vf (by decide +kernel)) (by decide +kernel) (by decide +kernel)) (je_dget2 o (je_var 2 rfl (vf (by decide +kernel)) (by decide +kernel) (by decide +kernel)) (je_var 5 rfl (vf (by decide +kernel)) (by decide +kernel) (by decide +kernel)) (je_var 4 rfl (vf (by decide +kernel)) (by decide +kernel) (by decide +kernel))))) (jb_one (js_augAdd 4 (je_if (jtc o.inD (by rfl) (je_var 5 rfl (vf (by decide +kernel)) (by decide +kernel) (by decide +kernel)) (je_var 2 rfl (vf (by decide +kernel)) (by decide +kernel) (by decide +kernel))) (je_int) (je_int)) nd_names_behind rfl (lf (by decide +kernel)) ff)))) (jb_one (js_ret (je_tup (ja_cons (je_var 3 rfl (vf (by decide +kernel)) (by decide +kernel) (by decide +kernel)) (ja_cons (je_var 4 rfl (vf (by decide +kernel)) (by decide +kernel) (by decide +kernel)) (ja_nil)))))))
theorem nd_put_on : (["web", "other", "fixed", "left", "far_left", "names", "size", "index", "pairs", "one", "far", "tie"] : List Str).Nodup := by decide +kernel
theorem fs_put_on : FnScope ["web", "other", "fixed", "left", "far_left", "names", "size", "index", "pairs", "one", "far", "tie"] ["web", "other", "fixed", "left", "far_left"] (defScope st_put_on) := ⟨rfl, rfl, rfl, nd_put_on, rfl, by decide +kernel, by decide +kernel⟩
theorem g_put_on (T : Tx P K mg base a G) : FnG P w K mg base G 2 a.put_on m_put_on := by
  obtain ⟨fd, F⟩ := T.f_put_on
  refine fnG_of (k := 1) F fs_put_on T.gk (fun _ _ _ _ _ _ us hl => match us, hl with | [_, _, _, _, _], _ => rfl) fun cdv A outer s H E o => ?_
  exact jb_cons (js_asg (je_call o (g_names_behind T) (by omega) (gf (by decide +kernel)) T.g_names_behind T.k_names_behind (ja_cons (je_fld o T.sc_Web T.sl_own_size (je_var 0 rfl (vf (by decide +kernel)) (by decide +kernel) (by decide +kernel))) (ja_cons (je_var 1 rfl (vf (by decide +kernel)) (by decide +kernel) (by decide +kernel)) (ja_cons (je_var 2 rfl (vf (by decide +kernel)) (by decide +kernel) (by decide +kernel)) (ja_nil)))) (by decide +kernel)) (jg_tup o.calm o.gk 2 (jgs_cons (jg_name 5 nd_put_on rfl (lf (by decide +kernel)) ff) (jgs_cons (jg_name 6 nd_put_on rfl (lf (by decide +kernel)) ff) (jgs_nil))) (gMore_len (gMore_len (gEnd_len))))) (jb_cons (js_setLcM o (own := [("index", 7), ("tie", 11)]) (js := [7, 11]) nd_put_on rfl (qf (by decide +kernel)) (sw_true rfl (qf (by decide +kernel)) rfl (by decide +kernel)) (ji_enumA o (gf (by decide +kernel)) T.n_enumerate (ja_cons (je_fld o T.sc_Web T.sl_own_ties (je_var 0 rfl (vf (by decide +kernel)) (by decide +kernel) (by decide +kernel))) (ja_nil))) (bf (by decide +kernel)) (fun _ _ _ _ _ => jg_tup o.blk.calm o.blk.gk 2 (jgs_cons (jg_name 7 nd_put_on rfl (lb (by decide +kernel)) (fb (by decide +kernel))) (jgs_cons (jg_name 11 nd_put_on rfl (lb (by decide +kernel)) (fb (by decide +kernel))) (jgs_nil))) (gMore_len (gMore_len (gEnd_len)))) (fun _ _ _ _ _ => jts_one (jtc o.blk.notInD (by rfl) (je_var 7 rfl (vb (by decide +kernel)) (by decide +kernel) (by decide +kernel)) (je_var 3 rfl (vbf (by decide +kernel)) (by decide +kernel) (by decide +kernel)))) (fun _ _ _ _ _ => je_var 11 rfl (vb (by decide +kernel)) (by decide +kernel) (by decide +kernel)) (by decide)) (jb_cons (js_for o (ji_enumA o (gf (by decide +kernel)) T.n_enumerate (ja_cons (je_fld o T.sc_Web T.sl_own_ties (je_var 1 rfl (vf (by decide +kernel)) (by decide +kernel) (by decide +kernel))) (ja_nil))) (jg_tup o.calm o.gk 2 (jgs_cons (jg_name 7 nd_put_on rfl (lf (by decide +kernel)) ff) (jgs_cons (jg_tup o.calm o.gk 2 (jgs_cons (jg_name 9 nd_put_on rfl (lf (by decide +kernel)) ff) (jgs_cons (jg_name 10 nd_put_on rfl (lf (by decide +kernel)) ff) (jgs_nil))) (gMore_len (gMore_len (gEnd_len)))) (jgs_nil))) (gMore_len (gMore_len (gEnd_len)))) (jb_one (js_if (jtc o.notInD (by rfl) (je_var 7 rfl (vf (by decide +kernel)) (by decide +kernel) (by decide +kernel)) (je_var 4 rfl (vf (by decide +kernel)) (by decide +kernel) (by decide +kernel))) (jb_one (js_expr (je_append o (je_var 8 rfl (vf (by decide +kernel)) (by decide +kernel) (by decide +kernel)) (je_tup (ja_cons (je_ix o (je_var 5 rfl (vf (by decide +kernel)) (by decide +kernel) (by decide +kernel)) (je_var 9 rfl (vf (by decide +kernel)) (by decide +kernel) (by decide +kernel)) (fun _ _ => rfl)) (ja_cons (je_ix o (je_var 5 rfl (vf (by decide +kernel)) (by decide +kernel) (by decide +kernel)) (je_var 10 rfl (vf (by decide +kernel)) (by decide +kernel) (by decide +kernel)) (fun _ _ => rfl)) (ja_nil))))))) (jb_nil)))) (jb_one (js_ret (je_tup (ja_cons (je_var 6 rfl (vf (by decide +kernel)) (by decide +kernel) (by decide +kernel)) (ja_cons (je_var 8 rfl (vf (by decide +kernel)) (by decide +kernel) (by decide +kernel)) (ja_cons (je_var 5 rfl (vf (by decide +kernel)) (by decide +kernel) (by decide +kernel)) (ja_nil)))))))))
theorem nd_ties_from : (["pairs", "pair"] : List Str).Nodup := by decide +kernel
theorem fs_ties_from : FnScope ["pairs", "pair"] ["pairs"] (defScope st_ties_from) := ⟨rfl, rfl, rfl, nd_ties_from, rfl, by decide +kernel, by decide +kernel⟩
theorem g_ties_from (T : Tx P K mg base a G) : FnG P w K mg base G 1 a.ties_from m_ties_from := by
  obtain ⟨fd, F⟩ := T.f_ties_from
  refine fnG_of (k := 0) F fs_ties_from T.gk (fun _ _ _ _ _ _ us hl => match us, hl with | [_], _ => rfl) fun cdv A outer s H E o => ?_
  exact jb_one (js_ret (je_callTy o.tuple (gf (by decide +kernel)) T.n_tuple bt_tuple (ja_cons (je_callB o.sortedU (gf (by decide +kernel)) T.n_sorted bt_sorted (ja_cons (je_comp o (own := [("pair", 1)]) (js := [1]) nd_ties_from (ji_of o (je_var 0 rfl (vf (by decide +kernel)) (by decide +kernel) (by decide +kernel))) (bf (by decide +kernel)) (fun _ _ _ _ _ => jg_name 1 nd_ties_from rfl (lb (by decide +kernel)) (fb (by decide +kernel))) (fun _ _ _ _ _ => jts_nil) (fun _ _ _ _ _ => je_tup (ja_cons (je_callB o.blk.min1 (gb (by decide +kernel)) T.n_min bt_min (ja_cons (je_var 1 rfl (vb (by decide +kernel)) (by decide +kernel) (by decide +kernel)) (ja_nil)) (by decide +kernel) (by decide +kernel)) (ja_cons (je_callB o.blk.max1 (gb (by decide +kernel)) T.n_max bt_max (ja_cons (je_var 1 rfl (vb (by decide +kernel)) (by decide +kernel) (by decide +kernel)) (ja_nil)) (by decide +kernel) (by decide +kernel)) (ja_nil)))) (by decide)) (ja_nil)) (by decide +kernel) (by decide +kernel)) (ja_nil)) (by decide +kernel) (by decide +kernel)))
theorem nd_made : (["size", "pairs"] : List Str).Nodup := by decide +kernel
theorem fs_made : FnScope ["size", "pairs"] ["size", "pairs"] (defScope st_made) := ⟨rfl, rfl, rfl, nd_made, rfl, by decide +kernel, by decide +kernel⟩
theorem g_made (T : Tx P K mg base a G) : FnG P w K mg base G 7 a.made m_made := by
  obtain ⟨fd, F⟩ := T.f_made
  refine fnG_of (k := 6) F fs_made T.gk (fun _ _ _ _ _ _ us hl => match us, hl with | [_, _], _ => rfl) fun cdv A outer s H E o => ?_
  exact jb_cons (js_if (jtc o.gt (by rfl) (je_var 0 rfl (vf (by decide +kernel)) (by decide +kernel) (by decide +kernel)) (je_gi (gf (by decide +kernel)) (by decide +kernel) T.c_MAX_PLACES)) (jb_one (js_raise o (jm_sup o T.su_TooMany T.xn_TooMany T.xf_TooMany (gf (by decide +kernel)) T.g_TooMany (ja_cons (je_gi (gf (by decide +kernel)) (by decide +kernel) T.c_MAX_PLACES) (ja_nil)) (by decide +kernel)))) (jb_nil)) (jb_cons (js_if (jtc o.gt (by rfl) (je_callB o.len (gf (by decide +kernel)) T.n_len bt_len (ja_cons (je_var 1 rfl (vf (by decide +kernel)) (by decide +kernel) (by decide +kernel)) (ja_nil)) (by decide +kernel) (by decide +kernel)) (je_gi (gf (by decide +kernel)) (by decide +kernel) T.c_MAX_TIES)) (jb_one (js_raise o (jm_sup o T.su_TooMany T.xn_TooMany T.xf_TooMany (gf (by decide +kernel)) T.g_TooMany (ja_cons (je_gi (gf (by decide +kernel)) (by decide +kernel) T.c_MAX_TIES) (ja_nil)) (by decide +kernel)))) (jb_nil)) (jb_one (js_ret (je_mk o T.mk_Web T.sc_Web.cls (g_Web_init T) (by omega) (gf (by decide +kernel)) T.g_Web (ja_cons (je_var 0 rfl (vf (by decide +kernel)) (by decide +kernel) (by decide +kernel)) (ja_cons (je_call o (g_ties_from T) (by omega) (gf (by decide +kernel)) T.g_ties_from T.k_ties_from (ja_cons (je_var 1 rfl (vf (by decide +kernel)) (by decide +kernel) (by decide +kernel)) (ja_nil)) (by decide +kernel)) (ja_nil))) (by decide +kernel)))))
theorem nd_beside : (["web", "other", "size", "pairs", "names"] : List Str).Nodup := by decide +kernel
theorem fs_beside : FnScope ["web", "other", "size", "pairs", "names"] ["web", "other"] (defScope st_beside) := ⟨rfl, rfl, rfl, nd_beside, rfl, by decide +kernel, by decide +kernel⟩
theorem g_beside (T : Tx P K mg base a G) : FnG P w K mg base G 8 a.beside m_beside := by
  obtain ⟨fd, F⟩ := T.f_beside
  refine fnG_of (k := 7) F fs_beside T.gk (fun _ _ _ _ _ _ us hl => match us, hl with | [_, _], _ => rfl) fun cdv A outer s H E o => ?_
  exact jb_cons (js_expr (je_call o (g_require_web T) (by omega) (gf (by decide +kernel)) T.g_require_web T.k_require_web (ja_cons (je_var 0 rfl (vf (by decide +kernel)) (by decide +kernel) (by decide +kernel)) (ja_nil)) (by decide +kernel))) (jb_cons (js_expr (je_call o (g_require_web T) (by omega) (gf (by decide +kernel)) T.g_require_web T.k_require_web (ja_cons (je_var 1 rfl (vf (by decide +kernel)) (by decide +kernel) (by decide +kernel)) (ja_nil)) (by decide +kernel))) (jb_cons (js_asg (je_call o (g_put_on T) (by omega) (gf (by decide +kernel)) T.g_put_on T.k_put_on (ja_cons (je_var 0 rfl (vf (by decide +kernel)) (by decide +kernel) (by decide +kernel)) (ja_cons (je_var 1 rfl (vf (by decide +kernel)) (by decide +kernel) (by decide +kernel)) (ja_cons (je_dct0) (ja_cons (je_tup (ja_nil)) (ja_cons (je_tup (ja_nil)) (ja_nil)))))) (by decide +kernel)) (jg_tup o.calm o.gk 3 (jgs_cons (jg_name 2 nd_beside rfl (lf (by decide +kernel)) ff) (jgs_cons (jg_name 3 nd_beside rfl (lf (by decide +kernel)) ff) (jgs_cons (jg_name 4 nd_beside rfl (lf (by decide +kernel)) ff) (jgs_nil)))) (gMore_len (gMore_len (gMore_len (gEnd_len)))))) (jb_one (js_ret (je_call o (g_made T) (by omega) (gf (by decide +kernel)) T.g_made T.k_made (ja_cons (je_var 2 rfl (vf (by decide +kernel)) (by decide +kernel) (by decide +kernel)) (ja_cons (je_var 3 rfl (vf (by decide +kernel)) (by decide +kernel) (by decide +kernel)) (ja_nil))) (by decide +kernel))))))
theorem nd_require_place : (["web", "places", "place"] : List Str).Nodup := by decide +kernel
theorem fs_require_place : FnScope ["web", "places", "place"] ["web", "places"] (defScope st_require_place) := ⟨rfl, rfl, rfl, nd_require_place, rfl, by decide +kernel, by decide +kernel⟩
theorem g_require_place (T : Tx P K mg base a G) : FnG P w K mg base G 4 a.require_place m_require_place := by
  obtain ⟨fd, F⟩ := T.f_require_place
  refine fnV_of (k := 3) (ps := ["web"]) F fs_require_place T.gk (fun _ _ _ _ _ _ us rest hl => match us, hl with | [_], _ => bindV1 rfl rfl rfl rfl) fun cdv A outer s H E o => ?_
  exact jb_cons (js_expr (je_call o (g_require_web T) (by omega) (gf (by decide +kernel)) T.g_require_web T.k_require_web (ja_cons (je_var 0 rfl (vf (by decide +kernel)) (by decide +kernel) (by decide +kernel)) (ja_nil)) (by decide +kernel))) (jb_one (js_for o (ji_of o (je_var 1 rfl (vf (by decide +kernel)) (by decide +kernel) (by decide +kernel))) (jg_name 2 nd_require_place rfl (lf (by decide +kernel)) ff) (jb_one (js_if (jt_not (jt_val (je_call o (g_is_within T) (by omega) (gf (by decide +kernel)) T.g_is_within T.k_is_within (ja_cons (je_var 2 rfl (vf (by decide +kernel)) (by decide +kernel) (by decide +kernel)) (ja_cons (je_int) (ja_cons (je_sub (je_fld o T.sc_Web T.sl_own_size (je_var 0 rfl (vf (by decide +kernel)) (by decide +kernel) (by decide +kernel))) (je_int)) (ja_nil)))) (by decide +kernel)) (fun _ => rfl))) (jb_one (js_raise o (jm_sup o T.su_InvalidNumber T.xn_InvalidNumber T.xf_InvalidNumber (gf (by decide +kernel)) T.g_InvalidNumber (ja_cons (je_var 2 rfl (vf (by decide +kernel)) (by decide +kernel) (by decide +kernel)) (ja_nil)) (by decide +kernel)))) (jb_nil)))))
theorem nd_require_far_place : (["other", "far"] : List Str).Nodup := by decide +kernel
theorem fs_require_far_place : FnScope ["other", "far"] ["other", "far"] (defScope st_require_far_place) := ⟨rfl, rfl, rfl, nd_require_far_place, rfl, by decide +kernel, by decide +kernel⟩
theorem g_require_far_place (T : Tx P K mg base a G) : FnG P w K mg base G 4 a.require_far_place m_require_far_place := by
  obtain ⟨fd, F⟩ := T.f_require_far_place
  refine fnG_of (k := 3) F fs_require_far_place T.gk (fun _ _ _ _ _ _ us hl => match us, hl with | [_, _], _ => rfl) fun cdv A outer s H E o => ?_
  exact jb_cons (js_expr (je_call o (g_require_web T) (by omega) (gf (by decide +kernel)) T.g_require_web T.k_require_web (ja_cons (je_var 0 rfl (vf (by decide +kernel)) (by decide +kernel) (by decide +kernel)) (ja_nil)) (by decide +kernel))) (jb_one (js_if (jt_not (jt_val (je_call o (g_is_within T) (by omega) (gf (by decide +kernel)) T.g_is_within T.k_is_within (ja_cons (je_var 1 rfl (vf (by decide +kernel)) (by decide +kernel) (by decide +kernel)) (ja_cons (je_int) (ja_cons (je_sub (je_fld o T.sc_Web T.sl_own_size (je_var 0 rfl (vf (by decide +kernel)) (by decide +kernel) (by decide +kernel))) (je_int)) (ja_nil)))) (by decide +kernel)) (fun _ => rfl))) (jb_one (js_raise o (jm_sup o T.su_InvalidNumber T.xn_InvalidNumber T.xf_InvalidNumber (gf (by decide +kernel)) T.g_InvalidNumber (ja_cons (je_var 1 rfl (vf (by decide +kernel)) (by decide +kernel) (by decide +kernel)) (ja_nil)) (by decide +kernel)))) (jb_nil)))
theorem nd_joined : (["web", "place", "other", "far", "size", "pairs", "names"] : List Str).Nodup := by decide +kernel
theorem fs_joined : FnScope ["web", "place", "other", "far", "size", "pairs", "names"] ["web", "place", "other", "far"] (defScope st_joined) := ⟨rfl, rfl, rfl, nd_joined, rfl, by decide +kernel, by decide +kernel⟩
theorem g_joined (T : Tx P K mg base a G) : FnG P w K mg base G 8 a.joined m_joined := by
  obtain ⟨fd, F⟩ := T.f_joined
  refine fnG_of (k := 7) F fs_joined T.gk (fun _ _ _ _ _ _ us hl => match us, hl with | [_, _, _, _], _ => rfl) fun cdv A outer s H E o => ?_
  exact jb_cons (js_expr (je_call o (g_require_web T) (by omega) (gf (by decide +kernel)) T.g_require_web T.k_require_web (ja_cons (je_var 0 rfl (vf (by decide +kernel)) (by decide +kernel) (by decide +kernel)) (ja_nil)) (by decide +kernel))) (jb_cons (js_expr (je_call o (g_require_place T) (by omega) (gf (by decide +kernel)) T.g_require_place T.k_require_place (ja_cons (je_var 0 rfl (vf (by decide +kernel)) (by decide +kernel) (by decide +kernel)) (ja_cons (je_var 1 rfl (vf (by decide +kernel)) (by decide +kernel) (by decide +kernel)) (ja_nil))) (by decide +kernel))) (jb_cons (js_expr (je_call o (g_require_far_place T) (by omega) (gf (by decide +kernel)) T.g_require_far_place T.k_require_far_place (ja_cons (je_var 2 rfl (vf (by decide +kernel)) (by decide +kernel) (by decide +kernel)) (ja_cons (je_var 3 rfl (vf (by decide +kernel)) (by decide +kernel) (by decide +kernel)) (ja_nil))) (by decide +kernel))) (jb_cons (js_asg (je_call o (g_put_on T) (by omega) (gf (by decide +kernel)) T.g_put_on T.k_put_on (ja_cons (je_var 0 rfl (vf (by decide +kernel)) (by decide +kernel) (by decide +kernel)) (ja_cons (je_var 2 rfl (vf (by decide +kernel)) (by decide +kernel) (by decide +kernel)) (ja_cons (je_dct (jps_cons (je_var 3 rfl (vf (by decide +kernel)) (by decide +kernel) (by decide +kernel)) (je_var 1 rfl (vf (by decide +kernel)) (by decide +kernel) (by decide +kernel)) (jps_nil)) rfl rfl (List.cons_ne_nil _ _) (Nat.le_of_ble_eq_true rfl)) (ja_cons (je_tup (ja_nil)) (ja_cons (je_tup (ja_nil)) (ja_nil)))))) (by decide +kernel)) (jg_tup o.calm o.gk 3 (jgs_cons (jg_name 4 nd_joined rfl (lf (by decide +kernel)) ff) (jgs_cons (jg_name 5 nd_joined rfl (lf (by decide +kernel)) ff) (jgs_cons (jg_name 6 nd_joined rfl (lf (by decide +kernel)) ff) (jgs_nil)))) (gMore_len (gMore_len (gMore_len (gEnd_len)))))) (jb_one (js_ret (je_call o (g_made T) (by omega) (gf (by decide +kernel)) T.g_made T.k_made (ja_cons (je_var 4 rfl (vf (by decide +kernel)) (by decide +kernel) (by decide +kernel)) (ja_cons (je_var 5 rfl (vf (by decide +kernel)) (by decide +kernel) (by decide +kernel)) (ja_nil))) (by decide +kernel)))))))
theorem nd_require_tie : (["web", "index"] : List Str).Nodup := by decide +kernel
theorem fs_require_tie : FnScope ["web", "index"] ["web", "index"] (defScope st_require_tie) := ⟨rfl, rfl, rfl, nd_require_tie, rfl, by decide +kernel, by decide +kernel⟩
theorem g_require_tie (T : Tx P K mg base a G) : FnG P w K mg base G 4 a.require_tie m_require_tie := by
  obtain ⟨fd, F⟩ := T.f_require_tie
  refine fnG_of (k := 3) F fs_require_tie T.gk (fun _ _ _ _ _ _ us hl => match us, hl with | [_, _], _ => rfl) fun cdv A outer s H E o => ?_
  exact jb_cons (js_expr (je_call o (g_require_web T) (by omega) (gf (by decide +kernel)) T.g_require_web T.k_require_web (ja_cons (je_var 0 rfl (vf (by decide +kernel)) (by decide +kernel) (by decide +kernel)) (ja_nil)) (by decide +kernel))) (jb_one (js_if (jt_not (jt_val (je_call o (g_is_within T) (by omega) (gf (by decide +kernel)) T.g_is_within T.k_is_within (ja_cons (je_var 1 rfl (vf (by decide +kernel)) (by decide +kernel) (by decide +kernel)) (ja_cons (je_int) (ja_cons (je_sub (je_callB o.len (gf (by decide +kernel)) T.n_len bt_len (ja_cons (je_fld o T.sc_Web T.sl_own_ties (je_var 0 rfl (vf (by decide +kernel)) (by decide +kernel) (by decide +kernel))) (ja_nil)) (by decide +kernel) (by decide +kernel)) (je_int)) (ja_nil)))) (by decide +kernel)) (fun _ => rfl))) (jb_one (js_raise o (jm_sup o T.su_InvalidNumber T.xn_InvalidNumber T.xf_InvalidNumber (gf (by decide +kernel)) T.g_InvalidNumber (ja_cons (je_var 1 rfl (vf (by decide +kernel)) (by decide +kernel) (by decide +kernel)) (ja_nil)) (by decide +kernel)))) (jb_nil)))
theorem nd_require_far_tie : (["other", "far"] : List Str).Nodup := by decide +kernel
theorem fs_require_far_tie : FnScope ["other", "far"] ["other", "far"] (defScope st_require_far_tie) := ⟨rfl, rfl, rfl, nd_require_far_tie, rfl, by decide +kernel, by decide +kernel⟩
theorem g_require_far_tie (T : Tx P K mg base a G) : FnG P w K mg base G 4 a.require_far_tie m_require_far_tie := by
  obtain ⟨fd, F⟩ := T.f_require_far_tie
  refine fnG_of (k := 3) F fs_require_far_tie T.gk (fun _ _ _ _ _ _ us hl => match us, hl with | [_, _], _ => rfl) fun cdv A outer s H E o => ?_
  exact jb_cons (js_expr (je_call o (g_require_web T) (by omega) (gf (by decide +kernel)) T.g_require_web T.k_require_web (ja_cons (je_var 0 rfl (vf (by decide +kernel)) (by decide +kernel) (by decide +kernel)) (ja_nil)) (by decide +kernel))) (jb_one (js_if (jt_not (jt_val (je_call o (g_is_within T) (by omega) (gf (by decide +kernel)) T.g_is_within T.k_is_within (ja_cons (je_var 1 rfl (vf (by decide +kernel)) (by decide +kernel) (by decide +kernel)) (ja_cons (je_int) (ja_cons (je_sub (je_callB o.len (gf (by decide +kernel)) T.n_len bt_len (ja_cons (je_fld o T.sc_Web T.sl_own_ties (je_var 0 rfl (vf (by decide +kernel)) (by decide +kernel) (by decide +kernel))) (ja_nil)) (by decide +kernel) (by decide +kernel)) (je_int)) (ja_nil)))) (by decide +kernel)) (fun _ => rfl))) (jb_one (js_raise o (jm_sup o T.su_InvalidNumber T.xn_InvalidNumber T.xf_InvalidNumber (gf (by decide +kernel)) T.g_InvalidNumber (ja_cons (je_var 1 rfl (vf (by decide +kernel)) (by decide +kernel) (by decide +kernel)) (ja_nil)) (by decide +kernel)))) (jb_nil)))
theorem nd_require_no_loop : (["ties", "one", "other"] : List Str).Nodup := by decide +kernel
theorem fs_require_no_loop : FnScope ["ties", "one", "other"] ["ties"] (defScope st_require_no_loop) := ⟨rfl, rfl, rfl, nd_require_no_loop, rfl, by decide +kernel, by decide +kernel⟩
theorem g_require_no_loop (T : Tx P K mg base a G) : FnG P w K mg base G 1 a.require_no_loop m_require_no_loop := by
  obtain ⟨fd, F⟩ := T.f_require_no_loop
  refine fnV_of (k := 0) (ps := []) F fs_require_no_loop T.gk (fun _ _ _ _ _ _ us rest hl => match us, hl with | [], _ => bindV0 rfl rfl rfl) fun cdv A outer s H E o => ?_
  exact jb_one (js_if (jt_val (je_callB o.any (gf (by decide +kernel)) T.n_any bt_any (ja_cons (je_comp o (own := [("one", 1), ("other", 2)]) (js := [1, 2]) nd_require_no_loop (ji_of o (je_var 0 rfl (vf (by decide +kernel)) (by decide +kernel) (by decide +kernel))) (bf (by decide +kernel)) (fun _ _ _ _ _ => jg_tup o.blk.calm o.blk.gk 2 (jgs_cons (jg_name 1 nd_require_no_loop rfl (lb (by decide +kernel)) (fb (by decide +kernel))) (jgs_cons (jg_name 2 nd_require_no_loop rfl (lb (by decide +kernel)) (fb (by decide +kernel))) (jgs_nil))) (gMore_len (gMore_len (gEnd_len)))) (fun _ _ _ _ _ => jts_nil) (fun _ _ _ _ _ => jec o.blk.eq (by rfl) (je_var 1 rfl (vb (by decide +kernel)) (by decide +kernel) (by decide +kernel)) (je_var 2 rfl (vb (by decide +kernel)) (by decide +kernel) (by decide +kernel))) (by decide)) (ja_nil)) (by decide +kernel) (by decide +kernel)) (fun _ => rfl)) (jb_one (js_raise o (jm_own T.xp_InvalidOperation T.g_InvalidOperation (gf (by decide +kernel)) (by decide +kernel)))) (jb_nil))
theorem nd_along : (["web", "tie", "other", "far", "here", "there", "size", "pairs", "names"] : List Str).Nodup := by decide +kernel
theorem fs_along : FnScope ["web", "tie", "other", "far", "here", "there", "size", "pairs", "names"] ["web", "tie", "other", "far"] (defScope st_along) := ⟨rfl, rfl, rfl, nd_along, rfl, by decide +kernel, by decide +kernel⟩
theorem g_along (T : Tx P K mg base a G) : FnG P w K mg base G 8 a.along m_along := by
  obtain ⟨fd, F⟩ := T.f_along
  refine fnG_of (k := 7) F fs_along T.gk (fun _ _ _ _ _ _ us hl => match us, hl with | [_, _, _, _], _ => rfl) fun cdv A outer s H E o => ?_
  exact jb_cons (js_expr (je_call o (g_require_tie T) (by omega) (gf (by decide +kernel)) T.g_require_tie T.k_require_tie (ja_cons (je_var 0 rfl (vf (by decide +kernel)) (by decide +kernel) (by decide +kernel)) (ja_cons (je_var 1 rfl (vf (by decide +kernel)) (by decide +kernel) (by decide +kernel)) (ja_nil))) (by decide +kernel))) (jb_cons (js_expr (je_call o (g_require_far_tie T) (by omega) (gf (by decide +kernel)) T.g_require_far_tie T.k_require_far_tie (ja_cons (je_var 2 rfl (vf (by decide +kernel)) (by decide +kernel) (by decide +kernel)) (ja_cons (je_var 3 rfl (vf (by decide +kernel)) (by decide +kernel) (by decide +kernel)) (ja_nil))) (by decide +kernel))) (jb_cons (js_par o (i := 4) (j := 5) nd_along rfl rfl (by decide) (qf (by decide +kernel)) (qf (by decide +kernel)) (ja_cons (je_ix o (je_fld o T.sc_Web T.sl_own_ties (je_var 0 rfl (vf (by decide +kernel)) (by decide +kernel) (by decide +kernel))) (je_var 1 rfl (vf (by decide +kernel)) (by decide +kernel) (by decide +kernel)) (fun _ _ => rfl)) (ja_cons (je_ix o (je_fld o T.sc_Web T.sl_own_ties (je_var 2 rfl (vf (by decide +kernel)) (by decide +kernel) (by decide +kernel))) (je_var 3 rfl (vf (by decide +kernel)) (by decide +kernel) (by decide +kernel)) (fun _ _ => rfl)) ja_nil)) (by rfl)) (jb_cons (js_expr (je_call o (g_require_no_loop T) (by omega) (gf (by decide +kernel)) T.g_require_no_loop T.k_require_no_loop (ja_cons (je_var 4 rfl (vf (by decide +kernel)) (by decide +kernel) (by decide +kernel)) (ja_cons (je_var 5 rfl (vf (by decide +kernel)) (by decide +kernel) (by decide +kernel)) (ja_nil))) (by decide +kernel))) (jb_cons (js_asg (je_call o (g_put_on T) (by omega) (gf (by decide +kernel)) T.g_put_on T.k_put_on (ja_cons (je_var 0 rfl (vf (by decide +kernel)) (by decide +kernel) (by decide +kernel)) (ja_cons (je_var 2 rfl (vf (by decide +kernel)) (by decide +kernel) (by decide +kernel)) (ja_cons (je_dct (jps_cons (je_ix o (je_var 5 rfl (vf (by decide +kernel)) (by decide +kernel) (by decide +kernel)) (je_int) (fun _ _ => rfl)) (je_ix o (je_var 4 rfl (vf (by decide +kernel)) (by decide +kernel) (by decide +kernel)) (je_int) (fun _ _ => rfl)) (jps_cons (je_ix o (je_var 5 rfl (vf (by decide +kernel)) (by decide +kernel) (by decide +kernel)) (je_int) (fun _ _ => rfl)) (je_ix o (je_var 4 rfl (vf (by decide +kernel)) (by decide +kernel) (by decide +kernel)) (je_int) (fun _ _ => rfl)) (jps_nil))) rfl rfl (List.cons_ne_nil _ _) (Nat.le_of_ble_eq_true rfl)) (ja_cons (je_tup (ja_nil)) (ja_cons (je_tup (ja_cons (je_var 3 rfl (vf (by decide +kernel)) (by decide +kernel) (by decide +kernel)) (ja_nil))) (ja_nil)))))) (by decide +kernel)) (jg_tup o.calm o.gk 3 (jgs_cons (jg_name 6 nd_along rfl (lf (by decide +kernel)) ff) (jgs_cons (jg_name 7 nd_along rfl (lf (by decide +kernel)) ff) (jgs_cons (jg_name 8 nd_along rfl (lf (by decide +kernel)) ff) (jgs_nil)))) (gMore_len (gMore_len (gMore_len (gEnd_len)))))) (jb_one (js_ret (je_call o (g_made T) (by omega) (gf (by decide +kernel)) T.g_made T.k_made (ja_cons (je_var 6 rfl (vf (by decide +kernel)) (by decide +kernel) (by decide +kernel)) (ja_cons (je_var 7 rfl (vf (by decide +kernel)) (by decide +kernel) (by decide +kernel)) (ja_nil))) (by decide +kernel))))))))
theorem nd_in_line : (["web", "tie", "other", "far", "here", "there", "size", "pairs", "names"] : List Str).Nodup := by decide +kernel
theorem fs_in_line : FnScope ["web", "tie", "other", "far", "here", "there", "size", "pairs", "names"] ["web", "tie", "other", "far"] (defScope st_in_line) := ⟨rfl, rfl, rfl, nd_in_line, rfl, by decide +kernel, by decide +kernel⟩
theorem g_in_line (T : Tx P K mg base a G) : FnG P w K mg base G 8 a.in_line m_in_line := by
  obtain ⟨fd, F⟩ := T.f_in_line
  refine fnG_of (k := 7) F fs_in_line T.gk (fun _ _ _ _ _ _ us hl => match us, hl with | [_, _, _, _], _ => rfl) fun cdv A outer s H E o => ?_
  exact jb_cons (js_expr (je_call o (g_require_tie T) (by omega) (gf (by decide +kernel)) T.g_require_tie T.k_require_tie (ja_cons (je_var 0 rfl (vf (by decide +kernel)) (by decide +kernel) (by decide +kernel)) (ja_cons (je_var 1 rfl (vf (by decide +kernel)) (by decide +kernel) (by decide +kernel)) (ja_nil))) (by decide +kernel))) (jb_cons (js_expr (je_call o (g_require_far_tie T) (by omega) (gf (by decide +kernel)) T.g_require_far_tie T.k_require_far_tie (ja_cons (je_var 2 rfl (vf (by decide +kernel)) (by decide +kernel) (by decide +kernel)) (ja_cons (je_var 3 rfl (vf (by decide +kernel)) (by decide +kernel) (by decide +kernel)) (ja_nil))) (by decide +kernel))) (jb_cons (js_par o (i := 4) (j := 5) nd_in_line rfl rfl (by decide) (qf (by decide +kernel)) (qf (by decide +kernel)) (ja_cons (je_ix o (je_fld o T.sc_Web T.sl_own_ties (je_var 0 rfl (vf (by decide +kernel)) (by decide +kernel) (by decide +kernel))) (je_var 1 rfl (vf (by decide +kernel)) (by decide +kernel) (by decide +kernel)) (fun _ _ => rfl)) (ja_cons (je_ix o (je_fld o T.sc_Web T.sl_own_ties (je_var 2 rfl (vf (by decide +kernel)) (by decide +kernel) (by decide +kernel))) (je_var 3 rfl (vf (by decide +kernel)) (by decide +kernel) (by decide +kernel)) (fun _ _ => rfl)) ja_nil)) (by rfl)) (jb_cons (js_expr (je_call o (g_require_no_loop T) (by omega) (gf (by decide +kernel)) T.g_require_no_loop T.k_require_no_loop (ja_cons (je_var 4 rfl (vf (by decide +kernel)) (by decide +kernel) (by decide +kernel)) (ja_cons (je_var 5 rfl (vf (by decide +kernel)) (by decide +kernel) (by decide +kernel)) (ja_nil))) (by decide +kernel))) (jb_cons (js_asg (je_call o (g_put_on T) (by omega) (gf (by decide +kernel)) T.g_put_on T.k_put_on (ja_cons (je_var 0 rfl (vf (by decide +kernel)) (by decide +kernel) (by decide +kernel)) (ja_cons (je_var 2 rfl (vf (by decide +kernel)) (by decide +kernel) (by decide +kernel)) (ja_cons (je_dct (jps_cons (je_ix o (je_var 5 rfl (vf (by decide +kernel)) (by decide +kernel) (by decide +kernel)) (je_int) (fun _ _ => rfl)) (je_ix o (je_var 4 rfl (vf (by decide +kernel)) (by decide +kernel) (by decide +kernel)) (je_int) (fun _ _ => rfl)) (jps_nil)) rfl rfl (List.cons_ne_nil _ _) (Nat.le_of_ble_eq_true rfl)) (ja_cons (je_tup (ja_cons (je_var 1 rfl (vf (by decide +kernel)) (by decide +kernel) (by decide +kernel)) (ja_nil))) (ja_cons (je_tup (ja_cons (je_var 3 rfl (vf (by decide +kernel)) (by decide +kernel) (by decide +kernel)) (ja_nil))) (ja_nil)))))) (by decide +kernel)) (jg_tup o.calm o.gk 3 (jgs_cons (jg_name 6 nd_in_line rfl (lf (by decide +kernel)) ff) (jgs_cons (jg_name 7 nd_in_line rfl (lf (by decide +kernel)) ff) (jgs_cons (jg_name 8 nd_in_line rfl (lf (by decide +kernel)) ff) (jgs_nil)))) (gMore_len (gMore_len (gMore_len (gEnd_len)))))) (jb_one (js_ret (je_call o (g_made T) (by omega) (gf (by decide +kernel)) T.g_made T.k_made (ja_cons (je_var 6 rfl (vf (by decide +kernel)) (by decide +kernel) (by decide +kernel)) (ja_cons (je_lst (ja_star o (je_var 7 rfl (vf (by decide +kernel)) (by decide +kernel) (by decide +kernel)) (ja_cons (je_tup (ja_cons (je_ix o (je_var 4 rfl (vf (by decide +kernel)) (by decide +kernel) (by decide +kernel)) (je_int) (fun _ _ => rfl)) (ja_cons (je_ix o (je_var 8 rfl (vf (by decide +kernel)) (by decide +kernel) (by decide +kernel)) (je_ix o (je_var 5 rfl (vf (by decide +kernel)) (by decide +kernel) (by decide +kernel)) (je_int) (fun _ _ => rfl)) (fun _ _ => rfl)) (ja_nil)))) (ja_nil)))) (ja_nil))) (by decide +kernel))))))))
theorem nd_law_two : (["web", "one", "other", "far", "told"] : List Str).Nodup := by decide +kernel
theorem fs_law_two : FnScope ["web", "one", "other", "far", "told"] ["web", "one", "other", "far"] (defScope st_law_two) := ⟨rfl, rfl, rfl, nd_law_two, rfl, by decide +kernel, by decide +kernel⟩
theorem g_law_two (T : Tx P K mg base a G) (N : G.lam = none) : FnG P w K mg base G 11 a.law_two m_law_two := by
  obtain ⟨fd, F⟩ := T.f_law_two
  refine fnK_of (k := 10) F T.kc_law_two fs_law_two T.gk (fun _ _ _ _ _ _ us hl => match us, hl with | [_, _, _, _], _ => rfl) fun A outer s H E o => ?_
  exact jb_cons (js_asg (je_lstM (ja_cons (je_callL0 o (g_law_met T N) (by omega) (gf (by decide +kernel)) T.g_law_met T.k_law_met (lamE0 (kk := 8) o.gk (lamQ T.b_law_two T.lm_law_two T.lo_law_two) (ltf (by decide +kernel)) rfl (fun _ _ _ _ _ _ => rfl) (fun _ _ _ _ _ _ _ ol => jec ol.is (by rfl) (je_call ol (g_beside T) (by omega) (gl (by decide +kernel)) T.g_beside T.k_beside (ja_cons (je_var 0 rfl (vlf (by decide +kernel)) (by decide +kernel) (by decide +kernel)) (ja_cons (je_var 2 rfl (vlf (by decide +kernel)) (by decide +kernel) (by decide +kernel)) (ja_nil))) (by decide +kernel)) (je_non))) (by decide +kernel)) (ja_nil))) (jg_name 4 nd_law_two rfl (lf (by decide +kernel)) ff)) (jb_cons (js_expr (je_append o (je_var 4 rfl (vf (by decide +kernel)) (by decide +kernel) (by decide +kernel)) (je_callL0 o (g_law_met T N) (by omega) (gf (by decide +kernel)) T.g_law_met T.k_law_met (lamE0 (kk := 8) o.gk (lamQ T.b_law_two T.lm_law_two T.lo_law_two) (ltf (by decide +kernel)) rfl (fun _ _ _ _ _ _ => rfl) (fun _ _ _ _ _ _ _ ol => jec ol.is (by rfl) (je_call ol (g_joined T) (by omega) (gl (by decide +kernel)) T.g_joined T.k_joined (ja_cons (je_var 0 rfl (vlf (by decide +kernel)) (by decide +kernel) (by decide +kernel)) (ja_cons (je_var 1 rfl (vlf (by decide +kernel)) (by decide +kernel) (by decide +kernel)) (ja_cons (je_var 2 rfl (vlf (by decide +kernel)) (by decide +kernel) (by decide +kernel)) (ja_cons (je_var 3 rfl (vlf (by decide +kernel)) (by decide +kernel) (by decide +kernel)) (ja_nil))))) (by decide +kernel)) (je_non))) (by decide +kernel)))) (jb_cons (js_expr (je_append o (je_var 4 rfl (vf (by decide +kernel)) (by decide +kernel) (by decide +kernel)) (je_callL0 o (g_law_met T N) (by omega) (gf (by decide +kernel)) T.g_law_met T.k_law_met (lamE0 (kk := 8) o.gk (lamQ T.b_law_two T.lm_law_two T.lo_law_two) (ltf (by decide +kernel)) rfl (fun _ _ _ _ _ _ => rfl) (fun _ _ _ _ _ _ _ ol => jec ol.is (by rfl) (je_call ol (g_along T) (by omega) (gl (by decide +kernel)) T.g_along T.k_along (ja_cons (je_var 0 rfl (vlf (by decide +kernel)) (by decide +kernel) (by decide +kernel)) (ja_cons (je_var 1 rfl (vlf (by decide +kernel)) (by decide +kernel) (by decide +kernel)) (ja_cons (je_var 2 rfl (vlf (by decide +kernel)) (by decide +kernel) (by decide +kernel)) (ja_cons (je_var 3 rfl (vlf (by decide +kernel)) (by decide +kernel) (by decide +kernel)) (ja_nil))))) (by decide +kernel)) (je_non))) (by decide +kernel)))) (jb_cons (js_expr (je_append o (je_var 4 rfl (vf (by decide +kernel)) (by decide +kernel) (by decide +kernel)) (je_callL0 o (g_law_met T N) (by omega) (gf (by decide +kernel)) T.g_law_met T.k_law_met (lamE0 (kk := 8) o.gk (lamQ T.b_law_two T.lm_law_two T.lo_law_two) (ltf (by decide +kernel)) rfl (fun _ _ _ _ _ _ => rfl) (fun _ _ _ _ _ _ _ ol => jec ol.is (by rfl) (je_call ol (g_in_line T) (by omega) (gl (by decide +kernel)) T.g_in_line T.k_in_line (ja_cons (je_var 0 rfl (vlf (by decide +kernel)) (by decide +kernel) (by decide +kernel)) (ja_cons (je_var 1 rfl (vlf (by decide +kernel)) (by decide +kernel) (by decide +kernel)) (ja_cons (je_var 2 rfl (vlf (by decide +kernel)) (by decide +kernel) (by decide +kernel)) (ja_cons (je_var 3 rfl (vlf (by decide +kernel)) (by decide +kernel) (by decide +kernel)) (ja_nil))))) (by decide +kernel)) (je_non))) (by decide +kernel)))) (jb_one (js_ret (je_var 4 rfl (vf (by decide +kernel)) (by decide +kernel) (by decide +kernel)))))))
theorem nd_require_many : (["web", "tie", "many"] : List Str).Nodup := by decide +kernel
theorem fs_require_many : FnScope ["web", "tie", "many"] ["web", "tie", "many"] (defScope st_require_many) := ⟨rfl, rfl, rfl, nd_require_many, rfl, by decide +kernel, by decide +kernel⟩
theorem g_require_many (T : Tx P K mg base a G) : FnG P w K mg base G 5 a.require_many m_require_many := by
  obtain ⟨fd, F⟩ := T.f_require_many
  refine fnG_of (k := 4) F fs_require_many T.gk (fun _ _ _ _ _ _ us hl => match us, hl with | [_, _, _], _ => rfl) fun cdv A outer s H E o => ?_
  exact jb_cons (js_expr (je_call o (g_require_tie T) (by omega) (gf (by decide +kernel)) T.g_require_tie T.k_require_tie (ja_cons (je_var 0 rfl (vf (by decide +kernel)) (by decide +kernel) (by decide +kernel)) (ja_cons (je_var 1 rfl (vf (by decide +kernel)) (by decide +kernel) (by decide +kernel)) (ja_nil))) (by decide +kernel))) (jb_one (js_if (jt_not (jt_val (je_call o (g_is_within T) (by omega) (gf (by decide +kernel)) T.g_is_within T.k_is_within (ja_cons (je_var 2 rfl (vf (by decide +kernel)) (by decide +kernel) (by decide +kernel)) (ja_cons (je_int) (ja_cons (je_gi (gf (by decide +kernel)) (by decide +kernel) T.c_MOST_TAKEN) (ja_nil)))) (by decide +kernel)) (fun _ => rfl))) (jb_one (js_raise o (jm_sup o T.su_InvalidNumber T.xn_InvalidNumber T.xf_InvalidNumber (gf (by decide +kernel)) T.g_InvalidNumber (ja_cons (je_var 2 rfl (vf (by decide +kernel)) (by decide +kernel) (by decide +kernel)) (ja_nil)) (by decide +kernel)))) (jb_nil)))
theorem nd_in_parallel : (["web", "tie", "many", "turn"] : List Str).Nodup := by decide +kernel
theorem fs_in_parallel : FnScope ["web", "tie", "many", "turn"] ["web", "tie", "many"] (defScope st_in_parallel) := ⟨rfl, rfl, rfl, nd_in_parallel, rfl, by decide +kernel, by decide +kernel⟩
theorem g_in_parallel (T : Tx P K mg base a G) : FnG P w K mg base G 8 a.in_parallel m_in_parallel := by
  obtain ⟨fd, F⟩ := T.f_in_parallel
  refine fnG_of (k := 7) F fs_in_parallel T.gk (fun _ _ _ _ _ _ us hl => match us, hl with | [_, _, _], _ => rfl) fun cdv A outer s H E o => ?_
  exact jb_cons (js_expr (je_call o (g_require_many T) (by omega) (gf (by decide +kernel)) T.g_require_many T.k_require_many (ja_cons (je_var 0 rfl (vfc (by decide +kernel)) (by decide +kernel) (by decide +kernel)) (ja_cons (je_var 1 rfl (vfc (by decide +kernel)) (by decide +kernel) (by decide +kernel)) (ja_cons (je_var 2 rfl (vf (by decide +kernel)) (by decide +kernel) (by decide +kernel)) (ja_nil)))) (by decide +kernel))) (jb_one (js_ret (je_call o (g_made T) (by omega) (gf (by decide +kernel)) T.g_made T.k_made (ja_cons (je_fld o T.sc_Web T.sl_own_size (je_var 0 rfl (vfc (by decide +kernel)) (by decide +kernel) (by decide +kernel))) (ja_cons (je_lst (ja_star o (je_fld o T.sc_Web T.sl_own_ties (je_var 0 rfl (vfc (by decide +kernel)) (by decide +kernel) (by decide +kernel))) (ja_star o (je_comp o (own := [("turn", 3)]) (js := [3]) nd_in_parallel (ji_range1 (gf (by decide +kernel)) T.n_range (ja_cons (je_sub (je_var 2 rfl (vf (by decide +kernel)) (by decide +kernel) (by decide +kernel)) (je_int)) (ja_nil))) (bf (by decide +kernel)) (fun _ _ _ _ _ => jg_name 3 nd_in_parallel rfl (lb (by decide +kernel)) (fb (by decide +kernel))) (fun _ _ _ _ _ => jts_nil) (fun _ _ _ _ _ => je_ix o.blk (je_fld o.blk T.sc_Web T.sl_own_ties (je_var 0 rfl (vbf (by decide +kernel)) (by decide +kernel) (by decide +kernel))) (je_var 1 rfl (vbf (by decide +kernel)) (by decide +kernel) (by decide +kernel)) (fun _ _ => rfl)) (by decide)) (ja_nil)))) (ja_nil))) (by decide +kernel))))
theorem nd_rowed : (["web", "index", "many", "one", "other", "new", "way", "rest", "at", "tie"] : List Str).Nodup := by decide +kernel
theorem fs_rowed : FnScope ["web", "index", "many", "one", "other", "new", "way", "rest", "at", "tie"] ["web", "index", "many"] (defScope st_rowed) := ⟨rfl, rfl, rfl, nd_rowed, rfl, by decide +kernel, by decide +kernel⟩
theorem g_rowed (T : Tx P K mg base a G) : FnG P w K mg base G 1 a.rowed m_rowed := by
  obtain ⟨fd, F⟩ := T.f_rowed
  refine fnG_of (k := 0) F fs_rowed T.gk (fun _ _ _ _ _ _ us hl => match us, hl with | [_, _, _], _ => rfl) fun cdv A outer s H E o => ?_
  exact jb_cons (js_asg (je_ix o (je_fld o T.sc_Web T.sl_own_ties (je_var 0 rfl (vf (by decide +kernel)) (by decide +kernel) (by decide +kernel))) (je_var 1 rfl (vfc (by decide +kernel)) (by decide +kernel) (by decide +kernel)) (fun _ _ => rfl)) (jg_tup o.calm o.gk 2 (jgs_cons (jg_name 3 nd_rowed rfl (lf (by decide +kernel)) ff) (jgs_cons (jg_name 4 nd_rowed rfl (lf (by decide +kernel)) ff) (jgs_nil))) (gMore_len (gMore_len (gEnd_len))))) (jb_cons (js_asg (je_lstRg o (gf (by decide +kernel)) T.n_list (jrg_2 (gf (by decide +kernel)) T.n_range (je_fld o T.sc_Web T.sl_own_size (je_var 0 rfl (vf (by decide +kernel)) (by decide +kernel) (by decide +kernel))) (je_sub (je_add o (je_fld o T.sc_Web T.sl_own_size (je_var 0 rfl (vf (by decide +kernel)) (by decide +kernel) (by decide +kernel))) (je_var 2 rfl (vf (by decide +kernel)) (by decide +kernel) (by decide +kernel))) (je_int)))) (jg_name 5 nd_rowed rfl (lf (by decide +kernel)) ff)) (jb_cons (js_asg (je_lst (ja_cons (je_var 3 rfl (vf (by decide +kernel)) (by decide +kernel) (by decide +kernel)) (ja_star o (je_var 5 rfl (vf (by decide +kernel)) (by decide +kernel) (by decide +kernel)) (ja_cons (je_var 4 rfl (vf (by decide +kernel)) (by decide +kernel) (by decide +kernel)) (ja_nil))))) (jg_name 6 nd_rowed rfl (lf (by decide +kernel)) ff)) (jb_cons (js_setLc o (own := [("at", 8), ("tie", 9)]) (js := [8, 9]) nd_rowed rfl (qf (by decide +kernel)) (sw_true rfl (qf (by decide +kernel)) rfl (by decide +kernel)) (ji_enumA o (gf (by decide +kernel)) T.n_enumerate (ja_cons (je_fld o T.sc_Web T.sl_own_ties (je_var 0 rfl (vf (by decide +kernel)) (by decide +kernel) (by decide +kernel))) (ja_nil))) (bf (by decide +kernel)) (fun _ _ _ _ _ => jg_tup o.blk.calm o.blk.gk 2 (jgs_cons (jg_name 8 nd_rowed rfl (lb (by decide +kernel)) (fb (by decide +kernel))) (jgs_cons (jg_name 9 nd_rowed rfl (lb (by decide +kernel)) (fb (by decide +kernel))) (jgs_nil))) (gMore_len (gMore_len (gEnd_len)))) (fun _ _ _ _ _ => jts_one (jtc o.blk.ne (by rfl) (je_var 8 rfl (vb (by decide +kernel)) (by decide +kernel) (by decide +kernel)) (je_var 1 rfl (vbf (by decide +kernel)) (by decide +kernel) (by decide +kernel)))) (fun _ _ _ _ _ => je_var 9 rfl (vb (by decide +kernel)) (by decide +kernel) (by decide +kernel)) (by decide)) (jb_one (js_ret (je_tup (ja_cons (je_sub (je_add o (je_fld o T.sc_Web T.sl_own_size (je_var 0 rfl (vf (by decide +kernel)) (by decide +kernel) (by decide +kernel))) (je_var 2 rfl (vf (by decide +kernel)) (by decide +kernel) (by decide +kernel))) (je_int)) (ja_cons (je_lst (ja_star o (je_var 7 rfl (vf (by decide +kernel)) (by decide +kernel) (by decide +kernel)) (ja_star o (je_lstZip o (gf (by decide +kernel)) T.n_list (gf (by decide +kernel)) T.n_zip (ja_cons (je_var 6 rfl (vf (by decide +kernel)) (by decide +kernel) (by decide +kernel)) (ja_cons (je_slice o (je_var 6 rfl (vf (by decide +kernel)) (by decide +kernel) (by decide +kernel)) (jo_some (je_int)) (jo_none)) (ja_nil)))) (ja_nil)))) (ja_nil)))))))))
theorem nd_in_row : (["web", "tie", "many", "size", "pairs"] : List Str).Nodup := by decide +kernel
theorem fs_in_row : FnScope ["web", "tie", "many", "size", "pairs"] ["web", "tie", "many"] (defScope st_in_row) := ⟨rfl, rfl, rfl, nd_in_row, rfl, by decide +kernel, by decide +kernel⟩
theorem g_in_row (T : Tx P K mg base a G) : FnG P w K mg base G 8 a.in_row m_in_row := by
  obtain ⟨fd, F⟩ := T.f_in_row
  refine fnG_of (k := 7) F fs_in_row T.gk (fun _ _ _ _ _ _ us hl => match us, hl with | [_, _, _], _ => rfl) fun cdv A outer s H E o => ?_
  exact jb_cons (js_expr (je_call o (g_require_many T) (by omega) (gf (by decide +kernel)) T.g_require_many T.k_require_many (ja_cons (je_var 0 rfl (vf (by decide +kernel)) (by decide +kernel) (by decide +kernel)) (ja_cons (je_var 1 rfl (vf (by decide +kernel)) (by decide +kernel) (by decide +kernel)) (ja_cons (je_var 2 rfl (vf (by decide +kernel)) (by decide +kernel) (by decide +kernel)) (ja_nil)))) (by decide +kernel))) (jb_cons (js_asg (je_call o (g_rowed T) (by omega) (gf (by decide +kernel)) T.g_rowed T.k_rowed (ja_cons (je_var 0 rfl (vf (by decide +kernel)) (by decide +kernel) (by decide +kernel)) (ja_cons (je_var 1 rfl (vf (by decide +kernel)) (by decide +kernel) (by decide +kernel)) (ja_cons (je_var 2 rfl (vf (by decide +kernel)) (by decide +kernel) (by decide +kernel)) (ja_nil)))) (by decide +kernel)) (jg_tup o.calm o.gk 2 (jgs_cons (jg_name 3 nd_in_row rfl (lf (by decide +kernel)) ff) (jgs_cons (jg_name 4 nd_in_row rfl (lf (by decide +kernel)) ff) (jgs_nil))) (gMore_len (gMore_len (gEnd_len))))) (jb_one (js_ret (je_call o (g_made T) (by omega) (gf (by decide +kernel)) T.g_made T.k_made (ja_cons (je_var 3 rfl (vf (by decide +kernel)) (by decide +kernel) (by decide +kernel)) (ja_cons (je_var 4 rfl (vf (by decide +kernel)) (by decide +kernel) (by decide +kernel)) (ja_nil))) (by decide +kernel)))))
theorem nd_law_taken : (["web", "tie", "many", "more"] : List Str).Nodup := by decide +kernel
theorem fs_law_taken : FnScope ["web", "tie", "many", "more"] ["web", "tie", "many"] (defScope st_law_taken) := ⟨rfl, rfl, rfl, nd_law_taken, rfl, by decide +kernel, by decide +kernel⟩
theorem g_law_taken (T : Tx P K mg base a G) (N : G.lam = none) : FnG P w K mg base G 11 a.law_taken m_law_taken := by
  obtain ⟨fd, F⟩ := T.f_law_taken
  refine fnK_of (k := 10) F T.kc_law_taken fs_law_taken T.gk (fun _ _ _ _ _ _ us hl => match us, hl with | [_, _, _], _ => rfl) fun A outer s H E o => ?_
  exact jb_one (js_ret (je_lst (ja_cons (je_callL0 o (g_law_met T N) (by omega) (gf (by decide +kernel)) T.g_law_met T.k_law_met (lamE0 (kk := 8) o.gk (lamQ T.b_law_taken T.lm_law_taken T.lo_law_taken) (ltf (by decide +kernel)) rfl (fun _ _ _ _ _ _ => rfl) (fun _ _ _ _ _ _ _ ol => jec ol.is (by rfl) (je_call ol (g_in_parallel T) (by omega) (gl (by decide +kernel)) T.g_in_parallel T.k_in_parallel (ja_cons (je_var 0 rfl (vlf (by decide +kernel)) (by decide +kernel) (by decide +kernel)) (ja_cons (je_var 1 rfl (vlf (by decide +kernel)) (by decide +kernel) (by decide +kernel)) (ja_cons (je_var 2 rfl (vlf (by decide +kernel)) (by decide +kernel) (by decide +kernel)) (ja_nil)))) (by decide +kernel)) (je_non))) (by decide +kernel)) (ja_cons (je_callL0 o (g_law_met T N) (by omega) (gf (by decide +kernel)) T.g_law_met T.k_law_met (lamED (kk := 8) 3 o.gk (lamQ T.b_law_taken T.lm_law_taken T.lo_law_taken) (ltf (by decide +kernel)) nd_law_taken rfl rfl rfl (fun _ _ _ _ _ _ _ _ => ⟨_, rfl, rfl⟩) (fun _ _ _ _ _ _ _ ol => jec ol.is (by rfl) (je_call ol (g_in_row T) (by omega) (gl (by decide +kernel)) T.g_in_row T.k_in_row (ja_cons (je_var 0 rfl (vlf (by decide +kernel)) (by decide +kernel) (by decide +kernel)) (ja_cons (je_var 1 rfl (vlf (by decide +kernel)) (by decide +kernel) (by decide +kernel)) (ja_cons (je_var 2 rfl (vlf (by decide +kernel)) (by decide +kernel) (by decide +kernel)) (ja_nil)))) (by decide +kernel)) (je_non))) (by decide +kernel)) (ja_nil)))))
theorem nd_is_lot_of : (["many", "value", "one", "other"] : List Str).Nodup := by decide +kernel
theorem fs_is_lot_of : FnScope ["many", "value", "one", "other"] ["many", "value"] (defScope st_is_lot_of) := ⟨rfl, rfl, rfl, nd_is_lot_of, rfl, by decide +kernel, by decide +kernel⟩
theorem g_is_lot_of (T : Tx P K mg base a G) : FnG P w K mg base G 4 a.is_lot_of m_is_lot_of := by
  obtain ⟨fd, F⟩ := T.f_is_lot_of
  refine fnG_of (k := 3) F fs_is_lot_of T.gk (fun _ _ _ _ _ _ us hl => match us, hl with | [_, _], _ => rfl) fun cdv A outer s H E o => ?_
  exact jb_cons (js_if (jt_w (jw_or (jt_not (jt_val (je_isiB o T.ib_tuple (je_var 1 rfl (vf (by decide +kernel)) (by decide +kernel) (by decide +kernel)) (gf (by decide +kernel)) T.n_isinstance bt_isinstance (by decide +kernel) (by decide +kernel) (gf (by decide +kernel)) T.n_tuple bt_tuple (by decide +kernel) (by decide +kernel)) (fun _ => rfl))) (jw_or1 (jt_not (jt_val (je_callB o.all (gf (by decide +kernel)) T.n_all bt_all (ja_cons (je_comp o (own := [("one", 2)]) (js := [2]) nd_is_lot_of (ji_of o (je_var 1 rfl (vf (by decide +kernel)) (by decide +kernel) (by decide +kernel))) (bf (by decide +kernel)) (fun _ _ _ _ _ => jg_name 2 nd_is_lot_of rfl (lb (by decide +kernel)) (fb (by decide +kernel))) (fun _ _ _ _ _ => jts_nil) (fun _ _ _ _ _ => je_call o.blk (g_is_within T) (by omega) (gb (by decide +kernel)) T.g_is_within T.k_is_within (ja_cons (je_var 2 rfl (vb (by decide +kernel)) (by decide +kernel) (by decide +kernel)) (ja_cons (je_int) (ja_cons (je_sub (je_var 0 rfl (vbf (by decide +kernel)) (by decide +kernel) (by decide +kernel)) (je_int)) (ja_nil)))) (by decide +kernel)) (by decide)) (ja_nil)) (by decide +kernel) (by decide +kernel)) (fun _ => rfl)))))) (jb_one (js_ret (je_bl))) (jb_nil)) (jb_one (js_ret (je_callB o.all (gf (by decide +kernel)) T.n_all bt_all (ja_cons (je_comp o (own := [("one", 2), ("other", 3)]) (js := [2, 3]) nd_is_lot_of (ji_zip o (gf (by decide +kernel)) T.n_zip (ja_cons (je_var 1 rfl (vf (by decide +kernel)) (by decide +kernel) (by decide +kernel)) (ja_cons (je_slice o (je_var 1 rfl (vf (by decide +kernel)) (by decide +kernel) (by decide +kernel)) (jo_some (je_int)) (jo_none)) (ja_nil)))) (bf (by decide +kernel)) (fun _ _ _ _ _ => jg_tup o.blk.calm o.blk.gk 2 (jgs_cons (jg_name 2 nd_is_lot_of rfl (lb (by decide +kernel)) (fb (by decide +kernel))) (jgs_cons (jg_name 3 nd_is_lot_of rfl (lb (by decide +kernel)) (fb (by decide +kernel))) (jgs_nil))) (gMore_len (gMore_len (gEnd_len)))) (fun _ _ _ _ _ => jts_nil) (fun _ _ _ _ _ => jec o.blk.lt (by rfl) (je_var 2 rfl (vb (by decide +kernel)) (by decide +kernel) (by decide +kernel)) (je_var 3 rfl (vb (by decide +kernel)) (by decide +kernel) (by decide +kernel))) (by decide)) (ja_nil)) (by decide +kernel) (by decide +kernel))))
theorem nd_require_lot_of_ties : (["web", "lot"] : List Str).Nodup := by decide +kernel
theorem fs_require_lot_of_ties : FnScope ["web", "lot"] ["web", "lot"] (defScope st_require_lot_of_ties) := ⟨rfl, rfl, rfl, nd_require_lot_of_ties, rfl, by decide +kernel, by decide +kernel⟩
theorem g_require_lot_of_ties (T : Tx P K mg base a G) : FnG P w K mg base G 5 a.require_lot_of_ties m_require_lot_of_ties := by
  obtain ⟨fd, F⟩ := T.f_require_lot_of_ties
  refine fnG_of (k := 4) F fs_require_lot_of_ties T.gk (fun _ _ _ _ _ _ us hl => match us, hl with | [_, _], _ => rfl) fun cdv A outer s H E o => ?_
  exact jb_cons (js_expr (je_call o (g_require_web T) (by omega) (gf (by decide +kernel)) T.g_require_web T.k_require_web (ja_cons (je_var 0 rfl (vf (by decide +kernel)) (by decide +kernel) (by decide +kernel)) (ja_nil)) (by decide +kernel))) (jb_one (js_if (jt_not (jt_val (je_call o (g_is_lot_of T) (by omega) (gf (by decide +kernel)) T.g_is_lot_of T.k_is_lot_of (ja_cons (je_callB o.len (gf (by decide +kernel)) T.n_len bt_len (ja_cons (je_fld o T.sc_Web T.sl_own_ties (je_var 0 rfl (vf (by decide +kernel)) (by decide +kernel) (by decide +kernel))) (ja_nil)) (by decide +kernel) (by decide +kernel)) (ja_cons (je_var 1 rfl (vf (by decide +kernel)) (by decide +kernel) (by decide +kernel)) (ja_nil))) (by decide +kernel)) (fun _ => rfl))) (jb_one (js_raise o (jm_own T.xp_InvalidLot T.g_InvalidLot (gf (by decide +kernel)) (by decide +kernel)))) (jb_nil)))
theorem nd_require_two_places : (["web", "one", "other"] : List Str).Nodup := by decide +kernel
theorem fs_require_two_places : FnScope ["web", "one", "other"] ["web", "one", "other"] (defScope st_require_two_places) := ⟨rfl, rfl, rfl, nd_require_two_places, rfl, by decide +kernel, by decide +kernel⟩
theorem g_require_two_places (T : Tx P K mg base a G) : FnG P w K mg base G 5 a.require_two_places m_require_two_places := by
  obtain ⟨fd, F⟩ := T.f_require_two_places
  refine fnG_of (k := 4) F fs_require_two_places T.gk (fun _ _ _ _ _ _ us hl => match us, hl with | [_, _, _], _ => rfl) fun cdv A outer s H E o => ?_
  exact jb_cons (js_expr (je_call o (g_require_place T) (by omega) (gf (by decide +kernel)) T.g_require_place T.k_require_place (ja_cons (je_var 0 rfl (vf (by decide +kernel)) (by decide +kernel) (by decide +kernel)) (ja_cons (je_var 1 rfl (vf (by decide +kernel)) (by decide +kernel) (by decide +kernel)) (ja_cons (je_var 2 rfl (vf (by decide +kernel)) (by decide +kernel) (by decide +kernel)) (ja_nil)))) (by decide +kernel))) (jb_one (js_if (jtc o.eq (by rfl) (je_var 1 rfl (vf (by decide +kernel)) (by decide +kernel) (by decide +kernel)) (je_var 2 rfl (vf (by decide +kernel)) (by decide +kernel) (by decide +kernel))) (jb_one (js_raise o (jm_own T.xp_InvalidOperation T.g_InvalidOperation (gf (by decide +kernel)) (by decide +kernel)))) (jb_nil)))
theorem nd_whole_lot : (["web"] : List Str).Nodup := by decide +kernel
theorem fs_whole_lot : FnScope ["web"] ["web"] (defScope st_whole_lot) := ⟨rfl, rfl, rfl, nd_whole_lot, rfl, by decide +kernel, by decide +kernel⟩
theorem g_whole_lot (T : Tx P K mg base a G) : FnG P w K mg base G 1 a.whole_lot m_whole_lot := by
  obtain ⟨fd, F⟩ := T.f_whole_lot
  refine fnG_of (k := 0) F fs_whole_lot T.gk (fun _ _ _ _ _ _ us hl => match us, hl with | [_], _ => rfl) fun cdv A outer s H E o => ?_
  exact jb_one (js_ret (je_tupRg o (gf (by decide +kernel)) T.n_tuple (jrg_1 (gf (by decide +kernel)) T.n_range (je_callB o.len (gf (by decide +kernel)) T.n_len bt_len (ja_cons (je_fld o T.sc_Web T.sl_own_ties (je_var 0 rfl (vf (by decide +kernel)) (by decide +kernel) (by decide +kernel))) (ja_nil)) (by decide +kernel) (by decide +kernel)))))
theorem nd_does_hang_in : (["web", "lot", "one", "other", "inside", "outside", "index", "place"] : List Str).Nodup := by decide +kernel
theorem fs_does_hang_in : FnScope ["web", "lot", "one", "other", "inside", "outside", "index", "place"] ["web", "lot", "one", "other"] (defScope st_does_hang_in) := ⟨rfl, rfl, rfl, nd_does_hang_in, rfl, by decide +kernel, by decide +kernel⟩
theorem g_does_hang_in (T : Tx P K mg base a G) : FnG P w K mg base G 2 a.does_hang_in m_does_hang_in := by
  obtain ⟨fd, F⟩ := T.f_does_hang_in
  refine fnG_of (k := 1) F fs_does_hang_in T.gk (fun _ _ _ _ _ _ us hl => match us, hl with | [_, _, _, _], _ => rfl) fun cdv A outer s H E o => ?_
  exact jb_cons (js_setLc2 o (own := [("index", 6), ("place", 7)]) (js := [6]) (vs1 := [7]) (js1 := [7]) nd_does_hang_in rfl (qf (by decide +kernel)) (sw_true rfl (qf (by decide +kernel)) rfl (by decide +kernel)) (ji_of o (je_var 1 rfl (vfc (by decide +kernel)) (by decide +kernel) (by decide +kernel))) (bf (by decide +kernel)) (fun _ _ _ _ _ => jg_name 6 nd_does_hang_in rfl (lb (by decide +kernel)) (fb (by decide +kernel))) (fun _ _ _ _ _ => jts_nil) (fun _ _ _ _ _ => ji_of o.blk (je_ix o.blk (je_fld o.blk T.sc_Web T.sl_own_ties (je_var 0 rfl (vbf (by decide +kernel)) (by decide +kernel) (by decide +kernel))) (je_var 6 rfl (vb (by decide +kernel)) (by decide +kernel) (by decide +kernel)) (fun _ _ => rfl))) (fun _ _ _ _ _ => jg_name 7 nd_does_hang_in rfl (lb (by decide +kernel)) (fb (by decide +kernel))) (fun _ _ _ _ _ => jts_nil) (fun _ _ _ _ _ => je_var 7 rfl (vb (by decide +kernel)) (by decide +kernel) (by decide +kernel)) (by decide) (by decide) (by decide)) (jb_cons (js_asg (je_comp2 o (own := [("index", 6), ("place", 7)]) (js := [6]) (vs1 := [7]) (js1 := [7]) nd_does_hang_in (ji_of o (je_call o (g_whole_lot T) (by omega) (gf (by decide +kernel)) T.g_whole_lot T.k_whole_lot (ja_cons (je_var 0 rfl (vfc (by decide +kernel)) (by decide +kernel) (by decide +kernel)) (ja_nil)) (by decide +kernel))) (bf (by decide +kernel)) (fun _ _ _ _ _ => jg_name 6 nd_does_hang_in rfl (lb (by decide +kernel)) (fb (by decide +kernel))) (fun _ _ _ _ _ => jts_one (jtc o.blk.notInD (by rfl) (je_var 6 rfl (vb (by decide +kernel)) (by decide +kernel) (by decide +kernel)) (je_var 1 rfl (vbf (by decide +kernel)) (by decide +kernel) (by decide +kernel)))) (fun _ _ _ _ _ => ji_of o.blk (je_ix o.blk (je_fld o.blk T.sc_Web T.sl_own_ties (je_var 0 rfl (vbf (by decide +kernel)) (by decide +kernel) (by decide +kernel))) (je_var 6 rfl (vb (by decide +kernel)) (by decide +kernel) (by decide +kernel)) (fun _ _ => rfl))) (fun _ _ _ _ _ => jg_name 7 nd_does_hang_in rfl (lb (by decide +kernel)) (fb (by decide +kernel))) (fun _ _ _ _ _ => jts_nil) (fun _ _ _ _ _ => je_var 7 rfl (vb (by decide +kernel)) (by decide +kernel) (by decide +kernel)) (by decide) (by decide) (by decide)) (jg_name 5 nd_does_hang_in rfl (lfc (by decide +kernel)) ff)) (jb_one (js_ret (je_callB o.all (gf (by decide +kernel)) T.n_all bt_all (ja_cons (je_comp o (own := [("place", 7)]) (js := [7]) nd_does_hang_in (ji_of o (je_var 4 rfl (vf (by decide +kernel)) (by decide +kernel) (by decide +kernel))) (bf (by decide +kernel)) (fun _ _ _ _ _ => jg_name 7 nd_does_hang_in rfl (lb (by decide +kernel)) (fb (by decide +kernel))) (fun _ _ _ _ _ => jts_one (jtc o.blk.inD (by rfl) (je_var 7 rfl (vb (by decide +kernel)) (by decide +kernel) (by decide +kernel)) (je_var 5 rfl (vbf (by decide +kernel)) (by decide +kernel) (by decide +kernel)))) (fun _ _ _ _ _ => jec o.blk.inD (by rfl) (je_var 7 rfl (vb (by decide +kernel)) (by decide +kernel) (by decide +kernel)) (je_tup (ja_cons (je_var 2 rfl (vbf (by decide +kernel)) (by decide +kernel) (by decide +kernel)) (ja_cons (je_var 3 rfl (vbf (by decide +kernel)) (by decide +kernel) (by decide +kernel)) (ja_nil))))) (by decide)) (ja_nil)) (by decide +kernel) (by decide +kernel)))))
theorem nd_does_hang : (["web", "lot", "one", "other"] : List Str).Nodup := by decide +kernel
theorem fs_does_hang : FnScope ["web", "lot", "one", "other"] ["web", "lot", "one", "other"] (defScope st_does_hang) := ⟨rfl, rfl, rfl, nd_does_hang, rfl, by decide +kernel, by decide +kernel⟩
theorem g_does_hang (T : Tx P K mg base a G) : FnG P w K mg base G 6 a.does_hang m_does_hang := by
  obtain ⟨fd, F⟩ := T.f_does_hang
  refine fnG_of (k := 5) F fs_does_hang T.gk (fun _ _ _ _ _ _ us hl => match us, hl with | [_, _, _, _], _ => rfl) fun cdv A outer s H E o => ?_
  exact jb_cons (js_expr (je_call o (g_require_web T) (by omega) (gf (by decide +kernel)) T.g_require_web T.k_require_web (ja_cons (je_var 0 rfl (vf (by decide +kernel)) (by decide +kernel) (by decide +kernel)) (ja_nil)) (by decide +kernel))) (jb_cons (js_expr (je_call o (g_require_lot_of_ties T) (by omega) (gf (by decide +kernel)) T.g_require_lot_of_ties T.k_require_lot_of_ties (ja_cons (je_var 0 rfl (vf (by decide +kernel)) (by decide +kernel) (by decide +kernel)) (ja_cons (je_var 1 rfl (vf (by decide +kernel)) (by decide +kernel) (by decide +kernel)) (ja_nil))) (by decide +kernel))) (jb_cons (js_expr (je_call o (g_require_two_places T) (by omega) (gf (by decide +kernel)) T.g_require_two_places T.k_require_two_places (ja_cons (je_var 0 rfl (vf (by decide +kernel)) (by decide +kernel) (by decide +kernel)) (ja_cons (je_var 2 rfl (vf (by decide +kernel)) (by decide +kernel) (by decide +kernel)) (ja_cons (je_var 3 rfl (vf (by decide +kernel)) (by decide +kernel) (by decide +kernel)) (ja_nil)))) (by decide +kernel))) (jb_one (js_ret (je_call o (g_does_hang_in T) (by omega) (gf (by decide +kernel)) T.g_does_hang_in T.k_does_hang_in (ja_cons (je_var 0 rfl (vf (by decide +kernel)) (by decide +kernel) (by decide +kernel)) (ja_cons (je_var 1 rfl (vf (by decide +kernel)) (by decide +kernel) (by decide +kernel)) (ja_cons (je_var 2 rfl (vf (by decide +kernel)) (by decide +kernel) (by decide +kernel)) (ja_cons (je_var 3 rfl (vf (by decide +kernel)) (by decide +kernel) (by decide +kernel)) (ja_nil))))) (by decide +kernel))))))
theorem nd_require_hanging : (["web", "lot", "one", "other"] : List Str).Nodup := by decide +kernel
theorem fs_require_hanging : FnScope ["web", "lot", "one", "other"] ["web", "lot", "one", "other"] (defScope st_require_hanging) := ⟨rfl, rfl, rfl, nd_require_hanging, rfl, by decide +kernel, by decide +kernel⟩
theorem g_require_hanging (T : Tx P K mg base a G) : FnG P w K mg base G 6 a.require_hanging m_require_hanging := by
  obtain ⟨fd, F⟩ := T.f_require_hanging
  refine fnG_of (k := 5) F fs_require_hanging T.gk (fun _ _ _ _ _ _ us hl => match us, hl with | [_, _, _, _], _ => rfl) fun cdv A outer s H E o => ?_
  exact jb_cons (js_expr (je_call o (g_require_web T) (by omega) (gf (by decide +kernel)) T.g_require_web T.k_require_web (ja_cons (je_var 0 rfl (vf (by decide +kernel)) (by decide +kernel) (by decide +kernel)) (ja_nil)) (by decide +kernel))) (jb_cons (js_expr (je_call o (g_require_lot_of_ties T) (by omega) (gf (by decide +kernel)) T.g_require_lot_of_ties T.k_require_lot_of_ties (ja_cons (je_var 0 rfl (vf (by decide +kernel)) (by decide +kernel) (by decide +kernel)) (ja_cons (je_var 1 rfl (vf (by decide +kernel)) (by decide +kernel) (by decide +kernel)) (ja_nil))) (by decide +kernel))) (jb_cons (js_expr (je_call o (g_require_two_places T) (by omega) (gf (by decide +kernel)) T.g_require_two_places T.k_require_two_places (ja_cons (je_var 0 rfl (vf (by decide +kernel)) (by decide +kernel) (by decide +kernel)) (ja_cons (je_var 2 rfl (vf (by decide +kernel)) (by decide +kernel) (by decide +kernel)) (ja_cons (je_var 3 rfl (vf (by decide +kernel)) (by decide +kernel) (by decide +kernel)) (ja_nil)))) (by decide +kernel))) (jb_one (js_if (jt_not (jt_val (je_call o (g_does_hang_in T) (by omega) (gf (by decide +kernel)) T.g_does_hang_in T.k_does_hang_in (ja_cons (je_var 0 rfl (vf (by decide +kernel)) (by decide +kernel) (by decide +kernel)) (ja_cons (je_var 1 rfl (vf (by decide +kernel)) (by decide +kernel) (by decide +kernel)) (ja_cons (je_var 2 rfl (vf (by decide +kernel)) (by decide +kernel) (by decide +kernel)) (ja_cons (je_var 3 rfl (vf (by decide +kernel)) (by decide +kernel) (by decide +kernel)) (ja_nil))))) (by decide +kernel)) (fun _ => rfl))) (jb_one (js_raise o (jm_own T.xp_InvalidOperation T.g_InvalidOperation (gf (by decide +kernel)) (by decide +kernel)))) (jb_nil)))))
theorem nd_turned_pairs : (["web", "lot", "one", "other", "names", "found", "index", "tie", "pair", "place"] : List Str).Nodup := by decide +kernel
theorem fs_turned_pairs : FnScope ["web", "lot", "one", "other", "names", "found", "index", "tie", "pair", "place"] ["web", "lot", "one", "other"] (defScope st_turned_pairs) := ⟨rfl, rfl, rfl, nd_turned_pairs, rfl, by decide +kernel, by decide +kernel⟩
theorem g_turned_pairs (T : Tx P K mg base a G) : FnG P w K mg base G 1 a.turned_pairs m_turned_pairs := by
  obtain ⟨fd, F⟩ := T.f_turned_pairs
  refine fnG_of (k := 0) F fs_turned_pairs T.gk (fun _ _ _ _ _ _ us hl => match us, hl with | [_, _, _, _], _ => rfl) fun cdv A outer s H E o => ?_
  exact jb_cons (js_asg (je_dct (jps_cons (je_var 2 rfl (vf (by decide +kernel)) (by decide +kernel) (by decide +kernel)) (je_var 3 rfl (vf (by decide +kernel)) (by decide +kernel) (by decide +kernel)) (jps_cons (je_var 3 rfl (vf (by decide +kernel)) (by decide +kernel) (by decide +kernel)) (je_var 2 rfl (vf (by decide +kernel)) (by decide +kernel) (by decide +kernel)) (jps_nil))) rfl rfl (List.cons_ne_nil _ _) (Nat.le_of_ble_eq_true rfl)) (jg_name 4 nd_turned_pairs rfl (lfc (by decide +kernel)) ff)) (jb_cons (js_asg (je_lstM (ja_nil)) (jg_name 5 nd_turned_pairs rfl (lf (by decide +kernel)) ff)) (jb_cons (js_for o (ji_enumA o (gf (by decide +kernel)) T.n_enumerate (ja_cons (je_fld o T.sc_Web T.sl_own_ties (je_var 0 rfl (vf (by decide +kernel)) (by decide +kernel) (by decide +kernel))) (ja_nil))) (jg_tup o.calm o.gk 2 (jgs_cons (jg_name 6 nd_turned_pairs rfl (lf (by decide +kernel)) ff) (jgs_cons (jg_name 7 nd_turned_pairs rfl (lf (by decide +kernel)) ff) (jgs_nil))) (gMore_len (gMore_len (gEnd_len)))) (jb_cons (js_asg (je_if (jtc o.inD (by rfl) (je_var 6 rfl (vf (by decide +kernel)) (by decide +kernel) (by decide +kernel)) (je_var 1 rfl (vf (by decide +kernel)) (by decide +kernel) (by decide +kernel))) (je_comp o (own := [("place", 9)]) (js := [9]) nd_turned_pairs (ji_of o (je_var 7 rfl (vf (by decide +kernel)) (by decide +kernel) (by decide +kernel))) (bf (by decide +kernel)) (fun _ _ _ _ _ => jg_name 9 nd_turned_pairs rfl (lb (by decide +kernel)) (fb (by decide +kernel))) (fun _ _ _ _ _ => jts_nil) (fun _ _ _ _ _ => je_dget2 o.blk (je_var 4 rfl (vbf (by decide +kernel)) (by decide +kernel) (by decide +kernel)) (je_var 9 rfl (vb (by decide +kernel)) (by decide +kernel) (by decide +kernel)) (je_var 9 rfl (vb (by decide +kernel)) (by decide +kernel) (by decide +kernel))) (by decide)) (je_callTy o.listS (gf (by decide +kernel)) T.n_list bt_list (ja_cons (je_var 7 rfl (vf (by decide +kernel)) (by decide +kernel) (by decide +kernel)) (ja_nil)) (by decide +kernel) (by decide +kernel))) (jg_name 8 nd_turned_pairs rfl (lf (by decide +kernel)) ff)) (jb_one (js_expr (je_append o (je_var 5 rfl (vf (by decide +kernel)) (by decide +kernel) (by decide +kernel)) (je_tup (ja_cons (je_callB o.min1 (gf (by decide +kernel)) T.n_min bt_min (ja_cons (je_var 8 rfl (vf (by decide +kernel)) (by decide +kernel) (by decide +kernel)) (ja_nil)) (by decide +kernel) (by decide +kernel)) (ja_cons (je_callB o.max1 (gf (by decide +kernel)) T.n_max bt_max (ja_cons (je_var 8 rfl (vf (by decide +kernel)) (by decide +kernel) (by decide +kernel)) (ja_nil)) (by decide +kernel) (by decide +kernel)) (ja_nil))))))))) (jb_one (js_ret (je_var 5 rfl (vf (by decide +kernel)) (by decide +kernel) (by decide +kernel))))))
theorem nd_turned_part : (["web", "lot", "one", "other"] : List Str).Nodup := by decide +kernel
theorem fs_turned_part : FnScope ["web", "lot", "one", "other"] ["web", "lot", "one", "other"] (defScope st_turned_part) := ⟨rfl, rfl, rfl, nd_turned_part, rfl, by decide +kernel, by decide +kernel⟩
theorem g_turned_part (T : Tx P K mg base a G) : FnG P w K mg base G 7 a.turned_part m_turned_part := by
  obtain ⟨fd, F⟩ := T.f_turned_part
  refine fnG_of (k := 6) F fs_turned_part T.gk (fun _ _ _ _ _ _ us hl => match us, hl with | [_, _, _, _], _ => rfl) fun cdv A outer s H E o => ?_
  exact jb_cons (js_expr (je_call o (g_require_hanging T) (by omega) (gf (by decide +kernel)) T.g_require_hanging T.k_require_hanging (ja_cons (je_var 0 rfl (vf (by decide +kernel)) (by decide +kernel) (by decide +kernel)) (ja_cons (je_var 1 rfl (vf (by decide +kernel)) (by decide +kernel) (by decide +kernel)) (ja_cons (je_var 2 rfl (vf (by decide +kernel)) (by decide +kernel) (by decide +kernel)) (ja_cons (je_var 3 rfl (vf (by decide +kernel)) (by decide +kernel) (by decide +kernel)) (ja_nil))))) (by decide +kernel))) (jb_one (js_ret (je_mk o T.mk_Web T.sc_Web.cls (g_Web_init T) (by omega) (gf (by decide +kernel)) T.g_Web (ja_cons (je_fld o T.sc_Web T.sl_own_size (je_var 0 rfl (vf (by decide +kernel)) (by decide +kernel) (by decide +kernel))) (ja_cons (je_callTy o.tuple (gf (by decide +kernel)) T.n_tuple bt_tuple (ja_cons (je_callB o.sortedU (gf (by decide +kernel)) T.n_sorted bt_sorted (ja_cons (je_call o (g_turned_pairs T) (by omega) (gf (by decide +kernel)) T.g_turned_pairs T.k_turned_pairs (ja_cons (je_var 0 rfl (vf (by decide +kernel)) (by decide +kernel) (by decide +kernel)) (ja_cons (je_var 1 rfl (vf (by decide +kernel)) (by decide +kernel) (by decide +kernel)) (ja_cons (je_var 2 rfl (vf (by decide +kernel)) (by decide +kernel) (by decide +kernel)) (ja_cons (je_var 3 rfl (vf (by decide +kernel)) (by decide +kernel) (by decide +kernel)) (ja_nil))))) (by decide +kernel)) (ja_nil)) (by decide +kernel) (by decide +kernel)) (ja_nil)) (by decide +kernel) (by decide +kernel)) (ja_nil))) (by decide +kernel))))
theorem nd_turn_in : (["web", "lot", "one", "other", "row", "pairs", "index"] : List Str).Nodup := by decide +kernel
theorem fs_turn_in : FnScope ["web", "lot", "one", "other", "row", "pairs", "index"] ["web", "lot", "one", "other"] (defScope st_turn_in) := ⟨rfl, rfl, rfl, nd_turn_in, rfl, by decide +kernel, by decide +kernel⟩
theorem g_turn_in (T : Tx P K mg base a G) : FnG P w K mg base G 4 a.turn_in m_turn_in := by
  obtain ⟨fd, F⟩ := T.f_turn_in
  refine fnK_of (k := 3) F T.kc_turn_in fs_turn_in T.gk (fun _ _ _ _ _ _ us hl => match us, hl with | [_, _, _, _], _ => rfl) fun A outer s H E o => ?_
  exact jb_cons (js_asg (je_call o (g_turned_pairs T) (by omega) (gf (by decide +kernel)) T.g_turned_pairs T.k_turned_pairs (ja_cons (je_var 0 rfl (vf (by decide +kernel)) (by decide +kernel) (by decide +kernel)) (ja_cons (je_var 1 rfl (vf (by decide +kernel)) (by decide +kernel) (by decide +kernel)) (ja_cons (je_var 2 rfl (vf (by decide +kernel)) (by decide +kernel) (by decide +kernel)) (ja_cons (je_var 3 rfl (vf (by decide +kernel)) (by decide +kernel) (by decide +kernel)) (ja_nil))))) (by decide +kernel)) (jg_name 5 nd_turn_in rfl (lfc (by decide +kernel)) ff)) (jb_cons (js_asg (je_sortIx (k := 0) o 5 6 (lamQ T.b_turn_in T.lm_turn_in T.lo_turn_in) (ltf (by decide +kernel)) nd_turn_in rfl rfl rfl (by decide) rfl (fun _ _ _ _ _ _ _ => rfl) (gf (by decide +kernel)) T.n_sorted (je_call o (g_whole_lot T) (by omega) (gf (by decide +kernel)) T.g_whole_lot T.k_whole_lot (ja_cons (je_var 0 rfl (vf (by decide +kernel)) (by decide +kernel) (by decide +kernel)) (ja_nil)) (by decide +kernel))) (jg_name 4 nd_turn_in rfl (lfc (by decide +kernel)) ff)) (jb_one (js_ret (je_callTy o.tuple (gf (by decide +kernel)) T.n_tuple bt_tuple (ja_cons (je_comp o (own := [("index", 6)]) (js := [6]) nd_turn_in (ji_of o (je_call o (g_whole_lot T) (by omega) (gf (by decide +kernel)) T.g_whole_lot T.k_whole_lot (ja_cons (je_var 0 rfl (vf (by decide +kernel)) (by decide +kernel) (by decide +kernel)) (ja_nil)) (by decide +kernel))) (bf (by decide +kernel)) (fun _ _ _ _ _ => jg_name 6 nd_turn_in rfl (lb (by decide +kernel)) (fb (by decide +kernel))) (fun _ _ _ _ _ => jts_nil) (fun _ _ _ _ _ => je_meth o.blk.gk (mtIndex o.blk.gk o.blk.u65) (je_var 4 rfl (vbf (by decide +kernel)) (by decide +kernel) (by decide +kernel)) (ja_cons (je_var 6 rfl (vb (by decide +kernel)) (by decide +kernel) (by decide +kernel)) (ja_nil))) (by decide)) (ja_nil)) (by decide +kernel) (by decide +kernel)))))
theorem nd_turn_names : (["web", "lot", "one", "other"] : List Str).Nodup := by decide +kernel
theorem fs_turn_names : FnScope ["web", "lot", "one", "other"] ["web", "lot", "one", "other"] (defScope st_turn_names) := ⟨rfl, rfl, rfl, nd_turn_names, rfl, by decide +kernel, by decide +kernel⟩
theorem g_turn_names (T : Tx P K mg base a G) : FnG P w K mg base G 7 a.turn_names m_turn_names := by
  obtain ⟨fd, F⟩ := T.f_turn_names
  refine fnG_of (k := 6) F fs_turn_names T.gk (fun _ _ _ _ _ _ us hl => match us, hl with | [_, _, _, _], _ => rfl) fun cdv A outer s H E o => ?_
  exact jb_cons (js_expr (je_call o (g_require_hanging T) (by omega) (gf (by decide +kernel)) T.g_require_hanging T.k_require_hanging (ja_cons (je_var 0 rfl (vf (by decide +kernel)) (by decide +kernel) (by decide +kernel)) (ja_cons (je_var 1 rfl (vf (by decide +kernel)) (by decide +kernel) (by decide +kernel)) (ja_cons (je_var 2 rfl (vf (by decide +kernel)) (by decide +kernel) (by decide +kernel)) (ja_cons (je_var 3 rfl (vf (by decide +kernel)) (by decide +kernel) (by decide +kernel)) (ja_nil))))) (by decide +kernel))) (jb_one (js_ret (je_call o (g_turn_in T) (by omega) (gf (by decide +kernel)) T.g_turn_in T.k_turn_in (ja_cons (je_var 0 rfl (vf (by decide +kernel)) (by decide +kernel) (by decide +kernel)) (ja_cons (je_var 1 rfl (vf (by decide +kernel)) (by decide +kernel) (by decide +kernel)) (ja_cons (je_var 2 rfl (vf (by decide +kernel)) (by decide +kernel) (by decide +kernel)) (ja_cons (je_var 3 rfl (vf (by decide +kernel)) (by decide +kernel) (by decide +kernel)) (ja_nil))))) (by decide +kernel))))
theorem nd_pieces_in : (["size", "pairs", "pieces", "one", "other", "near", "whole", "place", "piece"] : List Str).Nodup := by decide +kernel
theorem fs_pieces_in : FnScope ["size", "pairs", "pieces", "one", "other", "near", "whole", "place", "piece"] ["size", "pairs"] (defScope st_pieces_in) := ⟨rfl, rfl, rfl, nd_pieces_in, rfl, by decide +kernel, by decide +kernel⟩
theorem g_pieces_in (T : Tx P K mg base a G) : FnG P w K mg base G 1 a.pieces_in m_pieces_in := by
  obtain ⟨fd, F⟩ := T.f_pieces_in
  refine fnG_of (k := 0) F fs_pieces_in T.gk (fun _ _ _ _ _ _ us hl => match us, hl with | [_, _], _ => rfl) fun cdv A outer s H E o => ?_
  exact jb_cons (js_setLc o (own := [("place", 7)]) (js := [7]) nd_pieces_in rfl (qf (by decide +kernel)) (sw_true rfl (qf (by decide +kernel)) rfl (by decide +kernel)) (ji_range1 (gf (by decide +kernel)) T.n_range (ja_cons (je_var 0 rfl (vf (by decide +kernel)) (by decide +kernel) (by decide +kernel)) (ja_nil))) (bf (by decide +kernel)) (fun _ _ _ _ _ => jg_name 7 nd_pieces_in rfl (lb (by decide +kernel)) (fb (by decide +kernel))) (fun _ _ _ _ _ => jts_nil) (fun _ _ _ _ _ => je_tup (ja_cons (je_var 7 rfl (vb (by decide +kernel)) (by decide +kernel) (by decide +kernel)) (ja_nil))) (by decide)) (jb_cons (js_for o (ji_of o (je_var 1 rfl (vf (by decide +kernel)) (by decide +kernel) (by decide +kernel))) (jg_tup o.calm o.gk 2 (jgs_cons (jg_name 3 nd_pieces_in rfl (lfc (by decide +kernel)) ff) (jgs_cons (jg_name 4 nd_pieces_in rfl (lfc (by decide +kernel)) ff) (jgs_nil))) (gMore_len (gMore_len (gEnd_len)))) (jb_cons (js_asg (je_comp o (own := [("piece", 8)]) (js := [8]) nd_pieces_in (ji_of o (je_var 2 rfl (vf (by decide +kernel)) (by decide +kernel) (by decide +kernel))) (bf (by decide +kernel)) (fun _ _ _ _ _ => jg_name 8 nd_pieces_in rfl (lb (by decide +kernel)) (fb (by decide +kernel))) (fun _ _ _ _ _ => jts_one (jt_w (jw_or (jtc o.blk.inD (by rfl) (je_var 3 rfl (vbf (by decide +kernel)) (by decide +kernel) (by decide +kernel)) (je_var 8 rfl (vb (by decide +kernel)) (by decide +kernel) (by decide +kernel))) (jw_or1 (jtc o.blk.inD (by rfl) (je_var 4 rfl (vbf (by decide +kernel)) (by decide +kernel) (by decide +kernel)) (je_var 8 rfl (vb (by decide +kernel)) (by decide +kernel) (by decide +kernel))))))) (fun _ _ _ _ _ => je_var 8 rfl (vb (by decide +kernel)) (by decide +kernel) (by decide +kernel)) (by decide)) (jg_name 5 nd_pieces_in rfl (lfc (by decide +kernel)) ff)) (jb_cons (js_asg (je_callTy o.tuple (gf (by decide +kernel)) T.n_tuple bt_tuple (ja_cons (je_callB o.sortedU (gf (by decide +kernel)) T.n_sorted bt_sorted (ja_cons (je_comp2 o (own := [("piece", 8), ("place", 7)]) (js := [8]) (vs1 := [7]) (js1 := [7]) nd_pieces_in (ji_of o (je_var 5 rfl (vfc (by decide +kernel)) (by decide +kernel) (by decide +kernel))) (bf (by decide +kernel)) (fun _ _ _ _ _ => jg_name 8 nd_pieces_in rfl (lb (by decide +kernel)) (fb (by decide +kernel))) (fun _ _ _ _ _ => jts_nil) (fun _ _ _ _ _ => ji_of o.blk (je_var 8 rfl (vb (by decide +kernel)) (by decide +kernel) (by decide +kernel))) (fun _ _ _ _ _ => jg_name 7 nd_pieces_in rfl (lb (by decide +kernel)) (fb (by decide +kernel))) (fun _ _ _ _ _ => jts_nil) (fun _ _ _ _ _ => je_var 7 rfl (vb (by decide +kernel)) (by decide +kernel) (by decide +kernel)) (by decide) (by decide) (by decide)) (ja_nil)) (by decide +kernel) (by decide +kernel)) (ja_nil)) (by decide +kernel) (by decide +kernel)) (jg_name 6 nd_pieces_in rfl (lf (by decide +kernel)) ff)) (jb_one (js_asg (je_add o (je_comp o (own := [("piece", 8)]) (js := [8]) nd_pieces_in (ji_of o (je_var 2 rfl (vf (by decide +kernel)) (by decide +kernel) (by decide +kernel))) (bf (by decide +kernel)) (fun _ _ _ _ _ => jg_name 8 nd_pieces_in rfl (lb (by decide +kernel)) (fb (by decide +kernel))) (fun _ _ _ _ _ => jts_one (jtc o.blk.notInD (by rfl) (je_var 8 rfl (vb (by decide +kernel)) (by decide +kernel) (by decide +kernel)) (je_var 5 rfl (vbf (by decide +kernel)) (by decide +kernel) (by decide +kernel)))) (fun _ _ _ _ _ => je_var 8 rfl (vb (by decide +kernel)) (by decide +kernel) (by decide +kernel)) (by decide)) (je_lst (ja_cons (je_var 6 rfl (vf (by decide +kernel)) (by decide +kernel) (by decide +kernel)) (ja_nil)))) (jg_name 2 nd_pieces_in rfl (lf (by decide +kernel)) ff)))))) (jb_one (js_ret (je_callB o.sortedU (gf (by decide +kernel)) T.n_sorted bt_sorted (ja_cons (je_var 2 rfl (vf (by decide +kernel)) (by decide +kernel) (by decide +kernel)) (ja_nil)) (by decide +kernel) (by decide +kernel)))))
theorem nd_hanging_in : (["web", "one", "other", "pairs", "found", "piece", "ties", "known", "tie", "index", "lot"] : List Str).Nodup := by decide +kernel
theorem fs_hanging_in : FnScope ["web", "one", "other", "pairs", "found", "piece", "ties", "known", "tie", "index", "lot"] ["web", "one", "other"] (defScope st_hanging_in) := ⟨rfl, rfl, rfl, nd_hanging_in, rfl, by decide +kernel, by decide +kernel⟩
theorem g_hanging_in (T : Tx P K mg base a G) : FnG P w K mg base G 2 a.hanging_in m_hanging_in := by
  obtain ⟨fd, F⟩ := T.f_hanging_in
  refine fnG_of (k := 1) F fs_hanging_in T.gk (fun _ _ _ _ _ _ us hl => match us, hl with | [_, _, _], _ => rfl) fun cdv A outer s H E o => ?_
  exact jb_cons (js_setLc o (own := [("tie", 8)]) (js := [8]) nd_hanging_in rfl (qf (by decide +kernel)) (sw_true rfl (qf (by decide +kernel)) rfl (by decide +kernel)) (ji_of o (je_fld o T.sc_Web T.sl_own_ties (je_var 0 rfl (vf (by decide +kernel)) (by decide +kernel) (by decide +kernel)))) (bf (by decide +kernel)) (fun _ _ _ _ _ => jg_name 8 nd_hanging_in rfl (lb (by decide +kernel)) (fb (by decide +kernel))) (fun _ _ _ _ _ => jts_one (jt_w (jw_and (jtc o.blk.notInD (by rfl) (je_ix o.blk (je_var 8 rfl (vb (by decide +kernel)) (by decide +kernel) (by decide +kernel)) (je_int) (fun _ _ => rfl)) (je_tup (ja_cons (je_var 1 rfl (vbf (by decide +kernel)) (by decide +kernel) (by decide +kernel)) (ja_cons (je_var 2 rfl (vbf (by decide +kernel)) (by decide +kernel) (by decide +kernel)) (ja_nil))))) (jw_and1 (jtc o.blk.notInD (by rfl) (je_ix o.blk (je_var 8 rfl (vb (by decide +kernel)) (by decide +kernel) (by decide +kernel)) (je_int) (fun _ _ => rfl)) (je_tup (ja_cons (je_var 1 rfl (vbf (by decide +kernel)) (by decide +kernel) (by decide +kernel)) (ja_cons (je_var 2 rfl (vbf (by decide +kernel)) (by decide +kernel) (by decide +kernel)) (ja_nil))))))))) (fun _ _ _ _ _ => je_var 8 rfl (vb (by decide +kernel)) (by decide +kernel) (by decide +kernel)) (by decide)) (jb_frz (js_asg (je_lstM (ja_nil)) (jg_name 4 nd_hanging_in rfl (lf (by decide +kernel)) ff)) (js_for o (ji_of o (je_call o (g_pieces_in T) (by omega) (gf (by decide +kernel)) T.g_pieces_in T.k_pieces_in (ja_cons (je_fld o T.sc_Web T.sl_own_size (je_var 0 rfl (vf (by decide +kernel)) (by decide +kernel) (by decide +kernel))) (ja_cons (je_var 3 rfl (vf (by decide +kernel)) (by decide +kernel) (by decide +kernel)) (ja_nil))) (by decide +kernel))) (jg_name 5 nd_hanging_in rfl (lfc (by decide +kernel)) ff) (jb_cons (js_setLc o (own := [("index", 9), ("tie", 8)]) (js := [9, 8]) nd_hanging_in rfl (qf (by decide +kernel)) (sw_true rfl (qf (by decide +kernel)) rfl (by decide +kernel)) (ji_enumA o (gf (by decide +kernel)) T.n_enumerate (ja_cons (je_fld o T.sc_Web T.sl_own_ties (je_var 0 rfl (vf (by decide +kernel)) (by decide +kernel) (by decide +kernel))) (ja_nil))) (bf (by decide +kernel)) (fun _ _ _ _ _ => jg_tup o.blk.calm o.blk.gk 2 (jgs_cons (jg_name 9 nd_hanging_in rfl (lb (by decide +kernel)) (fb (by decide +kernel))) (jgs_cons (jg_name 8 nd_hanging_in rfl (lb (by decide +kernel)) (fb (by decide +kernel))) (jgs_nil))) (gMore_len (gMore_len (gEnd_len)))) (fun _ _ _ _ _ => jts_one (jt_w (jw_or (jtc o.blk.inD (by rfl) (je_ix o.blk (je_var 8 rfl (vb (by decide +kernel)) (by decide +kernel) (by decide +kernel)) (je_int) (fun _ _ => rfl)) (je_var 5 rfl (vbf (by decide +kernel)) (by decide +kernel) (by decide +kernel))) (jw_or1 (jtc o.blk.inD (by rfl) (je_ix o.blk (je_var 8 rfl (vb (by decide +kernel)) (by decide +kernel) (by decide +kernel)) (je_int) (fun _ _ => rfl)) (je_var 5 rfl (vbf (by decide +kernel)) (by decide +kernel) (by decide +kernel))))))) (fun _ _ _ _ _ => je_var 9 rfl (vb (by decide +kernel)) (by decide +kernel) (by decide +kernel)) (by decide)) (jb_one (js_if (jt_w (jw_and (jtc o.ne (by rfl) (je_var 6 rfl (vf (by decide +kernel)) (by decide +kernel) (by decide +kernel)) (je_lst (ja_nil))) (jw_and (jtc o.notInD (by rfl) (je_var 1 rfl (vfc (by decide +kernel)) (by decide +kernel) (by decide +kernel)) (je_var 5 rfl (vfc (by decide +kernel)) (by decide +kernel) (by decide +kernel))) (jw_and1 (jtc o.notInD (by rfl) (je_var 2 rfl (vfc (by decide +kernel)) (by decide +kernel) (by decide +kernel)) (je_var 5 rfl (vfc (by decide +kernel)) (by decide +kernel) (by decide +kernel))))))) (jb_one (js_expr (je_append o (je_var 4 rfl (vf (by decide +kernel)) (by decide +kernel) (by decide +kernel)) (je_callTy o.tuple (gf (by decide +kernel)) T.n_tuple bt_tuple (ja_cons (je_var 6 rfl (vf (by decide +kernel)) (by decide +kernel) (by decide +kernel)) (ja_nil)) (by decide +kernel) (by decide +kernel))))) (jb_nil))))) (jb_cons (js_asg (je_comp2 o (own := [("lot", 10), ("index", 9)]) (js := [10]) (vs1 := [9]) (js1 := [9]) nd_hanging_in (ji_of o (je_var 4 rfl (vf (by decide +kernel)) (by decide +kernel) (by decide +kernel))) (bf (by decide +kernel)) (fun _ _ _ _ _ => jg_name 10 nd_hanging_in rfl (lb (by decide +kernel)) (fb (by decide +kernel))) (fun _ _ _ _ _ => jts_nil) (fun _ _ _ _ _ => ji_of o.blk (je_var 10 rfl (vb (by decide +kernel)) (by decide +kernel) (by decide +kernel))) (fun _ _ _ _ _ => jg_name 9 nd_hanging_in rfl (lb (by decide +kernel)) (fb (by decide +kernel))) (fun _ _ _ _ _ => jts_nil) (fun _ _ _ _ _ => je_var 9 rfl (vb (by decide +kernel)) (by decide +kernel) (by decide +kernel)) (by decide) (by decide) (by decide)) (jg_name 7 nd_hanging_in rfl (lfc (by decide +kernel)) ff)) (jb_one (js_ret (je_callB o.sortedU (gf (by decide +kernel)) T.n_sorted bt_sorted (ja_cons (je_lst (ja_star o (je_var 4 rfl (vf (by decide +kernel)) (by decide +kernel) (by decide +kernel)) (ja_star o (je_comp o (own := [("index", 9)]) (js := [9]) nd_hanging_in (ji_of o (je_call o (g_whole_lot T) (by omega) (gf (by decide +kernel)) T.g_whole_lot T.k_whole_lot (ja_cons (je_var 0 rfl (vf (by decide +kernel)) (by decide +kernel) (by decide +kernel)) (ja_nil)) (by decide +kernel))) (bf (by decide +kernel)) (fun _ _ _ _ _ => jg_name 9 nd_hanging_in rfl (lb (by decide +kernel)) (fb (by decide +kernel))) (fun _ _ _ _ _ => jts_one (jtc o.blk.notInD (by rfl) (je_var 9 rfl (vb (by decide +kernel)) (by decide +kernel) (by decide +kernel)) (je_var 7 rfl (vbf (by decide +kernel)) (by decide +kernel) (by decide +kernel)))) (fun _ _ _ _ _ => je_tup (ja_cons (je_var 9 rfl (vb (by decide +kernel)) (by decide +kernel) (by decide +kernel)) (ja_nil))) (by decide)) (ja_nil)))) (ja_nil)) (by decide +kernel) (by decide +kernel))))))
theorem nd_hanging_lots : (["web", "one", "other"] : List Str).Nodup := by decide +kernel
theorem fs_hanging_lots : FnScope ["web", "one", "other"] ["web", "one", "other"] (defScope st_hanging_lots) := ⟨rfl, rfl, rfl, nd_hanging_lots, rfl, by decide +kernel, by decide +kernel⟩
theorem g_hanging_lots (T : Tx P K mg base a G) : FnG P w K mg base G 6 a.hanging_lots m_hanging_lots := by
  obtain ⟨fd, F⟩ := T.f_hanging_lots
  refine fnG_of (k := 5) F fs_hanging_lots T.gk (fun _ _ _ _ _ _ us hl => match us, hl with | [_, _, _], _ => rfl) fun cdv A outer s H E o => ?_
  exact jb_cons (js_expr (je_call o (g_require_web T) (by omega) (gf (by decide +kernel)) T.g_require_web T.k_require_web (ja_cons (je_var 0 rfl (vf (by decide +kernel)) (by decide +kernel) (by decide +kernel)) (ja_nil)) (by decide +kernel))) (jb_cons (js_expr (je_call o (g_require_two_places T) (by omega) (gf (by decide +kernel)) T.g_require_two_places T.k_require_two_places (ja_cons (je_var 0 rfl (vf (by decide +kernel)) (by decide +kernel) (by decide +kernel)) (ja_cons (je_var 1 rfl (vf (by decide +kernel)) (by decide +kernel) (by decide +kernel)) (ja_cons (je_var 2 rfl (vf (by decide +kernel)) (by decide +kernel) (by decide +kernel)) (ja_nil)))) (by decide +kernel))) (jb_one (js_ret (je_callTy o.tuple (gf (by decide +kernel)) T.n_tuple bt_tuple (ja_cons (je_call o (g_hanging_in T) (by omega) (gf (by decide +kernel)) T.g_hanging_in T.k_hanging_in (ja_cons (je_var 0 rfl (vf (by decide +kernel)) (by decide +kernel) (by decide +kernel)) (ja_cons (je_var 1 rfl (vf (by decide +kernel)) (by decide +kernel) (by decide +kernel)) (ja_cons (je_var 2 rfl (vf (by decide +kernel)) (by decide +kernel) (by decide +kernel)) (ja_nil)))) (by decide +kernel)) (ja_nil)) (by decide +kernel) (by decide +kernel)))))
theorem nd_law_hung : (["web", "lot", "one", "other", "told"] : List Str).Nodup := by decide +kernel
theorem fs_law_hung : FnScope ["web", "lot", "one", "other", "told"] ["web", "lot", "one", "other"] (defScope st_law_hung) := ⟨rfl, rfl, rfl, nd_law_hung, rfl, by decide +kernel, by decide +kernel⟩
theorem g_law_hung (T : Tx P K mg base a G) (N : G.lam = none) : FnG P w K mg base G 10 a.law_hung m_law_hung := by
  obtain ⟨fd, F⟩ := T.f_law_hung
  refine fnK_of (k := 9) F T.kc_law_hung fs_law_hung T.gk (fun _ _ _ _ _ _ us hl => match us, hl with | [_, _, _, _], _ => rfl) fun A outer s H E o => ?_
  exact jb_cons (js_asg (je_lstM (ja_cons (je_callL0 o (g_law_met T N) (by omega) (gf (by decide +kernel)) T.g_law_met T.k_law_met (lamE0 (kk := 6) o.gk (lamQ T.b_law_hung T.lm_law_hung T.lo_law_hung) (ltf (by decide +kernel)) rfl (fun _ _ _ _ _ _ => rfl) (fun _ _ _ _ _ _ _ ol => jec ol.is (by rfl) (je_call ol (g_does_hang T) (by omega) (gl (by decide +kernel)) T.g_does_hang T.k_does_hang (ja_cons (je_var 0 rfl (vlf (by decide +kernel)) (by decide +kernel) (by decide +kernel)) (ja_cons (je_var 1 rfl (vlf (by decide +kernel)) (by decide +kernel) (by decide +kernel)) (ja_cons (je_var 2 rfl (vlf (by decide +kernel)) (by decide +kernel) (by decide +kernel)) (ja_cons (je_var 3 rfl (vlf (by decide +kernel)) (by decide +kernel) (by decide +kernel)) (ja_nil))))) (by decide +kernel)) (je_non))) (by decide +kernel)) (ja_nil))) (jg_name 4 nd_law_hung rfl (lf (by decide +kernel)) ff)) (jb_cons (js_expr (je_append o (je_var 4 rfl (vf (by decide +kernel)) (by decide +kernel) (by decide +kernel)) (je_callL0 o (g_law_met T N) (by omega) (gf (by decide +kernel)) T.g_law_met T.k_law_met (lamE0 (kk := 7) o.gk (lamQ T.b_law_hung T.lm_law_hung T.lo_law_hung) (ltf (by decide +kernel)) rfl (fun _ _ _ _ _ _ => rfl) (fun _ _ _ _ _ _ _ ol => jec ol.is (by rfl) (je_call ol (g_turned_part T) (by omega) (gl (by decide +kernel)) T.g_turned_part T.k_turned_part (ja_cons (je_var 0 rfl (vlf (by decide +kernel)) (by decide +kernel) (by decide +kernel)) (ja_cons (je_var 1 rfl (vlf (by decide +kernel)) (by decide +kernel) (by decide +kernel)) (ja_cons (je_var 2 rfl (vlf (by decide +kernel)) (by decide +kernel) (by decide +kernel)) (ja_cons (je_var 3 rfl (vlf (by decide +kernel)) (by decide +kernel) (by decide +kernel)) (ja_nil))))) (by decide +kernel)) (je_non))) (by decide +kernel)))) (jb_cons (js_expr (je_append o (je_var 4 rfl (vf (by decide +kernel)) (by decide +kernel) (by decide +kernel)) (je_callL0 o (g_law_met T N) (by omega) (gf (by decide +kernel)) T.g_law_met T.k_law_met (lamE0 (kk := 7) o.gk (lamQ T.b_law_hung T.lm_law_hung T.lo_law_hung) (ltf (by decide +kernel)) rfl (fun _ _ _ _ _ _ => rfl) (fun _ _ _ _ _ _ _ ol => jec ol.is (by rfl) (je_call ol (g_turn_names T) (by omega) (gl (by decide +kernel)) T.g_turn_names T.k_turn_names (ja_cons (je_var 0 rfl (vlf (by decide +kernel)) (by decide +kernel) (by decide +kernel)) (ja_cons (je_var 1 rfl (vlf (by decide +kernel)) (by decide +kernel) (by decide +kernel)) (ja_cons (je_var 2 rfl (vlf (by decide +kernel)) (by decide +kernel) (by decide +kernel)) (ja_cons (je_var 3 rfl (vlf (by decide +kernel)) (by decide +kernel) (by decide +kernel)) (ja_nil))))) (by decide +kernel)) (je_non))) (by decide +kernel)))) (jb_cons (js_expr (je_append o (je_var 4 rfl (vf (by decide +kernel)) (by decide +kernel) (by decide +kernel)) (je_callL0 o (g_law_met T N) (by omega) (gf (by decide +kernel)) T.g_law_met T.k_law_met (lamE0 (kk := 6) o.gk (lamQ T.b_law_hung T.lm_law_hung T.lo_law_hung) (ltf (by decide +kernel)) rfl (fun _ _ _ _ _ _ => rfl) (fun _ _ _ _ _ _ _ ol => jec ol.is (by rfl) (je_call ol (g_hanging_lots T) (by omega) (gl (by decide +kernel)) T.g_hanging_lots T.k_hanging_lots (ja_cons (je_var 0 rfl (vlf (by decide +kernel)) (by decide +kernel) (by decide +kernel)) (ja_cons (je_var 2 rfl (vlf (by decide +kernel)) (by decide +kernel) (by decide +kernel)) (ja_cons (je_var 3 rfl (vlf (by decide +kernel)) (by decide +kernel) (by decide +kernel)) (ja_nil)))) (by decide +kernel)) (je_non))) (by decide +kernel)))) (jb_one (js_ret (je_var 4 rfl (vf (by decide +kernel)) (by decide +kernel) (by decide +kernel)))))))
theorem nd_law_right : (["jar", "web", "whole", "none", "one", "far", "lot", "many"] : List Str).Nodup := by decide +kernel
theorem fs_law_right : FnScope ["jar", "web", "whole", "none", "one", "far", "lot", "many"] ["jar"] (defScope st_law_right) := ⟨rfl, rfl, rfl, nd_law_right, rfl, by decide +kernel, by decide +kernel⟩
theorem g_law_right (T : Tx P K mg base a G) (N : G.lam = none) : FnG P w K mg base G 12 a.law_right m_law_right := by
  obtain ⟨fd, F⟩ := T.f_law_right
  refine fnG_of (k := 11) F fs_law_right T.gk (fun _ _ _ _ _ _ us hl => match us, hl with | [_], _ => rfl) fun cdv A outer s H E o => ?_
  exact jb_cons (js_par o (i := 1) (j := 2) nd_law_right rfl rfl (by decide) (qf (by decide +kernel)) (qf (by decide +kernel)) (ja_cons (je_mk o T.mk_Web T.sc_Web.cls (g_Web_init T) (by omega) (gf (by decide +kernel)) T.g_Web (ja_cons (je_int) (ja_cons (je_tup (ja_cons (je_tup (ja_cons (je_int) (ja_cons (je_int) (ja_nil)))) (ja_cons (je_tup (ja_cons (je_int) (ja_cons (je_int) (ja_nil)))) (ja_cons (je_tup (ja_cons (je_int) (ja_cons (je_int) (ja_nil)))) (ja_nil))))) (ja_nil))) (by decide +kernel)) (ja_cons (je_tup (ja_cons (je_str ⟨#[116, 111, 108, 100]⟩ (by decide +kernel)) (ja_cons (je_bl) (ja_nil)))) ja_nil)) (by rfl)) (jb_cons (js_asg (je_call o (g_law_one T) (by omega) (gf (by decide +kernel)) T.g_law_one T.k_law_one (ja_cons (je_var 0 rfl (vf (by decide +kernel)) (by decide +kernel) (by decide +kernel)) (ja_cons (je_lst (ja_cons (je_non) (ja_cons (je_int) (ja_cons (je_str ⟨#[119, 101, 98]⟩ (by decide +kernel)) (ja_cons (je_tup (ja_cons (je_int) (ja_cons (je_tup (ja_nil)) (ja_nil)))) (ja_cons (je_lst (ja_nil)) (ja_cons (je_dct0) (ja_nil)))))))) (ja_nil))) (by decide +kernel)) (jg_name 3 nd_law_right rfl (lf (by decide +kernel)) ff)) (jb_cons (js_par o (i := 4) (j := 5) nd_law_right rfl rfl (by decide) (qf (by decide +kernel)) (qf (by decide +kernel)) (ja_cons (je_call o (g_law_one T) (by omega) (gf (by decide +kernel)) T.g_law_one T.k_law_one (ja_cons (je_var 0 rfl (vf (by decide +kernel)) (by decide +kernel) (by decide +kernel)) (ja_cons (je_lst (ja_cons (je_int) (ja_cons (je_neg (je_int)) (ja_cons (je_bl) (ja_cons (je_non) (ja_cons (je_str ⟨#[48]⟩ (by decide +kernel)) (ja_cons (je_tup (ja_cons (je_int) (ja_nil))) (ja_cons (je_pow (je_int) (je_int)) (ja_nil))))))))) (ja_nil))) (by decide +kernel)) (ja_cons (je_call o (g_law_one T) (by omega) (gf (by decide +kernel)) T.g_law_one T.k_law_one (ja_cons (je_var 0 rfl (vf (by decide +kernel)) (by decide +kernel) (by decide +kernel)) (ja_cons (je_lst (ja_cons (je_int) (ja_cons (je_neg (je_int)) (ja_cons (je_bl) (ja_cons (je_non) (ja_cons (je_str ⟨#[49]⟩ (by decide +kernel)) (ja_nil))))))) (ja_nil))) (by decide +kernel)) ja_nil)) (by rfl)) (jb_cons (js_asg (je_call o (g_law_one T) (by omega) (gf (by decide +kernel)) T.g_law_one T.k_law_one (ja_cons (je_var 0 rfl (vf (by decide +kernel)) (by decide +kernel) (by decide +kernel)) (ja_cons (je_lst (ja_cons (je_non) (ja_cons (je_lst (ja_cons (je_int) (ja_nil))) (ja_cons (je_tup (ja_cons (je_int) (ja_nil))) (ja_cons (je_tup (ja_cons (je_int) (ja_cons (je_int) (ja_nil)))) (ja_cons (je_tup (ja_cons (je_int) (ja_cons (je_int) (ja_nil)))) (ja_cons (je_tup (ja_cons (je_bl) (ja_nil))) (ja_cons (je_tup (ja_cons (je_neg (je_int)) (ja_nil))) (ja_cons (je_int) (ja_cons (je_str ⟨#[48]⟩ (by decide +kernel)) (ja_nil))))))))))) (ja_nil))) (by decide +kernel)) (jg_name 6 nd_law_right rfl (lf (by decide +kernel)) ff)) (jb_cons (js_asg (je_call o (g_law_one T) (by omega) (gf (by decide +kernel)) T.g_law_one T.k_law_one (ja_cons (je_var 0 rfl (vf (by decide +kernel)) (by decide +kernel) (by decide +kernel)) (ja_cons (je_lst (ja_cons (je_int) (ja_cons (je_int) (ja_cons (je_neg (je_int)) (ja_cons (je_bl) (ja_cons (je_non) (ja_cons (je_str ⟨#[50]⟩ (by decide +kernel)) (ja_cons (je_pow (je_int) (je_int)) (ja_nil))))))))) (ja_nil))) (by decide +kernel)) (jg_name 7 nd_law_right rfl (lf (by decide +kernel)) ff)) (jb_cons (js_if (jtc o.ne (by rfl) (je_add o (je_add o (je_call o (g_law_two T N) (by omega) (gf (by decide +kernel)) T.g_law_two T.k_law_two (ja_cons (je_var 3 rfl (vf (by decide +kernel)) (by decide +kernel) (by decide +kernel)) (ja_cons (je_var 4 rfl (vf (by decide +kernel)) (by decide +kernel) (by decide +kernel)) (ja_cons (je_var 3 rfl (vf (by decide +kernel)) (by decide +kernel) (by decide +kernel)) (ja_cons (je_var 5 rfl (vf (by decide +kernel)) (by decide +kernel) (by decide +kernel)) (ja_nil))))) (by decide +kernel)) (je_call o (g_law_taken T N) (by omega) (gf (by decide +kernel)) T.g_law_taken T.k_law_taken (ja_cons (je_var 3 rfl (vf (by decide +kernel)) (by decide +kernel) (by decide +kernel)) (ja_cons (je_var 4 rfl (vf (by decide +kernel)) (by decide +kernel) (by decide +kernel)) (ja_cons (je_var 7 rfl (vf (by decide +kernel)) (by decide +kernel) (by decide +kernel)) (ja_nil)))) (by decide +kernel))) (je_call o (g_law_hung T N) (by omega) (gf (by decide +kernel)) T.g_law_hung T.k_law_hung (ja_cons (je_var 3 rfl (vf (by decide +kernel)) (by decide +kernel) (by decide +kernel)) (ja_cons (je_var 6 rfl (vf (by decide +kernel)) (by decide +kernel) (by decide +kernel)) (ja_cons (je_var 4 rfl (vf (by decide +kernel)) (by decide +kernel) (by decide +kernel)) (ja_cons (je_var 5 rfl (vf (by decide +kernel)) (by decide +kernel) (by decide +kernel)) (ja_nil))))) (by decide +kernel))) (je_mulS o (je_lst (ja_cons (je_tup (ja_cons (je_str ⟨#[119, 101, 98]⟩ (by decide +kernel)) (ja_nil))) (ja_nil))) (je_int))) (jb_one (js_ret (je_bl))) (jb_nil)) (jb_cons (js_if (jt_w (jw_or (jtc o.ne (by rfl) (je_callB o.repr (gf (by decide +kernel)) T.n_repr bt_repr (ja_cons (je_call o (g_law_two T N) (by omega) (gf (by decide +kernel)) T.g_law_two T.k_law_two (ja_cons (je_var 1 rfl (vf (by decide +kernel)) (by decide +kernel) (by decide +kernel)) (ja_cons (je_var 4 rfl (vf (by decide +kernel)) (by decide +kernel) (by decide +kernel)) (ja_cons (je_var 3 rfl (vf (by decide +kernel)) (by decide +kernel) (by decide +kernel)) (ja_cons (je_var 5 rfl (vf (by decide +kernel)) (by decide +kernel) (by decide +kernel)) (ja_nil))))) (by decide +kernel)) (ja_nil)) (by decide +kernel) (by decide +kernel)) (je_callB o.repr (gf (by decide +kernel)) T.n_repr bt_repr (ja_cons (je_add o (je_lst (ja_cons (je_tup (ja_cons (je_str ⟨#[119, 101, 98]⟩ (by decide +kernel)) (ja_nil))) (ja_nil))) (je_mulS o (je_lst (ja_cons (je_tup (ja_cons (je_str ⟨#[110, 117, 109, 98, 101, 114]⟩ (by decide +kernel)) (ja_cons (je_var 4 rfl (vf (by decide +kernel)) (by decide +kernel) (by decide +kernel)) (ja_nil)))) (ja_nil))) (je_int))) (ja_nil)) (by decide +kernel) (by decide +kernel))) (jw_or1 (jtc o.ne (by rfl) (je_call o (g_law_two T N) (by omega) (gf (by decide +kernel)) T.g_law_two T.k_law_two (ja_cons (je_var 1 rfl (vf (by decide +kernel)) (by decide +kernel) (by decide +kernel)) (ja_cons (je_int) (ja_cons (je_var 3 rfl (vf (by decide +kernel)) (by decide +kernel) (by decide +kernel)) (ja_cons (je_var 5 rfl (vf (by decide +kernel)) (by decide +kernel) (by decide +kernel)) (ja_nil))))) (by decide +kernel)) (je_mulS o (je_lst (ja_cons (je_tup (ja_cons (je_str ⟨#[119, 101, 98]⟩ (by decide +kernel)) (ja_nil))) (ja_nil))) (je_int)))))) (jb_one (js_ret (je_bl))) (jb_nil)) (jb_cons (js_if (jt_w (jw_or (jtc o.ne (by rfl) (je_callB o.repr (gf (by decide +kernel)) T.n_repr bt_repr (ja_cons (je_call o (g_law_two T N) (by omega) (gf (by decide +kernel)) T.g_law_two T.k_law_two (ja_cons (je_var 1 rfl (vf (by decide +kernel)) (by decide +kernel) (by decide +kernel)) (ja_cons (je_int) (ja_cons (je_var 1 rfl (vf (by decide +kernel)) (by decide +kernel) (by decide +kernel)) (ja_cons (je_var 5 rfl (vf (by decide +kernel)) (by decide +kernel) (by decide +kernel)) (ja_nil))))) (by decide +kernel)) (ja_nil)) (by decide +kernel) (by decide +kernel)) (je_callB o.repr (gf (by decide +kernel)) T.n_repr bt_repr (ja_cons (je_add o (je_lst (ja_cons (je_var 2 rfl (vf (by decide +kernel)) (by decide +kernel) (by decide +kernel)) (ja_nil))) (je_mulS o (je_lst (ja_cons (je_tup (ja_cons (je_str ⟨#[110, 117, 109, 98, 101, 114]⟩ (by decide +kernel)) (ja_cons (je_var 5 rfl (vf (by decide +kernel)) (by decide +kernel) (by decide +kernel)) (ja_nil)))) (ja_nil))) (je_int))) (ja_nil)) (by decide +kernel) (by decide +kernel))) (jw_or1 (jtc o.ne (by rfl) (je_call o (g_law_two T N) (by omega) (gf (by decide +kernel)) T.g_law_two T.k_law_two (ja_cons (je_var 1 rfl (vf (by decide +kernel)) (by decide +kernel) (by decide +kernel)) (ja_cons (je_int) (ja_cons (je_var 1 rfl (vf (by decide +kernel)) (by decide +kernel) (by decide +kernel)) (ja_cons (je_int) (ja_nil))))) (by decide +kernel)) (je_mulS o (je_lst (ja_cons (je_var 2 rfl (vf (by decide +kernel)) (by decide +kernel) (by decide +kernel)) (ja_nil))) (je_int)))))) (jb_one (js_ret (je_bl))) (jb_nil)) (jb_cons (js_if (jtc o.ne (by rfl) (je_callB o.repr (gf (by decide +kernel)) T.n_repr bt_repr (ja_cons (je_add o (je_call o (g_law_taken T N) (by omega) (gf (by decide +kernel)) T.g_law_taken T.k_law_taken (ja_cons (je_var 1 rfl (vf (by decide +kernel)) (by decide +kernel) (by decide +kernel)) (ja_cons (je_var 4 rfl (vf (by decide +kernel)) (by decide +kernel) (by decide +kernel)) (ja_cons (je_var 7 rfl (vf (by decide +kernel)) (by decide +kernel) (by decide +kernel)) (ja_nil)))) (by decide +kernel)) (je_call o (g_law_taken T N) (by omega) (gf (by decide +kernel)) T.g_law_taken T.k_law_taken (ja_cons (je_var 1 rfl (vf (by decide +kernel)) (by decide +kernel) (by decide +kernel)) (ja_cons (je_int) (ja_cons (je_var 7 rfl (vf (by decide +kernel)) (by decide +kernel) (by decide +kernel)) (ja_nil)))) (by decide +kernel))) (ja_nil)) (by decide +kernel) (by decide +kernel)) (je_callB o.repr (gf (by decide +kernel)) T.n_repr bt_repr (ja_cons (je_add o (je_mulS o (je_lst (ja_cons (je_tup (ja_cons (je_str ⟨#[110, 117, 109, 98, 101, 114]⟩ (by decide +kernel)) (ja_cons (je_var 4 rfl (vf (by decide +kernel)) (by decide +kernel) (by decide +kernel)) (ja_nil)))) (ja_nil))) (je_int)) (je_mulS o (je_lst (ja_cons (je_tup (ja_cons (je_str ⟨#[110, 117, 109, 98, 101, 114]⟩ (by decide +kernel)) (ja_cons (je_var 7 rfl (vf (by decide +kernel)) (by decide +kernel) (by decide +kernel)) (ja_nil)))) (ja_nil))) (je_int))) (ja_nil)) (by decide +kernel) (by decide +kernel))) (jb_one (js_ret (je_bl))) (jb_nil)) (jb_cons (js_if (jt_w (jw_or (jtc o.ne (by rfl) (je_callB o.repr (gf (by decide +kernel)) T.n_repr bt_repr (ja_cons (je_call o (g_law_hung T N) (by omega) (gf (by decide +kernel)) T.g_law_hung T.k_law_hung (ja_cons (je_var 1 rfl (vf (by decide +kernel)) (by decide +kernel) (by decide +kernel)) (ja_cons (je_var 6 rfl (vf (by decide +kernel)) (by decide +kernel) (by decide +kernel)) (ja_cons (je_var 4 rfl (vf (by decide +kernel)) (by decide +kernel) (by decide +kernel)) (ja_cons (je_var 5 rfl (vf (by decide +kernel)) (by decide +kernel) (by decide +kernel)) (ja_nil))))) (by decide +kernel)) (ja_nil)) (by decide +kernel) (by decide +kernel)) (je_callB o.repr (gf (by decide +kernel)) T.n_repr bt_repr (ja_cons (je_add o (je_mulS o (je_lst (ja_cons (je_tup (ja_cons (je_str ⟨#[108, 111, 116]⟩ (by decide +kernel)) (ja_nil))) (ja_nil))) (je_int)) (je_lst (ja_cons (je_tup (ja_cons (je_str ⟨#[110, 117, 109, 98, 101, 114]⟩ (by decide +kernel)) (ja_cons (je_var 4 rfl (vf (by decide +kernel)) (by decide +kernel) (by decide +kernel)) (ja_nil)))) (ja_nil)))) (ja_nil)) (by decide +kernel) (by decide +kernel))) (jw_or1 (jtc o.ne (by rfl) (je_callB o.repr (gf (by decide +kernel)) T.n_repr bt_repr (ja_cons (je_call o (g_law_hung T N) (by omega) (gf (by decide +kernel)) T.g_law_hung T.k_law_hung (ja_cons (je_var 1 rfl (vf (by decide +kernel)) (by decide +kernel) (by decide +kernel)) (ja_cons (je_tup (ja_cons (je_int) (ja_nil))) (ja_cons (je_var 4 rfl (vf (by decide +kernel)) (by decide +kernel) (by decide +kernel)) (ja_cons (je_var 5 rfl (vf (by decide +kernel)) (by decide +kernel) (by decide +kernel)) (ja_nil))))) (by decide +kernel)) (ja_nil)) (by decide +kernel) (by decide +kernel)) (je_callB o.repr (gf (by decide +kernel)) T.n_repr bt_repr (ja_cons (je_mulS o (je_lst (ja_cons (je_tup (ja_cons (je_str ⟨#[110, 117, 109, 98, 101, 114]⟩ (by decide +kernel)) (ja_cons (je_var 4 rfl (vf (by decide +kernel)) (by decide +kernel) (by decide +kernel)) (ja_nil)))) (ja_nil))) (je_int)) (ja_nil)) (by decide +kernel) (by decide +kernel)))))) (jb_one (js_ret (je_bl))) (jb_nil)) (jb_cons (js_if (jt_w (jw_or (jtc o.ne (by rfl) (je_callB o.repr (gf (by decide +kernel)) T.n_repr bt_repr (ja_cons (je_call o (g_law_hung T N) (by omega) (gf (by decide +kernel)) T.g_law_hung T.k_law_hung (ja_cons (je_var 1 rfl (vf (by decide +kernel)) (by decide +kernel) (by decide +kernel)) (ja_cons (je_tup (ja_cons (je_int) (ja_nil))) (ja_cons (je_int) (ja_cons (je_var 5 rfl (vf (by decide +kernel)) (by decide +kernel) (by decide +kernel)) (ja_nil))))) (by decide +kernel)) (ja_nil)) (by decide +kernel) (by decide +kernel)) (je_callB o.repr (gf (by decide +kernel)) T.n_repr bt_repr (ja_cons (je_mulS o (je_lst (ja_cons (je_tup (ja_cons (je_str ⟨#[110, 117, 109, 98, 101, 114]⟩ (by decide +kernel)) (ja_cons (je_var 5 rfl (vf (by decide +kernel)) (by decide +kernel) (by decide +kernel)) (ja_nil)))) (ja_nil))) (je_int)) (ja_nil)) (by decide +kernel) (by decide +kernel))) (jw_or1 (jtc o.ne (by rfl) (je_call o (g_law_hung T N) (by omega) (gf (by decide +kernel)) T.g_law_hung T.k_law_hung (ja_cons (je_var 1 rfl (vf (by decide +kernel)) (by decide +kernel) (by decide +kernel)) (ja_cons (je_tup (ja_cons (je_int) (ja_nil))) (ja_cons (je_int) (ja_cons (je_int) (ja_nil))))) (by decide +kernel)) (je_mulS o (je_lst (ja_cons (je_tup (ja_cons (je_str ⟨#[111, 112, 101, 114, 97, 116, 105, 111, 110]⟩ (by decide +kernel)) (ja_nil))) (ja_nil))) (je_int)))))) (jb_one (js_ret (je_bl))) (jb_nil)) (jb_one (js_ret (je_and (jec o.eq (by rfl) (je_call o (g_law_hung T N) (by omega) (gf (by decide +kernel)) T.g_law_hung T.k_law_hung (ja_cons (je_var 1 rfl (vf (by decide +kernel)) (by decide +kernel) (by decide +kernel)) (ja_cons (je_tup (ja_cons (je_int) (ja_nil))) (ja_cons (je_int) (ja_cons (je_int) (ja_nil))))) (by decide +kernel)) (je_add o (je_add o (je_lst (ja_cons (je_var 2 rfl (vf (by decide +kernel)) (by decide +kernel) (by decide +kernel)) (ja_nil))) (je_mulS o (je_lst (ja_cons (je_tup (ja_cons (je_str ⟨#[111, 112, 101, 114, 97, 116, 105, 111, 110]⟩ (by decide +kernel)) (ja_nil))) (ja_nil))) (je_int))) (je_lst (ja_cons (je_var 2 rfl (vf (by decide +kernel)) (by decide +kernel) (by decide +kernel)) (ja_nil))))) (je_one (jec o.eq (by rfl) (je_call o (g_law_hung T N) (by omega) (gf (by decide +kernel)) T.g_law_hung T.k_law_hung (ja_cons (je_var 1 rfl (vf (by decide +kernel)) (by decide +kernel) (by decide +kernel)) (ja_cons (je_tup (ja_cons (je_int) (ja_nil))) (ja_cons (je_int) (ja_cons (je_int) (ja_nil))))) (by decide +kernel)) (je_mulS o (je_lst (ja_cons (je_var 2 rfl (vf (by decide +kernel)) (by decide +kernel) (by decide +kernel)) (ja_nil))) (je_int)))))))))))))))))
theorem nd_law : (["script", "spot", "jar", "turn", "five", "full", "loop", "told", "due"] : List Str).Nodup := by decide +kernel
theorem fs_law : FnScope ["script", "spot", "jar", "turn", "five", "full", "loop", "told", "due"] ["script"] (defScope st_law) := ⟨rfl, rfl, rfl, nd_law, rfl, by decide +kernel, by decide +kernel⟩
theorem g_law (T : Tx P K mg base a G) (N : G.lam = none) : FnG P w K mg base G 13 a.law m_law := by
  obtain ⟨fd, F⟩ := T.f_law
  refine fnG_of (k := 12) F fs_law T.gk (fun _ _ _ _ _ _ us hl => match us, hl with | [_], _ => rfl) fun cdv A outer s H E o => ?_
  exact jb_cons (js_for o (ji_range1 (gf (by decide +kernel)) T.n_range (ja_cons (je_callB o.max2 (gf (by decide +kernel)) T.n_max bt_max (ja_cons (je_int) (ja_cons (je_callB o.min2 (gf (by decide +kernel)) T.n_min bt_min (ja_cons (je_int) (ja_cons (je_callB o.len (gf (by decide +kernel)) T.n_len bt_len (ja_cons (je_var 0 rfl (vf (by decide +kernel)) (by decide +kernel) (by decide +kernel)) (ja_nil)) (by decide +kernel) (by decide +kernel)) (ja_nil))) (by decide +kernel) (by decide +kernel)) (ja_nil))) (by decide +kernel) (by decide +kernel)) (ja_nil))) (jg_name 1 nd_law rfl (lf (by decide +kernel)) ff) (jb_cons (js_asg (je_call o (g_law_jar T) (by omega) (gf (by decide +kernel)) T.g_law_jar T.k_law_jar (ja_cons (je_var 0 rfl (vf (by decide +kernel)) (by decide +kernel) (by decide +kernel)) (ja_cons (je_var 1 rfl (vf (by decide +kernel)) (by decide +kernel) (by decide +kernel)) (ja_nil))) (by decide +kernel)) (jg_name 2 nd_law rfl (lf (by decide +kernel)) ff)) (jb_one (js_for o (ji_range1 (gf (by decide +kernel)) T.n_range (ja_cons (je_int) (ja_nil))) (jg_name 3 nd_law rfl (lf (by decide +kernel)) ff) (jb_one (js_if (jt_not (jt_val (je_call o (g_law_right T N) (by omega) (gf (by decide +kernel)) T.g_law_right T.k_law_right (ja_cons (je_var 2 rfl (vf (by decide +kernel)) (by decide +kernel) (by decide +kernel)) (ja_nil)) (by decide +kernel)) (fun _ => rfl))) (jb_one (js_ret (je_bl))) (jb_nil))))))) (jb_cons (js_par3 o (i := 4) (j := 5) (l := 6) nd_law rfl rfl rfl (by decide) (by decide) (by decide) (qf (by decide +kernel)) (qf (by decide +kernel)) (qf (by decide +kernel)) (ja_cons (je_mk o T.mk_Web T.sc_Web.cls (g_Web_init T) (by omega) (gf (by decide +kernel)) T.g_Web (ja_cons (je_int) (ja_cons (je_tup (ja_cons (je_tup (ja_cons (je_int) (ja_cons (je_int) (ja_nil)))) (ja_nil))) (ja_nil))) (by decide +kernel)) (ja_cons (je_mk o T.mk_Web T.sc_Web.cls (g_Web_init T) (by omega) (gf (by decide +kernel)) T.g_Web (ja_cons (je_int) (ja_cons (je_mulS o (je_tup (ja_cons (je_tup (ja_cons (je_int) (ja_cons (je_int) (ja_nil)))) (ja_nil))) (je_int)) (ja_nil))) (by decide +kernel)) (ja_cons (je_mk o T.mk_Web T.sc_Web.cls (g_Web_init T) (by omega) (gf (by decide +kernel)) T.g_Web (ja_cons (je_int) (ja_cons (je_tup (ja_cons (je_tup (ja_cons (je_int) (ja_cons (je_int) (ja_nil)))) (ja_cons (je_tup (ja_cons (je_int) (ja_cons (je_int) (ja_nil)))) (ja_nil)))) (ja_nil))) (by decide +kernel)) ja_nil))) (by rfl)) (jb_cons (js_asg (je_lst (ja_cons (je_call o (g_law_two T N) (by omega) (gf (by decide +kernel)) T.g_law_two T.k_law_two (ja_cons (je_var 4 rfl (vf (by decide +kernel)) (by decide +kernel) (by decide +kernel)) (ja_cons (je_int) (ja_cons (je_var 4 rfl (vf (by decide +kernel)) (by decide +kernel) (by decide +kernel)) (ja_cons (je_int) (ja_nil))))) (by decide +kernel)) (ja_cons (je_call o (g_law_two T N) (by omega) (gf (by decide +kernel)) T.g_law_two T.k_law_two (ja_cons (je_var 5 rfl (vf (by decide +kernel)) (by decide +kernel) (by decide +kernel)) (ja_cons (je_int) (ja_cons (je_var 5 rfl (vf (by decide +kernel)) (by decide +kernel) (by decide +kernel)) (ja_cons (je_int) (ja_nil))))) (by decide +kernel)) (ja_cons (je_call o (g_law_two T N) (by omega) (gf (by decide +kernel)) T.g_law_two T.k_law_two (ja_cons (je_var 6 rfl (vf (by decide +kernel)) (by decide +kernel) (by decide +kernel)) (ja_cons (je_int) (ja_cons (je_var 4 rfl (vf (by decide +kernel)) (by decide +kernel) (by decide +kernel)) (ja_cons (je_int) (ja_nil))))) (by decide +kernel)) (ja_cons (je_call o (g_law_two T N) (by omega) (gf (by decide +kernel)) T.g_law_two T.k_law_two (ja_cons (je_var 4 rfl (vf (by decide +kernel)) (by decide +kernel) (by decide +kernel)) (ja_cons (je_int) (ja_cons (je_var 6 rfl (vf (by decide +kernel)) (by decide +kernel) (by decide +kernel)) (ja_cons (je_int) (ja_nil))))) (by decide +kernel)) (ja_nil)))))) (jg_name 7 nd_law rfl (lf (by decide +kernel)) ff)) (jb_cons (js_asg (je_lst (ja_cons (je_mulS o (je_lst (ja_cons (je_tup (ja_cons (je_str ⟨#[109, 97, 110, 121]⟩ (by decide +kernel)) (ja_cons (je_int) (ja_nil)))) (ja_nil))) (je_int)) (ja_cons (je_mulS o (je_lst (ja_cons (je_tup (ja_cons (je_str ⟨#[109, 97, 110, 121]⟩ (by decide +kernel)) (ja_cons (je_int) (ja_nil)))) (ja_nil))) (je_int)) (ja_cons (je_add o (je_mulS o (je_lst (ja_cons (je_tup (ja_cons (je_str ⟨#[109, 97, 110, 121]⟩ (by decide +kernel)) (ja_cons (je_int) (ja_nil)))) (ja_nil))) (je_int)) (je_mulS o (je_lst (ja_cons (je_tup (ja_cons (je_str ⟨#[111, 112, 101, 114, 97, 116, 105, 111, 110]⟩ (by decide +kernel)) (ja_nil))) (ja_nil))) (je_int))) (ja_cons (je_add o (je_mulS o (je_lst (ja_cons (je_tup (ja_cons (je_str ⟨#[109, 97, 110, 121]⟩ (by decide +kernel)) (ja_cons (je_int) (ja_nil)))) (ja_nil))) (je_int)) (je_mulS o (je_lst (ja_cons (je_tup (ja_cons (je_str ⟨#[111, 112, 101, 114, 97, 116, 105, 111, 110]⟩ (by decide +kernel)) (ja_nil))) (ja_nil))) (je_int))) (ja_nil)))))) (jg_name 8 nd_law rfl (lf (by decide +kernel)) ff)) (jb_cons (js_asg (je_add o (je_var 7 rfl (vf (by decide +kernel)) (by decide +kernel) (by decide +kernel)) (je_lst (ja_cons (je_call o (g_law_taken T N) (by omega) (gf (by decide +kernel)) T.g_law_taken T.k_law_taken (ja_cons (je_var 4 rfl (vf (by decide +kernel)) (by decide +kernel) (by decide +kernel)) (ja_cons (je_int) (ja_cons (je_int) (ja_nil)))) (by decide +kernel)) (ja_cons (je_call o (g_law_taken T N) (by omega) (gf (by decide +kernel)) T.g_law_taken T.k_law_taken (ja_cons (je_var 5 rfl (vf (by decide +kernel)) (by decide +kernel) (by decide +kernel)) (ja_cons (je_int) (ja_cons (je_int) (ja_nil)))) (by decide +kernel)) (ja_cons (je_call o (g_law_taken T N) (by omega) (gf (by decide +kernel)) T.g_law_taken T.k_law_taken (ja_cons (je_var 5 rfl (vf (by decide +kernel)) (by decide +kernel) (by decide +kernel)) (ja_cons (je_int) (ja_cons (je_int) (ja_nil)))) (by decide +kernel)) (ja_cons (je_call o (g_law_taken T N) (by omega) (gf (by decide +kernel)) T.g_law_taken T.k_law_taken (ja_cons (je_mk o T.mk_Web T.sc_Web.cls (g_Web_init T) (by omega) (gf (by decide +kernel)) T.g_Web (ja_cons (je_int) (ja_cons (je_tup (ja_nil)) (ja_nil))) (by decide +kernel)) (ja_cons (je_int) (ja_cons (je_int) (ja_nil)))) (by decide +kernel)) (ja_nil))))))) (jg_name 7 nd_law rfl (lf (by decide +kernel)) ff)) (jb_one (js_ret (jec o.eq (by rfl) (je_var 7 rfl (vf (by decide +kernel)) (by decide +kernel) (by decide +kernel)) (je_add o (je_var 8 rfl (vf (by decide +kernel)) (by decide +kernel) (by decide +kernel)) (je_lst (ja_cons (je_lst (ja_cons (je_tup (ja_cons (je_str ⟨#[116, 111, 108, 100]⟩ (by decide +kernel)) (ja_cons (je_bl) (ja_nil)))) (ja_cons (je_tup (ja_cons (je_str ⟨#[109, 97, 110, 121]⟩ (by decide +kernel)) (ja_cons (je_int) (ja_nil)))) (ja_nil)))) (ja_cons (je_mulS o (je_lst (ja_cons (je_tup (ja_cons (je_str ⟨#[109, 97, 110, 121]⟩ (by decide +kernel)) (ja_cons (je_int) (ja_nil)))) (ja_nil))) (je_int)) (ja_cons (je_mulS o (je_lst (ja_cons (je_tup (ja_cons (je_str ⟨#[116, 111, 108, 100]⟩ (by decide +kernel)) (ja_cons (je_bl) (ja_nil)))) (ja_nil))) (je_int)) (ja_cons (je_mulS o (je_lst (ja_cons (je_tup (ja_cons (je_str ⟨#[110, 117, 109, 98, 101, 114]⟩ (by decide +kernel)) (ja_cons (je_int) (ja_nil)))) (ja_nil))) (je_int)) (ja_nil))))))))))))))
end
end Lw
namespace Lw
open PySem PySem.Spec
open PyProof.Rows L2 F3
theorem all_mk {w : World} {K : PySem.W.Frag} {h : Heap} {mg : Str → Option Value} {fa : Addr} (X : K.In h) (G : h.Ns mainGlobals mg) (hfa : mg "law" = some (.ref fa)) (plain : ∀ ns : List Int, ns.length ≤ 63 → ∃ A, m_law [.scr (ns.map .int)] [] = .ok (.bl true) A)
    {f_law_jar f_is_int f_is_whole f_is_within f_require_size f_are_ties f_Web_init f_law_dip f_law_one f_law_met f_require_web f_names_behind f_put_on f_ties_from f_made f_beside f_require_place f_require_far_place f_joined f_require_tie f_require_far_tie f_require_no_loop f_along f_in_line f_law_two f_require_many f_in_parallel f_rowed f_in_row f_law_taken f_is_lot_of f_require_lot_of_ties f_require_two_places f_whole_lot f_does_hang_in f_does_hang f_require_hanging f_turned_pairs f_turned_part f_turn_in f_turn_names f_pieces_in f_hanging_in f_hanging_lots f_law_hung f_law_right f_law c_Web s_own_size s_own_ties kd_law_two tb_law_two kd_law_taken tb_law_taken kd_turn_in tb_turn_in kd_law_hung tb_law_hung x_InvalidWeb x_InvalidLot x_InvalidOperation x_InvalidNumber x_TooMany i_InvalidNumber i_TooMany : Addr} {od_law_jar an_law_jar : Option Addr} {sl_law_jar : Array (Option Value)} {oc_law_jar kV_law_jar dc_law_jar pm_law_jar cd_law_jar ct_law_jar : Value} {od_is_int an_is_int : Option Addr} {sl_is_int : Array (Option Value)} {oc_is_int kV_is_int dc_is_int pm_is_int cd_is_int ct_is_int : Value} {od_is_whole an_is_whole : Option Addr} {sl_is_whole : Array (Option Value)} {oc_is_whole kV_is_whole dc_is_whole pm_is_whole cd_is_whole ct_is_whole : Value} {od_is_within an_is_within : Option Addr} {sl_is_within : Array (Option Value)} {oc_is_within kV_is_within dc_is_within pm_is_within cd_is_within ct_is_within : Value} {od_require_size an_require_size : Option Addr} {sl_require_size : Array (Option Value)} {oc_require_size kV_require_size dc_require_size pm_require_size cd_require_size ct_require_size : Value} {od_are_ties an_are_ties : Option Addr} {sl_are_ties : Array (Option Value)} {oc_are_ties kV_are_ties dc_are_ties pm_are_ties cd_are_ties ct_are_ties : Value} {od_Web_init an_Web_init : Option Addr} {sl_Web_init : Array (Option Value)} {oc_Web_init kV_Web_init dc_Web_init pm_Web_init cd_Web_init ct_Web_init : Value} {od_law_dip an_law_dip : Option Addr} {sl_law_dip : Array (Option Value)} {oc_law_dip kV_law_dip dc_law_dip pm_law_dip cd_law_dip ct_law_dip : Value} {od_law_one an_law_one : Option Addr} {sl_law_one : Array (Option Value)} {oc_law_one kV_law_one dc_law_one pm_law_one cd_law_one ct_law_one : Value} {od_law_met an_law_met : Option Addr} {sl_law_met : Array (Option Value)} {oc_law_met kV_law_met dc_law_met pm_law_met cd_law_met ct_law_met : Value} {od_require_web an_require_web : Option Addr} {sl_require_web : Array (Option Value)} {oc_require_web kV_require_web dc_require_web pm_require_web cd_require_web ct_require_web : Value} {od_names_behind an_names_behind : Option Addr} {sl_names_behind : Array (Option Value)} {oc_names_behind kV_names_behind dc_names_behind pm_names_behind cd_names_behind ct_names_behind : Value} {od_put_on an_put_on : Option Addr} {sl_put_on : Array (Option Value)} {oc_put_on kV_put_on dc_put_on pm_put_on cd_put_on ct_put_on : Value} {od_ties_from an_ties_from : Option Addr} {sl_ties_from : Array (Option Value)} {oc_ties_from kV_ties_from dc_ties_from pm_ties_from cd_ties_from ct_ties_from : Value} {od_made an_made : Option Addr} {sl_made : Array (Option Value)} {oc_made kV_made dc_made pm_made cd_made ct_made : Value} {od_beside an_beside : Option Addr} {sl_beside : Array (Option Value)} {oc_beside kV_beside dc_beside pm_beside cd_beside ct_beside : Value} {od_require_place an_require_place : Option Addr} {sl_require_place : Array (Option Value)} {oc_require_place kV_require_place dc_require_place pm_require_place cd_require_place ct_require_place : Value} {od_require_far_place an_require_far_place : Option Addr} {sl_require_far_place : Array (Option Value)} {oc_require_far_place kV_require_far_place dc_require_far_place pm_require_far_place cd_require_far_place ct_require_far_place : Value} {od_joined an_joined : Option Addr} {sl_joined : Array (Option Value)} {oc_joined kV_joined dc_joined pm_joined cd_joined ct_joined : Value} {od_require_tie an_require_tie : Option Addr} {sl_require_tie : Array (Option Value)} {oc_require_tie kV_require_tie dc_require_tie pm_require_tie cd_require_tie ct_require_tie : Value} {od_require_far_tie an_require_far_tie : Option Addr} {sl_require_far_tie : Array (Option Value)} {oc_require_far_tie kV_require_far_tie dc_require_far_tie pm_require_far_tie cd_require_far_tie ct_require_far_tie : Value} {od_require_no_loop an_require_no_loop : Option Addr} {sl_require_no_loop : Array (Option Value)} {oc_require_no_loop kV_require_no_loop dc_require_no_loop pm_require_no_loop cd_require_no_loop ct_require_no_loop : Value} {od_along an_along : Option Addr} {sl_along : Array (Option Value)} {oc_along kV_along dc_along pm_along cd_along ct_along : Value} {od_in_line an_in_line : Option Addr} {sl_in_line : Array (Option Value)} {oc_in_line kV_in_line dc_in_line pm_in_line cd_in_line ct_in_line : Value} {od_law_two an_law_two : Option Addr} {sl_law_two : Array (Option Value)} {oc_law_two kV_law_two dc_law_two pm_law_two ct_law_two : Value} {co_law_two : Value} {cdd_law_two : Option Addr} {cv_law_two : Array Value} {cs_law_two : Array (Option Value)} {od_require_many an_require_many : Option Addr} {sl_require_many : Array (Option Value)} {oc_require_many kV_require_many dc_require_many pm_require_many cd_require_many ct_require_many : Value} {od_in_parallel an_in_parallel : Option Addr} {sl_in_parallel : Array (Option Value)} {oc_in_parallel kV_in_parallel dc_in_parallel pm_in_parallel cd_in_parallel ct_in_parallel : Value} {od_rowed an_rowed : Option Addr} {sl_rowed : Array (Option Value)} {oc_rowed kV_rowed dc_rowed pm_rowed cd_rowed ct_rowed : Value} {od_in_row an_in_row : Option Addr} {sl_in_row : Array (Option Value)} {oc_in_row kV_in_row dc_in_row pm_in_row cd_in_row ct_in_row : Value} {od_law_taken an_law_taken : Option Addr} {sl_law_taken : Array (Option Value)} {oc_law_taken kV_law_taken dc_law_taken pm_law_taken ct_law_taken : Value} {co_law_taken : Value} {cdd_law_taken : Option Addr} {cv_law_taken : Array Value} {cs_law_taken : Array (Option Value)} {od_is_lot_of an_is_lot_of : Option Addr} {sl_is_lot_of : Array (Option Value)} {oc_is_lot_of kV_is_lot_of dc_is_lot_of pm_is_lot_of cd_is_lot_of ct_is_lot_of : Value} {od_require_lot_of_ties an_require_lot_of_ties : Option Addr} {sl_require_lot_of_ties : Array (Option Value)} {oc_require_lot_of_ties kV_require_lot_of_ties dc_require_lot_of_ties pm_require_lot_of_ties cd_require_lot_of_ties ct_require_lot_of_ties : Value} {od_require_two_places an_require_two_places : Option Addr} {sl_require_two_places : Array (Option Value)} {oc_require_two_places kV_require_two_places dc_require_two_places pm_require_two_places cd_require_two_places ct_require_two_places : Value} {od_whole_lot an_whole_lot : Option Addr} {sl_whole_lot : Array (Option Value)} {oc_whole_lot kV_whole_lot dc_whole_lot pm_whole_lot cd_whole_lot ct_whole_lot : Value} {od_does_hang_in an_does_hang_in : Option Addr} {sl_does_hang_in : Array (Option Value)} {oc_does_hang_in kV_does_hang_in dc_does_hang_in pm_does_hang_in cd_does_hang_in ct_does_hang_in : Value} {od_does_hang an_does_hang : Option Addr} {sl_does_hang : Array (Option Value)} {oc_does_hang kV_does_hang dc_does_hang pm_does_hang cd_does_hang ct_does_hang : Value} {od_require_hanging an_require_hanging : Option Addr} {sl_require_hanging : Array (Option Value)} {oc_require_hanging kV_require_hanging dc_require_hanging pm_require_hanging cd_require_hanging ct_require_hanging : Value} {od_turned_pairs an_turned_pairs : Option Addr} {sl_turned_pairs : Array (Option Value)} {oc_turned_pairs kV_turned_pairs dc_turned_pairs pm_turned_pairs cd_turned_pairs ct_turned_pairs : Value} {od_turned_part an_turned_part : Option Addr} {sl_turned_part : Array (Option Value)} {oc_turned_part kV_turned_part dc_turned_part pm_turned_part cd_turned_part ct_turned_part : Value} {od_turn_in an_turn_in : Option Addr} {sl_turn_in : Array (Option Value)} {oc_turn_in kV_turn_in dc_turn_in pm_turn_in ct_turn_in : Value} {co_turn_in : Value} {cdd_turn_in : Option Addr} {cv_turn_in : Array Value} {cs_turn_in : Array (Option Value)} {od_turn_names an_turn_names : Option Addr} {sl_turn_names : Array (Option Value)} {oc_turn_names kV_turn_names dc_turn_names pm_turn_names cd_turn_names ct_turn_names : Value} {od_pieces_in an_pieces_in : Option Addr} {sl_pieces_in : Array (Option Value)} {oc_pieces_in kV_pieces_in dc_pieces_in pm_pieces_in cd_pieces_in ct_pieces_in : Value} {od_hanging_in an_hanging_in : Option Addr} {sl_hanging_in : Array (Option Value)} {oc_hanging_in kV_hanging_in dc_hanging_in pm_hanging_in cd_hanging_in ct_hanging_in : Value} {od_hanging_lots an_hanging_lots : Option Addr} {sl_hanging_lots : Array (Option Value)} {oc_hanging_lots kV_hanging_lots dc_hanging_lots pm_hanging_lots cd_hanging_lots ct_hanging_lots : Value} {od_law_hung an_law_hung : Option Addr} {sl_law_hung : Array (Option Value)} {oc_law_hung kV_law_hung dc_law_hung pm_law_hung ct_law_hung : Value} {co_law_hung : Value} {cdd_law_hung : Option Addr} {cv_law_hung : Array Value} {cs_law_hung : Array (Option Value)} {od_law_right an_law_right : Option Addr} {sl_law_right : Array (Option Value)} {oc_law_right kV_law_right dc_law_right pm_law_right cd_law_right ct_law_right : Value} {od_law an_law : Option Addr} {sl_law : Array (Option Value)} {oc_law kV_law dc_law pm_law cd_law ct_law : Value} {ioc_InvalidNumber : Value} {iod_InvalidNumber : Option Addr} {ikV_InvalidNumber idc_InvalidNumber ipm_InvalidNumber ict_InvalidNumber : Value} {ian_InvalidNumber : Option Addr} {isl_InvalidNumber : Array (Option Value)} {ik_InvalidNumber ic_InvalidNumber : Addr} {jco_InvalidNumber : Value} {jcd_InvalidNumber : Option Addr} {jcv_InvalidNumber : Array Value} {jcs_InvalidNumber : Array (Option Value)} {jf_InvalidNumber : Str} {jt_InvalidNumber : Tok} {kco_InvalidNumber : Value} {kcd_InvalidNumber : Option Addr} {kcs_InvalidNumber : Array (Option Value)} {ioc_TooMany : Value} {iod_TooMany : Option Addr} {ikV_TooMany idc_TooMany ipm_TooMany ict_TooMany : Value} {ian_TooMany : Option Addr} {isl_TooMany : Array (Option Value)} {ik_TooMany ic_TooMany : Addr} {jco_TooMany : Value} {jcd_TooMany : Option Addr} {jcv_TooMany : Array Value} {jcs_TooMany : Array (Option Value)} {jf_TooMany : Str} {jt_TooMany : Tok} {kco_TooMany : Value} {kcd_TooMany : Option Addr} {kcs_TooMany : Array (Option Value)} {ct_GREAT : Tok} {ct_MAX_PLACES : Tok} {ct_MAX_TIES : Tok} {ct_MOST_TAKEN : Tok}
    (a_Web : PySem.W.nsIn K mainGlobals "Web" = some (some (.ref c_Web)))
    (pg_Web : PySem.W.plainGet K c_Web Str.empty = true)
    (ic_Web : PySem.W.isClsIn K c_Web = true)
    (po_Web : PySem.W.plainOver K c_Web = true)
    (sa_Web : PySem.W.findIn K (.ref c_Web) "__setattr__" = some (some (.builtin "object.__setattr__")))
    (ca_Web : PySem.W.findIn K (.ref c_Web) "__class__" = some (some (.builtin "object.__class__")))
    (cm_Web : PySem.W.mroIn K c_Web (.type "object") = some true)
    (mk_Web : PySem.W.makesIn K c_Web = true)
    (kc_Web : PySem.W.keepIn K (.ref c_Web) = true)
    (gcn : PySem.W.specialIn K (.builtin "object.__class__") "__get__" = some (some (.builtin "getset_descriptor.__get__")))
    (gct : PySem.W.takesIn K (.builtin "object.__class__") = some true)
    (a_law_jar : PySem.W.nsIn K mainGlobals "_law_jar" = some (some (.ref f_law_jar)))
    (l_law_jar : K.lookup f_law_jar = some ⟨oc_law_jar, od_law_jar, .func (PySem.W.fnOf "_law_jar" "_law_jar" (defArgs st_law_jar) (defBody st_law_jar) (defScope st_law_jar) .none kV_law_jar dc_law_jar pm_law_jar an_law_jar cd_law_jar ct_law_jar), sl_law_jar⟩)
    (q_law_jar : PySem.W.codeIn K cd_law_jar "_law_jar" = true)
    (k_law_jar : PySem.W.keepIn K (.ref f_law_jar) = true)
    (a_is_int : PySem.W.nsIn K mainGlobals "is_int" = some (some (.ref f_is_int)))
    (l_is_int : K.lookup f_is_int = some ⟨oc_is_int, od_is_int, .func (PySem.W.fnOf "is_int" "is_int" (defArgs st_is_int) (defBody st_is_int) (defScope st_is_int) .none kV_is_int dc_is_int pm_is_int an_is_int cd_is_int ct_is_int), sl_is_int⟩)
    (q_is_int : PySem.W.codeIn K cd_is_int "is_int" = true)
    (k_is_int : PySem.W.keepIn K (.ref f_is_int) = true)
    (a_is_whole : PySem.W.nsIn K mainGlobals "is_whole" = some (some (.ref f_is_whole)))
    (l_is_whole : K.lookup f_is_whole = some ⟨oc_is_whole, od_is_whole, .func (PySem.W.fnOf "is_whole" "is_whole" (defArgs st_is_whole) (defBody st_is_whole) (defScope st_is_whole) .none kV_is_whole dc_is_whole pm_is_whole an_is_whole cd_is_whole ct_is_whole), sl_is_whole⟩)
    (q_is_whole : PySem.W.codeIn K cd_is_whole "is_whole" = true)
    (k_is_whole : PySem.W.keepIn K (.ref f_is_whole) = true)
    (a_is_within : PySem.W.nsIn K mainGlobals "is_within" = some (some (.ref f_is_within)))
    (l_is_within : K.lookup f_is_within = some ⟨oc_is_within, od_is_within, .func (PySem.W.fnOf "is_within" "is_within" (defArgs st_is_within) (defBody st_is_within) (defScope st_is_within) .none kV_is_within dc_is_within pm_is_within an_is_within cd_is_within ct_is_within), sl_is_within⟩)
    (q_is_within : PySem.W.codeIn K cd_is_within "is_within" = true)
    (k_is_within : PySem.W.keepIn K (.ref f_is_within) = true)
    (a_require_size : PySem.W.nsIn K mainGlobals "require_size" = some (some (.ref f_require_size)))
    (l_require_size : K.lookup f_require_size = some ⟨oc_require_size, od_require_size, .func (PySem.W.fnOf "require_size" "require_size" (defArgs st_require_size) (defBody st_require_size) (defScope st_require_size) .none kV_require_size dc_require_size pm_require_size an_require_size cd_require_size ct_require_size), sl_require_size⟩)
    (q_require_size : PySem.W.codeIn K cd_require_size "require_size" = true)
    (k_require_size : PySem.W.keepIn K (.ref f_require_size) = true)
    (a_are_ties : PySem.W.nsIn K mainGlobals "are_ties" = some (some (.ref f_are_ties)))
    (l_are_ties : K.lookup f_are_ties = some ⟨oc_are_ties, od_are_ties, .func (PySem.W.fnOf "are_ties" "are_ties" (defArgs st_are_ties) (defBody st_are_ties) (defScope st_are_ties) .none kV_are_ties dc_are_ties pm_are_ties an_are_ties cd_are_ties ct_are_ties), sl_are_ties⟩)
    (q_are_ties : PySem.W.codeIn K cd_are_ties "are_ties" = true)
    (k_are_ties : PySem.W.keepIn K (.ref f_are_ties) = true)
    (a_Web_init : PySem.W.findIn K (.ref c_Web) "__init__" = some (some (.ref f_Web_init)))
    (i_Web_init : PySem.W.isFn K (.ref f_Web_init) = true)
    (l_Web_init : K.lookup f_Web_init = some ⟨oc_Web_init, od_Web_init, .func (PySem.W.fnOf "__init__" "Web.__init__" (defArgs st_Web_init) (defBody st_Web_init) (defScope st_Web_init) .none kV_Web_init dc_Web_init pm_Web_init an_Web_init cd_Web_init ct_Web_init), sl_Web_init⟩)
    (q_Web_init : PySem.W.codeIn K cd_Web_init "Web.__init__" = true)
    (k_Web_init : PySem.W.keepIn K (.ref f_Web_init) = true)
    (a_law_dip : PySem.W.nsIn K mainGlobals "_law_dip" = some (some (.ref f_law_dip)))
    (l_law_dip : K.lookup f_law_dip = some ⟨oc_law_dip, od_law_dip, .func (PySem.W.fnOf "_law_dip" "_law_dip" (defArgs st_law_dip) (defBody st_law_dip) (defScope st_law_dip) .none kV_law_dip dc_law_dip pm_law_dip an_law_dip cd_law_dip ct_law_dip), sl_law_dip⟩)
    (q_law_dip : PySem.W.codeIn K cd_law_dip "_law_dip" = true)
    (k_law_dip : PySem.W.keepIn K (.ref f_law_dip) = true)
    (a_law_one : PySem.W.nsIn K mainGlobals "_law_one" = some (some (.ref f_law_one)))
    (l_law_one : K.lookup f_law_one = some ⟨oc_law_one, od_law_one, .func (PySem.W.fnOf "_law_one" "_law_one" (defArgs st_law_one) (defBody st_law_one) (defScope st_law_one) .none kV_law_one dc_law_one pm_law_one an_law_one cd_law_one ct_law_one), sl_law_one⟩)
    (q_law_one : PySem.W.codeIn K cd_law_one "_law_one" = true)
    (k_law_one : PySem.W.keepIn K (.ref f_law_one) = true)
    (a_law_met : PySem.W.nsIn K mainGlobals "_law_met" = some (some (.ref f_law_met)))
    (l_law_met : K.lookup f_law_met = some ⟨oc_law_met, od_law_met, .func (PySem.W.fnOf "_law_met" "_law_met" (defArgs st_law_met) (defBody st_law_met) (defScope st_law_met) .none kV_law_met dc_law_met pm_law_met an_law_met cd_law_met ct_law_met), sl_law_met⟩)
    (q_law_met : PySem.W.codeIn K cd_law_met "_law_met" = true)
    (k_law_met : PySem.W.keepIn K (.ref f_law_met) = true)
    (a_require_web : PySem.W.nsIn K mainGlobals "require_web" = some (some (.ref f_require_web)))
    (l_require_web : K.lookup f_require_web = some ⟨oc_require_web, od_require_web, .func (PySem.W.fnOf "require_web" "require_web" (defArgs st_require_web) (defBody st_require_web) (defScope st_require_web) .none kV_require_web dc_require_web pm_require_web an_require_web cd_require_web ct_require_web), sl_require_web⟩)
    (q_require_web : PySem.W.codeIn K cd_require_web "require_web" = true)
    (k_require_web : PySem.W.keepIn K (.ref f_require_web) = true)
    (a_names_behind : PySem.W.nsIn K mainGlobals "names_behind" = some (some (.ref f_names_behind)))
    (l_names_behind : K.lookup f_names_behind = some ⟨oc_names_behind, od_names_behind, .func (PySem.W.fnOf "names_behind" "names_behind" (defArgs st_names_behind) (defBody st_names_behind) (defScope st_names_behind) .none kV_names_behind dc_names_behind pm_names_behind an_names_behind cd_names_behind ct_names_behind), sl_names_behind⟩)
    (q_names_behind : PySem.W.codeIn K cd_names_behind "names_behind" = true)
    (k_names_behind : PySem.W.keepIn K (.ref f_names_behind) = true)
    (a_put_on : PySem.W.nsIn K mainGlobals "put_on" = some (some (.ref f_put_on)))
    (l_put_on : K.lookup f_put_on = some ⟨oc_put_on, od_put_on, .func (PySem.W.fnOf "put_on" "put_on" (defArgs st_put_on) (defBody st_put_on) (defScope st_put_on) .none kV_put_on dc_put_on pm_put_on an_put_on cd_put_on ct_put_on), sl_put_on⟩)
    (q_put_on : PySem.W.codeIn K cd_put_on "put_on" = true)
    (k_put_on : PySem.W.keepIn K (.ref f_put_on) = true)
    (a_ties_from : PySem.W.nsIn K mainGlobals "ties_from" = some (some (.ref f_ties_from)))
    (l_ties_from : K.lookup f_ties_from = some ⟨oc_ties_from, od_ties_from, .func (PySem.W.fnOf "ties_from" "ties_from" (defArgs st_ties_from) (defBody st_ties_from) (defScope st_ties_from) .none kV_ties_from dc_ties_from pm_ties_from an_ties_from cd_ties_from ct_ties_from), sl_ties_from⟩)
    (q_ties_from : PySem.W.codeIn K cd_ties_from "ties_from" = true)
    (k_ties_from : PySem.W.keepIn K (.ref f_ties_from) = true)
    (a_made : PySem.W.nsIn K mainGlobals "made" = some (some (.ref f_made)))
    (l_made : K.lookup f_made = some ⟨oc_made, od_made, .func (PySem.W.fnOf "made" "made" (defArgs st_made) (defBody st_made) (defScope st_made) .none kV_made dc_made pm_made an_made cd_made ct_made), sl_made⟩)
    (q_made : PySem.W.codeIn K cd_made "made" = true)
    (k_made : PySem.W.keepIn K (.ref f_made) = true)
    (a_beside : PySem.W.nsIn K mainGlobals "beside" = some (some (.ref f_beside)))
    (l_beside : K.lookup f_beside = some ⟨oc_beside, od_beside, .func (PySem.W.fnOf "beside" "beside" (defArgs st_beside) (defBody st_beside) (defScope st_beside) .none kV_beside dc_beside pm_beside an_beside cd_beside ct_beside), sl_beside⟩)
    (q_beside : PySem.W.codeIn K cd_beside "beside" = true)
    (k_beside : PySem.W.keepIn K (.ref f_beside) = true)
    (a_require_place : PySem.W.nsIn K mainGlobals "require_place" = some (some (.ref f_require_place)))
    (l_require_place : K.lookup f_require_place = some ⟨oc_require_place, od_require_place, .func (PySem.W.fnOf "require_place" "require_place" (defArgs st_require_place) (defBody st_require_place) (defScope st_require_place) .none kV_require_place dc_require_place pm_require_place an_require_place cd_require_place ct_require_place), sl_require_place⟩)
    (q_require_place : PySem.W.codeIn K cd_require_place "require_place" = true)
    (k_require_place : PySem.W.keepIn K (.ref f_require_place) = true)
    (a_require_far_place : PySem.W.nsIn K mainGlobals "require_far_place" = some (some (.ref f_require_far_place)))
    (l_require_far_place : K.lookup f_require_far_place = some ⟨oc_require_far_place, od_require_far_place, .func (PySem.W.fnOf "require_far_place" "require_far_place" (defArgs st_require_far_place) (defBody st_require_far_place) (defScope st_require_far_place) .none kV_require_far_place dc_require_far_place pm_require_far_place an_require_far_place cd_require_far_place ct_require_far_place), sl_require_far_place⟩)
    (q_require_far_place : PySem.W.codeIn K cd_require_far_place "require_far_place" = true)
    (k_require_far_place : PySem.W.keepIn K (.ref f_require_far_place) = true)
    (a_joined : PySem.W.nsIn K mainGlobals "joined" = some (some (.ref f_joined)))
    (l_joined : K.lookup f_joined = some ⟨oc_joined, od_joined, .func (PySem.W.fnOf "joined" "joined" (defArgs st_joined) (defBody st_joined) (defScope st_joined) .none kV_joined dc_joined pm_joined an_joined cd_joined ct_joined), sl_joined⟩)
    (q_joined : PySem.W.codeIn K cd_joined "joined" = true)
    (k_joined : PySem.W.keepIn K (.ref f_joined) = true)
    (a_require_tie : PySem.W.nsIn K mainGlobals "require_tie" = some (some (.ref f_require_tie)))
    (l_require_tie : K.lookup f_require_tie = some ⟨oc_require_tie, od_require_tie, .func (PySem.W.fnOf "require_tie" "require_tie" (defArgs st_require_tie) (defBody st_require_tie) (defScope st_require_tie) .none kV_require_tie dc_require_tie pm_require_tie an_require_tie cd_require_tie ct_require_tie), sl_require_tie⟩)
    (q_require_tie : PySem.W.codeIn K cd_require_tie "require_tie" = true)
    (k_require_tie : PySem.W.keepIn K (.ref f_require_tie) = true)
    (a_require_far_tie : PySem.W.nsIn K mainGlobals "require_far_tie" = some (some (.ref f_require_far_tie)))
    (l_require_far_tie : K.lookup f_require_far_tie = some ⟨oc_require_far_tie, od_require_far_tie, .func (PySem.W.fnOf "require_far_tie" "require_far_tie" (defArgs st_require_far_tie) (defBody st_require_far_tie) (defScope st_require_far_tie) .none kV_require_far_tie dc_require_far_tie pm_require_far_tie an_require_far_tie cd_require_far_tie ct_require_far_tie), sl_require_far_tie⟩)
    (q_require_far_tie : PySem.W.codeIn K cd_require_far_tie "require_far_tie" = true)
    (k_require_far_tie : PySem.W.keepIn K (.ref f_require_far_tie) = true)
    (a_require_no_loop : PySem.W.nsIn K mainGlobals "require_no_loop" = some (some (.ref f_require_no_loop)))
    (l_require_no_loop : K.lookup f_require_no_loop = some ⟨oc_require_no_loop, od_require_no_loop, .func (PySem.W.fnOf "require_no_loop" "require_no_loop" (defArgs st_require_no_loop) (defBody st_require_no_loop) (defScope st_require_no_loop) .none kV_require_no_loop dc_require_no_loop pm_require_no_loop an_require_no_loop cd_require_no_loop ct_require_no_loop), sl_require_no_loop⟩)
    (q_require_no_loop : PySem.W.codeIn K cd_require_no_loop "require_no_loop" = true)
    (k_require_no_loop : PySem.W.keepIn K (.ref f_require_no_loop) = true)
    (a_along : PySem.W.nsIn K mainGlobals "along" = some (some (.ref f_along)))
    (l_along : K.lookup f_along = some ⟨oc_along, od_along, .func (PySem.W.fnOf "along" "along" (defArgs st_along) (defBody st_along) (defScope st_along) .none kV_along dc_along pm_along an_along cd_along ct_along), sl_along⟩)
    (q_along : PySem.W.codeIn K cd_along "along" = true)
    (k_along : PySem.W.keepIn K (.ref f_along) = true)
    (a_in_line : PySem.W.nsIn K mainGlobals "in_line" = some (some (.ref f_in_line)))
    (l_in_line : K.lookup f_in_line = some ⟨oc_in_line, od_in_line, .func (PySem.W.fnOf "in_line" "in_line" (defArgs st_in_line) (defBody st_in_line) (defScope st_in_line) .none kV_in_line dc_in_line pm_in_line an_in_line cd_in_line ct_in_line), sl_in_line⟩)
    (q_in_line : PySem.W.codeIn K cd_in_line "in_line" = true)
    (k_in_line : PySem.W.keepIn K (.ref f_in_line) = true)
    (a_law_two : PySem.W.nsIn K mainGlobals "_law_two" = some (some (.ref f_law_two)))
    (l_law_two : K.lookup f_law_two = some ⟨oc_law_two, od_law_two, .func (PySem.W.fnOf "_law_two" "_law_two" (defArgs st_law_two) (defBody st_law_two) (defScope st_law_two) .none kV_law_two dc_law_two pm_law_two an_law_two (.ref kd_law_two) ct_law_two), sl_law_two⟩)
    (q_law_two : PySem.W.codeIn K (.ref kd_law_two) "_law_two" = true)
    (k_law_two : PySem.W.keepIn K (.ref f_law_two) = true)
    (lc_law_two : K.lookup kd_law_two = some ⟨co_law_two, cdd_law_two, .fields cv_law_two, cs_law_two⟩)
    (lt_law_two : cv_law_two[11]? = some (.ref tb_law_two))
    (hc_law_two : PySem.W.codeHdIn K kd_law_two tb_law_two = true)
    (ho_law_two : K.lookup tb_law_two = none)
    (ht_law_two : h.get? tb_law_two = some tab0)
    (a_require_many : PySem.W.nsIn K mainGlobals "require_many" = some (some (.ref f_require_many)))
    (l_require_many : K.lookup f_require_many = some ⟨oc_require_many, od_require_many, .func (PySem.W.fnOf "require_many" "require_many" (defArgs st_require_many) (defBody st_require_many) (defScope st_require_many) .none kV_require_many dc_require_many pm_require_many an_require_many cd_require_many ct_require_many), sl_require_many⟩)
    (q_require_many : PySem.W.codeIn K cd_require_many "require_many" = true)
    (k_require_many : PySem.W.keepIn K (.ref f_require_many) = true)
    (a_in_parallel : PySem.W.nsIn K mainGlobals "in_parallel" = some (some (.ref f_in_parallel)))
    (l_in_parallel : K.lookup f_in_parallel = some ⟨oc_in_parallel, od_in_parallel, .func (PySem.W.fnOf "in_parallel" "in_parallel" (defArgs st_in_parallel) (defBody st_in_parallel) (defScope st_in_parallel) .none kV_in_parallel dc_in_parallel pm_in_parallel an_in_parallel cd_in_parallel ct_in_parallel), sl_in_parallel⟩)
    (q_in_parallel : PySem.W.codeIn K cd_in_parallel "in_parallel" = true)
    (k_in_parallel : PySem.W.keepIn K (.ref f_in_parallel) = true)
    (a_rowed : PySem.W.nsIn K mainGlobals "rowed" = some (some (.ref f_rowed)))
    (l_rowed : K.lookup f_rowed = some ⟨oc_rowed, od_rowed, .func (PySem.W.fnOf "rowed" "rowed" (defArgs st_rowed) (defBody st_rowed) (defScope st_rowed) .none kV_rowed dc_rowed pm_rowed an_rowed cd_rowed ct_rowed), sl_rowed⟩)
    (q_rowed : PySem.W.codeIn K cd_rowed "rowed" = true)
    (k_rowed : PySem.W.keepIn K (.ref f_rowed) = true)
    (a_in_row : PySem.W.nsIn K mainGlobals "in_row" = some (some (.ref f_in_row)))
    (l_in_row : K.lookup f_in_row = some ⟨oc_in_row, od_in_row, .func (PySem.W.fnOf "in_row" "in_row" (defArgs st_in_row) (defBody st_in_row) (defScope st_in_row) .none kV_in_row dc_in_row pm_in_row an_in_row cd_in_row ct_in_row), sl_in_row⟩)
    (q_in_row : PySem.W.codeIn K cd_in_row "in_row" = true)
    (k_in_row : PySem.W.keepIn K (.ref f_in_row) = true)
    (a_law_taken : PySem.W.nsIn K mainGlobals "_law_taken" = some (some (.ref f_law_taken)))
    (l_law_taken : K.lookup f_law_taken = some ⟨oc_law_taken, od_law_taken, .func (PySem.W.fnOf "_law_taken" "_law_taken" (defArgs st_law_taken) (defBody st_law_taken) (defScope st_law_taken) .none kV_law_taken dc_law_taken pm_law_taken an_law_taken (.ref kd_law_taken) ct_law_taken), sl_law_taken⟩)
    (q_law_taken : PySem.W.codeIn K (.ref kd_law_taken) "_law_taken" = true)
    (k_law_taken : PySem.W.keepIn K (.ref f_law_taken) = true)
    (lc_law_taken : K.lookup kd_law_taken = some ⟨co_law_taken, cdd_law_taken, .fields cv_law_taken, cs_law_taken⟩)
    (lt_law_taken : cv_law_taken[11]? = some (.ref tb_law_taken))
    (hc_law_taken : PySem.W.codeHdIn K kd_law_taken tb_law_taken = true)
    (ho_law_taken : K.lookup tb_law_taken = none)
    (ht_law_taken : h.get? tb_law_taken = some tab0)
    (a_is_lot_of : PySem.W.nsIn K mainGlobals "is_lot_of" = some (some (.ref f_is_lot_of)))
    (l_is_lot_of : K.lookup f_is_lot_of = some ⟨oc_is_lot_of, od_is_lot_of, .func (PySem.W.fnOf "is_lot_of" "is_lot_of" (defArgs st_is_lot_of) (defBody st_is_lot_of) (defScope st_is_lot_of) .none kV_is_lot_of dc_is_lot_of pm_is_lot_of an_is_lot_of cd_is_lot_of ct_is_lot_of), sl_is_lot_of⟩)
    (q_is_lot_of : PySem.W.codeIn K cd_is_lot_of "is_lot_of" = true)
    (k_is_lot_of : PySem.W.keepIn K (.ref f_is_lot_of) = true)
    (a_require_lot_of_ties : PySem.W.nsIn K mainGlobals "require_lot_of_ties" = some (some (.ref f_require_lot_of_ties)))
    (l_require_lot_of_ties : K.lookup f_require_lot_of_ties = some ⟨oc_require_lot_of_ties, od_require_lot_of_ties, .func (PySem.W.fnOf "require_lot_of_ties" "require_lot_of_ties" (defArgs st_require_lot_of_ties) (defBody st_require_lot_of_ties) (defScope st_require_lot_of_ties) .none kV_require_lot_of_ties dc_require_lot_of_ties pm_require_lot_of_ties an_require_lot_of_ties cd_require_lot_of_ties ct_require_lot_of_ties), sl_require_lot_of_ties⟩)
    (q_require_lot_of_ties : PySem.W.codeIn K cd_require_lot_of_ties "require_lot_of_ties" = true)
    (k_require_lot_of_ties : PySem.W.keepIn K (.ref f_require_lot_of_ties) = true)
    (a_require_two_places : PySem.W.nsIn K mainGlobals "require_two_places" = some (some (.ref f_require_two_places)))
    (l_require_two_places : K.lookup f_require_two_places = some ⟨oc_require_two_places, od_require_two_places, .func (PySem.W.fnOf "require_two_places" "require_two_places" (defArgs st_require_two_places) (defBody st_require_two_places) (defScope st_require_two_places) .none kV_require_two_places dc_require_two_places pm_require_two_places an_require_two_places cd_require_two_places ct_require_two_places), sl_require_two_places⟩)
    (q_require_two_places : PySem.W.codeIn K cd_require_two_places "require_two_places" = true)
    (k_require_two_places : PySem.W.keepIn K (.ref f_require_two_places) = true)
    (a_whole_lot : PySem.W.nsIn K mainGlobals "whole_lot" = some (some (.ref f_whole_lot)))
    (l_whole_lot : K.lookup f_whole_lot = some ⟨oc_whole_lot, od_whole_lot, .func (PySem.W.fnOf "whole_lot" "whole_lot" (defArgs st_whole_lot) (defBody st_whole_lot) (defScope st_whole_lot) .none kV_whole_lot dc_whole_lot pm_whole_lot an_whole_lot cd_whole_lot ct_whole_lot), sl_whole_lot⟩)
    (q_whole_lot : PySem.W.codeIn K cd_whole_lot "whole_lot" = true)
    (k_whole_lot : PySem.W.keepIn K (.ref f_whole_lot) = true)
    (a_does_hang_in : PySem.W.nsIn K mainGlobals "does_hang_in" = some (some (.ref f_does_hang_in)))
    (l_does_hang_in : K.lookup f_does_hang_in = some ⟨oc_does_hang_in, od_does_hang_in, .func (PySem.W.fnOf "does_hang_in" "does_hang_in" (defArgs st_does_hang_in) (defBody st_does_hang_in) (defScope st_does_hang_in) .none kV_does_hang_in dc_does_hang_in pm_does_hang_in an_does_hang_in cd_does_hang_in ct_does_hang_in), sl_does_hang_in⟩)
    (q_does_hang_in : PySem.W.codeIn K cd_does_hang_in "does_hang_in" = true)
    (k_does_hang_in : PySem.W.keepIn K (.ref f_does_hang_in) = true)
    (a_does_hang : PySem.W.nsIn K mainGlobals "does_hang" = some (some (.ref f_does_hang)))
    (l_does_hang : K.lookup f_does_hang = some ⟨oc_does_hang, od_does_hang, .func (PySem.W.fnOf "does_hang" "does_hang" (defArgs st_does_hang) (defBody st_does_hang) (defScope st_does_hang) .none kV_does_hang dc_does_hang pm_does_hang an_does_hang cd_does_hang ct_does_hang), sl_does_hang⟩)
    (q_does_hang : PySem.W.codeIn K cd_does_hang "does_hang" = true)
    (k_does_hang : PySem.W.keepIn K (.ref f_does_hang) = true)
    (a_require_hanging : PySem.W.nsIn K mainGlobals "require_hanging" = some (some (.ref f_require_hanging)))
    (l_require_hanging : K.lookup f_require_hanging = some ⟨oc_require_hanging, od_require_hanging, .func (PySem.W.fnOf "require_hanging" "require_hanging" (defArgs st_require_hanging) (defBody st_require_hanging) (defScope st_require_hanging) .none kV_require_hanging dc_require_hanging pm_require_hanging an_require_hanging cd_require_hanging ct_require_hanging), sl_require_hanging⟩)
    (q_require_hanging : PySem.W.codeIn K cd_require_hanging "require_hanging" = true)
    (k_require_hanging : PySem.W.keepIn K (.ref f_require_hanging) = true)
    (a_turned_pairs : PySem.W.nsIn K mainGlobals "turned_pairs" = some (some (.ref f_turned_pairs)))
    (l_turned_pairs : K.lookup f_turned_pairs = some ⟨oc_turned_pairs, od_turned_pairs, .func (PySem.W.fnOf "turned_pairs" "turned_pairs" (defArgs st_turned_pairs) (defBody st_turned_pairs) (defScope st_turned_pairs) .none kV_turned_pairs dc_turned_pairs pm_turned_pairs an_turned_pairs cd_turned_pairs ct_turned_pairs), sl_turned_pairs⟩)
    (q_turned_pairs : PySem.W.codeIn K cd_turned_pairs "turned_pairs" = true)
    (k_turned_pairs : PySem.W.keepIn K (.ref f_turned_pairs) = true)
    (a_turned_part : PySem.W.nsIn K mainGlobals "turned_part" = some (some (.ref f_turned_part)))
    (l_turned_part : K.lookup f_turned_part = some ⟨oc_turned_part, od_turned_part, .func (PySem.W.fnOf "turned_part" "turned_part" (defArgs st_turned_part) (defBody st_turned_part) (defScope st_turned_part) .none kV_turned_part dc_turned_part pm_turned_part an_turned_part cd_turned_part ct_turned_part), sl_turned_part⟩)
    (q_turned_part : PySem.W.codeIn K cd_turned_part "turned_part" = true)
    (k_turned_part : PySem.W.keepIn K (.ref f_turned_part) = true)
    (a_turn_in : PySem.W.nsIn K mainGlobals "turn_in" = some (some (.ref f_turn_in)))
    (l_turn_in : K.lookup f_turn_in = some ⟨oc_turn_in, od_turn_in, .func (PySem.W.fnOf "turn_in" "turn_in" (defArgs st_turn_in) (defBody st_turn_in) (defScope st_turn_in) .none kV_turn_in dc_turn_in pm_turn_in an_turn_in (.ref kd_turn_in) ct_turn_in), sl_turn_in⟩)
    (q_turn_in : PySem.W.codeIn K (.ref kd_turn_in) "turn_in" = true)
    (k_turn_in : PySem.W.keepIn K (.ref f_turn_in) = true)
    (lc_turn_in : K.lookup kd_turn_in = some ⟨co_turn_in, cdd_turn_in, .fields cv_turn_in, cs_turn_in⟩)
    (lt_turn_in : cv_turn_in[11]? = some (.ref tb_turn_in))
    (hc_turn_in : PySem.W.codeHdIn K kd_turn_in tb_turn_in = true)
    (ho_turn_in : K.lookup tb_turn_in = none)
    (ht_turn_in : h.get? tb_turn_in = some tab0)
    (a_turn_names : PySem.W.nsIn K mainGlobals "turn_names" = some (some (.ref f_turn_names)))
    (l_turn_names : K.lookup f_turn_names = some ⟨oc_turn_names, od_turn_names, .func (PySem.W.fnOf "turn_names" "turn_names" (defArgs st_turn_names) (defBody st_turn_names) (defScope st_turn_names) .none kV_turn_names dc_turn_names pm_turn_names an_turn_names cd_turn_names ct_turn_names), sl_turn_names⟩)
    (q_turn_names : PySem.W.codeIn K cd_turn_names "turn_names" = true)
    (k_turn_names : PySem.W.keepIn K (.ref f_turn_names) = true)
    (a_pieces_in : PySem.W.nsIn K mainGlobals "pieces_in" = some (some (.ref f_pieces_in)))
    (l_pieces_in : K.lookup f_pieces_in = some ⟨oc_pieces_in, od_pieces_in, .func (PySem.W.fnOf "pieces_in" "pieces_in" (defArgs st_pieces_in) (defBody st_pieces_in) (defScope st_pieces_in) .none kV_pieces_in dc_pieces_in pm_pieces_in an_pieces_in cd_pieces_in ct_pieces_in), sl_pieces_in⟩)
    (q_pieces_in : PySem.W.codeIn K cd_pieces_in "pieces_in" = true)
    (k_pieces_in : PySem.W.keepIn K (.ref f_pieces_in) = true)
    (a_hanging_in : PySem.W.nsIn K mainGlobals "hanging_in" = some (some (.ref f_hanging_in)))
    (l_hanging_in : K.lookup f_hanging_in = some ⟨oc_hanging_in, od_hanging_in, .func (PySem.W.fnOf "hanging_in" "hanging_in" (defArgs st_hanging_in) (defBody st_hanging_in) (defScope st_hanging_in) .none kV_hanging_in dc_hanging_in pm_hanging_in an_hanging_in cd_hanging_in ct_hanging_in), sl_hanging_in⟩)
    (q_hanging_in : PySem.W.codeIn K cd_hanging_in "hanging_in" = true)
    (k_hanging_in : PySem.W.keepIn K (.ref f_hanging_in) = true)
    (a_hanging_lots : PySem.W.nsIn K mainGlobals "hanging_lots" = some (some (.ref f_hanging_lots)))
    (l_hanging_lots : K.lookup f_hanging_lots = some ⟨oc_hanging_lots, od_hanging_lots, .func (PySem.W.fnOf "hanging_lots" "hanging_lots" (defArgs st_hanging_lots) (defBody st_hanging_lots) (defScope st_hanging_lots) .none kV_hanging_lots dc_hanging_lots pm_hanging_lots an_hanging_lots cd_hanging_lots ct_hanging_lots), sl_hanging_lots⟩)
    (q_hanging_lots : PySem.W.codeIn K cd_hanging_lots "hanging_lots" = true)
    (k_hanging_lots : PySem.W.keepIn K (.ref f_hanging_lots) = true)
    (a_law_hung : PySem.W.nsIn K mainGlobals "_law_hung" = some (some (.ref f_law_hung)))
    (l_law_hung : K.lookup f_law_hung = some ⟨oc_law_hung, od_law_hung, .func (PySem.W.fnOf "_law_hung" "_law_hung" (defArgs st_law_hung) (defBody st_law_hung) (defScope st_law_hung) .none kV_law_hung dc_law_hung pm_law_hung an_law_hung (.ref kd_law_hung) ct_law_hung), sl_law_hung⟩)
    (q_law_hung : PySem.W.codeIn K (.ref kd_law_hung) "_law_hung" = true)
    (k_law_hung : PySem.W.keepIn K (.ref f_law_hung) = true)
    (lc_law_hung : K.lookup kd_law_hung = some ⟨co_law_hung, cdd_law_hung, .fields cv_law_hung, cs_law_hung⟩)
    (lt_law_hung : cv_law_hung[11]? = some (.ref tb_law_hung))
    (hc_law_hung : PySem.W.codeHdIn K kd_law_hung tb_law_hung = true)
    (ho_law_hung : K.lookup tb_law_hung = none)
    (ht_law_hung : h.get? tb_law_hung = some tab0)
    (a_law_right : PySem.W.nsIn K mainGlobals "_law_right" = some (some (.ref f_law_right)))
    (l_law_right : K.lookup f_law_right = some ⟨oc_law_right, od_law_right, .func (PySem.W.fnOf "_law_right" "_law_right" (defArgs st_law_right) (defBody st_law_right) (defScope st_law_right) .none kV_law_right dc_law_right pm_law_right an_law_right cd_law_right ct_law_right), sl_law_right⟩)
    (q_law_right : PySem.W.codeIn K cd_law_right "_law_right" = true)
    (k_law_right : PySem.W.keepIn K (.ref f_law_right) = true)
    (a_law : PySem.W.nsIn K mainGlobals "law" = some (some (.ref f_law)))
    (l_law : K.lookup f_law = some ⟨oc_law, od_law, .func (PySem.W.fnOf "law" "law" (defArgs st_law) (defBody st_law) (defScope st_law) .none kV_law dc_law pm_law an_law cd_law ct_law), sl_law⟩)
    (q_law : PySem.W.codeIn K cd_law "law" = true)
    (k_law : PySem.W.keepIn K (.ref f_law) = true)
    (to_law_two : (([(tb_law_two, qn_law_two), (tb_law_taken, qn_law_taken), (tb_turn_in, qn_turn_in), (tb_law_hung, qn_law_hung)] : List (Addr × Str)).all fun p => p.1 != tb_law_two || p.2 == qn_law_two) = true)
    (to_law_taken : (([(tb_law_two, qn_law_two), (tb_law_taken, qn_law_taken), (tb_turn_in, qn_turn_in), (tb_law_hung, qn_law_hung)] : List (Addr × Str)).all fun p => p.1 != tb_law_taken || p.2 == qn_law_taken) = true)
    (to_turn_in : (([(tb_law_two, qn_law_two), (tb_law_taken, qn_law_taken), (tb_turn_in, qn_turn_in), (tb_law_hung, qn_law_hung)] : List (Addr × Str)).all fun p => p.1 != tb_turn_in || p.2 == qn_turn_in) = true)
    (to_law_hung : (([(tb_law_two, qn_law_two), (tb_law_taken, qn_law_taken), (tb_turn_in, qn_turn_in), (tb_law_hung, qn_law_hung)] : List (Addr × Str)).all fun p => p.1 != tb_law_hung || p.2 == qn_law_hung) = true)
    (sa_own_size : PySem.W.findIn K (.ref c_Web) "own_size" = some (some (.ref s_own_size)))
    (sg_own_size : PySem.W.specialIn K (.ref s_own_size) "__get__" = some (some (.builtin "member_descriptor.__get__")))
    (st_own_size : PySem.W.takesIn K (.ref s_own_size) = some true)
    (sy_own_size : PySem.W.typeIn K (.ref s_own_size) = some (.type "member_descriptor"))
    (si_own_size : PySem.W.slotIn K s_own_size c_Web = some 0)
    (sa_own_ties : PySem.W.findIn K (.ref c_Web) "own_ties" = some (some (.ref s_own_ties)))
    (sg_own_ties : PySem.W.specialIn K (.ref s_own_ties) "__get__" = some (some (.builtin "member_descriptor.__get__")))
    (st_own_ties : PySem.W.takesIn K (.ref s_own_ties) = some true)
    (sy_own_ties : PySem.W.typeIn K (.ref s_own_ties) = some (.type "member_descriptor"))
    (si_own_ties : PySem.W.slotIn K s_own_ties c_Web = some 1)
    (io_Web_NoneType : PySem.W.kitOne K (.type "NoneType") (.ref c_Web) = some false)
    (io_Web_bool : PySem.W.kitOne K (.type "bool") (.ref c_Web) = some false)
    (io_Web_int : PySem.W.kitOne K (.type "int") (.ref c_Web) = some false)
    (io_Web_str : PySem.W.kitOne K (.type "str") (.ref c_Web) = some false)
    (io_Web_tuple : PySem.W.kitOne K (.type "tuple") (.ref c_Web) = some false)
    (io_Web_list : PySem.W.kitOne K (.type "list") (.ref c_Web) = some false)
    (io_Web_dict : PySem.W.kitOne K (.type "dict") (.ref c_Web) = some false)
    (io_Web_cWeb : PySem.W.kitOne K (.ref c_Web) (.ref c_Web) = some true)
    (ib_bool_Web : PySem.W.kitOne K (.ref c_Web) (.type "bool") = some false)
    (ib_int_Web : PySem.W.kitOne K (.ref c_Web) (.type "int") = some false)
    (ib_tuple_Web : PySem.W.kitOne K (.ref c_Web) (.type "tuple") = some false)
    (xa_InvalidWeb : PySem.W.nsIn K mainGlobals "InvalidWeb" = some (some (.ref x_InvalidWeb)))
    (xe_InvalidWeb : PySem.W.subIn K (.ref x_InvalidWeb) (.type "BaseException") = some true)
    (xi_InvalidWeb : PySem.W.isClsIn K x_InvalidWeb = true)
    (xt_InvalidWeb : PySem.W.typeIn K (.ref x_InvalidWeb) = some (.type "type"))
    (xk_InvalidWeb : PySem.W.keepIn K (.ref x_InvalidWeb) = true)
    (xa_InvalidLot : PySem.W.nsIn K mainGlobals "InvalidLot" = some (some (.ref x_InvalidLot)))
    (xe_InvalidLot : PySem.W.subIn K (.ref x_InvalidLot) (.type "BaseException") = some true)
    (xi_InvalidLot : PySem.W.isClsIn K x_InvalidLot = true)
    (xt_InvalidLot : PySem.W.typeIn K (.ref x_InvalidLot) = some (.type "type"))
    (xk_InvalidLot : PySem.W.keepIn K (.ref x_InvalidLot) = true)
    (xa_InvalidOperation : PySem.W.nsIn K mainGlobals "InvalidOperation" = some (some (.ref x_InvalidOperation)))
    (xe_InvalidOperation : PySem.W.subIn K (.ref x_InvalidOperation) (.type "BaseException") = some true)
    (xi_InvalidOperation : PySem.W.isClsIn K x_InvalidOperation = true)
    (xt_InvalidOperation : PySem.W.typeIn K (.ref x_InvalidOperation) = some (.type "type"))
    (xk_InvalidOperation : PySem.W.keepIn K (.ref x_InvalidOperation) = true)
    (xa_InvalidNumber : PySem.W.nsIn K mainGlobals "InvalidNumber" = some (some (.ref x_InvalidNumber)))
    (xe_InvalidNumber : PySem.W.subIn K (.ref x_InvalidNumber) (.type "BaseException") = some true)
    (xi_InvalidNumber : PySem.W.isClsIn K x_InvalidNumber = true)
    (xt_InvalidNumber : PySem.W.typeIn K (.ref x_InvalidNumber) = some (.type "type"))
    (xk_InvalidNumber : PySem.W.keepIn K (.ref x_InvalidNumber) = true)
    (xa_TooMany : PySem.W.nsIn K mainGlobals "TooMany" = some (some (.ref x_TooMany)))
    (xe_TooMany : PySem.W.subIn K (.ref x_TooMany) (.type "BaseException") = some true)
    (xi_TooMany : PySem.W.isClsIn K x_TooMany = true)
    (xt_TooMany : PySem.W.typeIn K (.ref x_TooMany) = some (.type "type"))
    (xk_TooMany : PySem.W.keepIn K (.ref x_TooMany) = true)
    (xs_InvalidWeb_InvalidWeb : PySem.W.subIn K (.ref x_InvalidWeb) (.ref x_InvalidWeb) = some true)
    (xs_InvalidLot_InvalidWeb : PySem.W.subIn K (.ref x_InvalidLot) (.ref x_InvalidWeb) = some false)
    (xs_InvalidOperation_InvalidWeb : PySem.W.subIn K (.ref x_InvalidOperation) (.ref x_InvalidWeb) = some false)
    (xs_InvalidNumber_InvalidWeb : PySem.W.subIn K (.ref x_InvalidNumber) (.ref x_InvalidWeb) = some false)
    (xs_TooMany_InvalidWeb : PySem.W.subIn K (.ref x_TooMany) (.ref x_InvalidWeb) = some false)
    (xx_InvalidWeb : PySem.W.excIn K x_InvalidWeb [.type "ValueError", .type "Exception", .type "BaseException", .type "object"] "ValueError.__new__" = true)
    (xs_InvalidWeb_InvalidLot : PySem.W.subIn K (.ref x_InvalidWeb) (.ref x_InvalidLot) = some false)
    (xs_InvalidLot_InvalidLot : PySem.W.subIn K (.ref x_InvalidLot) (.ref x_InvalidLot) = some true)
    (xs_InvalidOperation_InvalidLot : PySem.W.subIn K (.ref x_InvalidOperation) (.ref x_InvalidLot) = some false)
    (xs_InvalidNumber_InvalidLot : PySem.W.subIn K (.ref x_InvalidNumber) (.ref x_InvalidLot) = some false)
    (xs_TooMany_InvalidLot : PySem.W.subIn K (.ref x_TooMany) (.ref x_InvalidLot) = some false)
    (xx_InvalidLot : PySem.W.excIn K x_InvalidLot [.type "ValueError", .type "Exception", .type "BaseException", .type "object"] "ValueError.__new__" = true)
    (xs_InvalidWeb_InvalidOperation : PySem.W.subIn K (.ref x_InvalidWeb) (.ref x_InvalidOperation) = some false)
    (xs_InvalidLot_InvalidOperation : PySem.W.subIn K (.ref x_InvalidLot) (.ref x_InvalidOperation) = some false)
    (xs_InvalidOperation_InvalidOperation : PySem.W.subIn K (.ref x_InvalidOperation) (.ref x_InvalidOperation) = some true)
    (xs_InvalidNumber_InvalidOperation : PySem.W.subIn K (.ref x_InvalidNumber) (.ref x_InvalidOperation) = some false)
    (xs_TooMany_InvalidOperation : PySem.W.subIn K (.ref x_TooMany) (.ref x_InvalidOperation) = some false)
    (xx_InvalidOperation : PySem.W.excIn K x_InvalidOperation [.type "ValueError", .type "Exception", .type "BaseException", .type "object"] "ValueError.__new__" = true)
    (xs_InvalidWeb_InvalidNumber : PySem.W.subIn K (.ref x_InvalidWeb) (.ref x_InvalidNumber) = some false)
    (xs_InvalidLot_InvalidNumber : PySem.W.subIn K (.ref x_InvalidLot) (.ref x_InvalidNumber) = some false)
    (xs_InvalidOperation_InvalidNumber : PySem.W.subIn K (.ref x_InvalidOperation) (.ref x_InvalidNumber) = some false)
    (xs_InvalidNumber_InvalidNumber : PySem.W.subIn K (.ref x_InvalidNumber) (.ref x_InvalidNumber) = some true)
    (xs_TooMany_InvalidNumber : PySem.W.subIn K (.ref x_TooMany) (.ref x_InvalidNumber) = some false)
    (xga_InvalidNumber : PySem.W.findIn K (.ref x_InvalidNumber) "__getattribute__" = some (some (.builtin "BaseException.__getattribute__")))
    (xgg_InvalidNumber : PySem.W.findIn K (.ref x_InvalidNumber) "__getattr__" = some none)
    (xhd_InvalidNumber : PySem.W.hasDictIn K x_InvalidNumber = true)
    (xff_InvalidNumber : PySem.W.findIn K (.ref x_InvalidNumber) "given" = some none)
    (ii_InvalidNumber : PySem.W.findIn K (.ref x_InvalidNumber) "__init__" = some (some (.ref i_InvalidNumber)))
    (it_InvalidNumber : PySem.W.typeIn K (.ref i_InvalidNumber) = some (.type "function"))
    (il_InvalidNumber : K.lookup i_InvalidNumber = some ⟨ioc_InvalidNumber, iod_InvalidNumber, .func (PySem.W.ksFn "__init__" "InvalidNumber.__init__" (defArgs sx_InvalidNumber) (defBody sx_InvalidNumber) (defScope sx_InvalidNumber) .none ikV_InvalidNumber idc_InvalidNumber ipm_InvalidNumber ian_InvalidNumber (.ref ik_InvalidNumber) ict_InvalidNumber ic_InvalidNumber), isl_InvalidNumber⟩)
    (iq_InvalidNumber : PySem.W.codeIn K (.ref ik_InvalidNumber) "InvalidNumber.__init__" = true)
    (ij_InvalidNumber : K.lookup ik_InvalidNumber = some ⟨jco_InvalidNumber, jcd_InvalidNumber, .fields jcv_InvalidNumber, jcs_InvalidNumber⟩)
    (if_InvalidNumber : jcv_InvalidNumber[2]? = some (.str jf_InvalidNumber jt_InvalidNumber))
    (ig_InvalidNumber : ((PySem.Challenge.rw_flowhues_k80_errors_of_joins.prog.main.file : Str) == jf_InvalidNumber) = true)
    (ih_InvalidNumber : K.lookup ic_InvalidNumber = some ⟨kco_InvalidNumber, kcd_InvalidNumber, .cell (some (.ref x_InvalidNumber)), kcs_InvalidNumber⟩)
    (jx_InvalidNumber : PySem.W.excInitIn K x_InvalidNumber [.type "IndexError", .type "LookupError", .type "Exception", .type "BaseException", .type "object"] "IndexError.__new__" = true)
    (jo_InvalidNumber : PySem.W.excOver K x_InvalidNumber [.type "IndexError", .type "LookupError", .type "Exception", .type "BaseException", .type "object"] = true)
    (jn_InvalidNumber : PySem.W.nsIn K mainGlobals "super" = some none)
    (js_InvalidNumber : (PySem.Challenge.rw_flowhues_k80_errors_of_joins.prog.main.scope.names.lookup ("super" : Str)).isSome = false)
    (jc_InvalidNumber : (PySem.W.clsIn K x_InvalidNumber).isSome = true)
    (jm_InvalidNumber : PySem.W.mroIn K x_InvalidNumber (.ref x_InvalidNumber) = some true)
    (ju_InvalidNumber : PySem.W.ks_superIn K x_InvalidNumber x_InvalidNumber "__init__" = some (some (.builtin "IndexError.__init__")))
    (jb_InvalidNumber : PySem.W.subIn K (.ref x_InvalidNumber) (.type "IndexError") = some true)
    (jq_InvalidNumber : PySem.W.nsIn K cStatics "thirdparty.any" = some none)
    (ja_InvalidNumber : PySem.W.findIn K (.ref x_InvalidNumber) "__setattr__" = some (some (.builtin "object.__setattr__")))
    (jk_InvalidNumber : PySem.W.takerIn K x_InvalidNumber "given" = some none)
    (jh_InvalidNumber : PySem.W.hasDictIn K x_InvalidNumber = true)
    (xs_InvalidWeb_TooMany : PySem.W.subIn K (.ref x_InvalidWeb) (.ref x_TooMany) = some false)
    (xs_InvalidLot_TooMany : PySem.W.subIn K (.ref x_InvalidLot) (.ref x_TooMany) = some false)
    (xs_InvalidOperation_TooMany : PySem.W.subIn K (.ref x_InvalidOperation) (.ref x_TooMany) = some false)
    (xs_InvalidNumber_TooMany : PySem.W.subIn K (.ref x_InvalidNumber) (.ref x_TooMany) = some false)
    (xs_TooMany_TooMany : PySem.W.subIn K (.ref x_TooMany) (.ref x_TooMany) = some true)
    (xga_TooMany : PySem.W.findIn K (.ref x_TooMany) "__getattribute__" = some (some (.builtin "BaseException.__getattribute__")))
    (xgg_TooMany : PySem.W.findIn K (.ref x_TooMany) "__getattr__" = some none)
    (xhd_TooMany : PySem.W.hasDictIn K x_TooMany = true)
    (xff_TooMany : PySem.W.findIn K (.ref x_TooMany) "limit" = some none)
    (ii_TooMany : PySem.W.findIn K (.ref x_TooMany) "__init__" = some (some (.ref i_TooMany)))
    (it_TooMany : PySem.W.typeIn K (.ref i_TooMany) = some (.type "function"))
    (il_TooMany : K.lookup i_TooMany = some ⟨ioc_TooMany, iod_TooMany, .func (PySem.W.ksFn "__init__" "TooMany.__init__" (defArgs sx_TooMany) (defBody sx_TooMany) (defScope sx_TooMany) .none ikV_TooMany idc_TooMany ipm_TooMany ian_TooMany (.ref ik_TooMany) ict_TooMany ic_TooMany), isl_TooMany⟩)
    (iq_TooMany : PySem.W.codeIn K (.ref ik_TooMany) "TooMany.__init__" = true)
    (ij_TooMany : K.lookup ik_TooMany = some ⟨jco_TooMany, jcd_TooMany, .fields jcv_TooMany, jcs_TooMany⟩)
    (if_TooMany : jcv_TooMany[2]? = some (.str jf_TooMany jt_TooMany))
    (ig_TooMany : ((PySem.Challenge.rw_flowhues_k80_errors_of_joins.prog.main.file : Str) == jf_TooMany) = true)
    (ih_TooMany : K.lookup ic_TooMany = some ⟨kco_TooMany, kcd_TooMany, .cell (some (.ref x_TooMany)), kcs_TooMany⟩)
    (jx_TooMany : PySem.W.excInitIn K x_TooMany [.type "OverflowError", .type "ArithmeticError", .type "Exception", .type "BaseException", .type "object"] "OverflowError.__new__" = true)
    (jo_TooMany : PySem.W.excOver K x_TooMany [.type "OverflowError", .type "ArithmeticError", .type "Exception", .type "BaseException", .type "object"] = true)
    (jn_TooMany : PySem.W.nsIn K mainGlobals "super" = some none)
    (js_TooMany : (PySem.Challenge.rw_flowhues_k80_errors_of_joins.prog.main.scope.names.lookup ("super" : Str)).isSome = false)
    (jc_TooMany : (PySem.W.clsIn K x_TooMany).isSome = true)
    (jm_TooMany : PySem.W.mroIn K x_TooMany (.ref x_TooMany) = some true)
    (ju_TooMany : PySem.W.ks_superIn K x_TooMany x_TooMany "__init__" = some (some (.builtin "OverflowError.__init__")))
    (jb_TooMany : PySem.W.subIn K (.ref x_TooMany) (.type "OverflowError") = some true)
    (jq_TooMany : PySem.W.nsIn K cStatics "thirdparty.any" = some none)
    (ja_TooMany : PySem.W.findIn K (.ref x_TooMany) "__setattr__" = some (some (.builtin "object.__setattr__")))
    (jk_TooMany : PySem.W.takerIn K x_TooMany "limit" = some none)
    (jh_TooMany : PySem.W.hasDictIn K x_TooMany = true)
    (n_abs : PySem.W.nsIn K mainGlobals "abs" = some none)
    (n_all : PySem.W.nsIn K mainGlobals "all" = some none)
    (n_any : PySem.W.nsIn K mainGlobals "any" = some none)
    (n_bool : PySem.W.nsIn K mainGlobals "bool" = some none)
    (n_enumerate : PySem.W.nsIn K mainGlobals "enumerate" = some none)
    (n_int : PySem.W.nsIn K mainGlobals "int" = some none)
    (n_isinstance : PySem.W.nsIn K mainGlobals "isinstance" = some none)
    (n_len : PySem.W.nsIn K mainGlobals "len" = some none)
    (n_list : PySem.W.nsIn K mainGlobals "list" = some none)
    (n_max : PySem.W.nsIn K mainGlobals "max" = some none)
    (n_min : PySem.W.nsIn K mainGlobals "min" = some none)
    (n_range : PySem.W.nsIn K mainGlobals "range" = some none)
    (n_repr : PySem.W.nsIn K mainGlobals "repr" = some none)
    (n_sorted : PySem.W.nsIn K mainGlobals "sorted" = some none)
    (n_tuple : PySem.W.nsIn K mainGlobals "tuple" = some none)
    (n_zip : PySem.W.nsIn K mainGlobals "zip" = some none)
    (c_GREAT : PySem.W.nsIn K mainGlobals "GREAT" = some (some (.int 1000000000000000000000000000000000000000000000000000000000000 ct_GREAT)))
    (c_MAX_PLACES : PySem.W.nsIn K mainGlobals "MAX_PLACES" = some (some (.int 7 ct_MAX_PLACES)))
    (c_MAX_TIES : PySem.W.nsIn K mainGlobals "MAX_TIES" = some (some (.int 14 ct_MAX_TIES)))
    (c_MOST_TAKEN : PySem.W.nsIn K mainGlobals "MOST_TAKEN" = some (some (.int 14 ct_MOST_TAKEN)))
    : ∃ (G : Gc) (m : List D → AH → Res D) (cs : List (Addr × Addr)), (∀ p ∈ cs, h.get? p.2 = some tab0) ∧ (∀ p ∈ cs, K.lookup p.2 = none) ∧ (∀ p ∈ cs, PySem.W.CodeHd h p.1 p.2) ∧ (∀ p ∈ G.T, p.1 ∈ cs.map (·.2)) ∧ G.K = K ∧ (∀ ns : List Int, ns.length ≤ 63 → ∃ A, m [.scr (ns.map .int)] [] = .ok (.bl true) A) ∧
      ∀ base : Heap, K.In base → base.Ns mainGlobals mg → (∀ p ∈ cs, LamX.TabB base mg p.1 p.2) → FnG PySem.Challenge.rw_flowhues_k80_errors_of_joins.prog w K mg base G 13 fa m := by
  have e := hfa.symm.trans (PySem.W.mg_of X G a_law)
  cases e
  have SC_Web : SlX.SCls K c_Web := ⟨pg_Web, ic_Web, po_Web, sa_Web⟩
  have SI_Web : SlX.SIsi K c_Web := ⟨ca_Web, gcn, gct, cm_Web⟩
  have T : ∀ base : Heap, (∀ p ∈ codesOf ⟨f_law_jar, f_is_int, f_is_whole, f_is_within, f_require_size, f_are_ties, f_Web_init, f_law_dip, f_law_one, f_law_met, f_require_web, f_names_behind, f_put_on, f_ties_from, f_made, f_beside, f_require_place, f_require_far_place, f_joined, f_require_tie, f_require_far_tie, f_require_no_loop, f_along, f_in_line, f_law_two, f_require_many, f_in_parallel, f_rowed, f_in_row, f_law_taken, f_is_lot_of, f_require_lot_of_ties, f_require_two_places, f_whole_lot, f_does_hang_in, f_does_hang, f_require_hanging, f_turned_pairs, f_turned_part, f_turn_in, f_turn_names, f_pieces_in, f_hanging_in, f_hanging_lots, f_law_hung, f_law_right, fa, c_Web, s_own_size, s_own_ties, kd_law_two, tb_law_two, kd_law_taken, tb_law_taken, kd_turn_in, tb_turn_in, kd_law_hung, tb_law_hung, x_InvalidWeb, x_InvalidLot, x_InvalidOperation, x_InvalidNumber, x_TooMany, i_InvalidNumber, i_TooMany⟩, LamX.TabB base mg p.1 p.2) → Tx PySem.Challenge.rw_flowhues_k80_errors_of_joins.prog K mg base ⟨f_law_jar, f_is_int, f_is_whole, f_is_within, f_require_size, f_are_ties, f_Web_init, f_law_dip, f_law_one, f_law_met, f_require_web, f_names_behind, f_put_on, f_ties_from, f_made, f_beside, f_require_place, f_require_far_place, f_joined, f_require_tie, f_require_far_tie, f_require_no_loop, f_along, f_in_line, f_law_two, f_require_many, f_in_parallel, f_rowed, f_in_row, f_law_taken, f_is_lot_of, f_require_lot_of_ties, f_require_two_places, f_whole_lot, f_does_hang_in, f_does_hang, f_require_hanging, f_turned_pairs, f_turned_part, f_turn_in, f_turn_names, f_pieces_in, f_hanging_in, f_hanging_lots, f_law_hung, f_law_right, fa, c_Web, s_own_size, s_own_ties, kd_law_two, tb_law_two, kd_law_taken, tb_law_taken, kd_turn_in, tb_turn_in, kd_law_hung, tb_law_hung, x_InvalidWeb, x_InvalidLot, x_InvalidOperation, x_InvalidNumber, x_TooMany, i_InvalidNumber, i_TooMany⟩ (gcOf K ⟨f_law_jar, f_is_int, f_is_whole, f_is_within, f_require_size, f_are_ties, f_Web_init, f_law_dip, f_law_one, f_law_met, f_require_web, f_names_behind, f_put_on, f_ties_from, f_made, f_beside, f_require_place, f_require_far_place, f_joined, f_require_tie, f_require_far_tie, f_require_no_loop, f_along, f_in_line, f_law_two, f_require_many, f_in_parallel, f_rowed, f_in_row, f_law_taken, f_is_lot_of, f_require_lot_of_ties, f_require_two_places, f_whole_lot, f_does_hang_in, f_does_hang, f_require_hanging, f_turned_pairs, f_turned_part, f_turn_in, f_turn_names, f_pieces_in, f_hanging_in, f_hanging_lots, f_law_hung, f_law_right, fa, c_Web, s_own_size, s_own_ties, kd_law_two, tb_law_two, kd_law_taken, tb_law_taken, kd_turn_in, tb_turn_in, kd_law_hung, tb_law_hung, x_InvalidWeb, x_InvalidLot, x_InvalidOperation, x_InvalidNumber, x_TooMany, i_InvalidNumber, i_TooMany⟩) := fun base tb => ⟨rfl,
    ⟨_, fun_mk l_law_jar q_law_jar k_law_jar⟩,
    PySem.W.mg_of X G a_law_jar,
    k_law_jar,
    ⟨_, fun_mk l_is_int q_is_int k_is_int⟩,
    PySem.W.mg_of X G a_is_int,
    k_is_int,
    ⟨_, fun_mk l_is_whole q_is_whole k_is_whole⟩,
    PySem.W.mg_of X G a_is_whole,
    k_is_whole,
    ⟨_, fun_mk l_is_within q_is_within k_is_within⟩,
    PySem.W.mg_of X G a_is_within,
    k_is_within,
    ⟨_, fun_mk l_require_size q_require_size k_require_size⟩,
    PySem.W.mg_of X G a_require_size,
    k_require_size,
    ⟨_, fun_mk l_are_ties q_are_ties k_are_ties⟩,
    PySem.W.mg_of X G a_are_ties,
    k_are_ties,
    ⟨_, fun_mk l_Web_init q_Web_init k_Web_init⟩,
    ⟨_, fun_mk l_law_dip q_law_dip k_law_dip⟩,
    PySem.W.mg_of X G a_law_dip,
    k_law_dip,
    ⟨_, fun_mk l_law_one q_law_one k_law_one⟩,
    PySem.W.mg_of X G a_law_one,
    k_law_one,
    ⟨_, fun_mk l_law_met q_law_met k_law_met⟩,
    PySem.W.mg_of X G a_law_met,
    k_law_met,
    ⟨_, fun_mk l_require_web q_require_web k_require_web⟩,
    PySem.W.mg_of X G a_require_web,
    k_require_web,
    ⟨_, fun_mk l_names_behind q_names_behind k_names_behind⟩,
    PySem.W.mg_of X G a_names_behind,
    k_names_behind,
    ⟨_, fun_mk l_put_on q_put_on k_put_on⟩,
    PySem.W.mg_of X G a_put_on,
    k_put_on,
    ⟨_, fun_mk l_ties_from q_ties_from k_ties_from⟩,
    PySem.W.mg_of X G a_ties_from,
    k_ties_from,
    ⟨_, fun_mk l_made q_made k_made⟩,
    PySem.W.mg_of X G a_made,
    k_made,
    ⟨_, fun_mk l_beside q_beside k_beside⟩,
    PySem.W.mg_of X G a_beside,
    k_beside,
    ⟨_, fun_mk l_require_place q_require_place k_require_place⟩,
    PySem.W.mg_of X G a_require_place,
    k_require_place,
    ⟨_, fun_mk l_require_far_place q_require_far_place k_require_far_place⟩,
    PySem.W.mg_of X G a_require_far_place,
    k_require_far_place,
    ⟨_, fun_mk l_joined q_joined k_joined⟩,
    PySem.W.mg_of X G a_joined,
    k_joined,
    ⟨_, fun_mk l_require_tie q_require_tie k_require_tie⟩,
    PySem.W.mg_of X G a_require_tie,
    k_require_tie,
    ⟨_, fun_mk l_require_far_tie q_require_far_tie k_require_far_tie⟩,
    PySem.W.mg_of X G a_require_far_tie,
    k_require_far_tie,
    ⟨_, fun_mk l_require_no_loop q_require_no_loop k_require_no_loop⟩,
    PySem.W.mg_of X G a_require_no_loop,
    k_require_no_loop,
    ⟨_, fun_mk l_along q_along k_along⟩,
    PySem.W.mg_of X G a_along,
    k_along,
    ⟨_, fun_mk l_in_line q_in_line k_in_line⟩,
    PySem.W.mg_of X G a_in_line,
    k_in_line,
    ⟨_, fun_mk l_law_two q_law_two k_law_two⟩,
    PySem.W.mg_of X G a_law_two,
    k_law_two,
    ⟨_, fun_mk l_require_many q_require_many k_require_many⟩,
    PySem.W.mg_of X G a_require_many,
    k_require_many,
    ⟨_, fun_mk l_in_parallel q_in_parallel k_in_parallel⟩,
    PySem.W.mg_of X G a_in_parallel,
    k_in_parallel,
    ⟨_, fun_mk l_rowed q_rowed k_rowed⟩,
    PySem.W.mg_of X G a_rowed,
    k_rowed,
    ⟨_, fun_mk l_in_row q_in_row k_in_row⟩,
    PySem.W.mg_of X G a_in_row,
    k_in_row,
    ⟨_, fun_mk l_law_taken q_law_taken k_law_taken⟩,
    PySem.W.mg_of X G a_law_taken,
    k_law_taken,
    ⟨_, fun_mk l_is_lot_of q_is_lot_of k_is_lot_of⟩,
    PySem.W.mg_of X G a_is_lot_of,
    k_is_lot_of,
    ⟨_, fun_mk l_require_lot_of_ties q_require_lot_of_ties k_require_lot_of_ties⟩,
    PySem.W.mg_of X G a_require_lot_of_ties,
    k_require_lot_of_ties,
    ⟨_, fun_mk l_require_two_places q_require_two_places k_require_two_places⟩,
    PySem.W.mg_of X G a_require_two_places,
    k_require_two_places,
    ⟨_, fun_mk l_whole_lot q_whole_lot k_whole_lot⟩,
    PySem.W.mg_of X G a_whole_lot,
    k_whole_lot,
    ⟨_, fun_mk l_does_hang_in q_does_hang_in k_does_hang_in⟩,
    PySem.W.mg_of X G a_does_hang_in,
    k_does_hang_in,
    ⟨_, fun_mk l_does_hang q_does_hang k_does_hang⟩,
    PySem.W.mg_of X G a_does_hang,
    k_does_hang,
    ⟨_, fun_mk l_require_hanging q_require_hanging k_require_hanging⟩,
    PySem.W.mg_of X G a_require_hanging,
    k_require_hanging,
    ⟨_, fun_mk l_turned_pairs q_turned_pairs k_turned_pairs⟩,
    PySem.W.mg_of X G a_turned_pairs,
    k_turned_pairs,
    ⟨_, fun_mk l_turned_part q_turned_part k_turned_part⟩,
    PySem.W.mg_of X G a_turned_part,
    k_turned_part,
    ⟨_, fun_mk l_turn_in q_turn_in k_turn_in⟩,
    PySem.W.mg_of X G a_turn_in,
    k_turn_in,
    ⟨_, fun_mk l_turn_names q_turn_names k_turn_names⟩,
    PySem.W.mg_of X G a_turn_names,
    k_turn_names,
    ⟨_, fun_mk l_pieces_in q_pieces_in k_pieces_in⟩,
    PySem.W.mg_of X G a_pieces_in,
    k_pieces_in,
    ⟨_, fun_mk l_hanging_in q_hanging_in k_hanging_in⟩,
    PySem.W.mg_of X G a_hanging_in,
    k_hanging_in,
    ⟨_, fun_mk l_hanging_lots q_hanging_lots k_hanging_lots⟩,
    PySem.W.mg_of X G a_hanging_lots,
    k_hanging_lots,
    ⟨_, fun_mk l_law_hung q_law_hung k_law_hung⟩,
    PySem.W.mg_of X G a_law_hung,
    k_law_hung,
    ⟨_, fun_mk l_law_right q_law_right k_law_right⟩,
    PySem.W.mg_of X G a_law_right,
    k_law_right,
    ⟨_, fun_mk l_law q_law k_law⟩,
    PySem.W.mg_of X G a_law,
    k_law,
    tb (kd_law_two, tb_law_two) (.head _),
    (by unfold fnCode; rw [l_law_two]),
    (.head _),
    only_by to_law_two,
    tb (kd_law_taken, tb_law_taken) (.tail _ (.head _)),
    (by unfold fnCode; rw [l_law_taken]),
    (.tail _ (.head _)),
    only_by to_law_taken,
    tb (kd_turn_in, tb_turn_in) (.tail _ (.tail _ (.head _))),
    (by unfold fnCode; rw [l_turn_in]),
    (.tail _ (.tail _ (.head _))),
    only_by to_turn_in,
    tb (kd_law_hung, tb_law_hung) (.tail _ (.tail _ (.tail _ (.head _)))),
    (by unfold fnCode; rw [l_law_hung]),
    (.tail _ (.tail _ (.tail _ (.head _)))),
    only_by to_law_hung,
    ⟨rfl, SC_Web⟩,
    PySem.W.mg_of X G a_Web,
    ⟨mk_Web, a_Web_init, i_Web_init, kc_Web⟩,
    ⟨kits io_Web_NoneType io_Web_bool io_Web_int io_Web_str io_Web_tuple io_Web_list io_Web_dict, fun c C h => clsEach h (fun e1 e2 => by subst e1; subst e2; exact ⟨SC_Web, SI_Web, io_Web_cWeb⟩)⟩,
    ⟨isB_bool K, fun c C h => clsEach h (fun e1 e2 => by subst e1; subst e2; exact ⟨SC_Web, SI_Web, ib_bool_Web⟩)⟩,
    ⟨isB_int K, fun c C h => clsEach h (fun e1 e2 => by subst e1; subst e2; exact ⟨SC_Web, SI_Web, ib_int_Web⟩)⟩,
    ⟨isB_tuple K, fun c C h => clsEach h (fun e1 e2 => by subst e1; subst e2; exact ⟨SC_Web, SI_Web, ib_tuple_Web⟩)⟩,
    ⟨sa_own_size, sg_own_size, st_own_size, sy_own_size, si_own_size, by decide⟩,
    ⟨sa_own_ties, sg_own_ties, st_own_ties, sy_own_ties, si_own_ties, by decide⟩,
    PySem.W.mg_of X G xa_InvalidWeb,
    rfl,
    PySem.W.mg_of X G xa_InvalidLot,
    rfl,
    PySem.W.mg_of X G xa_InvalidOperation,
    rfl,
    PySem.W.mg_of X G xa_InvalidNumber,
    rfl,
    rfl,
    PySem.W.mg_of X G xa_TooMany,
    rfl,
    rfl,
    (fun n C h => xclEach h (fun e1 e2 => by subst e1; subst e2; exact exm_by xe_InvalidWeb xi_InvalidWeb xt_InvalidWeb xs_InvalidWeb_InvalidWeb) (fun e1 e2 => by subst e1; subst e2; exact exm_by xe_InvalidWeb xi_InvalidWeb xt_InvalidWeb xs_InvalidLot_InvalidWeb) (fun e1 e2 => by subst e1; subst e2; exact exm_by xe_InvalidWeb xi_InvalidWeb xt_InvalidWeb xs_InvalidOperation_InvalidWeb) (fun e1 e2 => by subst e1; subst e2; exact exm_by xe_InvalidWeb xi_InvalidWeb xt_InvalidWeb xs_InvalidNumber_InvalidWeb) (fun e1 e2 => by subst e1; subst e2; exact exm_by xe_InvalidWeb xi_InvalidWeb xt_InvalidWeb xs_TooMany_InvalidWeb)),
    xcp_mk rfl base_ValueError xx_InvalidWeb xk_InvalidWeb xe_InvalidWeb xt_InvalidWeb,
    (fun n C h => xclEach h (fun e1 e2 => by subst e1; subst e2; exact exm_by xe_InvalidLot xi_InvalidLot xt_InvalidLot xs_InvalidWeb_InvalidLot) (fun e1 e2 => by subst e1; subst e2; exact exm_by xe_InvalidLot xi_InvalidLot xt_InvalidLot xs_InvalidLot_InvalidLot) (fun e1 e2 => by subst e1; subst e2; exact exm_by xe_InvalidLot xi_InvalidLot xt_InvalidLot xs_InvalidOperation_InvalidLot) (fun e1 e2 => by subst e1; subst e2; exact exm_by xe_InvalidLot xi_InvalidLot xt_InvalidLot xs_InvalidNumber_InvalidLot) (fun e1 e2 => by subst e1; subst e2; exact exm_by xe_InvalidLot xi_InvalidLot xt_InvalidLot xs_TooMany_InvalidLot)),
    xcp_mk rfl base_ValueError xx_InvalidLot xk_InvalidLot xe_InvalidLot xt_InvalidLot,
    (fun n C h => xclEach h (fun e1 e2 => by subst e1; subst e2; exact exm_by xe_InvalidOperation xi_InvalidOperation xt_InvalidOperation xs_InvalidWeb_InvalidOperation) (fun e1 e2 => by subst e1; subst e2; exact exm_by xe_InvalidOperation xi_InvalidOperation xt_InvalidOperation xs_InvalidLot_InvalidOperation) (fun e1 e2 => by subst e1; subst e2; exact exm_by xe_InvalidOperation xi_InvalidOperation xt_InvalidOperation xs_InvalidOperation_InvalidOperation) (fun e1 e2 => by subst e1; subst e2; exact exm_by xe_InvalidOperation xi_InvalidOperation xt_InvalidOperation xs_InvalidNumber_InvalidOperation) (fun e1 e2 => by subst e1; subst e2; exact exm_by xe_InvalidOperation xi_InvalidOperation xt_InvalidOperation xs_TooMany_InvalidOperation)),
    xcp_mk rfl base_ValueError xx_InvalidOperation xk_InvalidOperation xe_InvalidOperation xt_InvalidOperation,
    (fun n C h => xclEach h (fun e1 e2 => by subst e1; subst e2; exact exm_by xe_InvalidNumber xi_InvalidNumber xt_InvalidNumber xs_InvalidWeb_InvalidNumber) (fun e1 e2 => by subst e1; subst e2; exact exm_by xe_InvalidNumber xi_InvalidNumber xt_InvalidNumber xs_InvalidLot_InvalidNumber) (fun e1 e2 => by subst e1; subst e2; exact exm_by xe_InvalidNumber xi_InvalidNumber xt_InvalidNumber xs_InvalidOperation_InvalidNumber) (fun e1 e2 => by subst e1; subst e2; exact exm_by xe_InvalidNumber xi_InvalidNumber xt_InvalidNumber xs_InvalidNumber_InvalidNumber) (fun e1 e2 => by subst e1; subst e2; exact exm_by xe_InvalidNumber xi_InvalidNumber xt_InvalidNumber xs_TooMany_InvalidNumber)),
    ⟨xga_InvalidNumber, xgg_InvalidNumber, xe_InvalidNumber, xhd_InvalidNumber⟩,
    xff_InvalidNumber,
    ⟨base_IndexError, jx_InvalidNumber, jo_InvalidNumber, xk_InvalidNumber, ii_InvalidNumber, it_InvalidNumber, ⟨_, _, _, _, _, _, _, _, _, _, _, _, _, _, _, _, _, _, _, _, _, _, _, il_InvalidNumber, iq_InvalidNumber, ij_InvalidNumber, if_InvalidNumber, ig_InvalidNumber, ih_InvalidNumber, rfl, rfl, fun _ _ => rfl, by decide +kernel, by decide +kernel, by decide +kernel, by decide +kernel, by decide +kernel, rfl, rfl, rfl⟩, ⟨_, _, _, _, _, _, _, _, _, _, rfl, fun _ _ _ _ _ => ⟨⟨_, rfl⟩, rfl, rfl, rfl, rfl⟩⟩, by decide, by decide, jn_InvalidNumber, js_InvalidNumber, jc_InvalidNumber, jm_InvalidNumber, ju_InvalidNumber, jb_InvalidNumber, jq_InvalidNumber, ja_InvalidNumber, jk_InvalidNumber, jh_InvalidNumber, xe_InvalidNumber, xt_InvalidNumber⟩,
    (fun n C h => xclEach h (fun e1 e2 => by subst e1; subst e2; exact exm_by xe_TooMany xi_TooMany xt_TooMany xs_InvalidWeb_TooMany) (fun e1 e2 => by subst e1; subst e2; exact exm_by xe_TooMany xi_TooMany xt_TooMany xs_InvalidLot_TooMany) (fun e1 e2 => by subst e1; subst e2; exact exm_by xe_TooMany xi_TooMany xt_TooMany xs_InvalidOperation_TooMany) (fun e1 e2 => by subst e1; subst e2; exact exm_by xe_TooMany xi_TooMany xt_TooMany xs_InvalidNumber_TooMany) (fun e1 e2 => by subst e1; subst e2; exact exm_by xe_TooMany xi_TooMany xt_TooMany xs_TooMany_TooMany)),
    ⟨xga_TooMany, xgg_TooMany, xe_TooMany, xhd_TooMany⟩,
    xff_TooMany,
    ⟨base_OverflowError, jx_TooMany, jo_TooMany, xk_TooMany, ii_TooMany, it_TooMany, ⟨_, _, _, _, _, _, _, _, _, _, _, _, _, _, _, _, _, _, _, _, _, _, _, il_TooMany, iq_TooMany, ij_TooMany, if_TooMany, ig_TooMany, ih_TooMany, rfl, rfl, fun _ _ => rfl, by decide +kernel, by decide +kernel, by decide +kernel, by decide +kernel, by decide +kernel, rfl, rfl, rfl⟩, ⟨_, _, _, _, _, _, _, _, _, _, rfl, fun _ _ _ _ _ => ⟨⟨_, rfl⟩, rfl, rfl, rfl, rfl⟩⟩, by decide, by decide, jn_TooMany, js_TooMany, jc_TooMany, jm_TooMany, ju_TooMany, jb_TooMany, jq_TooMany, ja_TooMany, jk_TooMany, jh_TooMany, xe_TooMany, xt_TooMany⟩,
    PySem.W.mg_none_of X G n_abs,
    PySem.W.mg_none_of X G n_all,
    PySem.W.mg_none_of X G n_any,
    PySem.W.mg_none_of X G n_bool,
    PySem.W.mg_none_of X G n_enumerate,
    PySem.W.mg_none_of X G n_int,
    PySem.W.mg_none_of X G n_isinstance,
    PySem.W.mg_none_of X G n_len,
    PySem.W.mg_none_of X G n_list,
    PySem.W.mg_none_of X G n_max,
    PySem.W.mg_none_of X G n_min,
    PySem.W.mg_none_of X G n_range,
    PySem.W.mg_none_of X G n_repr,
    PySem.W.mg_none_of X G n_sorted,
    PySem.W.mg_none_of X G n_tuple,
    PySem.W.mg_none_of X G n_zip,
    ⟨_, PySem.W.mg_of X G c_GREAT⟩,
    ⟨_, PySem.W.mg_of X G c_MAX_PLACES⟩,
    ⟨_, PySem.W.mg_of X G c_MAX_TIES⟩,
    ⟨_, PySem.W.mg_of X G c_MOST_TAKEN⟩⟩
  exact ⟨gcOf K ⟨f_law_jar, f_is_int, f_is_whole, f_is_within, f_require_size, f_are_ties, f_Web_init, f_law_dip, f_law_one, f_law_met, f_require_web, f_names_behind, f_put_on, f_ties_from, f_made, f_beside, f_require_place, f_require_far_place, f_joined, f_require_tie, f_require_far_tie, f_require_no_loop, f_along, f_in_line, f_law_two, f_require_many, f_in_parallel, f_rowed, f_in_row, f_law_taken, f_is_lot_of, f_require_lot_of_ties, f_require_two_places, f_whole_lot, f_does_hang_in, f_does_hang, f_require_hanging, f_turned_pairs, f_turned_part, f_turn_in, f_turn_names, f_pieces_in, f_hanging_in, f_hanging_lots, f_law_hung, f_law_right, fa, c_Web, s_own_size, s_own_ties, kd_law_two, tb_law_two, kd_law_taken, tb_law_taken, kd_turn_in, tb_turn_in, kd_law_hung, tb_law_hung, x_InvalidWeb, x_InvalidLot, x_InvalidOperation, x_InvalidNumber, x_TooMany, i_InvalidNumber, i_TooMany⟩, m_law, codesOf ⟨f_law_jar, f_is_int, f_is_whole, f_is_within, f_require_size, f_are_ties, f_Web_init, f_law_dip, f_law_one, f_law_met, f_require_web, f_names_behind, f_put_on, f_ties_from, f_made, f_beside, f_require_place, f_require_far_place, f_joined, f_require_tie, f_require_far_tie, f_require_no_loop, f_along, f_in_line, f_law_two, f_require_many, f_in_parallel, f_rowed, f_in_row, f_law_taken, f_is_lot_of, f_require_lot_of_ties, f_require_two_places, f_whole_lot, f_does_hang_in, f_does_hang, f_require_hanging, f_turned_pairs, f_turned_part, f_turn_in, f_turn_names, f_pieces_in, f_hanging_in, f_hanging_lots, f_law_hung, f_law_right, fa, c_Web, s_own_size, s_own_ties, kd_law_two, tb_law_two, kd_law_taken, tb_law_taken, kd_turn_in, tb_turn_in, kd_law_hung, tb_law_hung, x_InvalidWeb, x_InvalidLot, x_InvalidOperation, x_InvalidNumber, x_TooMany, i_InvalidNumber, i_TooMany⟩, (List.forall_mem_cons.mpr ⟨ht_law_two, (List.forall_mem_cons.mpr ⟨ht_law_taken, (List.forall_mem_cons.mpr ⟨ht_turn_in, (List.forall_mem_cons.mpr ⟨ht_law_hung, (fun _ h => nomatch h)⟩)⟩)⟩)⟩), (List.forall_mem_cons.mpr ⟨ho_law_two, (List.forall_mem_cons.mpr ⟨ho_law_taken, (List.forall_mem_cons.mpr ⟨ho_turn_in, (List.forall_mem_cons.mpr ⟨ho_law_hung, (fun _ h => nomatch h)⟩)⟩)⟩)⟩), (List.forall_mem_cons.mpr ⟨PySem.W.codeHd_of_K X hc_law_two, (List.forall_mem_cons.mpr ⟨PySem.W.codeHd_of_K X hc_law_taken, (List.forall_mem_cons.mpr ⟨PySem.W.codeHd_of_K X hc_turn_in, (List.forall_mem_cons.mpr ⟨PySem.W.codeHd_of_K X hc_law_hung, (fun _ h => nomatch h)⟩)⟩)⟩)⟩), (List.forall_mem_cons.mpr ⟨List.mem_map.mpr ⟨(kd_law_two, tb_law_two), (.head _), rfl⟩, (List.forall_mem_cons.mpr ⟨List.mem_map.mpr ⟨(kd_law_taken, tb_law_taken), (.tail _ (.head _)), rfl⟩, (List.forall_mem_cons.mpr ⟨List.mem_map.mpr ⟨(kd_turn_in, tb_turn_in), (.tail _ (.tail _ (.head _))), rfl⟩, (List.forall_mem_cons.mpr ⟨List.mem_map.mpr ⟨(kd_law_hung, tb_law_hung), (.tail _ (.tail _ (.tail _ (.head _)))), rfl⟩, (fun _ h => nomatch h)⟩)⟩)⟩)⟩), rfl, plain, fun base _ _ tb => g_law (T base tb) rfl⟩
end Lw
open PySem PySem.W PyProof.Rows
set_option maxRecDepth 100000 in
set_option maxHeartbeats 0 in
theorem PySem.Challenge.cw_flowhues_k80_errors_of_joins_holds : PySem.Challenge.rw_flowhues_k80_errors_of_joins.Holds := by
  w_on; o_law; k_head; (case hw => w_witness2)
  k_fill
  refine F3.walkT (l := PySem.Challenge.rw_flowhues_k80_errors_of_joins) (n := 63) (k := 13) rfl (by decide) rfl (F3.room_caller (by decide) (by decide)) (fun w h Y => PySem.W.km_in_of Y) ?F
  case F =>
    intro w mg fa h Y KX G hmg
    have hT := PySem.W.km_tabs_of Y
    refine' Lw.all_mk KX G hmg Lw.plain ?a_Web ?pg_Web ?ic_Web ?po_Web ?sa_Web ?ca_Web ?cm_Web ?mk_Web ?kc_Web ?gcn ?gct ?a_law_jar ?l_law_jar ?q_law_jar ?k_law_jar ?a_is_int ?l_is_int ?q_is_int ?k_is_int ?a_is_whole ?l_is_whole ?q_is_whole ?k_is_whole ?a_is_within ?l_is_within ?q_is_within ?k_is_within ?a_require_size ?l_require_size ?q_require_size ?k_require_size ?a_are_ties ?l_are_ties ?q_are_ties ?k_are_ties ?a_Web_init ?i_Web_init ?l_Web_init ?q_Web_init ?k_Web_init ?a_law_dip ?l_law_dip ?q_law_dip ?k_law_dip ?a_law_one ?l_law_one ?q_law_one ?k_law_one ?a_law_met ?l_law_met ?q_law_met ?k_law_met ?a_require_web ?l_require_web ?q_require_web ?k_require_web ?a_names_behind ?l_names_behind ?q_names_behind ?k_names_behind ?a_put_on ?l_put_on ?q_put_on ?k_put_on ?a_ties_from ?l_ties_from ?q_ties_from ?k_ties_from ?a_made ?l_made ?q_made ?k_made ?a_beside ?l_beside ?q_beside ?k_beside ?a_require_place ?l_require_place ?q_require_place ?k_require_place ?a_require_far_place ?l_require_far_place ?q_require_far_place ?k_require_far_place ?a_joined ?l_joined ?q_joined ?k_joined ?a_require_tie ?l_require_tie ?q_require_tie ?k_require_tie ?a_require_far_tie ?l_require_far_tie ?q_require_far_tie ?k_require_far_tie ?a_require_no_loop ?l_require_no_loop ?q_require_no_loop ?k_require_no_loop ?a_along ?l_along ?q_along ?k_along ?a_in_line ?l_in_line ?q_in_line ?k_in_line ?a_law_two ?l_law_two ?q_law_two ?k_law_two ?lc_law_two ?lt_law_two ?hc_law_two ?ho_law_two ?ht_law_two ?a_require_many ?l_require_many ?q_require_many ?k_require_many ?a_in_parallel ?l_in_parallel ?q_in_parallel ?k_in_parallel ?a_rowed ?l_rowed ?q_rowed ?k_rowed ?a_in_row ?l_in_row ?q_in_row ?k_in_row ?a_law_taken ?l_law_taken ?q_law_taken ?k_law_taken ?lc_law_taken ?lt_law_taken ?hc_law_taken ?ho_law_taken ?ht_law_taken ?a_is_lot_of ?l_is_lot_of ?q_is_lot_of ?k_is_lot_of ?a_require_lot_of_ties ?l_require_lot_of_ties ?q_require_lot_of_ties ?k_require_lot_of_ties ?a_require_two_places ?l_require_two_places ?q_require_two_places ?k_require_two_places ?a_whole_lot ?l_whole_lot ?q_whole_lot ?k_whole_lot ?a_does_hang_in ?l_does_hang_in ?q_does_hang_in ?k_does_hang_in ?a_does_hang ?l_does_hang ?q_does_hang ?k_does_hang ?a_require_hanging ?l_require_hanging ?q_require_hanging ?k_require_hanging ?a_turned_pairs ?l_turned_pairs ?q_turned_pairs ?k_turned_pairs ?a_turned_part ?l_turned_part ?q_turned_part ?k_turned_part ?a_turn_in ?l_turn_in ?q_turn_in ?k_turn_in ?lc_turn_in ?lt_turn_in ?hc_turn_in ?ho_turn_in ?ht_turn_in ?a_turn_names ?l_turn_names ?q_turn_names ?k_turn_names ?a_pieces_in ?l_pieces_in ?q_pieces_in ?k_pieces_in ?a_hanging_in ?l_hanging_in ?q_hanging_in ?k_hanging_in ?a_hanging_lots ?l_hanging_lots ?q_hanging_lots ?k_hanging_lots ?a_law_hung ?l_law_hung ?q_law_hung ?k_law_hung ?lc_law_hung ?lt_law_hung ?hc_law_hung ?ho_law_hung ?ht_law_hung ?a_law_right ?l_law_right ?q_law_right ?k_law_right ?a_law ?l_law ?q_law ?k_law ?to_law_two ?to_law_taken ?to_turn_in ?to_law_hung ?sa_own_size ?sg_own_size ?st_own_size ?sy_own_size ?si_own_size ?sa_own_ties ?sg_own_ties ?st_own_ties ?sy_own_ties ?si_own_ties ?io_Web_NoneType ?io_Web_bool ?io_Web_int ?io_Web_str ?io_Web_tuple ?io_Web_list ?io_Web_dict ?io_Web_cWeb ?ib_bool_Web ?ib_int_Web ?ib_tuple_Web ?xa_InvalidWeb ?xe_InvalidWeb ?xi_InvalidWeb ?xt_InvalidWeb ?xk_InvalidWeb ?xa_InvalidLot ?xe_InvalidLot ?xi_InvalidLot ?xt_InvalidLot ?xk_InvalidLot ?xa_InvalidOperation ?xe_InvalidOperation ?xi_InvalidOperation ?xt_InvalidOperation ?xk_InvalidOperation ?xa_InvalidNumber ?xe_InvalidNumber ?xi_InvalidNumber ?xt_InvalidNumber ?xk_InvalidNumber ?xa_TooMany ?xe_TooMany ?xi_TooMany ?xt_TooMany ?xk_TooMany ?xs_InvalidWeb_InvalidWeb ?xs_InvalidLot_InvalidWeb ?xs_InvalidOperation_InvalidWeb ?xs_InvalidNumber_InvalidWeb ?xs_TooMany_InvalidWeb ?xx_InvalidWeb ?xs_InvalidWeb_InvalidLot ?xs_InvalidLot_InvalidLot ?xs_InvalidOperation_InvalidLot ?xs_InvalidNumber_InvalidLot ?xs_TooMany_InvalidLot ?xx_InvalidLot ?xs_InvalidWeb_InvalidOperation ?xs_InvalidLot_InvalidOperation ?xs_InvalidOperation_InvalidOperation ?xs_InvalidNumber_InvalidOperation ?xs_TooMany_InvalidOperation ?xx_InvalidOperation ?xs_InvalidWeb_InvalidNumber ?xs_InvalidLot_InvalidNumber ?xs_InvalidOperation_InvalidNumber ?xs_InvalidNumber_InvalidNumber ?xs_TooMany_InvalidNumber ?xga_InvalidNumber ?xgg_InvalidNumber ?xhd_InvalidNumber ?xff_InvalidNumber ?ii_InvalidNumber ?it_InvalidNumber ?il_InvalidNumber ?iq_InvalidNumber ?ij_InvalidNumber ?if_InvalidNumber ?ig_InvalidNumber ?ih_InvalidNumber ?jx_InvalidNumber ?jo_InvalidNumber ?jn_InvalidNumber ?js_InvalidNumber ?jc_InvalidNumber ?jm_InvalidNumber ?ju_InvalidNumber ?jb_InvalidNumber ?jq_InvalidNumber ?ja_InvalidNumber ?jk_InvalidNumber ?jh_InvalidNumber ?xs_InvalidWeb_TooMany ?xs_InvalidLot_TooMany ?xs_InvalidOperation_TooMany ?xs_InvalidNumber_TooMany ?xs_TooMany_TooMany ?xga_TooMany ?xgg_TooMany ?xhd_TooMany ?xff_TooMany ?ii_TooMany ?it_TooMany ?il_TooMany ?iq_TooMany ?ij_TooMany ?if_TooMany ?ig_TooMany ?ih_TooMany ?jx_TooMany ?jo_TooMany ?jn_TooMany ?js_TooMany ?jc_TooMany ?jm_TooMany ?ju_TooMany ?jb_TooMany ?jq_TooMany ?ja_TooMany ?jk_TooMany ?jh_TooMany ?n_abs ?n_all ?n_any ?n_bool ?n_enumerate ?n_int ?n_isinstance ?n_len ?n_list ?n_max ?n_min ?n_range ?n_repr ?n_sorted ?n_tuple ?n_zip ?c_GREAT ?c_MAX_PLACES ?c_MAX_TIES ?c_MOST_TAKEN
    (case a_Web => k_is)
    (case pg_Web => k_is)
    (case ic_Web => k_is)
    (case po_Web => k_is)
    (case sa_Web => k_is)
    (case ca_Web => k_is)
    (case cm_Web => k_is)
    (case mk_Web => k_is)
    (case kc_Web => k_is)
    (case gcn => k_is)
    (case gct => k_is)
    (case a_law_jar => k_is)
    (case l_law_jar => k_is)
    (case q_law_jar => k_is)
    (case k_law_jar => k_is)
    (case a_is_int => k_is)
    (case l_is_int => k_is)
    (case q_is_int => k_is)
    (case k_is_int => k_is)
    (case a_is_whole => k_is)
    (case l_is_whole => k_is)
    (case q_is_whole => k_is)
    (case k_is_whole => k_is)
    (case a_is_within => k_is)
    (case l_is_within => k_is)
    (case q_is_within => k_is)
    (case k_is_within => k_is)
    (case a_require_size => k_is)
    (case l_require_size => k_is)
    (case q_require_size => k_is)
    (case k_require_size => k_is)
    (case a_are_ties => k_is)
    (case l_are_ties => k_is)
    (case q_are_ties => k_is)
    (case k_are_ties => k_is)
    (case a_Web_init => k_is)
    (case i_Web_init => k_is)
    (case l_Web_init => k_is)
    (case q_Web_init => k_is)
    (case k_Web_init => k_is)
    (case a_law_dip => k_is)
    (case l_law_dip => k_is)
    (case q_law_dip => k_is)
    (case k_law_dip => k_is)
    (case a_law_one => k_is)
    (case l_law_one => k_is)
    (case q_law_one => k_is)
    (case k_law_one => k_is)
    (case a_law_met => k_is)
    (case l_law_met => k_is)
    (case q_law_met => k_is)
    (case k_law_met => k_is)
    (case a_require_web => k_is)
    (case l_require_web => k_is)
    (case q_require_web => k_is)
    (case k_require_web => k_is)
    (case a_names_behind => k_is)
    (case l_names_behind => k_is)
    (case q_names_behind => k_is)
    (case k_names_behind => k_is)
    (case a_put_on => k_is)
    (case l_put_on => k_is)
    (case q_put_on => k_is)
    (case k_put_on => k_is)
    (case a_ties_from => k_is)
    (case l_ties_from => k_is)
    (case q_ties_from => k_is)
    (case k_ties_from => k_is)
    (case a_made => k_is)
    (case l_made => k_is)
    (case q_made => k_is)
    (case k_made => k_is)
    (case a_beside => k_is)
    (case l_beside => k_is)
    (case q_beside => k_is)
    (case k_beside => k_is)
    (case a_require_place => k_is)
    (case l_require_place => k_is)
    (case q_require_place => k_is)
    (case k_require_place => k_is)
    (case a_require_far_place => k_is)
    (case l_require_far_place => k_is)
    (case q_require_far_place => k_is)
    (case k_require_far_place => k_is)
    (case a_joined => k_is)
    (case l_joined => k_is)
    (case q_joined => k_is)
    (case k_joined => k_is)
    (case a_require_tie => k_is)
    (case l_require_tie => k_is)
    (case q_require_tie => k_is)
    (case k_require_tie => k_is)
    (case a_require_far_tie => k_is)
    (case l_require_far_tie => k_is)
    (case q_require_far_tie => k_is)
    (case k_require_far_tie => k_is)
    (case a_require_no_loop => k_is)
    (case l_require_no_loop => k_is)
    (case q_require_no_loop => k_is)
    (case k_require_no_loop => k_is)
    (case a_along => k_is)
    (case l_along => k_is)
    (case q_along => k_is)
    (case k_along => k_is)
    (case a_in_line => k_is)
    (case l_in_line => k_is)
    (case q_in_line => k_is)
    (case k_in_line => k_is)
    (case a_law_two => k_is)
    (case l_law_two => k_is)
    (case q_law_two => k_is)
    (case k_law_two => k_is)
    (case lc_law_two => k_is)
    (case lt_law_two => exact rfl)
    (case hc_law_two => kernel_rfl)
    (case ho_law_two => kernel_rfl)
    (case ht_law_two => exact hT _ (by decide))
    (case a_require_many => k_is)
    (case l_require_many => k_is)
    (case q_require_many => k_is)
    (case k_require_many => k_is)
    (case a_in_parallel => k_is)
    (case l_in_parallel => k_is)
    (case q_in_parallel => k_is)
    (case k_in_parallel => k_is)
    (case a_rowed => k_is)
    (case l_rowed => k_is)
    (case q_rowed => k_is)
    (case k_rowed => k_is)
    (case a_in_row => k_is)
    (case l_in_row => k_is)
    (case q_in_row => k_is)
    (case k_in_row => k_is)
    (case a_law_taken => k_is)
    (case l_law_taken => k_is)
    (case q_law_taken => k_is)
    (case k_law_taken => k_is)
    (case lc_law_taken => k_is)
    (case lt_law_taken => exact rfl)
    (case hc_law_taken => kernel_rfl)
    (case ho_law_taken => kernel_rfl)
    (case ht_law_taken => exact hT _ (by decide))
    (case a_is_lot_of => k_is)
    (case l_is_lot_of => k_is)
    (case q_is_lot_of => k_is)
    (case k_is_lot_of => k_is)
    (case a_require_lot_of_ties => k_is)
    (case l_require_lot_of_ties => k_is)
    (case q_require_lot_of_ties => k_is)
    (case k_require_lot_of_ties => k_is)
    (case a_require_two_places => k_is)
    (case l_require_two_places => k_is)
    (case q_require_two_places => k_is)
    (case k_require_two_places => k_is)
    (case a_whole_lot => k_is)
    (case l_whole_lot => k_is)
    (case q_whole_lot => k_is)
    (case k_whole_lot => k_is)
    (case a_does_hang_in => k_is)
    (case l_does_hang_in => k_is)
    (case q_does_hang_in => k_is)
    (case k_does_hang_in => k_is)
    (case a_does_hang => k_is)
    (case l_does_hang => k_is)
    (case q_does_hang => k_is)
    (case k_does_hang => k_is)
    (case a_require_hanging => k_is)
    (case l_require_hanging => k_is)
    (case q_require_hanging => k_is)
    (case k_require_hanging => k_is)
    (case a_turned_pairs => k_is)
    (case l_turned_pairs => k_is)
    (case q_turned_pairs => k_is)
    (case k_turned_pairs => k_is)
    (case a_turned_part => k_is)
    (case l_turned_part => k_is)
    (case q_turned_part => k_is)
    (case k_turned_part => k_is)
    (case a_turn_in => k_is)
    (case l_turn_in => k_is)
    (case q_turn_in => k_is)
    (case k_turn_in => k_is)
    (case lc_turn_in => k_is)
    (case lt_turn_in => exact rfl)
    (case hc_turn_in => kernel_rfl)
    (case ho_turn_in => kernel_rfl)
    (case ht_turn_in => exact hT _ (by decide))
    (case a_turn_names => k_is)
    (case l_turn_names => k_is)
    (case q_turn_names => k_is)
    (case k_turn_names => k_is)
    (case a_pieces_in => k_is)
    (case l_pieces_in => k_is)
    (case q_pieces_in => k_is)
    (case k_pieces_in => k_is)
    (case a_hanging_in => k_is)
    (case l_hanging_in => k_is)
    (case q_hanging_in => k_is)
    (case k_hanging_in => k_is)
    (case a_hanging_lots => k_is)
    (case l_hanging_lots => k_is)
    (case q_hanging_lots => k_is)
    (case k_hanging_lots => k_is)
    (case a_law_hung => k_is)
    (case l_law_hung => k_is)
    (case q_law_hung => k_is)
    (case k_law_hung => k_is)
    (case lc_law_hung => k_is)
    (case lt_law_hung => exact rfl)
    (case hc_law_hung => kernel_rfl)
    (case ho_law_hung => kernel_rfl)
    (case ht_law_hung => exact hT _ (by decide))
    (case a_law_right => k_is)
    (case l_law_right => k_is)
    (case q_law_right => k_is)
    (case k_law_right => k_is)
    (case a_law => k_is)
    (case l_law => k_is)
    (case q_law => k_is)
    (case k_law => k_is)
    (case to_law_two => decide +kernel)
    (case to_law_taken => decide +kernel)
    (case to_turn_in => decide +kernel)
    (case to_law_hung => decide +kernel)
    (case sa_own_size => k_is)
    (case sg_own_size => k_is)
    (case st_own_size => k_is)
    (case sy_own_size => k_is)
    (case si_own_size => k_is)
    (case sa_own_ties => k_is)
    (case sg_own_ties => k_is)
    (case st_own_ties => k_is)
    (case sy_own_ties => k_is)
    (case si_own_ties => k_is)
    (case io_Web_NoneType => kit_is)
    (case io_Web_bool => kit_is)
    (case io_Web_int => kit_is)
    (case io_Web_str => kit_is)
    (case io_Web_tuple => kit_is)
    (case io_Web_list => kit_is)
    (case io_Web_dict => kit_is)
    (case io_Web_cWeb => kit_is)
    (case ib_bool_Web => kit_is)
    (case ib_int_Web => kit_is)
    (case ib_tuple_Web => kit_is)
    (case xa_InvalidWeb => k_is)
    (case xe_InvalidWeb => k_is)
    (case xi_InvalidWeb => k_is)
    (case xt_InvalidWeb => k_is)
    (case xk_InvalidWeb => k_is)
    (case xa_InvalidLot => k_is)
    (case xe_InvalidLot => k_is)
    (case xi_InvalidLot => k_is)
    (case xt_InvalidLot => k_is)
    (case xk_InvalidLot => k_is)
    (case xa_InvalidOperation => k_is)
    (case xe_InvalidOperation => k_is)
    (case xi_InvalidOperation => k_is)
    (case xt_InvalidOperation => k_is)
    (case xk_InvalidOperation => k_is)
    (case xa_InvalidNumber => k_is)
    (case xe_InvalidNumber => k_is)
    (case xi_InvalidNumber => k_is)
    (case xt_InvalidNumber => k_is)
    (case xk_InvalidNumber => k_is)
    (case xa_TooMany => k_is)
    (case xe_TooMany => k_is)
    (case xi_TooMany => k_is)
    (case xt_TooMany => k_is)
    (case xk_TooMany => k_is)
    (case xs_InvalidWeb_InvalidWeb => k_is)
    (case xs_InvalidLot_InvalidWeb => k_is)
    (case xs_InvalidOperation_InvalidWeb => k_is)
    (case xs_InvalidNumber_InvalidWeb => k_is)
    (case xs_TooMany_InvalidWeb => k_is)
    (case xx_InvalidWeb => kernel_rfl)
    (case xs_InvalidWeb_InvalidLot => k_is)
    (case xs_InvalidLot_InvalidLot => k_is)
    (case xs_InvalidOperation_InvalidLot => k_is)
    (case xs_InvalidNumber_InvalidLot => k_is)
    (case xs_TooMany_InvalidLot => k_is)
    (case xx_InvalidLot => kernel_rfl)
    (case xs_InvalidWeb_InvalidOperation => k_is)
    (case xs_InvalidLot_InvalidOperation => k_is)
    (case xs_InvalidOperation_InvalidOperation => k_is)
    (case xs_InvalidNumber_InvalidOperation => k_is)
    (case xs_TooMany_InvalidOperation => k_is)
    (case xx_InvalidOperation => kernel_rfl)
    (case xs_InvalidWeb_InvalidNumber => k_is)
    (case xs_InvalidLot_InvalidNumber => k_is)
    (case xs_InvalidOperation_InvalidNumber => k_is)
    (case xs_InvalidNumber_InvalidNumber => k_is)
    (case xs_TooMany_InvalidNumber => k_is)
    (case xga_InvalidNumber => k_is)
    (case xgg_InvalidNumber => k_is)
    (case xhd_InvalidNumber => k_is)
    (case xff_InvalidNumber => k_is)
    (case ii_InvalidNumber => k_is)
    (case it_InvalidNumber => k_is)
    (case il_InvalidNumber => k_is)
    (case iq_InvalidNumber => k_is)
    (case ij_InvalidNumber => k_is)
    (case if_InvalidNumber => exact rfl)
    (case ig_InvalidNumber => kernel_rfl)
    (case ih_InvalidNumber => k_is)
    (case jx_InvalidNumber => kernel_rfl)
    (case jo_InvalidNumber => kernel_rfl)
    (case jn_InvalidNumber => k_is)
    (case js_InvalidNumber => kernel_rfl)
    (case jc_InvalidNumber => kernel_rfl)
    (case jm_InvalidNumber => k_is)
    (case ju_InvalidNumber => kernel_rfl)
    (case jb_InvalidNumber => k_is)
    (case jq_InvalidNumber => k_is)
    (case ja_InvalidNumber => k_is)
    (case jk_InvalidNumber => k_is)
    (case jh_InvalidNumber => k_is)
    (case xs_InvalidWeb_TooMany => k_is)
    (case xs_InvalidLot_TooMany => k_is)
    (case xs_InvalidOperation_TooMany => k_is)
    (case xs_InvalidNumber_TooMany => k_is)
    (case xs_TooMany_TooMany => k_is)
    (case xga_TooMany => k_is)
    (case xgg_TooMany => k_is)
    (case xhd_TooMany => k_is)
    (case xff_TooMany => k_is)
    (case ii_TooMany => k_is)
    (case it_TooMany => k_is)
    (case il_TooMany => k_is)
    (case iq_TooMany => k_is)
    (case ij_TooMany => k_is)
    (case if_TooMany => exact rfl)
    (case ig_TooMany => kernel_rfl)
    (case ih_TooMany => k_is)
    (case jx_TooMany => kernel_rfl)
    (case jo_TooMany => kernel_rfl)
    (case jn_TooMany => k_is)
    (case js_TooMany => kernel_rfl)
    (case jc_TooMany => kernel_rfl)
    (case jm_TooMany => k_is)
    (case ju_TooMany => kernel_rfl)
    (case jb_TooMany => k_is)
    (case jq_TooMany => k_is)
    (case ja_TooMany => k_is)
    (case jk_TooMany => k_is)
    (case jh_TooMany => k_is)
    (case n_abs => k_is)
    (case n_all => k_is)
    (case n_any => k_is)
    (case n_bool => k_is)
    (case n_enumerate => k_is)
    (case n_int => k_is)
    (case n_isinstance => k_is)
    (case n_len => k_is)
    (case n_list => k_is)
    (case n_max => k_is)
    (case n_min => k_is)
    (case n_range => k_is)
    (case n_repr => k_is)
    (case n_sorted => k_is)
    (case n_tuple => k_is)
    (case n_zip => k_is)
    (case c_GREAT => k_is)
    (case c_MAX_PLACES => k_is)
    (case c_MAX_TIES => k_is)
    (case c_MOST_TAKEN => k_is)
#print axioms PySem.Challenge.cw_flowhues_k80_errors_of_joins_holds

