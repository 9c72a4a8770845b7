import PyProof.Rows.All
import Wide.All
import OpenK.AllK
import Wide.FinOn
import HandS.ForMost
import HandS.Exc
import HandS.ExcOwn
import HandS.WordsExc
import HandS.Slots
import HandS.SlotsOwn
import HandS.Lambda
import HandS.Zip
import HandS.Conv
import HandS.Star
import HandS.FStr
import HandS.IsInst
import HandS.SortRule
import HandS.Wide
import HandS.TupAny
import HandS.TupLe
import HandS.Deep
import HandS.Style
import HandS.TupMul
import PyProof.Rows.ReprR
import HandS.RaiseMore
import HandS.WideMore
import HandS.Rev
import HandS.SortInts
import HandS.Ends
import HandS.Text
import PySem.Challenge.RW_flowhues_k88_whole_texts_there_and_back
set_option Elab.async false
set_option linter.all false
set_option maxRecDepth 100000
set_option maxHeartbeats 0
namespace F3
open PySem PySem.Spec
open PyProof.Rows L2
/-- deep values: what a Python value is, tuples and lists that are never changed written out -/
inductive D where
  | non | bl (b : Bool) | int (i : Int) | str (x : Str)
  | tup (ds : List D) | lst (ds : List D) | scr (ds : List D) | ins (c : Nat) (ds : List D) | dct (ks ds : List D)
  | ref (i : Nat)
/-- things that are changed -/
inductive AO where
  | lst (ds : List D) | ins (c : Nat) (fs : List (Option D)) | dct (ks ds : List D) | dead
abbrev AH := List AO
abbrev Ev := List (Option D)
structure Xn where
  c : Nat
  args : List D
inductive Res (α : Type) where
  | ok (a : α) (A : AH) | ex (x : Xn) (A : AH) | stuck
@[reducible] def Res.bind {α β : Type} (r : Res α) (k : α → AH → Res β) : Res β :=
  match r with
  | .ok a A => k a A
  | .ex x A => .ex x A
  | .stuck => .stuck
/-- what of the text stands fixed: classes of instances, classes of errors, code tables -/
structure Gc where
  K : PySem.W.Frag
  cls : Nat → Option Addr
  xcl : Nat → Option Addr
  T : List (Addr × Str)
/-- the ghost: where the changed things stand; whose an address is -/
structure Gh where
  ρ : List Addr
  o : Addr → Option (Option Nat)
/-- a written list: what a heap without anything knows -/
def WrL (K : PySem.W.Frag) (a : Addr) (xs : List V) : Prop := SqL K (fun _ => none) a xs
theorem WrL.sq {K : PySem.W.Frag} {H : Hp} {a : Addr} {xs : List V} (h : WrL K a xs) : SqL K H a xs := by
  rcases h with (h | ⟨o, h⟩) | h
  · cases h
  · cases h
  · exact .inr h
def FxT (G : Gc) (γ : Gh) (H : Hp) (a : Addr) (xs : List V) : Prop := H a = some (.tup xs) ∧ γ.o a = none
def FxL (G : Gc) (γ : Gh) (H : Hp) (a : Addr) (xs : List V) : Prop := (Rd H a (.lst xs) ∧ γ.o a = none) ∨ WrL G.K a xs
theorem FxT.sq {G : Gc} {γ : Gh} {H : Hp} {a : Addr} {xs : List V} (h : FxT G γ H a xs) : SqT G.K H a xs := SqT.of h.1
theorem FxL.sq {G : Gc} {γ : Gh} {H : Hp} {a : Addr} {xs : List V} (h : FxL G γ H a xs) : SqL G.K H a xs := h.elim (fun h => .inl h.1) WrL.sq
def kD : Key → D
  | .inl i => .int i
  | .inr x => .str x
mutual
def VR (G : Gc) (γ : Gh) (H : Hp) : D → V → Prop
  | .non, v => v = .non
  | .bl b, v => v = .bl b
  | .int i, v => v = .int i
  | .str x, v => v = .str x
  | .tup ds, v => ∃ a vs, v = .ref a ∧ FxT G γ H a vs ∧ VRs G γ H ds vs
  | .lst ds, v => ∃ a vs, v = .ref a ∧ H a = some (.lst vs) ∧ γ.o a = none ∧ VRs G γ H ds vs
  | .scr ds, v => ∃ a vs, v = .ref a ∧ FxL G γ H a vs ∧ VRs G γ H ds vs
  | .ins c ds, v => ∃ a C dx vs, v = .ref a ∧ γ.o a = none ∧ γ.o dx = none ∧ G.cls c = some C ∧ H a = some (SlX.SlO a C dx (vs.map some)) ∧ H dx = some (.xd []) ∧ VRs G γ H ds vs
  | .dct ks ds, v => ∃ a, v = .ref a ∧ γ.o a = none ∧ ((∃ kvs : List (Key × V), H a = some (.dK kvs) ∧ kvs.map (fun p => kD p.1) = ks ∧ VRs G γ H ds (kvs.map (·.2))) ∨
      (∃ kvs : List (List Key × V), H a = some (.dT kvs) ∧ kvs.map (fun p => D.tup (p.1.map kD)) = ks ∧ VRs G γ H ds (kvs.map (·.2))))
  | .ref i, v => ∃ a, v = .ref a ∧ γ.ρ[i]? = some a
def VRs (G : Gc) (γ : Gh) (H : Hp) : List D → List V → Prop
  | [], vs => vs = []
  | d :: ds, vs => ∃ v r, vs = v :: r ∧ VR G γ H d v ∧ VRs G γ H ds r
end
/-- what a run leaves as it was: values; things put aside -/
structure Ext0 (γ : Gh) (H : Hp) (γ' : Gh) (H' : Hp) : Prop where
  ρ : ∀ (i : Nat) (a : Addr), γ.ρ[i]? = some a → γ'.ρ[i]? = some a
  keep : ∀ (a : Addr) (ob : HO), H a = some ob → γ.o a = none → (∀ ps, ob ≠ .tbl ps) → H' a = some ob ∧ γ'.o a = none
structure Ext (γ : Gh) (H : Hp) (γ' : Gh) (H' : Hp) : Prop extends Ext0 γ H γ' H' where
  hid : ∀ (a : Addr) (ob : HO), H a = some ob → γ.o a = some none → H' a = some ob ∧ γ'.o a = some none
theorem Ext.refl (γ : Gh) (H : Hp) : Ext γ H γ H := ⟨⟨fun _ _ h => h, fun _ _ h n _ => ⟨h, n⟩⟩, fun _ _ h n => ⟨h, n⟩⟩
theorem Ext.trans {γ γ1 γ2 : Gh} {H H1 H2 : Hp} (a : Ext γ H γ1 H1) (b : Ext γ1 H1 γ2 H2) : Ext γ H γ2 H2 :=
  ⟨⟨fun i x h => b.ρ i x (a.ρ i x h), fun x ob h n t => let ⟨h1, n1⟩ := a.keep x ob h n t; b.keep x ob h1 n1 t⟩, fun x ob h n => let ⟨h1, n1⟩ := a.hid x ob h n; b.hid x ob h1 n1⟩
section
variable {G : Gc} {γ γ' : Gh} {H H' : Hp}
theorem Ext0.fxT (e : Ext0 γ H γ' H') {a : Addr} {xs : List V} (h : FxT G γ H a xs) : FxT G γ' H' a xs := e.keep _ _ h.1 h.2 (fun _ z => nomatch z)
theorem Ext0.fxL (e : Ext0 γ H γ' H') {a : Addr} {xs : List V} (h : FxL G γ H a xs) : FxL G γ' H' a xs := by
  rcases h with ⟨h | ⟨o, h⟩, n⟩ | h
  · obtain ⟨h1, n1⟩ := e.keep _ _ h n (fun _ z => nomatch z)
    exact .inl ⟨.inl h1, n1⟩
  · obtain ⟨h1, n1⟩ := e.keep _ _ h n (fun _ z => nomatch z)
    exact .inl ⟨.inr ⟨o, h1⟩, n1⟩
  · exact .inr h
theorem slO_tbl {a C dx : Addr} {vs : List (Option V)} : ∀ ps, SlX.SlO a C dx vs ≠ .tbl ps := fun ps z => by
  unfold SlX.SlO at z; cases z
mutual
theorem VR.ext0 (e : Ext0 γ H γ' H') : ∀ (d : D) (v : V), VR G γ H d v → VR G γ' H' d v
  | .non, v, h => by unfold VR at h ⊢; exact h
  | .bl b, v, h => by unfold VR at h ⊢; exact h
  | .int b, v, h => by unfold VR at h ⊢; exact h
  | .str b, v, h => by unfold VR at h ⊢; exact h
  | .tup ds, v, h => by
    unfold VR at h ⊢
    obtain ⟨a, vs, e1, f, r⟩ := h
    exact ⟨a, vs, e1, e.fxT f, VRs.ext0 e ds vs r⟩
  | .lst ds, v, h => by
    unfold VR at h ⊢
    obtain ⟨a, vs, e1, h1, n1, r⟩ := h
    obtain ⟨h2, n2⟩ := e.keep _ _ h1 n1 (fun _ z => nomatch z)
    exact ⟨a, vs, e1, h2, n2, VRs.ext0 e ds vs r⟩
  | .scr ds, v, h => by
    unfold VR at h ⊢
    obtain ⟨a, vs, e1, f, r⟩ := h
    exact ⟨a, vs, e1, e.fxL f, VRs.ext0 e ds vs r⟩
  | .ins c ds, v, h => by
    unfold VR at h ⊢
    obtain ⟨a, C, dx, vs, e1, n1, n2, hc, h1, h2, r⟩ := h
    obtain ⟨a1, a2⟩ := e.keep _ _ h1 n1 slO_tbl
    obtain ⟨b1, b2⟩ := e.keep _ _ h2 n2 (fun _ z => nomatch z)
    exact ⟨a, C, dx, vs, e1, a2, b2, hc, a1, b1, VRs.ext0 e ds vs r⟩
  | .dct ks ds, v, h => by
    unfold VR at h ⊢
    obtain ⟨a, e1, n1, h | h⟩ := h
    · obtain ⟨kvs, h1, hk, r⟩ := h
      obtain ⟨a1, a2⟩ := e.keep _ _ h1 n1 (fun _ z => nomatch z)
      exact ⟨a, e1, a2, .inl ⟨kvs, a1, hk, VRs.ext0 e ds _ r⟩⟩
    · obtain ⟨kvs, h1, hk, r⟩ := h
      obtain ⟨a1, a2⟩ := e.keep _ _ h1 n1 (fun _ z => nomatch z)
      exact ⟨a, e1, a2, .inr ⟨kvs, a1, hk, VRs.ext0 e ds _ r⟩⟩
  | .ref i, v, h => by
    unfold VR at h ⊢
    obtain ⟨a, e1, h⟩ := h
    exact ⟨a, e1, e.ρ _ _ h⟩
theorem VRs.ext0 (e : Ext0 γ H γ' H') : ∀ (ds : List D) (vs : List V), VRs G γ H ds vs → VRs G γ' H' ds vs
  | [], vs, h => by unfold VRs at h ⊢; exact h
  | d :: ds, vs, h => by
    unfold VRs at h ⊢
    obtain ⟨v, r, e1, h1, h2⟩ := h
    exact ⟨v, r, e1, VR.ext0 e d v h1, VRs.ext0 e ds r h2⟩
end
theorem VR.ext (e : Ext γ H γ' H') (d : D) (v : V) (h : VR G γ H d v) : VR G γ' H' d v := VR.ext0 e.toExt0 d v h
theorem VRs.ext (e : Ext γ H γ' H') (ds : List D) (vs : List V) (h : VRs G γ H ds vs) : VRs G γ' H' ds vs := VRs.ext0 e.toExt0 ds vs h
end
section
variable {G : Gc} {γ γ' : Gh} {H H' : Hp}
theorem VRs.length : ∀ {ds : List D} {vs : List V}, VRs G γ H ds vs → ds.length = vs.length
  | [], vs, h => by unfold VRs at h; subst h; rfl
  | d :: ds, vs, h => by
    unfold VRs at h
    obtain ⟨v, r, rfl, _, h2⟩ := h
    simp [VRs.length h2]
theorem VRs.nil : VRs G γ H [] [] := by unfold VRs; rfl
theorem VRs.cons {d : D} {v : V} {ds : List D} {vs : List V} (h : VR G γ H d v) (t : VRs G γ H ds vs) : VRs G γ H (d :: ds) (v :: vs) := by
  unfold VRs; exact ⟨v, vs, rfl, h, t⟩
theorem VRs.get : ∀ {ds : List D} {vs : List V} {i : Nat} {d : D}, VRs G γ H ds vs → ds[i]? = some d → ∃ v, vs[i]? = some v ∧ VR G γ H d v
  | [], _, _, _, _, e => by simp at e
  | d :: ds, vs, 0, x, h, e => by
    unfold VRs at h
    obtain ⟨v, r, rfl, h1, _⟩ := h
    simp at e; subst e
    exact ⟨v, rfl, h1⟩
  | d :: ds, vs, i + 1, x, h, e => by
    unfold VRs at h
    obtain ⟨v, r, rfl, _, h2⟩ := h
    simp at e
    obtain ⟨v', e', h'⟩ := VRs.get h2 e
    exact ⟨v', by simpa using e', h'⟩
theorem VRs.get' : ∀ {ds : List D} {vs : List V} {i : Nat} {v : V}, VRs G γ H ds vs → vs[i]? = some v → ∃ d, ds[i]? = some d ∧ VR G γ H d v
  | [], vs, i, v, h, e => by unfold VRs at h; subst h; simp at e
  | d :: ds, vs, 0, x, h, e => by
    unfold VRs at h
    obtain ⟨v, r, rfl, h1, _⟩ := h
    simp at e; subst e
    exact ⟨d, rfl, h1⟩
  | d :: ds, vs, i + 1, x, h, e => by
    unfold VRs at h
    obtain ⟨v, r, rfl, _, h2⟩ := h
    simp at e
    obtain ⟨v', e', h'⟩ := VRs.get' h2 e
    exact ⟨v', by simpa using e', h'⟩
theorem VRs.append : ∀ {ds es : List D} {vs ws : List V}, VRs G γ H ds vs → VRs G γ H es ws → VRs G γ H (ds ++ es) (vs ++ ws)
  | [], _, _, _, h, t => by unfold VRs at h; subst h; exact t
  | d :: ds, es, vs, ws, h, t => by
    unfold VRs at h
    obtain ⟨v, r, rfl, h1, h2⟩ := h
    exact VRs.cons h1 (VRs.append h2 t)
theorem VRs.take : ∀ {ds : List D} {vs : List V} (n : Nat), VRs G γ H ds vs → VRs G γ H (ds.take n) (vs.take n)
  | _, _, 0, _ => by simp; exact VRs.nil
  | [], vs, n + 1, h => by unfold VRs at h; subst h; simp; exact VRs.nil
  | d :: ds, vs, n + 1, h => by
    unfold VRs at h
    obtain ⟨v, r, rfl, h1, h2⟩ := h
    exact VRs.cons h1 (VRs.take n h2)
theorem VRs.drop : ∀ {ds : List D} {vs : List V} (n : Nat), VRs G γ H ds vs → VRs G γ H (ds.drop n) (vs.drop n)
  | _, _, 0, h => by simpa using h
  | [], vs, n + 1, h => by unfold VRs at h; subst h; simp; exact VRs.nil
  | d :: ds, vs, n + 1, h => by
    unfold VRs at h
    obtain ⟨v, r, rfl, h1, h2⟩ := h
    simpa using VRs.drop n h2
theorem VRs.set {d : D} {v : V} (hd : VR G γ H d v) : ∀ {ds : List D} {vs : List V} (n : Nat), VRs G γ H ds vs → VRs G γ H (ds.set n d) (vs.set n v)
  | [], vs, n, h => by unfold VRs at h; subst h; simp; exact VRs.nil
  | e :: ds, vs, 0, h => by
    unfold VRs at h
    obtain ⟨w, r, rfl, h1, h2⟩ := h
    exact VRs.cons hd h2
  | e :: ds, vs, n + 1, h => by
    unfold VRs at h
    obtain ⟨w, r, rfl, h1, h2⟩ := h
    exact VRs.cons h1 (VRs.set hd n h2)
/-- by a map of ints, of bools, of texts -/
theorem VRs.ints : ∀ (is : List Int), VRs G γ H (is.map D.int) (is.map V.int)
  | [] => VRs.nil
  | i :: is => VRs.cons (by unfold VR; rfl) (VRs.ints is)
theorem VRs.strs : ∀ (is : List Str), VRs G γ H (is.map D.str) (is.map V.str)
  | [] => VRs.nil
  | i :: is => VRs.cons (by unfold VR; rfl) (VRs.strs is)
end
/-- slots, as far as they are stored -/
def FRs (G : Gc) (γ : Gh) (H : Hp) : List (Option D) → List (Option V) → Prop
  | [], vs => vs = []
  | fo :: fs, vs => ∃ vo r, vs = vo :: r ∧ (match fo, vo with
    | none, none => True
    | some d, some v => VR G γ H d v
    | _, _ => False) ∧ FRs G γ H fs r
theorem FRs.ext {G : Gc} {γ γ' : Gh} {H H' : Hp} (e : Ext0 γ H γ' H') : ∀ {fs : List (Option D)} {vs : List (Option V)}, FRs G γ H fs vs → FRs G γ' H' fs vs
  | [], vs, h => h
  | fo :: fs, vs, h => by
    obtain ⟨vo, r, rfl, h1, h2⟩ := h
    refine ⟨vo, r, rfl, ?_, FRs.ext e h2⟩
    cases fo <;> cases vo <;> first | exact h1 | exact VR.ext0 e _ _ h1
def OR (G : Gc) (γ : Gh) (H : Hp) (i : Nat) : AO → Addr → Prop
  | .lst ds, a => ∃ vs, H a = some (.lst vs) ∧ VRs G γ H ds vs
  | .ins c fs, a => ∃ C dx vs, G.cls c = some C ∧ SlX.Slt H a C dx vs ∧ γ.o dx = some (some i) ∧ dx ≠ a ∧ FRs G γ H fs vs
  | .dct ks ds, a => (∃ kvs : List (Key × V), H a = some (.dK kvs) ∧ kvs.map (fun p => kD p.1) = ks ∧ VRs G γ H ds (kvs.map (·.2))) ∨
      (∃ kvs : List (List Key × V), H a = some (.dT kvs) ∧ kvs.map (fun p => D.tup (p.1.map kD)) = ks ∧ VRs G γ H ds (kvs.map (·.2)))
  | .dead, _ => True
/-- a code table: its own place and its codes are no changed thing -/
def TabG (γ : Gh) (H : Hp) (T : List (Addr × Str)) : Prop := ∀ p ∈ T, γ.o p.1 = none ∧ ∃ ps : Array Value, H p.1 = some (.tbl ps) ∧ TriplesOk ps.toList ∧ ∀ (pos : Pos) (cv : Value), codeAmong pos ps.toList = some cv → ∃ c, cv = .ref c ∧ H c = some (LamX.CodeO c p.2) ∧ γ.o c = none
structure Rel (G : Gc) (γ : Gh) (A : AH) (H : Hp) : Prop where
  len : γ.ρ.length = A.length
  at_ : ∀ (i : Nat) (ob : AO), A[i]? = some ob → ∃ a, γ.ρ[i]? = some a ∧ γ.o a = some (some i) ∧ OR G γ H i ob a
  dom : ∀ (a : Addr) (x : Option Nat), γ.o a = some x → H a ≠ none ∧ ∀ i, x = some i → i < A.length
  tab : TabG γ H G.T
section
variable {G : Gc} {γ : Gh} {H : Hp} {A : AH}
theorem TabG.upd_any {T : List (Addr × Str)} {a : Addr} {ob : HO} (t : TabG γ H T) (h : H a = none ∨ γ.o a ≠ none) : TabG γ (upd H a ob) T := fun p hp => by
  obtain ⟨n, ps, h1, h2, h3⟩ := t p hp
  have ne : ∀ {b o}, H b = some o → γ.o b = none → b ≠ a := fun {b o} e n z => by
    subst z
    rcases h with h | h
    · rw [h] at e; cases e
    · exact h n
  refine ⟨n, ps, by rw [upd_ne (ne h1 n)]; exact h1, h2, fun pos cv hc => ?_⟩
  obtain ⟨c, e1, e2, n2⟩ := h3 pos cv hc
  exact ⟨c, e1, by rw [upd_ne (ne e2 n2)]; exact e2, n2⟩
/-- a new thing that is never changed is laid -/
theorem Ext.laid {p : Addr} {ob : HO} (h : H p = none) : Ext γ H γ (upd H p ob) :=
  ⟨⟨fun _ _ e => e, fun b o e n _ => ⟨by rw [upd_ne (ne_of_none e h)]; exact e, n⟩⟩, fun b o e n => ⟨by rw [upd_ne (ne_of_none e h)]; exact e, n⟩⟩
theorem Rel.o_none (R : Rel G γ A H) {p : Addr} (h : H p = none) : γ.o p = none := by
  cases e : γ.o p with
  | none => rfl
  | some i => exact absurd h (R.dom p i e).1
theorem OR.ext {γ' : Gh} {H' : Hp} {i j : Nat} {ob : AO} {a : Addr} (e : Ext0 γ H γ' H') (ha : H' a = H a) (hd : ∀ dx, γ.o dx = some (some i) → H' dx = H dx ∧ γ'.o dx = some (some i)) (r : OR G γ H i ob a) : OR G γ' H' i ob a := by
  cases ob with
  | lst ds => obtain ⟨vs, h1, r⟩ := r; exact ⟨vs, by rw [ha]; exact h1, VRs.ext0 e _ _ r⟩
  | ins c fs =>
    obtain ⟨C, dx, vs, hc, hs, h1, hn, r⟩ := r
    obtain ⟨d1, d2⟩ := hd dx h1
    refine ⟨C, dx, vs, hc, ?_, d2, hn, r.ext e⟩
    rcases hs with ⟨q1, q2⟩ | ⟨q1, q2⟩
    · exact .inl ⟨by rw [ha]; exact q1, q2⟩
    · exact .inr ⟨by rw [ha]; exact q1, by rw [d1]; exact q2⟩
  | dct ks ds =>
    rcases r with ⟨kvs, h1, h2, r⟩ | ⟨kvs, h1, h2, r⟩
    · exact .inl ⟨kvs, by rw [ha]; exact h1, h2, VRs.ext0 e _ _ r⟩
    · exact .inr ⟨kvs, by rw [ha]; exact h1, h2, VRs.ext0 e _ _ r⟩
  | dead => trivial
theorem Rel.laid {p : Addr} {ob : HO} (R : Rel G γ A H) (h : H p = none) : Rel G γ A (upd H p ob) := by
  have ne : ∀ b, H b ≠ none → b ≠ p := fun b q z => q (by rw [z]; exact h)
  refine ⟨R.len, fun i o e => ?_, fun a i e => ⟨?_, (R.dom a i e).2⟩, R.tab.upd_any (.inl h)⟩
  · obtain ⟨a, e1, e2, r⟩ := R.at_ i o e
    exact ⟨a, e1, e2, r.ext (j := i) (Ext.laid h).toExt0 (by rw [upd_ne (ne a (R.dom a _ e2).1)]) fun dx q => ⟨by rw [upd_ne (ne dx (R.dom dx _ q).1)], q⟩⟩
  · by_cases z : a = p
    · subst z; rw [upd_same]; exact fun q => nomatch q
    · rw [upd_ne z]; exact (R.dom a i e).1
/-- a new thing that is changed later -/
def Gh.more (γ : Gh) (n : Nat) (p : Addr) : Gh := ⟨γ.ρ ++ [p], fun a => if a = p then some (some n) else γ.o a⟩
theorem Gh.more_same {n : Nat} {p : Addr} : (γ.more n p).o p = some (some n) := if_pos rfl
theorem Gh.more_ne {n : Nat} {p a : Addr} (h : a ≠ p) : (γ.more n p).o a = γ.o a := if_neg h
theorem Ext.more {p : Addr} {ob : HO} {n : Nat} (h : H p = none) : Ext γ H (γ.more n p) (upd H p ob) :=
  ⟨⟨fun i a e => by show (γ.ρ ++ [p])[i]? = some a; rw [List.getElem?_append_left (List.getElem?_eq_some_iff.mp e).1]; exact e, fun b o e n _ => ⟨by rw [upd_ne (ne_of_none e h)]; exact e, by rw [Gh.more_ne (ne_of_none e h)]; exact n⟩⟩,
    fun b o e n => ⟨by rw [upd_ne (ne_of_none e h)]; exact e, by rw [Gh.more_ne (ne_of_none e h)]; exact n⟩⟩
theorem Rel.more {p : Addr} {ob : HO} {ao : AO} (R : Rel G γ A H) (h : H p = none) (new : OR G (γ.more A.length p) (upd H p ob) A.length ao p) : Rel G (γ.more A.length p) (A ++ [ao]) (upd H p ob) := by
  have ne : ∀ b, H b ≠ none → b ≠ p := fun b q z => q (by rw [z]; exact h)
  have E : Ext γ H (γ.more A.length p) (upd H p ob) := Ext.more h
  refine ⟨by show (γ.ρ ++ [p]).length = _; rw [List.length_append, List.length_append, R.len]; rfl, fun i o e => ?_, fun a x e => ?_, fun q hq => ?_⟩
  · by_cases hi : i < A.length
    · rw [List.getElem?_append_left hi] at e
      obtain ⟨a, e1, e2, r⟩ := R.at_ i o e
      have na := ne a (R.dom a _ e2).1
      exact ⟨a, E.ρ i a e1, by rw [Gh.more_ne na]; exact e2, r.ext (j := i) E.toExt0 (by rw [upd_ne na]) fun dx q => ⟨by rw [upd_ne (ne dx (R.dom dx _ q).1)], by rw [Gh.more_ne (ne dx (R.dom dx _ q).1)]; exact q⟩⟩
    · rw [List.getElem?_append_right (by omega)] at e
      have e0 : i - A.length = 0 := by
        have := (List.getElem?_eq_some_iff.mp e).1
        simp at this; omega
      rw [e0] at e
      have hi2 : i = A.length := by omega
      subst hi2
      cases e
      refine ⟨p, ?_, Gh.more_same, new⟩
      show (γ.ρ ++ [p])[A.length]? = some p
      rw [← R.len]; simp
  · by_cases z : a = p
    · subst z
      rw [Gh.more_same] at e; cases e
      refine ⟨by rw [upd_same]; exact (fun q => nomatch q), fun i q => ?_⟩
      cases q
      rw [List.length_append]; simp
    · rw [Gh.more_ne z] at e
      refine ⟨by rw [upd_ne z]; exact (R.dom a x e).1, fun i q => ?_⟩
      have := (R.dom a x e).2 i q
      rw [List.length_append]; omega
  · obtain ⟨n, ps, h1, h2, h3⟩ := R.tab q hq
    have nq := ne q.1 (by rw [h1]; exact fun z => nomatch z)
    refine ⟨by rw [Gh.more_ne nq]; exact n, ps, by rw [upd_ne nq]; exact h1, h2, fun pos cv hc => ?_⟩
    obtain ⟨c, c1, c2, c3⟩ := h3 pos cv hc
    have nc := ne c (by rw [c2]; exact fun z => nomatch z)
    exact ⟨c, c1, by rw [upd_ne nc]; exact c2, by rw [Gh.more_ne nc]; exact c3⟩
/-- a thing is changed -/
theorem Ext.put {H' : Hp} {i : Nat} (h : ∀ b, γ.o b ≠ some (some i) → H' b = H b) : Ext γ H γ H' :=
  ⟨⟨fun _ _ e => e, fun b o e n _ => ⟨by rw [h b (by rw [n]; exact fun z => nomatch z)]; exact e, n⟩⟩, fun b o e n => ⟨by rw [h b (by rw [n]; exact fun z => nomatch z)]; exact e, n⟩⟩
theorem Rel.put {H' : Hp} {i : Nat} {a : Addr} {ao : AO} (R : Rel G γ A H) (ha : γ.ρ[i]? = some a) (h : ∀ b, γ.o b ≠ some (some i) → H' b = H b) (hd : ∀ b, γ.o b = some (some i) → H' b ≠ none) (new : OR G γ H' i ao a) : Rel G γ (A.set i ao) H' := by
  have E : Ext γ H γ H' := Ext.put h
  refine ⟨by rw [List.length_set]; exact R.len, fun j o e => ?_, fun b x e => ⟨?_, fun j q => by rw [List.length_set]; exact (R.dom b x e).2 j q⟩, fun q hq => ?_⟩
  · by_cases z : i = j
    · subst z
      have hi : i < A.length := by
        have := (List.getElem?_eq_some_iff.mp ha).1
        rw [R.len] at this; exact this
      rw [List.getElem?_set_self hi] at e
      cases e
      obtain ⟨a', e1, e2, _⟩ := R.at_ i _ (List.getElem?_eq_getElem hi)
      rw [ha] at e1; cases e1
      exact ⟨a, ha, e2, new⟩
    · rw [List.getElem?_set_ne z] at e
      obtain ⟨b, e1, e2, r⟩ := R.at_ j o e
      have nb : ∀ c, γ.o c = some (some j) → γ.o c ≠ some (some i) := fun c q w => by rw [q] at w; cases w; exact z rfl
      exact ⟨b, e1, e2, r.ext (j := j) E.toExt0 (h b (nb b e2)) fun dx q => ⟨h dx (nb dx q), q⟩⟩
  · by_cases z : γ.o b = some (some i)
    · exact hd b z
    · rw [h b z]; exact (R.dom b x e).1
  · obtain ⟨n, ps, h1, h2, h3⟩ := R.tab q hq
    refine ⟨n, ps, by rw [h q.1 (by rw [n]; exact fun z => nomatch z)]; exact h1, h2, fun pos cv hc => ?_⟩
    obtain ⟨c, c1, c2, c3⟩ := h3 pos cv hc
    exact ⟨c, c1, by rw [h c (by rw [c3]; exact fun z => nomatch z)]; exact c2, c3⟩
end
/-- the names of a frame -/
def ER (G : Gc) (γ : Gh) (H : Hp) (env : Ev) (σ : L2.St) : Prop := ∀ (i : Nat) (d : D), env[i]? = some (some d) → ∃ v, σ[i]? = some (some v) ∧ VR G γ H d v
theorem ER.ext {G : Gc} {γ γ' : Gh} {H H' : Hp} {env : Ev} {σ : L2.St} (e : Ext γ H γ' H') (h : ER G γ H env σ) : ER G γ' H' env σ := fun j d q => by
  obtain ⟨v, e1, r⟩ := h j d q
  exact ⟨v, e1, VR.ext e d v r⟩
theorem ER.set {G : Gc} {γ : Gh} {H : Hp} {env : Ev} {σ : L2.St} {i : Nat} {d : D} {v : V} (h : ER G γ H env σ) (hl : env.length = σ.length) (r : VR G γ H d v) : ER G γ H (env.set i (some d)) (σ.set i (some v)) := fun j x q => by
  by_cases z : i = j
  · subst z
    by_cases hi : i < env.length
    · rw [List.getElem?_set_self hi] at q
      cases q
      exact ⟨v, List.getElem?_set_self (by omega), r⟩
    · rw [List.getElem?_eq_none (by simpa using hi)] at q; cases q
  · rw [List.getElem?_set_ne z] at q ⊢
    exact h j x q
structure St3 (G : Gc) (γ : Gh) (A : AH) (env : Ev) (H : Hp) (σ : L2.St) : Prop where
  rel : Rel G γ A H
  len : env.length = σ.length
  er : ER G γ H env σ
theorem St3.to {G : Gc} {γ γ' : Gh} {A A' : AH} {env : Ev} {H H' : Hp} {σ : L2.St} (S : St3 G γ A env H σ) (e : Ext γ H γ' H') (R : Rel G γ' A' H') : St3 G γ' A' env H' σ := ⟨R, S.len, S.er.ext e⟩
/-- an error as it lies: its class, its own dict -/
def XR (G : Gc) (γ : Gh) (H : Hp) (x : Xn) (cls : Value) (ad : Option Addr) : Prop := ∃ C, G.xcl x.c = some C ∧ cls = .ref C ∧
  ((x.args = [] ∧ ad = none) ∨ ∃ d a f v, x.args = [d] ∧ ad = some a ∧ H a = some (.xd [(f, v)]) ∧ VR G γ H d v)
abbrev WXe := Value → Option Addr → Hp → Prop
def Post {α : Type} (G : Gc) (γ : Gh) (H : Hp) (r : Res α) (Q : Gh → AH → Hp → α → Prop) (W : WXe) : Prop :=
  match r with
  | .ok d A' => ∀ γ' H', Ext γ H γ' H' → Rel G γ' A' H' → Q γ' A' H' d
  | .ex x A' => ∀ γ' H' cls ad, Ext γ H γ' H' → Rel G γ' A' H' → XR G γ' H' x cls ad → W cls ad H'
  | .stuck => False
theorem Post.ext {α : Type} {G : Gc} {γ γ' : Gh} {H H' : Hp} {r : Res α} {Q : Gh → AH → Hp → α → Prop} {W : WXe} (e : Ext γ H γ' H') (h : Post G γ H r Q W) : Post G γ' H' r Q W := by
  cases r with
  | ok d A => exact fun γ2 H2 e2 R => h γ2 H2 (e.trans e2) R
  | ex x A => exact fun γ2 H2 c a e2 R => h γ2 H2 c a (e.trans e2) R
  | stuck => exact h
theorem Post.bind {α β : Type} {G : Gc} {γ : Gh} {H : Hp} {r : Res α} {k : α → AH → Res β} {Q : Gh → AH → Hp → β → Prop} {R : Gh → AH → Hp → α → Prop} {W : WXe} (h : Post G γ H (r.bind k) Q W)
    (hk : ∀ d A1 γ1 H1, Ext γ H γ1 H1 → Rel G γ1 A1 H1 → Post G γ1 H1 (k d A1) Q W → R γ1 A1 H1 d) : Post G γ H r R W := by
  cases r with
  | ok d A => exact fun γ1 H1 e R1 => hk d A γ1 H1 e R1 (Post.ext e h)
  | ex x A => exact h
  | stuck => exact h
end F3
namespace F3
open PySem PySem.Spec
open PyProof.Rows L2
theorem PE.imp {X : Cx} {e : Expr} {t t' : TE} (h : PE X e t) (q : ∀ σ H Q, t' σ H Q → t σ H Q) : PE X e t' := ⟨fun pins s σ H Q I z => h.run pins s σ H Q I (q σ H Q z)⟩
theorem PT.imp {X : Cx} {e : Expr} {t t' : TT} (h : PT X e t) (q : ∀ σ H Q, t' σ H Q → t σ H Q) : PT X e t' := ⟨fun pins s σ H Q I z => h.run pins s σ H Q I (q σ H Q z)⟩
theorem PW.imp {X : Cx} {e : Expr} {t t' : TT} (h : PW X e t) (q : ∀ σ H Q, t' σ H Q → t σ H Q) : PW X e t' := ⟨fun w pins s σ H Q I z => h.run w pins s σ H Q I (q σ H Q z)⟩
theorem PA.imp {X : Cx} {e : List Expr} {t t' : TA} (h : PA X e t) (q : ∀ σ H Q, t' σ H Q → t σ H Q) : PA X e t' := ⟨fun p pins s σ H Q I z => h.run p pins s σ H Q I (q σ H Q z)⟩
theorem PS.imp {X : Cx} {e : Stmt} {t t' : TS} (h : PS X e t) (q : ∀ D σ H, t' D σ H → t D σ H) : PS X e t' := ⟨fun pins s σ H D I z => h.run pins s σ H D I (q D σ H z)⟩
theorem PSs.imp {X : Cx} {e : List Stmt} {t t' : TS} (h : PSs X e t) (q : ∀ D σ H, t' D σ H → t D σ H) : PSs X e t' := ⟨fun pins s σ H D I z => h.run pins s σ H D I (q D σ H z)⟩
/-- readings by a run over deep values -/
def tE (G : Gc) (W : WX) (f : Ev → AH → Res D) : TE := fun σ H Q => ∃ γ A env, St3 G γ A env H σ ∧ Post G γ H (f env A) (fun γ' _ H' d => ∀ v, VR G γ' H' d v → Q v H') (fun c a H' => W c a σ H')
def tB3 (G : Gc) (W : WX) (f : Ev → AH → Res Bool) : TT := fun σ H Q => ∃ γ A env, St3 G γ A env H σ ∧ Post G γ H (f env A) (fun _ _ H' b => Q b H') (fun c a H' => W c a σ H')
def tA (G : Gc) (W : WX) (f : Ev → AH → Res (List D)) : TA := fun σ H Q => ∃ γ A env, St3 G γ A env H σ ∧ Post G γ H (f env A) (fun γ' _ H' ds => ∀ vs, VRs G γ' H' ds vs → Q vs H') (fun c a H' => W c a σ H')
structure JE (X : Cx) (G : Gc) (W : WX) (e : Expr) (f : Ev → AH → Res D) : Prop where
  run : PE X e (tE G W f)
structure JT (X : Cx) (G : Gc) (W : WX) (e : Expr) (f : Ev → AH → Res Bool) : Prop where
  run : PT X e (tB3 G W f)
structure JW (X : Cx) (G : Gc) (W : WX) (e : Expr) (f : Ev → AH → Res Bool) : Prop where
  run : PW X e (tB3 G W f)
structure JA (X : Cx) (G : Gc) (W : WX) (es : List Expr) (f : Ev → AH → Res (List D)) : Prop where
  run : PA X es (tA G W f)
/-- what stands around -/
structure XO (X : Cx) (G : Gc) (W : WX) (k : Nat) : Prop where
  tk : Takes X W
  po : PassesOwn (model X.prog X.w) X.A X.env X.xe
  calm : X.calm = true
  room : Room k X.A
  gd : X.A.guards = some []
  gk : G.K = X.K
section
variable {X : Cx} {G : Gc} {W : WX} {k : Nat}
/-! ### names and constants -/
def sVar (i : Nat) : Ev → AH → Res D := fun env A => match env[i]? with
  | some (some d) => .ok d A
  | _ => .stuck
def sC (d : D) : Ev → AH → Res D := fun _ A => .ok d A
theorem je_var {x : Str} {pos : Pos} (i : Nat) (hN : X.N[i]? = some x) (hv : Vis X.env.scope x) (hd : (x == ("__debug__" : Str)) = false) (hcd : (x == ("__classdict__" : Str)) = false) : JE X G W (.Name x pos) (sVar i) := by
  refine ⟨PE.imp (pe_var hN hv hd hcd) fun σ H Q h => ?_⟩
  obtain ⟨γ, A, env, S, h⟩ := h
  unfold sVar at h
  cases e : env[i]? with
  | none => rw [e] at h; exact h.elim
  | some o =>
    cases o with
    | none => rw [e] at h; exact h.elim
    | some d =>
      rw [e] at h
      obtain ⟨v, e1, r⟩ := S.er i d e
      exact ⟨v, e1, h γ H (Ext.refl _ _) S.rel v r⟩
theorem tE_c {d : D} {v : V} {σ : L2.St} {H : Hp} {Q : VK} (hr : ∀ γ, VR G γ H d v) (h : tE G W (sC d) σ H Q) : Q v H := by
  obtain ⟨γ, A, env, S, h⟩ := h
  exact h γ H (Ext.refl _ _) S.rel v (hr γ)
theorem je_int {i j pos} : JE X G W (.Constant (.int i) j pos) (sC (.int i)) := ⟨PE.imp pe_int fun σ H Q h => tE_c (fun γ => by unfold VR; rfl) h⟩
theorem je_bl {b j pos} : JE X G W (.Constant (.bool b) j pos) (sC (.bl b)) := ⟨PE.imp pe_bl fun σ H Q h => tE_c (fun γ => by unfold VR; rfl) h⟩
theorem je_non {j pos} : JE X G W (.Constant .none j pos) (sC .non) := ⟨PE.imp pe_non fun σ H Q h => tE_c (fun γ => by unfold VR; rfl) h⟩
theorem je_str {x j pos} (y : Str) (h : x = y) : JE X G W (.Constant (.str x) j pos) (sC (.str y)) := by
  subst h
  exact ⟨PE.imp pe_str fun σ H Q h => tE_c (fun γ => by unfold VR; rfl) h⟩
/-- a module's constant: an int, a text -/
theorem je_globI {x : Str} {i : Int} {t : Tok} {pos : Pos} (hg : Gl X x) (hd : (x == ("__debug__" : Str)) = false) (hm : X.mg x = some (.int i t)) : JE X G W (.Name x pos) (sC (.int i)) :=
  ⟨PE.imp (pe_glob (v := .int i) hg hm ⟨t, rfl⟩ hd) fun σ H Q h => tE_c (fun γ => by unfold VR; rfl) h⟩
theorem je_globS {x : Str} {y : Str} {t : Tok} {pos : Pos} (hg : Gl X x) (hd : (x == ("__debug__" : Str)) = false) (hm : X.mg x = some (.str y t)) : JE X G W (.Name x pos) (sC (.str y)) :=
  ⟨PE.imp (pe_glob (v := .str y) hg hm ⟨t, rfl⟩ hd) fun σ H Q h => tE_c (fun γ => by unfold VR; rfl) h⟩
/-! ### two values -/
def sBin (g : D → D → AH → Res D) (fa fb : Ev → AH → Res D) : Ev → AH → Res D := fun env A => (fa env A).bind fun x A1 => (fb env A1).bind fun y A2 => g x y A2
def sUn (g : D → AH → Res D) (fa : Ev → AH → Res D) : Ev → AH → Res D := fun env A => (fa env A).bind fun x A1 => g x A1
/-- a reading of values by g -/
def OkV2 (G : Gc) (r : R2) (g : D → D → AH → Res D) : Prop := ∀ (γ : Gh) (A : AH) (H : Hp) (a b : D) (x y : V) (Q : VK) (Wx : WXe), Rel G γ A H → VR G γ H a x → VR G γ H b y → Post G γ H (g a b A) (fun γ' _ H' d => ∀ v, VR G γ' H' d v → Q v H') Wx → r x y H Q
theorem tOp_of {r : R2} {g : D → D → AH → Res D} {fa fb : Ev → AH → Res D} (hv : OkV2 G r g) {σ : L2.St} {H : Hp} {Q : VK} (h : tE G W (sBin g fa fb) σ H Q) : tOp r (tE G W fa) (tE G W fb) σ H Q := by
  obtain ⟨γ, A, env, S, h⟩ := h
  refine ⟨γ, A, env, S, Post.bind h fun x A1 γ1 H1 e1 R1 h1 v r1 => ?_⟩
  refine ⟨γ1, A1, env, S.to e1 R1, Post.bind h1 fun y A2 γ2 H2 e2 R2 h2 u r2 => ?_⟩
  exact hv γ2 A2 H2 x y v u Q _ R2 (VR.ext e2 _ _ r1) r2 h2
theorem je_bin {op : Operator} {a b : Expr} {pos : Pos} {r : R2} {g : D → D → AH → Res D} {fa fb : Ev → AH → Res D} (ho : OpR X (binaryOp op) r) (hv : OkV2 G r g) (ha : JE X G W a fa) (hb : JE X G W b fb) : JE X G W (.BinOp a op b pos) (sBin g fa fb) :=
  ⟨PE.imp (pe_op ho ha.run hb.run) fun σ H Q h => tOp_of hv h⟩
theorem je_cmp {op : CmpOp} {a b : Expr} {pos : Pos} {r : R2} {g : D → D → AH → Res D} {fa fb : Ev → AH → Res D} (ho : OpR X (compareOp op) r) (hv : OkV2 G r g) (hm : behindInMarks op b = false) (ha : JE X G W a fa) (hb : JE X G W b fb) : JE X G W (.Compare a [op] [b] pos) (sBin g fa fb) :=
  ⟨PE.imp (pe_cmpR ho ha.run hb.run hm) fun σ H Q h => tOp_of hv h⟩
/-- a bool's value as a test -/
def sTest (f : Ev → AH → Res D) : Ev → AH → Res Bool := fun env A => (f env A).bind fun d A1 => match d with
  | .bl b => .ok b A1
  | _ => .stuck
theorem tTest_of {t : TE} {f : Ev → AH → Res D} (ht : ∀ σ H Q, tE G W f σ H Q → t σ H Q) {σ : L2.St} {H : Hp} {Q : Bool → Hp → Prop} (h : tB3 G W (sTest f) σ H Q) : t σ H fun x H' => ∃ k, x = .bl k ∧ Q k H' := by
  obtain ⟨γ, A, env, S, h⟩ := h
  refine ht _ _ _ ⟨γ, A, env, S, Post.bind h fun x A1 γ1 H1 e1 R1 h1 v r1 => ?_⟩
  cases x with
  | bl b => unfold VR at r1; exact ⟨b, r1, h1 γ1 H1 (Ext.refl _ _) R1⟩
  | _ => exact h1.elim
theorem jt_cmp {op : CmpOp} {a b : Expr} {pos : Pos} {r : R2} {g : D → D → AH → Res D} {fa fb : Ev → AH → Res D} (ho : OpR X (compareOp op) r) (hv : OkV2 G r g) (hm : behindInMarks op b = false) (ha : JE X G W a fa) (hb : JE X G W b fb) : JT X G W (.Compare a [op] [b] pos) (sTest (sBin g fa fb)) :=
  ⟨PT.imp (pt_cmpR ho ha.run hb.run hm) fun σ H Q h => tTest_of (fun σ H Q h => tOp_of hv h) h⟩
theorem jt_val {e : Expr} {f : Ev → AH → Res D} (h : JE X G W e f) (he : ∀ whole, isTrue e X.env whole = (do let v ← whole; standAt e.pos; holding [v] (truthy v))) : JT X G W e (sTest f) :=
  ⟨PT.imp (pt_val h.run he) fun σ H Q h => tTest_of (fun σ H Q h => h) h⟩
/-- a op b op' c -/
def sChain (g g' : D → D → AH → Res D) (fa fb fc : Ev → AH → Res D) : Ev → AH → Res D := fun env A => (fa env A).bind fun x A1 => (fb env A1).bind fun y A2 => (g x y A2).bind fun z A3 => match z with
  | .bl true => (fc env A3).bind fun w A4 => g' y w A4
  | .bl false => .ok (.bl false) A3
  | _ => .stuck
theorem tChain_of {r r' : R2} {g g' : D → D → AH → Res D} {fa fb fc : Ev → AH → Res D} (hv : OkV2 G r g) (hv' : OkV2 G r' g') {σ : L2.St} {H : Hp} {Q : VK} (h : tE G W (sChain g g' fa fb fc) σ H Q) : tChain r r' (tE G W fa) (tE G W fb) (tE G W fc) σ H Q := by
  obtain ⟨γ, A, env, S, h⟩ := h
  refine ⟨γ, A, env, S, Post.bind h fun x A1 γ1 H1 e1 R1 h1 v r1 => ?_⟩
  refine ⟨γ1, A1, env, S.to e1 R1, Post.bind h1 fun y A2 γ2 H2 e2 R2 h2 u r2 => ?_⟩
  refine hv γ2 A2 H2 x y v u _ _ R2 (VR.ext e2 _ _ r1) r2 (Post.bind h2 fun z A3 γ3 H3 e3 R3 h3 p r3 => ?_)
  cases z with
  | bl b =>
    unfold VR at r3
    refine ⟨b, r3, ?_⟩
    cases b with
    | true =>
      rw [if_pos rfl]
      refine ⟨γ3, A3, env, ((S.to e1 R1).to e2 R2).to e3 R3, Post.bind h3 fun w A4 γ4 H4 e4 R4 h4 q r4 => ?_⟩
      exact hv' γ4 A4 H4 y w u q Q _ R4 (VR.ext (e3.trans e4) _ _ r2) r4 h4
    | false =>
      rw [if_neg Bool.false_ne_true]
      exact h3 γ3 H3 (Ext.refl _ _) R3 _ (by unfold VR; rfl)
  | _ => exact h3.elim
theorem je_chain {op op' : CmpOp} {a b c : Expr} {pos : Pos} {r r' : R2} {g g' : D → D → AH → Res D} {fa fb fc : Ev → AH → Res D} (ho : OpR X (compareOp op) r) (ho' : OpR X (compareOp op') r') (hv : OkV2 G r g) (hv' : OkV2 G r' g') (hm : lastMarks [op, op'] [b, c] = false)
    (ha : JE X G W a fa) (hb : JE X G W b fb) (hc : JE X G W c fc) : JE X G W (.Compare a [op, op'] [b, c] pos) (sChain g g' fa fb fc) :=
  ⟨PE.imp (pe_chain ho ho' ha.run hb.run hc.run hm) fun σ H Q h => tChain_of hv hv' h⟩
theorem jt_chain {op op' : CmpOp} {a b c : Expr} {pos : Pos} {r r' : R2} {g g' : D → D → AH → Res D} {fa fb fc : Ev → AH → Res D} (ho : OpR X (compareOp op) r) (ho' : OpR X (compareOp op') r') (hv : OkV2 G r g) (hv' : OkV2 G r' g') (hm : lastMarks [op, op'] [b, c] = false)
    (ha : JE X G W a fa) (hb : JE X G W b fb) (hc : JE X G W c fc) : JT X G W (.Compare a [op, op'] [b, c] pos) (sTest (sChain g g' fa fb fc)) :=
  ⟨PT.imp (pt_chain ho ho' ha.run hb.run hc.run hm) fun σ H Q h => tTest_of (fun σ H Q h => tChain_of hv hv' h) h⟩
/-! ### and, or, not -/
def sAndT (f g : Ev → AH → Res Bool) : Ev → AH → Res Bool := fun env A => (f env A).bind fun c A1 => match c with
  | true => g env A1
  | false => .ok false A1
def sOrT (f g : Ev → AH → Res Bool) : Ev → AH → Res Bool := fun env A => (f env A).bind fun c A1 => match c with
  | true => .ok true A1
  | false => g env A1
def sNotT (f : Ev → AH → Res Bool) : Ev → AH → Res Bool := fun env A => (f env A).bind fun c A1 => .ok (!c) A1
theorem jt_w {e : Expr} {f : Ev → AH → Res Bool} (h : JW X G W e f) : JT X G W e f := ⟨h.run.pt⟩
theorem jw_and1 {a : Expr} {pos : Pos} {f : Ev → AH → Res Bool} (h : JT X G W a f) : JW X G W (.BoolOp .And [a] pos) f := ⟨pw_and1 h.run⟩
theorem jw_or1 {a : Expr} {pos : Pos} {f : Ev → AH → Res Bool} (h : JT X G W a f) : JW X G W (.BoolOp .Or [a] pos) f := ⟨pw_or1 h.run⟩
theorem jw_and {a b : Expr} {rest : List Expr} {pos : Pos} {f g : Ev → AH → Res Bool} (ha : JT X G W a f) (hb : JW X G W (.BoolOp .And (b :: rest) pos) g) : JW X G W (.BoolOp .And (a :: b :: rest) pos) (sAndT f g) := by
  refine ⟨PW.imp (pw_and ha.run hb.run) fun σ H Q h => ?_⟩
  obtain ⟨γ, A, env, S, h⟩ := h
  refine ⟨γ, A, env, S, Post.bind h fun c A1 γ1 H1 e1 R1 h1 => ?_⟩
  cases c with
  | true => rw [if_pos rfl]; exact ⟨γ1, A1, env, S.to e1 R1, h1⟩
  | false => rw [if_neg Bool.false_ne_true]; exact h1 γ1 H1 (Ext.refl _ _) R1
theorem jw_or {a b : Expr} {rest : List Expr} {pos : Pos} {f g : Ev → AH → Res Bool} (ha : JT X G W a f) (hb : JW X G W (.BoolOp .Or (b :: rest) pos) g) : JW X G W (.BoolOp .Or (a :: b :: rest) pos) (sOrT f g) := by
  refine ⟨PW.imp (pw_or ha.run hb.run) fun σ H Q h => ?_⟩
  obtain ⟨γ, A, env, S, h⟩ := h
  refine ⟨γ, A, env, S, Post.bind h fun c A1 γ1 H1 e1 R1 h1 => ?_⟩
  cases c with
  | true => rw [if_pos rfl]; exact h1 γ1 H1 (Ext.refl _ _) R1
  | false => rw [if_neg Bool.false_ne_true]; exact ⟨γ1, A1, env, S.to e1 R1, h1⟩
theorem jt_not {a : Expr} {pos : Pos} {f : Ev → AH → Res Bool} (ha : JT X G W a f) : JT X G W (.UnaryOp .Not a pos) (sNotT f) := by
  refine ⟨PT.imp (pt_not ha.run) fun σ H Q h => ?_⟩
  obtain ⟨γ, A, env, S, h⟩ := h
  exact ⟨γ, A, env, S, Post.bind h fun c A1 γ1 H1 e1 R1 h1 => h1 γ1 H1 (Ext.refl _ _) R1⟩
/-- .. as values: all but the last a bool -/
def sAndV (f g : Ev → AH → Res D) : Ev → AH → Res D := fun env A => (f env A).bind fun c A1 => match c with
  | .bl true => g env A1
  | .bl false => .ok (.bl false) A1
  | _ => .stuck
def sOrV (f g : Ev → AH → Res D) : Ev → AH → Res D := fun env A => (f env A).bind fun c A1 => match c with
  | .bl true => .ok (.bl true) A1
  | .bl false => g env A1
  | _ => .stuck
def sNotV (f : Ev → AH → Res D) : Ev → AH → Res D := fun env A => (f env A).bind fun c A1 => match c with
  | .bl b => .ok (.bl (!b)) A1
  | _ => .stuck
theorem je_one {op} {a : Expr} {pos : Pos} {f : Ev → AH → Res D} (h : JE X G W a f) : JE X G W (.BoolOp op [a] pos) f := ⟨pe_one h.run⟩
theorem je_and {a b : Expr} {rest : List Expr} {pos : Pos} {f g : Ev → AH → Res D} (ha : JE X G W a f) (hb : JE X G W (.BoolOp .And (b :: rest) pos) g) : JE X G W (.BoolOp .And (a :: b :: rest) pos) (sAndV f g) := by
  refine ⟨PE.imp (pe_and ha.run hb.run) fun σ H Q h => ?_⟩
  obtain ⟨γ, A, env, S, h⟩ := h
  refine ⟨γ, A, env, S, Post.bind h fun c A1 γ1 H1 e1 R1 h1 v r1 => ?_⟩
  cases c with
  | bl b =>
    unfold VR at r1
    refine ⟨b, r1, ?_⟩
    cases b with
    | true => rw [if_pos rfl]; exact ⟨γ1, A1, env, S.to e1 R1, h1⟩
    | false => rw [if_neg Bool.false_ne_true]; exact h1 γ1 H1 (Ext.refl _ _) R1 _ (by unfold VR; rfl)
  | _ => exact h1.elim
theorem je_or {a b : Expr} {rest : List Expr} {pos : Pos} {f g : Ev → AH → Res D} (ha : JE X G W a f) (hb : JE X G W (.BoolOp .Or (b :: rest) pos) g) : JE X G W (.BoolOp .Or (a :: b :: rest) pos) (sOrV f g) := by
  refine ⟨PE.imp (pe_or ha.run hb.run) fun σ H Q h => ?_⟩
  obtain ⟨γ, A, env, S, h⟩ := h
  refine ⟨γ, A, env, S, Post.bind h fun c A1 γ1 H1 e1 R1 h1 v r1 => ?_⟩
  cases c with
  | bl b =>
    unfold VR at r1
    refine ⟨b, r1, ?_⟩
    cases b with
    | false => rw [if_neg Bool.false_ne_true]; exact ⟨γ1, A1, env, S.to e1 R1, h1⟩
    | true => rw [if_pos rfl]; exact h1 γ1 H1 (Ext.refl _ _) R1 _ (by unfold VR; rfl)
  | _ => exact h1.elim
theorem je_not {a : Expr} {pos : Pos} {f : Ev → AH → Res D} (ha : JE X G W a f) : JE X G W (.UnaryOp .Not a pos) (sNotV f) := by
  refine ⟨PE.imp (pe_not ha.run) fun σ H Q h => ?_⟩
  obtain ⟨γ, A, env, S, h⟩ := h
  refine ⟨γ, A, env, S, Post.bind h fun c A1 γ1 H1 e1 R1 h1 v r1 => ?_⟩
  cases c with
  | bl b =>
    unfold VR at r1
    exact ⟨b, r1, h1 γ1 H1 (Ext.refl _ _) R1 _ (by unfold VR; rfl)⟩
  | _ => exact h1.elim
def sIf (c : Ev → AH → Res Bool) (f g : Ev → AH → Res D) : Ev → AH → Res D := fun env A => (c env A).bind fun b A1 => match b with
  | true => f env A1
  | false => g env A1
theorem je_if {c a b : Expr} {pos : Pos} {fc : Ev → AH → Res Bool} {f g : Ev → AH → Res D} (hc : JT X G W c fc) (ha : JE X G W a f) (hb : JE X G W b g) : JE X G W (.IfExp c a b pos) (sIf fc f g) := by
  refine ⟨PE.imp (pe_ifExp hc.run ha.run hb.run) fun σ H Q h => ?_⟩
  obtain ⟨γ, A, env, S, h⟩ := h
  refine ⟨γ, A, env, S, Post.bind h fun c A1 γ1 H1 e1 R1 h1 => ?_⟩
  cases c with
  | true => rw [if_pos rfl]; exact ⟨γ1, A1, env, S.to e1 R1, h1⟩
  | false => rw [if_neg Bool.false_ne_true]; exact ⟨γ1, A1, env, S.to e1 R1, h1⟩
/-! ### lists of arguments -/
def sNil : Ev → AH → Res (List D) := fun _ A => .ok [] A
def sCons (f : Ev → AH → Res D) (g : Ev → AH → Res (List D)) : Ev → AH → Res (List D) := fun env A => (f env A).bind fun d A1 => (g env A1).bind fun ds A2 => .ok (d :: ds) A2
/-- a list as it stands, a tuple -/
def asL (A : AH) : D → Option (List D)
  | .tup ds => some ds
  | .lst ds => some ds
  | .scr ds => some ds
  | .ref i => match A[i]? with
    | some (.lst ds) => some ds
    | _ => none
  | _ => none
def sStar (f : Ev → AH → Res D) (g : Ev → AH → Res (List D)) : Ev → AH → Res (List D) := fun env A => (f env A).bind fun d A1 => match asL A1 d with
  | some xs => (g env A1).bind fun ds A2 => .ok (xs ++ ds) A2
  | none => .stuck
theorem asL_at {γ : Gh} {A : AH} {H : Hp} {d : D} {v : V} {ds : List D} (R : Rel G γ A H) (h : VR G γ H d v) (e : asL A d = some ds) : ∃ a vs, v = .ref a ∧ VRs G γ H ds vs ∧ (SqL G.K H a vs ∨ SqT G.K H a vs) := by
  cases d with
  | tup xs => unfold VR at h; obtain ⟨a, vs, e1, f, r⟩ := h; cases e; exact ⟨a, vs, e1, r, .inr f.sq⟩
  | lst xs => unfold VR at h; obtain ⟨a, vs, e1, f, n, r⟩ := h; cases e; exact ⟨a, vs, e1, r, .inl (SqL.of f)⟩
  | scr xs => unfold VR at h; obtain ⟨a, vs, e1, f, r⟩ := h; cases e; exact ⟨a, vs, e1, r, .inl f.sq⟩
  | ref i =>
    unfold VR at h
    obtain ⟨a, e1, e2⟩ := h
    unfold asL at e
    simp only at e
    split at e
    · rename_i xs q
      cases e
      obtain ⟨a', h1, h2, vs, h3, h4⟩ := R.at_ i _ q
      rw [e2] at h1; cases h1
      exact ⟨a, vs, e1, h4, .inl (SqL.of h3)⟩
    · cases e
  | _ => cases e
/-- a list as it stands -/
def asQ (A : AH) : D → Option (List D)
  | .lst ds => some ds
  | .scr ds => some ds
  | .ref i => match A[i]? with
    | some (.lst ds) => some ds
    | _ => none
  | _ => none
theorem asQ_at {γ : Gh} {A : AH} {H : Hp} {d : D} {v : V} {ds : List D} (R : Rel G γ A H) (h : VR G γ H d v) (e : asQ A d = some ds) : ∃ a vs, v = .ref a ∧ VRs G γ H ds vs ∧ SqL G.K H a vs := by
  cases d with
  | lst xs => unfold VR at h; obtain ⟨a, vs, e1, f, n, r⟩ := h; cases e; exact ⟨a, vs, e1, r, SqL.of f⟩
  | scr xs => unfold VR at h; obtain ⟨a, vs, e1, f, r⟩ := h; cases e; exact ⟨a, vs, e1, r, f.sq⟩
  | ref i =>
    unfold VR at h
    obtain ⟨a, e1, e2⟩ := h
    unfold asQ at e
    simp only at e
    split at e
    · rename_i xs q
      cases e
      obtain ⟨a', h1, h2, vs, h3, h4⟩ := R.at_ i _ q
      rw [e2] at h1; cases h1
      exact ⟨a, vs, e1, h4, SqL.of h3⟩
    · cases e
  | _ => cases e
theorem ja_nil : JA X G W [] sNil := by
  refine ⟨PA.imp pa_nil fun σ H Q h => ?_⟩
  obtain ⟨γ, A, env, S, h⟩ := h
  exact h γ H (Ext.refl _ _) S.rel [] VRs.nil
theorem ja_cons {e : Expr} {es : List Expr} {f : Ev → AH → Res D} {g : Ev → AH → Res (List D)} (ha : JE X G W e f) (hb : JA X G W es g) (hs : starEach (e :: es) X.env = (false, eval e X.env) :: starEach es X.env := by rfl) : JA X G W (e :: es) (sCons f g) := by
  refine ⟨PA.imp (pa_cons ha.run hb.run hs) fun σ H Q h => ?_⟩
  obtain ⟨γ, A, env, S, h⟩ := h
  refine ⟨γ, A, env, S, Post.bind h fun c A1 γ1 H1 e1 R1 h1 v r1 => ?_⟩
  refine ⟨γ1, A1, env, S.to e1 R1, Post.bind h1 fun y A2 γ2 H2 e2 R2 h2 vs r2 => ?_⟩
  exact h2 γ2 H2 (Ext.refl _ _) R2 _ (VRs.cons (VR.ext e2 _ _ r1) r2)
theorem ja_star (o : XO X G W k) {e : Expr} {p : Pos} {es : List Expr} {f : Ev → AH → Res D} {g : Ev → AH → Res (List D)} (ha : JE X G W e f) (hb : JA X G W es g) (hs : starEach (.Starred e p :: es) X.env = (true, eval e X.env) :: starEach es X.env := by rfl) : JA X G W (.Starred e p :: es) (sStar f g) := by
  refine ⟨PA.imp (StX.pa_star ha.run hb.run hs) fun σ H Q h => ?_⟩
  obtain ⟨γ, A, env, S, h⟩ := h
  refine ⟨γ, A, env, S, Post.bind h fun c A1 γ1 H1 e1 R1 h1 v r1 => ?_⟩
  cases q : asL A1 c with
  | none => rw [q] at h1; exact h1.elim
  | some xs =>
    rw [q] at h1
    obtain ⟨a, vs, e2, r2, hq⟩ := asL_at R1 r1 q
    rw [← o.gk]
    refine ⟨a, vs, e2, hq.symm, γ1, A1, env, S.to e1 R1, Post.bind h1 fun y A2 γ2 H2 e2 R2 h2 ws r3 => ?_⟩
    exact h2 γ2 H2 (Ext.refl _ _) R2 _ ((VRs.ext e2 _ _ r2).append r3)
/-! ### displays -/
theorem Post.new {α : Type} {γ : Gh} {A : AH} {H : Hp} {Q : Gh → AH → Hp → α → Prop} {Wx : WXe} {d : α} {p : Addr} {ob : HO} (R : Rel G γ A H) (hp : H p = none) (h : Post G γ H (.ok d A) Q Wx) : Q γ A (upd H p ob) d :=
  h γ _ (Ext.laid hp) (R.laid hp)
def sTup (f : Ev → AH → Res (List D)) : Ev → AH → Res D := fun env A => (f env A).bind fun ds A1 => if ds.length ≤ sizeLine then .ok (.tup ds) A1 else .stuck
def sLst (f : Ev → AH → Res (List D)) : Ev → AH → Res D := fun env A => (f env A).bind fun ds A1 => if ds.length ≤ sizeLine then .ok (.lst ds) A1 else .stuck
/-- a list that is changed later -/
def sLstM (f : Ev → AH → Res (List D)) : Ev → AH → Res D := fun env A => (f env A).bind fun ds A1 => if ds.length ≤ sizeLine then .ok (.ref A1.length) (A1 ++ [.lst ds]) else .stuck
theorem VR.newT {γ : Gh} {A : AH} {H : Hp} {p : Addr} {ds : List D} {vs : List V} (R : Rel G γ A H) (hp : H p = none) (r : VRs G γ H ds vs) : VR G γ (upd H p (.tup vs)) (.tup ds) (.ref p) := by
  unfold VR
  exact ⟨p, vs, rfl, ⟨upd_same, R.o_none hp⟩, VRs.ext (Ext.laid hp) _ _ r⟩
theorem VR.newL {γ : Gh} {A : AH} {H : Hp} {p : Addr} {ds : List D} {vs : List V} (R : Rel G γ A H) (hp : H p = none) (r : VRs G γ H ds vs) : VR G γ (upd H p (.lst vs)) (.lst ds) (.ref p) := by
  unfold VR
  exact ⟨p, vs, rfl, upd_same, R.o_none hp, VRs.ext (Ext.laid hp) _ _ r⟩
theorem je_tup {es : List Expr} {x1} {pos : Pos} {f : Ev → AH → Res (List D)} (h : JA X G W es f) : JE X G W (.Tuple es x1 pos) (sTup f) := by
  refine ⟨PE.imp (pe_tup h.run) fun σ H Q h => ?_⟩
  obtain ⟨γ, A, env, S, h⟩ := h
  refine ⟨γ, A, env, S, Post.bind h fun ds A1 γ1 H1 e1 R1 h1 vs r1 => ?_⟩
  split at h1
  · rename_i hz
    exact ⟨by rw [← r1.length]; exact hz, fun p hp => Post.new (ob := .tup vs) R1 hp h1 _ (VR.newT R1 hp r1)⟩
  · exact h1.elim
theorem je_lst {es : List Expr} {pos : Pos} {f : Ev → AH → Res (List D)} (h : JA X G W es f) : JE X G W (.List es pos) (sLst f) := by
  refine ⟨PE.imp (pe_lst h.run) fun σ H Q h => ?_⟩
  obtain ⟨γ, A, env, S, h⟩ := h
  refine ⟨γ, A, env, S, Post.bind h fun ds A1 γ1 H1 e1 R1 h1 vs r1 => ?_⟩
  split at h1
  · rename_i hz
    exact ⟨by rw [← r1.length]; exact hz, fun p hp => Post.new (ob := .lst vs) R1 hp h1 _ (VR.newL R1 hp r1)⟩
  · exact h1.elim
/-- [..], changed later -/
theorem je_lstM {es : List Expr} {pos : Pos} {f : Ev → AH → Res (List D)} (h : JA X G W es f) : JE X G W (.List es pos) (sLstM f) := by
  refine ⟨PE.imp (pe_lst h.run) fun σ H Q h => ?_⟩
  obtain ⟨γ, A, env, S, h⟩ := h
  refine ⟨γ, A, env, S, Post.bind h fun ds A1 γ1 H1 e1 R1 h1 vs r1 => ?_⟩
  split at h1
  · rename_i hz
    refine ⟨by rw [← r1.length]; exact hz, fun p hp => ?_⟩
    have E : Ext γ1 H1 (γ1.more A1.length p) (upd H1 p (.lst vs)) := Ext.more hp
    refine h1 _ _ E (R1.more hp ⟨vs, upd_same, VRs.ext E _ _ r1⟩) _ ?_
    unfold VR
    refine ⟨p, rfl, ?_⟩
    show (γ1.ρ ++ [p])[A1.length]? = some p
    rw [← R1.len]; simp
  · exact h1.elim
end
end F3
namespace F3
open PySem PySem.Spec
open PyProof.Rows L2
/-- what a statement ends with -/
inductive SR where
  | nx (env : Ev) (A : AH) | rt (d : D) (A : AH) | bk (env : Ev) (A : AH) | ct (env : Ev) (A : AH) | ex (x : Xn) (env : Ev) (A : AH) | stuck
def PostS (G : Gc) (γ : Gh) (H : Hp) (r : SR) (E : Ends) (W : WX) : Prop :=
  match r with
  | .nx env A' => ∀ γ' H' σ', Ext γ H γ' H' → St3 G γ' A' env H' σ' → E.nx σ' H'
  | .rt d A' => ∀ γ' H' v, Ext γ H γ' H' → Rel G γ' A' H' → VR G γ' H' d v → E.rt v H'
  | .bk env A' => ∀ γ' H' σ', Ext γ H γ' H' → St3 G γ' A' env H' σ' → E.bk σ' H'
  | .ct env A' => ∀ γ' H' σ', Ext γ H γ' H' → St3 G γ' A' env H' σ' → E.ct σ' H'
  | .ex x env A' => ∀ γ' H' σ' cls ad, Ext γ H γ' H' → St3 G γ' A' env H' σ' → XR G γ' H' x cls ad → W cls ad σ' H'
  | .stuck => False
theorem PostS.ext {G : Gc} {γ γ' : Gh} {H H' : Hp} {r : SR} {E : Ends} {W : WX} (e : Ext γ H γ' H') (h : PostS G γ H r E W) : PostS G γ' H' r E W := by
  cases r with
  | nx env A => exact fun γ2 H2 σ e2 S => h γ2 H2 σ (e.trans e2) S
  | rt d A => exact fun γ2 H2 v e2 R r => h γ2 H2 v (e.trans e2) R r
  | bk env A => exact fun γ2 H2 σ e2 S => h γ2 H2 σ (e.trans e2) S
  | ct env A => exact fun γ2 H2 σ e2 S => h γ2 H2 σ (e.trans e2) S
  | ex x env A => exact fun γ2 H2 σ c a e2 S => h γ2 H2 σ c a (e.trans e2) S
  | stuck => exact h
/-- a value's run within a statement -/
def lft {α : Type} (r : Res α) (env : Ev) (k : α → AH → SR) : SR :=
  match r with
  | .ok a A => k a A
  | .ex x A => .ex x env A
  | .stuck => .stuck
theorem PostS.lft {α : Type} {G : Gc} {γ : Gh} {H : Hp} {A : AH} {env : Ev} {σ : L2.St} {r : Res α} {k : α → AH → SR} {E : Ends} {W : WX} {R : Gh → AH → Hp → α → Prop} (S : St3 G γ A env H σ) (h : PostS G γ H (lft r env k) E W)
    (hk : ∀ d A1 γ1 H1, Ext γ H γ1 H1 → Rel G γ1 A1 H1 → PostS G γ1 H1 (k d A1) E W → R γ1 A1 H1 d) : Post G γ H r R (fun c a H' => W c a σ H') := by
  cases r with
  | ok d A1 => exact fun γ1 H1 e R1 => hk d A1 γ1 H1 e R1 (PostS.ext e h)
  | ex x A1 => exact fun γ1 H1 c a e R1 xr => h γ1 H1 σ c a e (S.to e R1) xr
  | stuck => exact h
def tS3 (G : Gc) (W : WX) (g : Ev → AH → SR) : TS := fun E σ H => ∃ γ A env, St3 G γ A env H σ ∧ PostS G γ H (g env A) E W
structure JS (X : Cx) (G : Gc) (W : WX) (st : Stmt) (g : Ev → AH → SR) : Prop where
  run : PS X st (tS3 G W g)
structure JB (X : Cx) (G : Gc) (W : WX) (st : List Stmt) (g : Ev → AH → SR) : Prop where
  run : PSs X st (tS3 G W g)
section
variable {X : Cx} {G : Gc} {W : WX} {k : Nat}
def bNil : Ev → AH → SR := fun env A => .nx env A
def bSeq (f g : Ev → AH → SR) : Ev → AH → SR := fun env A => match f env A with
  | .nx env1 A1 => g env1 A1
  | r => r
theorem jb_nil : JB X G W [] bNil := by
  refine ⟨PSs.imp pss_nil fun E σ H h => ?_⟩
  obtain ⟨γ, A, env, S, h⟩ := h
  exact h γ H σ (Ext.refl _ _) S
theorem tSeq_of {f g : Ev → AH → SR} {E : Ends} {σ : L2.St} {H : Hp} (h : tS3 G W (bSeq f g) E σ H) : tSeq (tS3 G W f) (tS3 G W g) E σ H := by
  obtain ⟨γ, A, env, S, h⟩ := h
  refine ⟨γ, A, env, S, ?_⟩
  unfold bSeq at h
  cases q : f env A with
  | nx env1 A1 =>
    rw [q] at h
    exact fun γ1 H1 σ1 e1 S1 => ⟨γ1, A1, env1, S1, PostS.ext e1 h⟩
  | _ => rw [q] at h; exact h
theorem jb_cons {st : Stmt} {rest : List Stmt} {f g : Ev → AH → SR} (h1 : JS X G W st f) (h2 : JB X G W rest g) : JB X G W (st :: rest) (bSeq f g) := ⟨PSs.imp (pss_cons h1.run h2.run) fun E σ H h => tSeq_of h⟩
theorem jb_one {st : Stmt} {f : Ev → AH → SR} (h1 : JS X G W st f) : JB X G W [st] f := ⟨pss_one h1.run⟩
theorem js_pass {pos : Pos} : JS X G W (.Pass pos) bNil := by
  refine ⟨PS.imp ps_pass fun E σ H h => ?_⟩
  obtain ⟨γ, A, env, S, h⟩ := h
  exact h γ H σ (Ext.refl _ _) S
/-- what is never reached -/
def bStuck : Ev → AH → SR := fun _ _ => .stuck
theorem js_never {st : Stmt} : JS X G W st bStuck := by
  refine ⟨PS.imp ps_never fun E σ H h => ?_⟩
  obtain ⟨γ, A, env, S, h⟩ := h
  exact h
def bRet (f : Ev → AH → Res D) : Ev → AH → SR := fun env A => lft (f env A) env fun d A1 => .rt d A1
theorem js_ret {e : Expr} {pos : Pos} {f : Ev → AH → Res D} (h : JE X G W e f) : JS X G W (.Return (some e) pos) (bRet f) := by
  refine ⟨PS.imp (ps_ret h.run) fun E σ H h => ?_⟩
  obtain ⟨γ, A, env, S, h⟩ := h
  exact ⟨γ, A, env, S, PostS.lft S h fun d A1 γ1 H1 e R h1 v r => h1 γ1 H1 v (Ext.refl _ _) R r⟩
def bExpr (f : Ev → AH → Res D) : Ev → AH → SR := fun env A => lft (f env A) env fun _ A1 => .nx env A1
theorem js_expr {e : Expr} {pos : Pos} {f : Ev → AH → Res D} (h : JE X G W e f) (hs : swapsWith e none pos.line X.env = pure false := by rfl) : JS X G W (.Expr e pos) (bExpr f) := by
  refine ⟨PS.imp (ps_expr h.run hs) fun E σ H h => ?_⟩
  obtain ⟨γ, A, env, S, h⟩ := h
  exact ⟨γ, A, env, S, PostS.lft S h fun d A1 γ1 H1 e R h1 v r => h1 γ1 H1 σ (Ext.refl _ _) (S.to e R)⟩
def bIf (c : Ev → AH → Res Bool) (f g : Ev → AH → SR) : Ev → AH → SR := fun env A => lft (c env A) env fun b A1 => match b with
  | true => f env A1
  | false => g env A1
theorem js_if {c : Expr} {a b : List Stmt} {pos : Pos} {fc : Ev → AH → Res Bool} {f g : Ev → AH → SR} (hc : JT X G W c fc) (ha : JB X G W a f) (hb : JB X G W b g) : JS X G W (.If c a b pos) (bIf fc f g) := by
  refine ⟨PS.imp (ps_if hc.run ha.run hb.run) fun E σ H h => ?_⟩
  obtain ⟨γ, A, env, S, h⟩ := h
  refine ⟨γ, A, env, S, PostS.lft S h fun d A1 γ1 H1 e R h1 => ?_⟩
  cases d with
  | true => rw [if_pos rfl]; exact ⟨γ1, A1, env, S.to e R, h1⟩
  | false => rw [if_neg Bool.false_ne_true]; exact ⟨γ1, A1, env, S.to e R, h1⟩
/-! ### targets -/
/-- st: the names stored; js: their places -/
structure JG (X : Cx) (G : Gc) (tg : Expr) (js : List Nat) (st : Ev → D → Option Ev) : Prop where
  run : PG X tg (fun v σ H Q => ∃ γ A env d env', St3 G γ A env H σ ∧ VR G γ H d v ∧ st env d = some env' ∧ ∀ σ', St3 G γ A env' H σ' → σ'.length = σ.length → (∀ j, j ∉ js → σ'[j]? = σ[j]?) → Q σ' H)
structure JGs (X : Cx) (G : Gc) (tgs : List Expr) (js : List Nat) (st : Ev → List D → Option Ev) : Prop where
  run : PGs X tgs (fun vs σ H Q => ∃ γ A env ds env', St3 G γ A env H σ ∧ VRs G γ H ds vs ∧ st env ds = some env' ∧ ∀ σ', St3 G γ A env' H σ' → σ'.length = σ.length → (∀ j, j ∉ js → σ'[j]? = σ[j]?) → Q σ' H)
theorem PG.imp {X : Cx} {e : Expr} {t t' : TG} (h : PG X e t) (q : ∀ v σ H Q, t' v σ H Q → t v σ H Q) : PG X e t' := ⟨fun pins s σ H v u Q I r z => h.run pins s σ H v u Q I r (q v σ H Q z)⟩
theorem PGs.imp {X : Cx} {e : List Expr} {t t' : TGs} (h : PGs X e t) (q : ∀ v σ H Q, t' v σ H Q → t v σ H Q) : PGs X e t' := ⟨fun pins s σ H v u Q I r z => h.run pins s σ H v u Q I r (q v σ H Q z)⟩
def gNm (i : Nat) : Ev → D → Option Ev := fun env d => some (env.set i (some d))
def gEnd : Ev → List D → Option Ev := fun env ds => match ds with
  | [] => some env
  | _ => none
def gMore (g : Ev → D → Option Ev) (gs : Ev → List D → Option Ev) : Ev → List D → Option Ev := fun env ds => match ds with
  | d :: r => (g env d).bind fun env1 => gs env1 r
  | [] => none
def gTp (gs : Ev → List D → Option Ev) : Ev → D → Option Ev := fun env d => match d with
  | .tup ds => gs env ds
  | _ => none
theorem jg_name {x : Str} {pos : Pos} (i : Nat) (hN : X.N.Nodup) (hi : X.N[i]? = some x) (hx : Loc X.env.scope x) (hf : X.fn x = true ∨ X.env.scope.names.lookup x = some .local) : JG X G (.Name x pos) [i] (gNm i) := by
  refine ⟨PG.imp (pg_name hN hi hx hf) fun v σ H Q h => ?_⟩
  obtain ⟨γ, A, env, d, env', S, r, e, h⟩ := h
  cases e
  exact h _ ⟨S.rel, by simp [S.len], S.er.set S.len r⟩ (by simp) fun j hj => List.getElem?_set_ne (fun z => hj (by simp [z]))
theorem jgs_nil : JGs X G [] [] gEnd := by
  refine ⟨PGs.imp pgs_nil fun vs σ H Q h => ?_⟩
  obtain ⟨γ, A, env, ds, env', S, r, e, h⟩ := h
  cases ds with
  | nil =>
    cases e
    unfold VRs at r
    exact ⟨r, h σ S rfl fun _ _ => rfl⟩
  | cons d ds => cases e
theorem jgs_cons {e : Expr} {es : List Expr} {js ks : List Nat} {g : Ev → D → Option Ev} {gs : Ev → List D → Option Ev} (h1 : JG X G e js g) (h2 : JGs X G es ks gs) (hs : (assignEach (e :: es) X.env).map (·.2) = assign e X.env :: (assignEach es X.env).map (·.2) := by rfl) :
    JGs X G (e :: es) (js ++ ks) (gMore g gs) := by
  refine ⟨PGs.imp (pgs_cons h1.run h2.run hs) fun vs σ H Q h => ?_⟩
  obtain ⟨γ, A, env, ds, env', S, r, e, h⟩ := h
  cases ds with
  | nil => cases e
  | cons d ds =>
    unfold VRs at r
    obtain ⟨v, rs, rfl, r1, r2⟩ := r
    obtain ⟨env1, e1, e2⟩ := Option.bind_eq_some_iff.mp (show (g env d).bind _ = some env' from e)
    refine ⟨v, rs, rfl, γ, A, env, d, env1, S, r1, e1, fun σ1 S1 l1 k1 => ?_⟩
    refine ⟨γ, A, env1, ds, env', S1, r2, e2, fun σ2 S2 l2 k2 => h σ2 S2 (l2.trans l1) fun j hj => ?_⟩
    rw [List.mem_append, not_or] at hj
    exact (k2 j hj.2).trans (k1 j hj.1)
theorem jg_tup (hc : X.calm = true) (hk : G.K = X.K) {es : List Expr} {kk : Nat} {pos : Pos} {js : List Nat} {gs : Ev → List D → Option Ev} (n : Nat) (h : JGs X G es js gs) (hg : ∀ env ds env', gs env ds = some env' → ds.length = n)
    (hn : (assignEach es X.env).length = n := by rfl) (hst : (assignEach es X.env).findIdx? (·.1) = none := by rfl) : JG X G (.Tuple es kk pos) js (gTp gs) := by
  refine ⟨PG.imp (pg_tup hc h.run hn hst) fun v σ H Q h => ?_⟩
  obtain ⟨γ, A, env, d, env', S, r, e, h⟩ := h
  cases d with
  | tup ds =>
    unfold VR at r
    obtain ⟨a, vs, e1, f, r⟩ := r
    have e : gs env ds = some env' := e
    exact ⟨a, vs, e1, hk ▸ f.sq, by rw [← r.length]; exact hg _ _ _ e, γ, A, env, ds, env', S, r, e, h⟩
  | _ => cases e
theorem gEnd_len : ∀ env ds env', gEnd env ds = some env' → ds.length = 0 := fun env ds env' e => by
  cases ds with
  | nil => rfl
  | cons _ _ => cases e
theorem gMore_len {n : Nat} {g : Ev → D → Option Ev} {gs : Ev → List D → Option Ev} (h : ∀ env ds env', gs env ds = some env' → ds.length = n) : ∀ env ds env', gMore g gs env ds = some env' → ds.length = n + 1 := fun env ds env' e => by
  cases ds with
  | nil => cases e
  | cons d ds =>
    obtain ⟨env1, e1, e2⟩ := Option.bind_eq_some_iff.mp (show (g env d).bind _ = some env' from e)
    rw [List.length_cons, h _ _ _ e2]
/-- name = e; a, b = e -/
def bSet (st : Ev → D → Option Ev) (f : Ev → AH → Res D) : Ev → AH → SR := fun env A => lft (f env A) env fun d A1 => match st env d with
  | some env1 => .nx env1 A1
  | none => .stuck
theorem js_asg {tg e : Expr} {pos : Pos} {js : List Nat} {st : Ev → D → Option Ev} {f : Ev → AH → Res D} (he : JE X G W e f) (hg : JG X G tg js st) (hs : swapsWithSole [tg] e pos.line X.env = pure false := by rfl) (hw : swappedStores [tg] e X.env = pure none := by rfl)
    (h1 : (assignEach [tg] X.env).map (·.2) = [assign tg X.env] := by rfl) : JS X G W (.Assign [tg] e pos) (bSet st f) := by
  refine ⟨PS.imp (ps_asg he.run hg.run hs hw h1) fun E σ H h => ?_⟩
  obtain ⟨γ, A, env, S, h⟩ := h
  refine ⟨γ, A, env, S, PostS.lft S h fun d A1 γ1 H1 e1 R1 h1 v r1 => ?_⟩
  cases q : st env d with
  | none => rw [q] at h1; exact h1.elim
  | some env1 =>
    rw [q] at h1
    exact ⟨γ1, A1, env, d, env1, S.to e1 R1, r1, q, fun σ1 S1 _ _ => h1 γ1 H1 σ1 (Ext.refl _ _) S1⟩
/-- a, b = x, y with two local names -/
def bPar (i j : Nat) (f : Ev → AH → Res (List D)) : Ev → AH → SR := fun env A => lft (f env A) env fun ds A1 => match ds with
  | [x, y] => .nx ((env.set i (some x)).set j (some y)) A1
  | _ => .stuck
theorem js_par (o : XO X G W k) {i j : Nat} {x y : Str} {a b : Expr} {f : Ev → AH → Res (List D)} {px py pt : Pos} {kt k2 pt2} {pos : Pos} (hN : X.N.Nodup) (hi : X.N[i]? = some x) (hj : X.N[j]? = some y) (hij : i ≠ j)
    (hx : X.env.scope.names.lookup x = some .local) (hy : X.env.scope.names.lookup y = some .local) (ha : JA X G W [a, b] f)
    (hw : swappedStores [.Tuple [.Name x px, .Name y py] kt pt] (.Tuple [a, b] k2 pt2) X.env = pure (some [x, y]))
    (hs : swapsWithSole [.Tuple [.Name x px, .Name y py] kt pt] (.Tuple [a, b] k2 pt2) pos.line X.env = pure false := by rfl) :
    JS X G W (.Assign [.Tuple [.Name x px, .Name y py] kt pt] (.Tuple [a, b] k2 pt2) pos) (bPar i j f) := by
  refine ⟨PS.imp (ps_par o.calm hN hi hj hij hx hy ha.run hw hs) fun E σ H h => ?_⟩
  obtain ⟨γ, A, env, S, h⟩ := h
  refine ⟨γ, A, env, S, PostS.lft S h fun d A1 γ1 H1 e1 R1 h1 vs r1 => ?_⟩
  match d, h1, r1 with
  | [x, y], h1, r1 =>
    unfold VRs at r1
    obtain ⟨v, rs, rfl, q1, r2⟩ := r1
    unfold VRs at r2
    obtain ⟨u, rs, rfl, q2, r3⟩ := r2
    unfold VRs at r3
    subst r3
    have S1 := S.to e1 R1
    exact ⟨v, u, rfl, h1 γ1 H1 _ (Ext.refl _ _) ⟨R1, by simp [S.len], (S1.er.set S1.len q1).set (by simp [S.len]) q2⟩⟩
  | [], h1, _ => exact h1.elim
  | [_], h1, _ => exact h1.elim
  | _ :: _ :: _ :: _, h1, _ => exact h1.elim
/-! ### what is walked -/
def Yl (G : Gc) (γ0 : Gh) (H0 : Hp) (J : It) (ds : List D) : Prop := ∀ (i : Nat) (γ : Gh) (H : Hp) (A : AH), Ext0 γ0 H0 γ H → Rel G γ A H →
  (∀ d, ds[i]? = some d → J.go i H ∧ ∀ x H', J.yld i H x H' → Ext γ H γ H' ∧ Rel G γ A H' ∧ VR G γ H' d x) ∧ (ds.length ≤ i → J.stop i H)
structure JI (X : Cx) (G : Gc) (W : WX) (tg iter : Expr) (f : Ev → AH → Res (List D)) : Prop where
  run : PI X tg iter (fun σ H R => ∃ γ A env, St3 G γ A env H σ ∧ Post G γ H (f env A) (fun γ' _ H' ds => ∀ J, Yl G γ' H' J ds → R J H') (fun c a H' => W c a σ H'))
theorem PI.imp {X : Cx} {tg e : Expr} {t t' : TI} (h : PI X tg e t) (q : ∀ σ H R, t' σ H R → t σ H R) : PI X tg e t' := ⟨fun pins s σ H R I z => h.run pins s σ H R I (q σ H R z)⟩
/-! ### for -/
def forL (st : Ev → D → Option Ev) (body : Ev → AH → SR) : List D → Ev → AH → SR
  | [], env, A => .nx env A
  | d :: ds, env, A => match st env d with
    | none => .stuck
    | some env1 => match body env1 A with
      | .nx env2 A2 => forL st body ds env2 A2
      | .ct env2 A2 => forL st body ds env2 A2
      | .bk env2 A2 => .nx env2 A2
      | r => r
def bFor (fi : Ev → AH → Res (List D)) (st : Ev → D → Option Ev) (body : Ev → AH → SR) : Ev → AH → SR := fun env A => lft (fi env A) env fun ds A1 => forL st body ds env A1
theorem js_for (o : XO X G W k) {tg iter : Expr} {body : List Stmt} {pos : Pos} {js : List Nat} {fi : Ev → AH → Res (List D)} {st : Ev → D → Option Ev} {b : Ev → AH → SR} (hi : JI X G W tg iter fi) (hg : JG X G tg js st) (hb : JB X G W body b)
    (hfs : ∀ x, foldedSetIterable iter X.env x = pure x := by intro _; rfl) : JS X G W (.For tg iter body [] pos) (bFor fi st b) := by
  refine ⟨PS.imp (ps_for o.po o.calm hi.run hg.run hb.run hfs) fun E σ H h => ?_⟩
  obtain ⟨γ, A, env, S, h⟩ := h
  refine ⟨γ, A, env, S, PostS.lft S h fun ds A1 γ1 H1 e1 R1 h1 J hJ => ?_⟩
  refine ⟨fun i m σ' H' => m = ds.length - i ∧ ∃ γ' A' env', Ext γ1 H1 γ' H' ∧ St3 G γ' A' env' H' σ' ∧ PostS G γ' H' (forL st b (ds.drop i) env' A') E W, ⟨ds.length, by simp, γ1, A1, env, Ext.refl _ _, S.to e1 R1, by simpa using h1⟩, ?_⟩
  rintro i m σ2 H2 ⟨rfl, γ2, A2, env2, e2, S2, h2⟩
  obtain ⟨y1, y2⟩ := hJ i γ2 H2 A2 e2.toExt0 S2.rel
  by_cases hlt : i < ds.length
  · obtain ⟨g1, g2⟩ := y1 ds[i] (List.getElem?_eq_getElem hlt)
    rw [List.drop_eq_getElem_cons hlt] at h2
    unfold forL at h2
    refine .inr ⟨g1, fun σ' H' => ∃ γ' A' env', Ext γ1 H1 γ' H' ∧ St3 G γ' A' env' H' σ' ∧ PostS G γ' H' (forL st b (ds.drop (i + 1)) env' A') E W, fun σ' H' q => ⟨ds.length - (i + 1), by omega, rfl, q⟩, fun x H3 hy => ?_⟩
    obtain ⟨e3, R3, r3⟩ := g2 x H3 hy
    cases q : st env2 ds[i] with
    | none => rw [q] at h2; exact h2.elim
    | some env3 =>
      rw [q] at h2
      simp only at h2
      refine ⟨γ2, A2, env2, ds[i], env3, S2.to e3 R3, r3, q, fun σ3 S3 _ _ => ⟨γ2, A2, env3, S3, ?_⟩⟩
      have e23 := e2.trans e3
      have h3 := PostS.ext e3 h2
      cases q3 : b env3 A2 with
      | nx env4 A4 =>
        rw [q3] at h3
        exact fun γ4 H4 σ4 e4 S4 => ⟨γ4, A4, env4, e23.trans e4, S4, PostS.ext e4 h3⟩
      | ct env4 A4 =>
        rw [q3] at h3
        exact fun γ4 H4 σ4 e4 S4 => ⟨γ4, A4, env4, e23.trans e4, S4, PostS.ext e4 h3⟩
      | bk env4 A4 => rw [q3] at h3; exact h3
      | rt d A4 => rw [q3] at h3; exact h3
      | ex x env4 A4 => rw [q3] at h3; exact h3
      | stuck => rw [q3] at h3; exact h3
  · refine .inl ⟨y2 (by omega), ?_⟩
    rw [List.drop_eq_nil_of_le (by omega)] at h2
    exact h2 γ2 H2 σ2 (Ext.refl _ _) S2
/-! ### while -/
def whileL (c : Ev → AH → Res Bool) (body : Ev → AH → SR) : Nat → Ev → AH → SR
  | 0, _, _ => .stuck
  | n + 1, env, A => lft (c env A) env fun b A1 => match b with
    | false => .nx env A1
    | true => match body env A1 with
      | .nx env2 A2 => whileL c body n env2 A2
      | .ct env2 A2 => whileL c body n env2 A2
      | .bk env2 A2 => .nx env2 A2
      | r => r
theorem js_while (o : XO X G W k) {c : Expr} {body : List Stmt} {pos : Pos} {fc : Ev → AH → Res Bool} {b : Ev → AH → SR} (n : Nat) (hc : JT X G W c fc) (hb : JB X G W body b) : JS X G W (.While c body [] pos) (whileL fc b n) := by
  refine ⟨PS.imp (ps_while o.po hc.run hb.run) fun E σ H h => ?_⟩
  obtain ⟨γ, A, env, S, h⟩ := h
  refine ⟨fun m σ' H' => ∃ γ' A' env', St3 G γ' A' env' H' σ' ∧ PostS G γ' H' (whileL fc b m env' A') E W, ⟨n, γ, A, env, S, h⟩, ?_⟩
  rintro m σ2 H2 ⟨γ2, A2, env2, S2, h2⟩
  cases m with
  | zero => exact h2.elim
  | succ m =>
    unfold whileL at h2
    refine ⟨γ2, A2, env2, S2, PostS.lft S2 h2 fun d A3 γ3 H3 e3 R3 h3 => ?_⟩
    cases d with
    | false =>
      rw [if_neg Bool.false_ne_true]
      exact h3 γ3 H3 σ2 (Ext.refl _ _) (S2.to e3 R3)
    | true =>
      rw [if_pos rfl]
      refine ⟨fun σ' H' => ∃ γ' A' env', St3 G γ' A' env' H' σ' ∧ PostS G γ' H' (whileL fc b m env' A') E W, fun σ' H' q => ⟨m, Nat.lt_succ_self _, q⟩, γ3, A3, env2, S2.to e3 R3, ?_⟩
      simp only at h3
      cases q3 : b env2 A3 with
      | nx env4 A4 =>
        rw [q3] at h3
        exact fun γ4 H4 σ4 e4 S4 => ⟨γ4, A4, env4, S4, PostS.ext e4 h3⟩
      | ct env4 A4 =>
        rw [q3] at h3
        exact fun γ4 H4 σ4 e4 S4 => ⟨γ4, A4, env4, S4, PostS.ext e4 h3⟩
      | bk env4 A4 => rw [q3] at h3; exact h3
      | rt d A4 => rw [q3] at h3; exact h3
      | ex x env4 A4 => rw [q3] at h3; exact h3
      | stuck => rw [q3] at h3; exact h3
theorem js_break {pos : Pos} : JS X G W (.Break pos) (fun env A => .bk env A) := by
  refine ⟨PS.imp ps_break fun E σ H h => ?_⟩
  obtain ⟨γ, A, env, S, h⟩ := h
  exact h γ H σ (Ext.refl _ _) S
theorem js_continue {pos : Pos} : JS X G W (.Continue pos) (fun env A => .ct env A) := by
  refine ⟨PS.imp ps_continue fun E σ H h => ?_⟩
  obtain ⟨γ, A, env, S, h⟩ := h
  exact h γ H σ (Ext.refl _ _) S
end
end F3
namespace F3
open PySem PySem.Spec
open PyProof.Rows L2
/-! ### list comprehensions: the new list is put aside while it grows -/
def Gh.hide (γ : Gh) (p : Addr) : Gh := ⟨γ.ρ, fun a => if a = p then some none else γ.o a⟩
def Gh.show (γ : Gh) (p : Addr) : Gh := ⟨γ.ρ, fun a => if a = p then none else γ.o a⟩
section
variable {G : Gc} {γ γ' : Gh} {H H' : Hp} {A : AH} {p : Addr}
theorem Gh.hide_same : (γ.hide p).o p = some none := if_pos rfl
theorem Gh.hide_ne {a : Addr} (h : a ≠ p) : (γ.hide p).o a = γ.o a := if_neg h
theorem Gh.show_same : (γ.show p).o p = none := if_pos rfl
theorem Gh.show_ne {a : Addr} (h : a ≠ p) : (γ.show p).o a = γ.o a := if_neg h
theorem Ext.hide {ob : HO} (h : H p = none) : Ext γ H (γ.hide p) (upd H p ob) :=
  ⟨⟨fun _ _ e => e, fun b o e n _ => ⟨by rw [upd_ne (ne_of_none e h)]; exact e, by rw [Gh.hide_ne (ne_of_none e h)]; exact n⟩⟩, fun b o e n => ⟨by rw [upd_ne (ne_of_none e h)]; exact e, by rw [Gh.hide_ne (ne_of_none e h)]; exact n⟩⟩
/-- γ' is γ but for p, H' is H but for p; p is no table, no code, no changed thing -/
theorem Rel.aside (R : Rel G γ A H) (hρ : γ'.ρ = γ.ρ) (ho : ∀ b, b ≠ p → γ'.o b = γ.o b) (hH : ∀ b, b ≠ p → H' b = H b) (e0 : Ext0 γ H γ' H') (np : ∀ i, γ.o p ≠ some (some i)) (np' : ∀ i, γ'.o p ≠ some (some i)) (hp : H' p ≠ none) (nt : H p = none ∨ γ.o p = some none) : Rel G γ' A H' := by
  have nk : ∀ {b o}, H b = some o → γ.o b = none → b ≠ p := fun {b o} e n z => by
    subst z
    rcases nt with q | q
    · rw [q] at e; cases e
    · rw [q] at n; cases n
  refine ⟨by rw [hρ]; exact R.len, fun i o e => ?_, fun a x e => ?_, fun q hq => ?_⟩
  · obtain ⟨a, e1, e2, r⟩ := R.at_ i o e
    have na : a ≠ p := fun z => np i (by rw [← z]; exact e2)
    refine ⟨a, by rw [hρ]; exact e1, by rw [ho a na]; exact e2, r.ext (j := i) e0 (hH a na) fun dx q => ?_⟩
    have nd : dx ≠ p := fun z => np i (by rw [← z]; exact q)
    exact ⟨hH dx nd, by rw [ho dx nd]; exact q⟩
  · by_cases z : a = p
    · subst z
      refine ⟨hp, fun i q => ?_⟩
      subst q
      exact absurd e (np' i)
    · rw [ho a z] at e
      exact ⟨by rw [hH a z]; exact (R.dom a x e).1, (R.dom a x e).2⟩
  · obtain ⟨n, ps, h1, h2, h3⟩ := R.tab q hq
    have nq := nk h1 n
    refine ⟨by rw [ho _ nq]; exact n, ps, by rw [hH _ nq]; exact h1, h2, fun pos cv hc => ?_⟩
    obtain ⟨c, c1, c2, c3⟩ := h3 pos cv hc
    have nc := nk c2 c3
    exact ⟨c, c1, by rw [hH _ nc]; exact c2, by rw [ho _ nc]; exact c3⟩
theorem Rel.hide {ob : HO} (R : Rel G γ A H) (h : H p = none) : Rel G (γ.hide p) A (upd H p ob) := by
  have n0 := R.o_none h
  exact R.aside rfl (fun b hb => Gh.hide_ne hb) (fun b hb => upd_ne hb) (Ext.hide h).toExt0 (fun i z => by rw [n0] at z; cases z) (fun i z => by rw [Gh.hide_same] at z; cases z) (by rw [upd_same]; exact (fun q => nomatch q)) (.inl h)
/-- what is put aside grows -/
theorem Rel.grow {ob : HO} (R : Rel G γ A H) (h : γ.o p = some none) : Rel G γ A (upd H p ob) := by
  have e0 : Ext0 γ H γ (upd H p ob) := ⟨fun _ _ e => e, fun b o e n _ => ⟨by rw [upd_ne (fun z => by rw [z, h] at n; cases n)]; exact e, n⟩⟩
  exact R.aside rfl (fun _ _ => rfl) (fun b hb => upd_ne hb) e0 (fun i z => by rw [h] at z; cases z) (fun i z => by rw [h] at z; cases z) (by rw [upd_same]; exact (fun q => nomatch q)) (.inr h)
theorem Ext0.grow {ob : HO} (h : γ.o p = some none) : Ext0 γ H γ (upd H p ob) := ⟨fun _ _ e => e, fun b o e n _ => ⟨by rw [upd_ne (fun z => by rw [z, h] at n; cases n)]; exact e, n⟩⟩
theorem Ext0.show (h : γ.o p = some none) : Ext0 γ H (γ.show p) H := ⟨fun _ _ e => e, fun b o e n _ => ⟨e, by rw [Gh.show_ne (fun z => by rw [z, h] at n; cases n)]; exact n⟩⟩
theorem Rel.show (R : Rel G γ A H) (h : γ.o p = some none) : Rel G (γ.show p) A H :=
  R.aside rfl (fun b hb => Gh.show_ne hb) (fun _ _ => rfl) (Ext0.show h) (fun i z => by rw [h] at z; cases z) (fun i z => by rw [Gh.show_same] at z; cases z) (R.dom p _ h).1 (.inr h)
end
theorem Ext0.trans {γ γ1 γ2 : Gh} {H H1 H2 : Hp} (a : Ext0 γ H γ1 H1) (b : Ext0 γ1 H1 γ2 H2) : Ext0 γ H γ2 H2 :=
  ⟨fun i x h => b.ρ i x (a.ρ i x h), fun x ob h n t => let ⟨h1, n1⟩ := a.keep x ob h n t; b.keep x ob h1 n1 t⟩
/-- the block's own names forgotten -/
def wip : List Nat → Ev → Ev
  | [], env => env
  | v :: vs, env => (wip vs env).set v none
theorem wip_length (env : Ev) : ∀ vs : List Nat, (wip vs env).length = env.length
  | [] => rfl
  | v :: vs => by unfold wip; rw [List.length_set, wip_length env vs]
theorem wip_er {G : Gc} {γ : Gh} {H : Hp} {env : Ev} {σ : L2.St} (h : ER G γ H env σ) : ∀ vs : List Nat, ER G γ H (wip vs env) (wipe σ vs)
  | [] => h
  | v :: vs => fun i d q => by
    have ih := wip_er h vs
    unfold wip at q
    unfold wipe
    by_cases z : v = i
    · subst z
      by_cases hi : v < (wip vs env).length
      · rw [List.getElem?_set_self hi] at q; cases q
      · rw [List.getElem?_eq_none (by simpa using hi)] at q; cases q
    · rw [List.getElem?_set_ne z] at q ⊢
      exact ih i d q
theorem wipe_get (σ : L2.St) (j : Nat) : ∀ vs : List Nat, (wipe σ vs)[j]? = if j ∈ vs ∧ j < σ.length then some none else σ[j]?
  | [] => by simp [wipe]
  | v :: vs => by
    unfold wipe
    by_cases z : v = j
    · subst z
      by_cases hi : v < σ.length
      · rw [List.getElem?_set_self (by rw [wipe_length]; exact hi)]; simp [hi]
      · rw [List.getElem?_eq_none (by simp [wipe_length]; omega)]
        simp [hi]
    · rw [List.getElem?_set_ne z, wipe_get σ j vs]
      have : (j ∈ v :: vs) ↔ (j ∈ vs) := by simp [Ne.symm z]
      simp only [this]
theorem wipe_eq {σ σ' : L2.St} {js vs : List Nat} (hl : σ'.length = (wipe σ vs).length) (h : ∀ j, j ∉ js → σ'[j]? = (wipe σ vs)[j]?) (hj : ∀ j ∈ js, j ∈ vs) : wipe σ' vs = wipe σ vs := by
  rw [wipe_length] at hl
  apply List.ext_getElem?
  intro j
  rw [wipe_get, wipe_get, hl]
  by_cases q : j ∈ vs ∧ j < σ.length
  · rw [if_pos q, if_pos q]
  · rw [if_neg q, if_neg q]
    by_cases m : j ∈ js
    · have hv := hj j m
      have : ¬ j < σ.length := fun z => q ⟨hv, z⟩
      rw [List.getElem?_eq_none (by omega), List.getElem?_eq_none (by omega)]
    · rw [h j m, wipe_get, if_neg q]
def compL (st : Ev → D → Option Ev) (t : Ev → AH → Res Bool) (f : Ev → AH → Res D) : List D → Ev → AH → Res (List D)
  | [], _, A => .ok [] A
  | d :: ds, env, A => match st env d with
    | none => .stuck
    | some env1 => match t env1 A with
      | .ok true A1 => match f env1 A1 with
        | .ok x A2 => (compL st t f ds env A2).bind fun xs A3 => .ok (x :: xs) A3
        | _ => .stuck
      | .ok false A1 => compL st t f ds env A1
      | _ => .stuck
def sComp (vs : List Nat) (fi : Ev → AH → Res (List D)) (st : Ev → D → Option Ev) (t : Ev → AH → Res Bool) (f : Ev → AH → Res D) : Ev → AH → Res (List D) := fun env A => (fi env A).bind fun ds A1 => if ds.length ≤ sizeLine then compL st t f ds (wip vs env) A1 else .stuck
def sLC (vs : List Nat) (fi : Ev → AH → Res (List D)) (st : Ev → D → Option Ev) (t : Ev → AH → Res Bool) (f : Ev → AH → Res D) : Ev → AH → Res D := fun env A => (sComp vs fi st t f env A).bind fun ds A1 => .ok (.lst ds) A1
def tTrue : Ev → AH → Res Bool := fun _ A => .ok true A
abbrev W0 : WX := fun _ _ _ _ => False
structure JTs (X : Cx) (G : Gc) (W : WX) (es : List Expr) (f : Ev → AH → Res Bool) : Prop where
  run : PTs X es (tB3 G W f)
section
variable {X : Cx} {G : Gc} {W : WX} {k : Nat}
theorem jts_nil : JTs X G W [] tTrue := by
  refine ⟨⟨fun pins s σ H Q I h => ?_⟩⟩
  obtain ⟨γ, A, env, S, h⟩ := h
  exact pts_nil.run pins s σ H Q I (h γ H (Ext.refl _ _) S.rel)
theorem jts_one {e : Expr} {f : Ev → AH → Res Bool} (h : JT X G W e f) : JTs X G W [e] f := ⟨pts_one h.run⟩
/-- the block's run in the reading of HandS -/
theorem comp_core {σ : L2.St} {vs js : List Nat} {st : Ev → D → Option Ev} {t : Ev → AH → Res Bool} {f : Ev → AH → Res D} {g : TG} {tt : TT} {te : TE} {J : It} {ds : List D} {γ1 : Gh} {A1 : AH} {H1 : Hp} {env : Ev} {Q : VK} {Wx : WXe}
    (hg : ∀ (v : V) (σ : L2.St) (H : Hp) (Q : L2.St → Hp → Prop), (∃ γ A env d env', St3 G γ A env H σ ∧ VR G γ H d v ∧ st env d = some env' ∧ ∀ σ', St3 G γ A env' H σ' → σ'.length = σ.length → (∀ j, j ∉ js → σ'[j]? = σ[j]?) → Q σ' H) → g v σ H Q)
    (ht : ∀ σ H Q, tB3 G W0 t σ H Q → tt σ H Q) (he : ∀ σ H Q, tE G W0 f σ H Q → te σ H Q) (hj : ∀ j ∈ js, j ∈ vs) (S : St3 G γ1 A1 env H1 σ) (hJ : Yl G γ1 H1 J ds) (hz : ds.length ≤ sizeLine)
    (h : Post G γ1 H1 (compL st t f ds (wip vs env) A1) (fun γ' A' H' ds' => ∀ v, VR G γ' H' (.lst ds') v → Q v H') Wx) :
    ∀ D, H1 D = none → ∃ W : Nat → Nat → Hp → Prop, (∃ m, W 0 m (upd H1 D (.lst []))) ∧ ∀ i m H, W i m H →
      (J.stop i H ∧ Q (.ref D) H) ∨ (J.go i H ∧ ∃ Nx : Hp → Prop, (∀ H', Nx H' → ∃ m', m' < m ∧ W (i + 1) m' H') ∧ ∀ x H', J.yld i H x H' → g x (wipe σ vs) H' fun σ2 H2 => wipe σ2 vs = wipe σ vs ∧ tt σ2 H2 fun b H3 =>
        if b = true then te σ2 H3 fun y H4 => ∃ acc, H4 D = some (.lst acc) ∧ acc.length < sizeLine ∧ Nx (upd H4 D (.lst (acc ++ [y]))) else Nx H3) := by
  intro DD hD
  let Wn : Nat → Hp → Prop := fun i H => i ≤ ds.length ∧ ∃ γ A acc accV, Ext γ1 H1 γ H ∧ Rel G γ A H ∧ γ.o DD = some none ∧ H DD = some (.lst accV) ∧ VRs G γ H acc accV ∧ acc.length ≤ i ∧
    ∃ r, compL st t f (ds.drop i) (wip vs env) A = r ∧ Post G γ1 H1 (r.bind fun xs A3 => .ok (acc ++ xs) A3) (fun γ' A' H' ds' => ∀ v, VR G γ' H' (.lst ds') v → Q v H') Wx
  refine ⟨fun i m H => m = ds.length - i ∧ Wn i H, ⟨ds.length, by simp, Nat.zero_le _, γ1.hide DD, A1, [], [], Ext.hide hD, S.rel.hide hD, Gh.hide_same, upd_same, VRs.nil, Nat.le_refl _, _, rfl, ?_⟩, ?_⟩
  · rw [List.drop_zero]
    cases q : compL st t f ds (wip vs env) A1 with
    | ok xs A3 => rw [q] at h; simpa [Res.bind] using h
    | ex x A3 => rw [q] at h; exact h
    | stuck => rw [q] at h; exact h
  · rintro i m H ⟨rfl, hi, γ, A, acc, accV, e, R, ho, hH, rv, hl, r, hr, hp⟩
    obtain ⟨y1, y2⟩ := hJ i γ H A e.toExt0 R
    by_cases hlt : i < ds.length
    · obtain ⟨g1, g2⟩ := y1 ds[i] (List.getElem?_eq_getElem hlt)
      rw [List.drop_eq_getElem_cons hlt] at hr
      unfold compL at hr
      refine .inr ⟨g1, Wn (i + 1), fun H' q => ⟨ds.length - (i + 1), by omega, rfl, q⟩, fun x H2 hy => ?_⟩
      obtain ⟨e2, R2, r2⟩ := g2 x H2 hy
      have S2 : St3 G γ A (wip vs env) H2 (wipe σ vs) := ⟨R2, by rw [wip_length, wipe_length]; exact S.len, wip_er ((S.er.ext e).ext e2) vs⟩
      cases q : st (wip vs env) ds[i] with
      | none => rw [q] at hr; subst hr; exact hp.elim
      | some env1 =>
        rw [q] at hr
        simp only at hr
        refine hg x _ H2 _ ⟨γ, A, wip vs env, ds[i], env1, S2, r2, q, fun σ3 S3 l3 k3 => ⟨wipe_eq l3 k3 hj, ?_⟩⟩
        cases q2 : t env1 A with
        | ex z A3 => rw [q2] at hr; subst hr; exact hp.elim
        | stuck => rw [q2] at hr; subst hr; exact hp.elim
        | ok b A3 =>
          rw [q2] at hr
          refine ht _ _ _ ⟨γ, A, env1, S3, ?_⟩
          rw [q2]
          intro γ3 H3 e3 R3
          obtain ⟨hD2, _⟩ := e2.hid DD _ hH ho
          obtain ⟨hD3, ho3⟩ := e3.hid DD _ hD2 ho
          have rv3 := VRs.ext e3 _ _ (VRs.ext e2 _ _ rv)
          cases b with
          | false =>
            rw [if_neg Bool.false_ne_true]
            exact ⟨hlt, γ3, A3, acc, accV, (e.trans e2).trans e3, R3, ho3, hD3, rv3, by omega, r, hr, hp⟩
          | true =>
            rw [if_pos rfl]
            simp only at hr
            refine he _ _ _ ⟨γ3, A3, env1, S3.to e3 R3, ?_⟩
            cases q3 : f env1 A3 with
            | ex z A4 => rw [q3] at hr; subst hr; exact hp.elim
            | stuck => rw [q3] at hr; subst hr; exact hp.elim
            | ok y A4 =>
              rw [q3] at hr
              intro γ4 H4 e4 R4 v r4
              obtain ⟨hD4, ho4⟩ := e4.hid DD _ hD3 ho3
              have rv4 := VRs.ext e4 _ _ rv3
              have e0 : Ext0 γ4 H4 γ4 (upd H4 DD (.lst (accV ++ [v]))) := Ext0.grow ho4
              refine ⟨accV, hD4, by rw [← rv4.length]; omega, hlt, γ4, A4, acc ++ [y], accV ++ [v], ?_, R4.grow ho4, ho4, upd_same, (VRs.ext0 e0 _ _ rv4).append (VRs.cons (VR.ext0 e0 _ _ r4) VRs.nil), by rw [List.length_append]; simp; omega, _, rfl, ?_⟩
              · have eb := ((e.trans e2).trans e3).trans e4
                have nD : ∀ b o, H1 b = some o → b ≠ DD := fun b o q => ne_of_none q hD
                exact ⟨⟨eb.ρ, fun b o q n tt => ⟨by rw [upd_ne (nD b o q)]; exact (eb.keep b o q n tt).1, (eb.keep b o q n tt).2⟩⟩, fun b o q n => ⟨by rw [upd_ne (nD b o q)]; exact (eb.hid b o q n).1, (eb.hid b o q n).2⟩⟩
              · subst hr
                simp only at hp
                cases q4 : compL st t f (ds.drop (i + 1)) (wip vs env) A4 with
                | ok xs A5 => rw [q4] at hp; simpa [Res.bind] using hp
                | ex z A5 => rw [q4] at hp; exact hp
                | stuck => rw [q4] at hp; exact hp
    · have hi2 : i = ds.length := by omega
      refine .inl ⟨y2 (by omega), ?_⟩
      rw [List.drop_eq_nil_of_le (by omega)] at hr
      unfold compL at hr
      subst hr
      simp only [Res.bind, List.append_nil] at hp
      have e5 : Ext γ1 H1 (γ.show DD) H := by
        have nD : ∀ b o, H1 b = some o → b ≠ DD := fun b o q => ne_of_none q hD
        exact ⟨⟨e.ρ, fun b o q n tt => ⟨(e.keep b o q n tt).1, by rw [Gh.show_ne (nD b o q)]; exact (e.keep b o q n tt).2⟩⟩, fun b o q n => ⟨(e.hid b o q n).1, by rw [Gh.show_ne (nD b o q)]; exact (e.hid b o q n).2⟩⟩
      refine hp (γ.show DD) H e5 (R.show ho) (.ref DD) ?_
      unfold VR
      exact ⟨DD, accV, rfl, hH, Gh.show_same, VRs.ext0 (Ext0.show ho) _ _ rv⟩
/-- a list comprehension, as a value that is never changed -/
theorem je_comp (o : XO X G W k) {elt tg iter : Expr} {ifs : List Expr} {scope : Scope} {own : List (Str × Nat)} {pos : Pos} {js : List Nat} {fi : Ev → AH → Res (List D)} {st : Ev → D → Option Ev} {t : Ev → AH → Res Bool} {f : Ev → AH → Res D}
    (hN : X.N.Nodup) (hi : JI X G W tg iter fi) (ok : BlkOk X.N X.env.scope scope own)
    (hg : ∀ (s : Shared) (H : Hp) (C : Addr) (cl : List (Str × Addr)) (fp : List Addr), JG (X.blk s H scope (compEnvC scope cl C X.env) fp) G tg js st)
    (ht : ∀ (s : Shared) (H : Hp) (C : Addr) (cl : List (Str × Addr)) (fp : List Addr), JTs (X.blk s H scope (compEnvC scope cl C X.env) fp) G W0 ifs t)
    (he : ∀ (s : Shared) (H : Hp) (C : Addr) (cl : List (Str × Addr)) (fp : List Addr), JE (X.blk s H scope (compEnvC scope cl C X.env) fp) G W0 elt f)
    (hj : (js.all fun j => (own.map (·.2)).contains j) = true)
    (hfs : ∀ x, foldedSetIterable iter X.env x = pure x := by intro _; rfl) :
    JE X G W (.ListComp elt [⟨tg, iter, ifs, 0⟩] scope pos) (sLC (own.map (·.2)) fi st t f) := by
  refine ⟨PE.imp (pe_lc o.calm hN hi.run ok (fun s H C cl fp => (hg s H C cl fp).run) (fun s H C cl fp => (ht s H C cl fp).run) (fun s H C cl fp => (he s H C cl fp).run) hfs) fun σ H Q h => ?_⟩
  obtain ⟨γ, A, env, S, h⟩ := h
  have hj' : ∀ j ∈ js, j ∈ own.map (·.2) := fun j q => by simpa using List.all_eq_true.mp hj j q
  refine ⟨γ, A, env, S, ?_⟩
  have h' : Post G γ H ((fi env A).bind fun ds A1 => (if ds.length ≤ sizeLine then compL st t f ds (wip (own.map (·.2)) env) A1 else .stuck).bind fun ds A1 => .ok (D.lst ds) A1) (fun γ' _ H' d => ∀ v, VR G γ' H' d v → Q v H') (fun c a H' => W c a σ H') := by
    unfold sLC sComp at h
    cases q : fi env A with
    | ok ds A1 => rw [q] at h; exact h
    | ex x A1 => rw [q] at h; exact h
    | stuck => rw [q] at h; exact h
  refine Post.bind h' fun ds A1 γ1 H1 e1 R1 h1 J hJ => ?_
  by_cases hz : ds.length ≤ sizeLine
  · rw [if_pos hz] at h1
    refine comp_core (js := js) (st := st) (t := t) (f := f) (Wx := fun c a H' => W c a σ H') (fun v σ H Q h => h) (fun σ H Q h => h) (fun σ H Q h => h) hj' (S.to e1 R1) hJ hz ?_
    cases q : compL st t f ds (wip (own.map (·.2)) env) A1 with
    | ok xs A3 => rw [q] at h1; exact h1
    | ex x A3 => rw [q] at h1; exact h1
    | stuck => rw [q] at h1; exact h1
  · rw [if_neg hz] at h1; exact h1.elim
end
end F3
namespace F3
open PySem PySem.Spec
open PyProof.Rows L2
/-! ### as plain data -/
mutual
def toP : D → Option PyData
  | .non => some .none
  | .bl b => some (.bool b)
  | .int i => some (.int i)
  | .str x => some (.str x)
  | .tup ds => (toPs ds).map .tuple
  | .lst ds => (toPs ds).map .list
  | _ => none
def toPs : List D → Option (List PyData)
  | [] => some []
  | d :: ds => match toP d, toPs ds with
    | some p, some ps => some (p :: ps)
    | _, _ => none
end
def topD (A : AH) : D → D
  | .ref i => match A[i]? with
    | some (.lst ds) => .lst ds
    | _ => .ref i
  | d => d
section
variable {G : Gc} {γ : Gh} {H : Hp} {A : AH}
mutual
theorem VR.dp : ∀ (d : D) (v : V) (p : PyData), VR G γ H d v → toP d = some p → Dp G.K H v p
  | .non, v, p, h, e => by unfold VR at h; unfold toP at e; cases e; subst h; exact .non
  | .bl b, v, p, h, e => by unfold VR at h; unfold toP at e; cases e; subst h; exact .bl b
  | .int b, v, p, h, e => by unfold VR at h; unfold toP at e; cases e; subst h; exact .int b
  | .str b, v, p, h, e => by unfold VR at h; unfold toP at e; cases e; subst h; exact .str b
  | .tup ds, v, p, h, e => by
    unfold VR at h; unfold toP at e
    obtain ⟨a, vs, rfl, f, r⟩ := h
    obtain ⟨ps, e1, e2⟩ := Option.map_eq_some_iff.mp e
    subst e2
    exact .tup f.sq (VRs.dp ds vs ps r e1)
  | .lst ds, v, p, h, e => by
    unfold VR at h; unfold toP at e
    obtain ⟨a, vs, rfl, f, n, r⟩ := h
    obtain ⟨ps, e1, e2⟩ := Option.map_eq_some_iff.mp e
    subst e2
    exact .lst (SqL.of f) (VRs.dp ds vs ps r e1)
  | .scr ds, v, p, h, e => by unfold toP at e; cases e
  | .ins c ds, v, p, h, e => by unfold toP at e; cases e
  | .dct ks ds, v, p, h, e => by unfold toP at e; cases e
  | .ref i, v, p, h, e => by unfold toP at e; cases e
theorem VRs.dp : ∀ (ds : List D) (vs : List V) (ps : List PyData), VRs G γ H ds vs → toPs ds = some ps → DpAll G.K H vs ps
  | [], vs, ps, h, e => by unfold VRs at h; unfold toPs at e; cases e; subst h; exact .nil
  | d :: ds, vs, ps, h, e => by
    unfold VRs at h; unfold toPs at e
    obtain ⟨v, r, rfl, h1, h2⟩ := h
    cases q1 : toP d with
    | none => rw [q1] at e; cases e
    | some p =>
      cases q2 : toPs ds with
      | none => rw [q1, q2] at e; cases e
      | some qs =>
        rw [q1, q2] at e
        cases e
        exact .cons (VR.dp d v p h1 q1) (VRs.dp ds r qs h2 q2)
end
theorem VR.dpA {d : D} {v : V} {p : PyData} (R : Rel G γ A H) (h : VR G γ H d v) (e : toP (topD A d) = some p) : Dp G.K H v p := by
  cases d with
  | ref i =>
    unfold topD at e
    simp only at e
    split at e
    · rename_i ds q
      unfold VR at h
      obtain ⟨a, rfl, e1⟩ := h
      obtain ⟨a', h1, h2, vs, h3, h4⟩ := R.at_ i _ q
      rw [e1] at h1; cases h1
      unfold toP at e
      obtain ⟨ps, e2, e3⟩ := Option.map_eq_some_iff.mp e
      subst e3
      exact .lst (SqL.of h3) (VRs.dp ds vs ps h4 e2)
    · unfold toP at e; cases e
  | _ => exact VR.dp _ v p h e
end
def pureB (o : Option Bool) (A : AH) : Res D := match o with
  | some b => .ok (.bl b) A
  | none => .stuck
theorem pureB_of {G : Gc} {γ : Gh} {H : Hp} {A : AH} {o : Option Bool} {Q : VK} {Wx : WXe} (R : Rel G γ A H) (h : Post G γ H (pureB o A) (fun γ' _ H' d => ∀ v, VR G γ' H' d v → Q v H') Wx) : ∃ b, o = some b ∧ Q (.bl b) H := by
  cases o with
  | none => exact h.elim
  | some b => exact ⟨b, rfl, h γ H (Ext.refl _ _) R _ (by unfold VR; rfl)⟩
theorem ok_here {G : Gc} {γ : Gh} {H : Hp} {A : AH} {d : D} {v : V} {Q : VK} {Wx : WXe} (R : Rel G γ A H) (hv : VR G γ H d v) (h : Post G γ H (.ok d A) (fun γ' _ H' d => ∀ v, VR G γ' H' d v → Q v H') Wx) : Q v H := h γ H (Ext.refl _ _) R v hv
/-! ### ==, != -/
def eqP (A : AH) (x y : D) : Option Bool := match toP (topD A x), toP (topD A y) with
  | some d, some e => if SeqAt.shaped d && SeqAt.shaped e then some (PyData.eqv d e) else none
  | _, _ => none
def gEq (x y : D) (A : AH) : Res D := pureB (eqP A x y) A
def gNe (x y : D) (A : AH) : Res D := pureB ((eqP A x y).map (!·)) A
theorem eqP_some {A : AH} {x y : D} {b : Bool} (h : eqP A x y = some b) : ∃ d e, toP (topD A x) = some d ∧ toP (topD A y) = some e ∧ SeqAt.shaped d = true ∧ SeqAt.shaped e = true ∧ PyData.eqv d e = b := by
  unfold eqP at h
  split at h
  · rename_i d e q1 q2
    split at h
    · rename_i hs
      rw [Bool.and_eq_true] at hs
      exact ⟨d, e, q1, q2, hs.1, hs.2, Option.some.inj h⟩
    · cases h
  · cases h
theorem ok_eq {G : Gc} {K : PySem.W.Frag} (hk : G.K = K) : OkV2 G (rEqD K) gEq := fun γ A H a b x y Q Wx R r1 r2 h => by
  obtain ⟨c, e, q⟩ := pureB_of R h
  obtain ⟨d, e', h1, h2, s1, s2, h3⟩ := eqP_some e
  subst hk
  exact ⟨d, e', r1.dpA R h1, r2.dpA R h2, s1, s2, by rw [h3]; exact q⟩
theorem ok_ne {G : Gc} {K : PySem.W.Frag} (hk : G.K = K) : OkV2 G (rNeD K) gNe := fun γ A H a b x y Q Wx R r1 r2 h => by
  obtain ⟨c, e, q⟩ := pureB_of R h
  obtain ⟨c', e1, e2⟩ := Option.map_eq_some_iff.mp e
  obtain ⟨d, e', h1, h2, s1, s2, h3⟩ := eqP_some e1
  subst hk
  exact ⟨d, e', r1.dpA R h1, r2.dpA R h2, s1, s2, by rw [h3, e2]; exact q⟩
/-! ### is -/
def gIs (x y : D) (A : AH) : Res D := match x, y with
  | .bl a, .bl b => .ok (.bl (decide (a = b))) A
  | .non, .non => .ok (.bl true) A
  | _, .non => .ok (.bl false) A
  | _, _ => .stuck
def gIsNot (x y : D) (A : AH) : Res D := match x, y with
  | .bl a, .bl b => .ok (.bl (!decide (a = b))) A
  | .non, .non => .ok (.bl false) A
  | _, .non => .ok (.bl true) A
  | _, _ => .stuck
def rIsU : R2 := fun x y H Q => rIsB x y H Q ∨ (y = .non ∧ Q (.bl (decide (x = .non))) H)
def rIsNotU : R2 := fun x y H Q => rNotB x y H Q ∨ (y = .non ∧ Q (.bl (!decide (x = .non))) H)
theorem op_is {X : Cx} : OpR X (compareOp .Is) rIsU := OpR.or op_isBl op_isN
theorem op_isNot {X : Cx} : OpR X (compareOp .IsNot) rIsNotU := OpR.or op_notBl op_notN
theorem VR.non_iff {G : Gc} {γ : Gh} {H : Hp} {d : D} {v : V} (r : VR G γ H d v) (n : d ≠ .non) : v ≠ .non := fun z => by
  subst z
  cases d with
  | non => exact n rfl
  | bl _ => unfold VR at r; cases r
  | int _ => unfold VR at r; cases r
  | str _ => unfold VR at r; cases r
  | tup _ => unfold VR at r; obtain ⟨a, vs, e, _⟩ := r; cases e
  | lst _ => unfold VR at r; obtain ⟨a, vs, e, _⟩ := r; cases e
  | scr _ => unfold VR at r; obtain ⟨a, vs, e, _⟩ := r; cases e
  | ins _ _ => unfold VR at r; obtain ⟨a, _, _, vs, e, _⟩ := r; cases e
  | dct _ _ => unfold VR at r; obtain ⟨a, e, _⟩ := r; cases e
  | ref _ => unfold VR at r; obtain ⟨a, e, _⟩ := r; cases e
theorem ok_is {G : Gc} : OkV2 G rIsU gIs := fun γ A H a b x y Q Wx R r1 r2 h => by
  unfold gIs at h
  split at h
  · unfold VR at r1 r2; subst r1; subst r2
    exact .inl ⟨_, _, rfl, rfl, ok_here R (by unfold VR; rfl) h⟩
  · unfold VR at r1 r2; subst r1; subst r2
    exact .inr ⟨rfl, by simpa using ok_here (v := .bl true) R (by unfold VR; rfl) h⟩
  · rename_i hn
    unfold VR at r2; subst r2
    exact .inr ⟨rfl, by rw [decide_eq_false (r1.non_iff fun z => hn z)]; exact ok_here (v := .bl false) R (by unfold VR; rfl) h⟩
  · exact h.elim
theorem ok_isNot {G : Gc} : OkV2 G rIsNotU gIsNot := fun γ A H a b x y Q Wx R r1 r2 h => by
  unfold gIsNot at h
  split at h
  · unfold VR at r1 r2; subst r1; subst r2
    exact .inl ⟨_, _, rfl, rfl, ok_here R (by unfold VR; rfl) h⟩
  · unfold VR at r1 r2; subst r1; subst r2
    exact .inr ⟨rfl, by simpa using ok_here (v := .bl false) R (by unfold VR; rfl) h⟩
  · rename_i hn
    unfold VR at r2; subst r2
    exact .inr ⟨rfl, by rw [decide_eq_false (r1.non_iff fun z => hn z)]; exact ok_here (v := .bl true) R (by unfold VR; rfl) h⟩
  · exact h.elim
/-! ### <, <=, >, >= -/
def dints : List D → Option (List Int)
  | [] => some []
  | .int i :: ds => (dints ds).map (i :: ·)
  | _ :: _ => none
theorem ints_map : ∀ {ds : List D} {ns : List Int}, dints ds = some ns → ds = ns.map D.int
  | [], ns, e => by unfold dints at e; cases e; rfl
  | d :: ds, ns, e => by
    cases d with
    | int i =>
      unfold dints at e
      obtain ⟨ms, e1, rfl⟩ := Option.map_eq_some_iff.mp e
      rw [ints_map e1]; rfl
    | _ => unfold dints at e; cases e
theorem VRs.intsV {G : Gc} {γ : Gh} {H : Hp} : ∀ {ns : List Int} {vs : List V}, VRs G γ H (ns.map D.int) vs → vs = ns.map V.int
  | [], vs, h => by simp only [List.map_nil] at h; unfold VRs at h; exact h
  | n :: ns, vs, h => by
    simp only [List.map_cons] at h
    unfold VRs at h
    obtain ⟨v, r, rfl, h1, h2⟩ := h
    unfold VR at h1
    subst h1
    rw [VRs.intsV h2]; rfl
def gLt (x y : D) (A : AH) : Res D := match x, y with
  | .int i, .int j => .ok (.bl (decide (i < j))) A
  | .tup a, .tup b => match dints a, dints b with
    | some ns, some ms => .ok (.bl (HT.lexLt ns ms)) A
    | _, _ => .stuck
  | _, _ => .stuck
def gCmpI (p : Int → Int → Bool) (x y : D) (A : AH) : Res D := match x, y with
  | .int i, .int j => .ok (.bl (p i j)) A
  | _, _ => .stuck
def rLtU (K : PySem.W.Frag) : R2 := fun x y H Q => rI0 (fun i j => .bl (decide (i < j))) x y H Q ∨ rLtT K x y H Q
theorem op_ltU {X : Cx} (hu : X.A.units < cLine) : OpR X (compareOp .Lt) (rLtU X.K) := OpR.or op_lt (op_ltT hu)
theorem ok_lt {G : Gc} {K : PySem.W.Frag} (hk : G.K = K) : OkV2 G (rLtU K) gLt := fun γ A H a b x y Q Wx R r1 r2 h => by
  unfold gLt at h
  split at h
  · unfold VR at r1 r2; subst r1; subst r2
    exact .inl ⟨_, _, rfl, rfl, ok_here R (by unfold VR; rfl) h⟩
  · split at h
    · rename_i ns ms e1 e2
      rw [ints_map e1] at r1
      rw [ints_map e2] at r2
      unfold VR at r1 r2
      obtain ⟨a1, vs, rfl, f1, q1⟩ := r1
      obtain ⟨a2, ws, rfl, f2, q2⟩ := r2
      rw [VRs.intsV q1] at f1
      rw [VRs.intsV q2] at f2
      subst hk
      exact .inr ⟨a1, a2, ns, ms, rfl, rfl, f1.sq, f2.sq, ok_here R (by unfold VR; rfl) h⟩
    · exact h.elim
  · exact h.elim
theorem ok_cmpI {G : Gc} {p : Int → Int → Bool} : OkV2 G (rI0 fun i j => .bl (p i j)) (gCmpI p) := fun γ A H a b x y Q Wx R r1 r2 h => by
  unfold gCmpI at h
  split at h
  · unfold VR at r1 r2; subst r1; subst r2
    exact ⟨_, _, rfl, rfl, ok_here R (by unfold VR; rfl) h⟩
  · exact h.elim
def leL (ns ms : List Int) : Bool := Ob.lexAt (fun j => decide (ns.getD j 0 = ms.getD j 0)) (fun j => decide (ns.getD j 0 ≤ ms.getD j 0)) (decide (ns.length ≤ ms.length)) 0 (min ns.length ms.length)
def gLe (x y : D) (A : AH) : Res D := match x, y with
  | .int i, .int j => .ok (.bl (decide (i ≤ j))) A
  | .tup a, .tup b => match dints a, dints b with
    | some ns, some ms => .ok (.bl (leL ns ms)) A
    | _, _ => .stuck
  | _, _ => .stuck
def rLeU (K : PySem.W.Frag) : R2 := fun x y H Q => rI0 (fun i j => .bl (decide (i ≤ j))) x y H Q ∨ rLeT K x y H Q
theorem op_leU {X : Cx} (hu : X.A.units < cLine) : OpR X (compareOp .LtE) (rLeU X.K) := OpR.or op_le (op_leT hu)
theorem ok_le {G : Gc} {K : PySem.W.Frag} (hk : G.K = K) : OkV2 G (rLeU K) gLe := fun γ A H a b x y Q Wx R r1 r2 h => by
  unfold gLe at h
  split at h
  · unfold VR at r1 r2; subst r1; subst r2
    exact .inl ⟨_, _, rfl, rfl, ok_here R (by unfold VR; rfl) h⟩
  · split at h
    · rename_i ns ms e1 e2
      rw [ints_map e1] at r1
      rw [ints_map e2] at r2
      unfold VR at r1 r2
      obtain ⟨a1, vs, rfl, f1, q1⟩ := r1
      obtain ⟨a2, ws, rfl, f2, q2⟩ := r2
      rw [VRs.intsV q1] at f1
      rw [VRs.intsV q2] at f2
      subst hk
      exact .inr ⟨a1, a2, ns, ms, rfl, rfl, f1.sq, f2.sq, ok_here R (by unfold VR; rfl) h⟩
    · exact h.elim
  · exact h.elim
abbrev gGt := gCmpI fun i j => decide (j < i)
abbrev gGe := gCmpI fun i j => decide (j ≤ i)
/-! ### in, not in -/
def signIn (y z : Str) : Bool := match y.cps.toList with
  | [c] => decide (c ∈ z.cps.toList)
  | _ => !(Builtin.Str.occurrences z y 0 z.length 1).isEmpty
def inP (A : AH) (x y : D) : Option Bool := match topD A y with
  | .str z => match x with
    | .str a => some (signIn a z)
    | _ => none
  | .lst ds => match toP (topD A x), toPs ds with
    | some d, some es => if SeqAt.shaped d && SeqAt.shaped (.list es) then some (es.any fun z => PyData.eqv z d) else none
    | _, _ => none
  | .tup ds => match toP (topD A x), toPs ds with
    | some d, some es => if SeqAt.shaped d && SeqAt.shaped (.tuple es) then some (es.any fun z => PyData.eqv z d) else none
    | _, _ => none
  | _ => none
def gIn (x y : D) (A : AH) : Res D := pureB (inP A x y) A
def gNotIn (x y : D) (A : AH) : Res D := pureB ((inP A x y).map (!·)) A
def rInT (K : PySem.W.Frag) (n : Bool) : R2 := fun x y H Q => ∃ d ds, Dp K H x d ∧ Dp K H y (.tuple ds) ∧ SeqAt.shaped d = true ∧ SeqAt.shaped (.tuple ds) = true ∧ Q (.bl (n ^^ ds.any fun z => PyData.eqv z d)) H
theorem room_tup {A : Around} {d : PyData} {ds : List PyData} (h : SeqAt.shaped d = true) (hu : A.units + 65 < cLine) : A.units + 1 + min (PyData.depthAll ds) d.depth < cLine := by
  have := SeqAt.depth_of_shaped h
  omega
theorem op_inT {X : Cx} (hu : X.A.units + 65 < cLine) : OpR X (compareOp .In) (rInT X.K false) := by
  rintro pins s σ H x y v u Q I rx ry ⟨d, ds, hd, he, sd, se, q⟩
  obtain ⟨as, r1⟩ := Dp.reads I d x v hd rx
  obtain ⟨bs, r2⟩ := Dp.reads I (.tuple ds) y u he ry
  rw [Bool.false_xor] at q
  exact SeqAt.in_tuple_reads r2 r1 (SeqAt.canLay_of_shaped se) (SeqAt.canLay_of_shaped sd) (room_tup sd hu) ⟨.bl _, H, I, rfl, q⟩
theorem op_notInT {X : Cx} (hu : X.A.units + 65 < cLine) : OpR X (compareOp .NotIn) (rInT X.K true) := by
  rintro pins s σ H x y v u Q I rx ry ⟨d, ds, hd, he, sd, se, q⟩
  obtain ⟨as, r1⟩ := Dp.reads I d x v hd rx
  obtain ⟨bs, r2⟩ := Dp.reads I (.tuple ds) y u he ry
  rw [Bool.true_xor] at q
  exact SeqAt.notIn_tuple_reads r2 r1 (SeqAt.canLay_of_shaped se) (SeqAt.canLay_of_shaped sd) (room_tup sd hu) ⟨.bl _, H, I, rfl, q⟩
def rInStr (n : Bool) : R2 := fun x y H Q => ∃ a z, x = .str a ∧ y = .str z ∧ Q (.bl (n ^^ signIn a z)) H
theorem occ_of {X : Cx} {op : CmpOp} {n : Bool} (h1 : OpR X (compareOp op) (fun x y H Q => ∃ i j, x = .str i ∧ y = .str j ∧ Q (.bl (n ^^ !(Builtin.Str.occurrences j i 0 j.length 1).isEmpty)) H))
    (h2 : OpR X (compareOp op) (fun x y H Q => ∃ (c : Nat) (z : Str), x = .str ⟨#[c]⟩ ∧ y = .str z ∧ Q (.bl (n ^^ decide (c ∈ z.cps.toList))) H)) : OpR X (compareOp op) (rInStr n) := by
  rintro pins s σ H x y v u Q I rx ry ⟨a, z, rfl, rfl, q⟩
  by_cases hc : ∃ c, a.cps.toList = [c]
  · obtain ⟨c, hc⟩ := hc
    have ea : a = ⟨#[c]⟩ := by
      obtain ⟨ar⟩ := a
      have : ar = #[c] := by apply Array.toList_inj.mp; simpa using hc
      rw [this]
    unfold signIn at q
    rw [hc] at q
    exact h2 pins s σ H _ _ v u Q I rx ry ⟨c, z, by rw [ea], rfl, q⟩
  · refine h1 pins s σ H _ _ v u Q I rx ry ⟨a, z, rfl, rfl, ?_⟩
    unfold signIn at q
    split at q
    · rename_i c e; exact absurd ⟨c, e⟩ hc
    · exact q
theorem op_inStr {X : Cx} : OpR X (compareOp .In) (rInStr false) := by
  refine occ_of ?_ ?_
  · rintro pins s σ H x y v u Q I rx ry ⟨i, j, e1, e2, q⟩
    exact op_in_str pins s σ H x y v u Q I rx ry ⟨i, j, e1, e2, by simpa using q⟩
  · rintro pins s σ H x y v u Q I rx ry ⟨i, j, e1, e2, q⟩
    exact op_in_sign pins s σ H x y v u Q I rx ry ⟨i, j, e1, e2, by simpa using q⟩
theorem op_notInStr {X : Cx} : OpR X (compareOp .NotIn) (rInStr true) := by
  refine occ_of ?_ ?_
  · rintro pins s σ H x y v u Q I rx ry ⟨i, j, e1, e2, q⟩
    exact op_notIn_str pins s σ H x y v u Q I rx ry ⟨i, j, e1, e2, by simpa using q⟩
  · rintro pins s σ H x y v u Q I rx ry ⟨i, j, e1, e2, q⟩
    exact op_notIn_sign pins s σ H x y v u Q I rx ry ⟨i, j, e1, e2, by simpa using q⟩
def rInU (K : PySem.W.Frag) : R2 := fun x y H Q => (rInD K x y H Q ∨ rInT K false x y H Q) ∨ rInStr false x y H Q
def rNotInU (K : PySem.W.Frag) : R2 := fun x y H Q => (rNotInD K x y H Q ∨ rInT K true x y H Q) ∨ rInStr true x y H Q
theorem op_inU {X : Cx} (hu : X.A.units + 65 < cLine) : OpR X (compareOp .In) (rInU X.K) := OpR.or (OpR.or (op_inD hu) (op_inT hu)) op_inStr
theorem op_notInU {X : Cx} (hu : X.A.units + 65 < cLine) : OpR X (compareOp .NotIn) (rNotInU X.K) := OpR.or (OpR.or (op_notInD hu) (op_notInT hu)) op_notInStr
theorem inP_some {G : Gc} {γ : Gh} {H : Hp} {A : AH} {a b : D} {x y : V} {c : Bool} (R : Rel G γ A H) (r1 : VR G γ H a x) (r2 : VR G γ H b y) (h : inP A a b = some c) :
    (∃ u z, x = .str u ∧ y = .str z ∧ signIn u z = c) ∨ ∃ d es, Dp G.K H x d ∧ SeqAt.shaped d = true ∧ (es.any fun z => PyData.eqv z d) = c ∧ ((Dp G.K H y (.list es) ∧ SeqAt.shaped (.list es) = true) ∨ (Dp G.K H y (.tuple es) ∧ SeqAt.shaped (.tuple es) = true)) := by
  unfold inP at h
  split at h
  · rename_i z e
    have e2 : b = .str z := by
      cases b with
      | ref i => unfold topD at e; simp only at e; split at e <;> cases e
      | _ => exact e
    subst e2
    split at h
    · rename_i u
      unfold VR at r1 r2
      exact .inl ⟨u, z, r1, r2, Option.some.inj h⟩
    · cases h
  · rename_i ds e
    split at h
    · rename_i d es q1 q2
      split at h
      · rename_i hs
        rw [Bool.and_eq_true] at hs
        refine .inr ⟨d, es, r1.dpA R q1, hs.1, Option.some.inj h, .inl ⟨r2.dpA R ?_, hs.2⟩⟩
        rw [e]; unfold toP; rw [q2]; rfl
      · cases h
    · cases h
  · rename_i ds e
    split at h
    · rename_i d es q1 q2
      split at h
      · rename_i hs
        rw [Bool.and_eq_true] at hs
        refine .inr ⟨d, es, r1.dpA R q1, hs.1, Option.some.inj h, .inr ⟨r2.dpA R ?_, hs.2⟩⟩
        rw [e]; unfold toP; rw [q2]; rfl
      · cases h
    · cases h
  · cases h
theorem ok_in {G : Gc} {K : PySem.W.Frag} (hk : G.K = K) : OkV2 G (rInU K) gIn := fun γ A H a b x y Q Wx R r1 r2 h => by
  obtain ⟨c, e, q⟩ := pureB_of R h
  subst hk
  rcases inP_some R r1 r2 e with ⟨u, z, e1, e2, e3⟩ | ⟨d, es, h1, h2, h3, ⟨h4, h5⟩ | ⟨h4, h5⟩⟩
  · exact .inr ⟨u, z, e1, e2, by rw [e3]; simpa using q⟩
  · exact .inl (.inl ⟨d, es, h1, h4, h2, h5, by rw [h3]; exact q⟩)
  · exact .inl (.inr ⟨d, es, h1, h4, h2, h5, by rw [h3]; simpa using q⟩)
theorem ok_notIn {G : Gc} {K : PySem.W.Frag} (hk : G.K = K) : OkV2 G (rNotInU K) gNotIn := fun γ A H a b x y Q Wx R r1 r2 h => by
  obtain ⟨c0, e0, q⟩ := pureB_of R h
  obtain ⟨c, e, e'⟩ := Option.map_eq_some_iff.mp e0
  subst hk; subst e'
  rcases inP_some R r1 r2 e with ⟨u, z, e1, e2, e3⟩ | ⟨d, es, h1, h2, h3, ⟨h4, h5⟩ | ⟨h4, h5⟩⟩
  · exact .inr ⟨u, z, e1, e2, by rw [e3]; simpa using q⟩
  · exact .inl (.inl ⟨d, es, h1, h4, h2, h5, by rw [h3]; exact q⟩)
  · exact .inl (.inr ⟨d, es, h1, h4, h2, h5, by rw [h3]; simpa using q⟩)
/-! ### + - * // % ** -/
/-- a list that may be read and joined -/
def asM (A : AH) : D → Option (List D)
  | .lst ds => some ds
  | .ref i => match A[i]? with
    | some (.lst ds) => some ds
    | _ => none
  | _ => none
theorem asM_at {G : Gc} {γ : Gh} {A : AH} {H : Hp} {d : D} {v : V} {ds : List D} (R : Rel G γ A H) (h : VR G γ H d v) (e : asM A d = some ds) : ∃ a vs, v = .ref a ∧ VRs G γ H ds vs ∧ H a = some (.lst vs) := by
  cases d with
  | lst xs => unfold VR at h; obtain ⟨a, vs, e1, f, n, r⟩ := h; cases e; exact ⟨a, vs, e1, r, f⟩
  | ref i =>
    unfold VR at h
    obtain ⟨a, e1, e2⟩ := h
    unfold asM at e
    simp only at e
    split at e
    · rename_i xs q
      cases e
      obtain ⟨a', h1, h2, vs, h3, h4⟩ := R.at_ i _ q
      rw [e2] at h1; cases h1
      exact ⟨a, vs, e1, h4, h3⟩
    · cases e
  | _ => cases e
def gAdd (x y : D) (A : AH) : Res D := match x, y with
  | .int i, .int j => .ok (.int (i + j)) A
  | .int i, .bl b => .ok (.int (i + b2i b)) A
  | .str i, .str j => if i.length + j.length ≤ sizeLine then .ok (.str (i ++ j)) A else .stuck
  | .tup a, .tup b => if a.length + b.length ≤ sizeLine then .ok (.tup (a ++ b)) A else .stuck
  | x, y => match asM A x, asM A y with
    | some a, some b => if a.length + b.length ≤ sizeLine then .ok (.lst (a ++ b)) A else .stuck
    | _, _ => .stuck
def rAddU (K : PySem.W.Frag) : R2 := fun x y H Q => (((rI0 (fun i j => .int (i + j)) x y H Q ∨ ∃ i k, x = .int i ∧ y = .bl k ∧ Q (.int (i + b2i k)) H) ∨ ∃ i j, x = .str i ∧ y = .str j ∧ i.length + j.length ≤ sizeLine ∧ Q (.str (i ++ j)) H) ∨ rCatA K x y H Q) ∨ rCat x y H Q
theorem op_addU {X : Cx} : OpR X (binaryOp .Add) (rAddU X.K) := OpR.or (OpR.or (OpR.or (OpR.or op_add op_add_ib) op_add_str) op_catA) op_cat
theorem ok_add {G : Gc} {K : PySem.W.Frag} (hk : G.K = K) : OkV2 G (rAddU K) gAdd := fun γ A H a b x y Q Wx R r1 r2 h => by
  unfold gAdd at h
  subst hk
  split at h
  · unfold VR at r1 r2; subst r1; subst r2
    exact .inl (.inl (.inl (.inl ⟨_, _, rfl, rfl, ok_here R (by unfold VR; rfl) h⟩)))
  · unfold VR at r1 r2; subst r1; subst r2
    exact .inl (.inl (.inl (.inr ⟨_, _, rfl, rfl, ok_here R (by unfold VR; rfl) h⟩)))
  · split at h
    · rename_i hz
      unfold VR at r1 r2; subst r1; subst r2
      exact .inl (.inl (.inr ⟨_, _, rfl, rfl, hz, ok_here R (by unfold VR; rfl) h⟩))
    · exact h.elim
  · split at h
    · rename_i hz
      have r1' := r1
      have r2' := r2
      unfold VR at r1 r2
      obtain ⟨a1, vs, rfl, f1, q1⟩ := r1
      obtain ⟨a2, ws, rfl, f2, q2⟩ := r2
      refine .inl (.inr ⟨a1, a2, vs, ws, rfl, rfl, f1.sq, f2.sq, by rw [← q1.length, ← q2.length]; exact hz, ?_⟩)
      have nil : ∀ {ds : List D} {us : List V}, VRs G γ H ds us → us = [] → ds = [] := fun {ds us} q e => by
        have := q.length
        rw [e] at this
        exact List.length_eq_zero_iff.mp this
      refine ⟨fun e => ?_, fun e1 e2 => ?_, fun e1 e2 p hp => ?_⟩
      · have := nil q1 e
        subst this
        exact ok_here R r2' h
      · have := nil q2 e2
        subst this
        rw [List.append_nil] at h
        exact ok_here R r1' h
      · exact Post.new (ob := .tup (vs ++ ws)) R hp h _ (VR.newT R hp (q1.append q2))
    · exact h.elim
  · split at h
    · rename_i e1 e2
      split at h
      · rename_i hz
        obtain ⟨a1, vs, rfl, q1, f1⟩ := asM_at R r1 e1
        obtain ⟨a2, ws, rfl, q2, f2⟩ := asM_at R r2 e2
        exact .inr ⟨a1, a2, vs, ws, rfl, rfl, f1, f2, by rw [← q1.length, ← q2.length]; exact hz, fun p hp => Post.new (ob := .lst (vs ++ ws)) R hp h _ (VR.newL R hp (q1.append q2))⟩
      · exact h.elim
    · exact h.elim
end F3
namespace F3
open PySem PySem.Spec
open PyProof.Rows L2
/-! ### - * // % ** and the signs -/
def gSub (x y : D) (A : AH) : Res D := match x, y with
  | .int i, .int j => .ok (.int (i - j)) A
  | _, _ => .stuck
theorem ok_sub {G : Gc} : OkV2 G (rI0 fun i j => .int (i - j)) gSub := fun γ A H a b x y Q Wx R r1 r2 h => by
  unfold gSub at h
  split at h
  · unfold VR at r1 r2; subst r1; subst r2
    exact ⟨_, _, rfl, rfl, ok_here R (by unfold VR; rfl) h⟩
  · exact h.elim
/-- the items so many times -/
def timesL (k : Nat) (ds : List D) : List D := (List.replicate k ds).flatten
theorem VRs.times {G : Gc} {γ : Gh} {H : Hp} {ds : List D} {vs : List V} (h : VRs G γ H ds vs) : ∀ k, VRs G γ H (timesL k ds) (List.replicate k vs).flatten
  | 0 => VRs.nil
  | k + 1 => by
    unfold timesL
    rw [List.replicate_succ, List.replicate_succ, List.flatten_cons, List.flatten_cons]
    exact h.append (VRs.times h k)
def gMul (x y : D) (A : AH) : Res D := match x, y with
  | .int i, .int j => if i.natAbs.log2 + j.natAbs.log2 < 1000000 then .ok (.int (i * j)) A else .stuck
  | .tup ds, .int k => if ds.isEmpty = false ∧ 2 ≤ k ∧ k ≤ 1000 ∧ ds.length ≤ 1000 then .ok (.tup (timesL k.toNat ds)) A else .stuck
  | .lst ds, .int k => if -(2 ^ 63) ≤ k ∧ k < 2 ^ 63 ∧ ds.length * k.toNat ≤ sizeLine then .ok (.lst (timesL k.toNat ds)) A else .stuck
  | _, _ => .stuck
def rMulU (K : PySem.W.Frag) : R2 := fun x y H Q => (rI CMulW (fun i j => .int (i * j)) x y H Q ∨ rRepT K x y H Q) ∨ rRep x y H Q
theorem op_mulU {X : Cx} : OpR X (binaryOp .Mult) (rMulU X.K) := OpR.or (OpR.or op_mulW op_repT) op_rep
theorem ok_mul {G : Gc} {K : PySem.W.Frag} (hk : G.K = K) : OkV2 G (rMulU K) gMul := fun γ A H a b x y Q Wx R r1 r2 h => by
  unfold gMul at h
  subst hk
  split at h
  · split at h
    · rename_i hz
      unfold VR at r1 r2; subst r1; subst r2
      exact .inl (.inl ⟨_, _, rfl, rfl, hz, ok_here R (by unfold VR; rfl) h⟩)
    · exact h.elim
  · split at h
    · rename_i ds k hz
      unfold VR at r1 r2; subst r2
      obtain ⟨a1, vs, rfl, f1, q1⟩ := r1
      have hl := q1.length
      have ne : vs ≠ [] := fun z => by
        rw [z] at hl
        have := List.length_eq_zero_iff.mp hl
        rw [this] at hz; exact absurd hz.1 (by simp)
      refine .inl (.inr ⟨a1, k, vs, rfl, rfl, f1.sq, ne, hz.2.1, hz.2.2.1, by omega, fun p hp => Post.new (ob := .tup _) R hp h _ (VR.newT R hp (q1.times _))⟩)
    · exact h.elim
  · split at h
    · rename_i ds k hz
      unfold VR at r1 r2; subst r2
      obtain ⟨a1, vs, rfl, f1, n1, q1⟩ := r1
      have hl := q1.length
      exact .inr ⟨a1, k, vs, rfl, rfl, f1, hz.1, hz.2.1, by rw [← hl]; exact hz.2.2, fun p hp => Post.new (ob := .lst _) R hp h _ (VR.newL R hp (q1.times _))⟩
    · exact h.elim
  · exact h.elim
def gFdiv (x y : D) (A : AH) : Res D := match x, y with
  | .int i, .int j => if 0 < j ∧ j.natAbs.log2 < 9000 then .ok (.int (i / j)) A else .stuck
  | _, _ => .stuck
theorem ok_fdiv {G : Gc} : OkV2 G (rI CDivW fun i j => .int (i / j)) gFdiv := fun γ A H a b x y Q Wx R r1 r2 h => by
  unfold gFdiv at h
  split at h
  · split at h
    · rename_i hz
      unfold VR at r1 r2; subst r1; subst r2
      exact ⟨_, _, rfl, rfl, hz, ok_here R (by unfold VR; rfl) h⟩
    · exact h.elim
  · exact h.elim
def gMod (x y : D) (A : AH) : Res D := match x, y with
  | .int i, .int j => if 0 < j then .ok (.int (i % j)) A else .stuck
  | _, _ => .stuck
theorem ok_mod {G : Gc} : OkV2 G (rI (fun _ j => 0 < j) fun i j => .int (i % j)) gMod := fun γ A H a b x y Q Wx R r1 r2 h => by
  unfold gMod at h
  split at h
  · split at h
    · rename_i hz
      unfold VR at r1 r2; subst r1; subst r2
      exact ⟨_, _, rfl, rfl, hz, ok_here R (by unfold VR; rfl) h⟩
    · exact h.elim
  · exact h.elim
def gPow (x y : D) (A : AH) : Res D := match x, y with
  | .int i, .int j => if 0 ≤ j ∧ j ≤ 1000000 ∧ i.natAbs < 2 ^ 64 then .ok (.int (i ^ j.toNat)) A else .stuck
  | _, _ => .stuck
theorem ok_pow {G : Gc} : OkV2 G (rI CPow fun i j => .int (i ^ j.toNat)) gPow := fun γ A H a b x y Q Wx R r1 r2 h => by
  unfold gPow at h
  split at h
  · split at h
    · rename_i hz
      unfold VR at r1 r2; subst r1; subst r2
      exact ⟨_, _, rfl, rfl, hz, ok_here R (by unfold VR; rfl) h⟩
    · exact h.elim
  · exact h.elim
def gNeg (x : D) (A : AH) : Res D := match x with
  | .int i => .ok (.int (-i)) A
  | _ => .stuck
section
variable {X : Cx} {G : Gc} {W : WX} {k : Nat} {a b : Expr} {pos : Pos} {fa fb : Ev → AH → Res D}
theorem je_neg (ha : JE X G W a fa) : JE X G W (.UnaryOp .USub a pos) (sUn gNeg fa) := by
  refine ⟨PE.imp (pe_un un_neg ha.run) fun σ H Q h => ?_⟩
  obtain ⟨γ, A, env, S, h⟩ := h
  refine ⟨γ, A, env, S, Post.bind h fun x A1 γ1 H1 e1 R1 h1 v r1 => ?_⟩
  unfold gNeg at h1
  split at h1
  · unfold VR at r1; subst r1
    exact ⟨_, rfl, ok_here R1 (by unfold VR; rfl) h1⟩
  · exact h1.elim
/-! ### the rules of operators in short -/
theorem je_add (o : XO X G W k) (ha : JE X G W a fa) (hb : JE X G W b fb) : JE X G W (.BinOp a .Add b pos) (sBin gAdd fa fb) := je_bin op_addU (ok_add o.gk) ha hb
theorem je_sub (ha : JE X G W a fa) (hb : JE X G W b fb) : JE X G W (.BinOp a .Sub b pos) (sBin gSub fa fb) := je_bin op_sub ok_sub ha hb
theorem je_mul (o : XO X G W k) (ha : JE X G W a fa) (hb : JE X G W b fb) : JE X G W (.BinOp a .Mult b pos) (sBin gMul fa fb) := je_bin op_mulU (ok_mul o.gk) ha hb
theorem je_fdiv (ha : JE X G W a fa) (hb : JE X G W b fb) : JE X G W (.BinOp a .FloorDiv b pos) (sBin gFdiv fa fb) := je_bin op_fdivW ok_fdiv ha hb
theorem je_mod (ha : JE X G W a fa) (hb : JE X G W b fb) : JE X G W (.BinOp a .Mod b pos) (sBin gMod fa fb) := je_bin op_mod ok_mod ha hb
theorem je_pow (ha : JE X G W a fa) (hb : JE X G W b fb) : JE X G W (.BinOp a .Pow b pos) (sBin gPow fa fb) := je_bin op_pow ok_pow ha hb
theorem XO.u64 (o : XO X G W k) : X.A.units + 64 < cLine := o.room.units
theorem XO.u65 (o : XO X G W k) : X.A.units + 65 < cLine := by have := o.room.un; omega
theorem XO.u0 (o : XO X G W k) : X.A.units < cLine := o.room.units0
/-- a comparison's operator, what it reckons, its rule -/
structure CO (X : Cx) (G : Gc) (op : CmpOp) (g : D → D → AH → Res D) : Prop where
  ex : ∃ r, OpR X (compareOp op) r ∧ OkV2 G r g
theorem XO.eq (o : XO X G W k) : CO X G .Eq gEq := ⟨_, op_eqD o.u64, ok_eq o.gk⟩
theorem XO.ne (o : XO X G W k) : CO X G .NotEq gNe := ⟨_, op_neD o.u64, ok_ne o.gk⟩
theorem XO.lt (o : XO X G W k) : CO X G .Lt gLt := ⟨_, op_ltU o.u0, ok_lt o.gk⟩
theorem XO.le (o : XO X G W k) : CO X G .LtE gLe := ⟨_, op_leU o.u0, ok_le o.gk⟩
theorem XO.gt (o : XO X G W k) : CO X G .Gt gGt := ⟨_, op_gt, ok_cmpI⟩
theorem XO.ge (o : XO X G W k) : CO X G .GtE gGe := ⟨_, op_ge, ok_cmpI⟩
theorem XO.is (o : XO X G W k) : CO X G .Is gIs := ⟨_, op_is, ok_is⟩
theorem XO.isNot (o : XO X G W k) : CO X G .IsNot gIsNot := ⟨_, op_isNot, ok_isNot⟩
theorem XO.in_ (o : XO X G W k) : CO X G .In gIn := ⟨_, op_inU o.u65, ok_in o.gk⟩
theorem XO.notIn (o : XO X G W k) : CO X G .NotIn gNotIn := ⟨_, op_notInU o.u65, ok_notIn o.gk⟩
theorem jec {op : CmpOp} {g : D → D → AH → Res D} (c : CO X G op g) (hm : behindInMarks op b = false) (ha : JE X G W a fa) (hb : JE X G W b fb) : JE X G W (.Compare a [op] [b] pos) (sBin g fa fb) := by
  obtain ⟨r, h1, h2⟩ := c.ex
  exact je_cmp h1 h2 hm ha hb
theorem jtc {op : CmpOp} {g : D → D → AH → Res D} (c : CO X G op g) (hm : behindInMarks op b = false) (ha : JE X G W a fa) (hb : JE X G W b fb) : JT X G W (.Compare a [op] [b] pos) (sTest (sBin g fa fb)) := by
  obtain ⟨r, h1, h2⟩ := c.ex
  exact jt_cmp h1 h2 hm ha hb
theorem jec2 {c : Expr} {fc : Ev → AH → Res D} {op op' : CmpOp} {g g' : D → D → AH → Res D} (c1 : CO X G op g) (c2 : CO X G op' g') (hm : lastMarks [op, op'] [b, c] = false) (ha : JE X G W a fa) (hb : JE X G W b fb) (hc : JE X G W c fc) : JE X G W (.Compare a [op, op'] [b, c] pos) (sChain g g' fa fb fc) := by
  obtain ⟨r, h1, h2⟩ := c1.ex
  obtain ⟨r', h3, h4⟩ := c2.ex
  exact je_chain h1 h3 h2 h4 hm ha hb hc
theorem jtc2 {c : Expr} {fc : Ev → AH → Res D} {op op' : CmpOp} {g g' : D → D → AH → Res D} (c1 : CO X G op g) (c2 : CO X G op' g') (hm : lastMarks [op, op'] [b, c] = false) (ha : JE X G W a fa) (hb : JE X G W b fb) (hc : JE X G W c fc) : JT X G W (.Compare a [op, op'] [b, c] pos) (sTest (sChain g g' fa fb fc)) := by
  obtain ⟨r, h1, h2⟩ := c1.ex
  obtain ⟨r', h3, h4⟩ := c2.ex
  exact jt_chain h1 h3 h2 h4 hm ha hb hc
/-! ### items and slices -/
def gIx (x y : D) (A : AH) : Res D := match y with
  | .int i => match x with
    | .str z => if z.length ≤ sizeLine then match atI z.cps.toList i with
      | some c => .ok (.str ⟨#[c]⟩) A
      | none => .stuck
      else .stuck
    | x => match asL A x with
      | some ds => match atI ds i with
        | some d => .ok d A
        | none => .stuck
      | none => .stuck
  | _ => .stuck
theorem VRs.atI {γ : Gh} {H : Hp} {ds : List D} {vs : List V} {i : Int} {d : D} (h : VRs G γ H ds vs) (e : atI ds i = some d) : ∃ v, L2.atI vs i = some v ∧ VR G γ H d v := by
  unfold L2.atI at e ⊢
  rw [← h.length]
  obtain ⟨j, e1, e2⟩ := Option.bind_eq_some_iff.mp e
  obtain ⟨v, e3, r⟩ := h.get e2
  exact ⟨v, by rw [e1]; exact e3, r⟩
theorem IxR.or {r r' : R2} (h : IxR X r) (h' : IxR X r') : IxR X (fun x y H Q => r x y H Q ∨ r' x y H Q) := fun val sl pins s σ H x y v u Q I rx ry q hs => by
  rcases q with q | q
  · exact h val sl pins s σ H x y v u Q I rx ry q hs
  · exact h' val sl pins s σ H x y v u Q I rx ry q hs
theorem je_ix (o : XO X G W k) (ha : JE X G W a fa) (hb : JE X G W b fb) (hp : PlainIx b) : JE X G W (.Subscript a b pos) (sBin gIx fa fb) := by
  refine ⟨PE.imp (pe_ix (IxR.or (IxR.or ix_list ix_tup) ix_str) ha.run hb.run hp) fun σ H Q h => tOp_of (g := gIx) (fun γ A H a b x y Q Wx R r1 r2 h => ?_) h⟩
  rw [← o.gk]
  unfold gIx at h
  split at h
  · rename_i i
    unfold VR at r2; subst r2
    split at h
    · rename_i z
      unfold VR at r1; subst r1
      split at h
      · rename_i hz
        split at h
        · rename_i c e
          exact .inr ⟨z, i, c, rfl, rfl, hz, e, ok_here R (by unfold VR; rfl) h⟩
        · exact h.elim
      · exact h.elim
    · split at h
      · rename_i ds e
        obtain ⟨p, vs, rfl, rv, hq⟩ := asL_at R r1 e
        split at h
        · rename_i d e2
          obtain ⟨v, e3, r⟩ := rv.atI e2
          rcases hq with hq | hq
          · exact .inl (.inl ⟨p, vs, i, v, rfl, rfl, hq, e3, ok_here R r h⟩)
          · exact .inl (.inr ⟨p, vs, i, v, rfl, rfl, hq, e3, ok_here R r h⟩)
        · exact h.elim
      · exact h.elim
  · exact h.elim
structure JO (X : Cx) (G : Gc) (W : WX) (e : Option Expr) (f : Ev → AH → Res (Option Int)) : Prop where
  run : PO X e (fun σ H Q => ∃ γ A env, St3 G γ A env H σ ∧ Post G γ H (f env A) (fun _ _ H' d => Q d H') (fun c a H' => W c a σ H'))
def oNone : Ev → AH → Res (Option Int) := fun _ A => .ok none A
def oSome (f : Ev → AH → Res D) : Ev → AH → Res (Option Int) := fun env A => (f env A).bind fun d A1 => match d with
  | .int i => .ok (some i) A1
  | _ => .stuck
theorem jo_none : JO X G W none oNone := by
  refine ⟨⟨fun pins s σ H Q I h => ?_⟩⟩
  obtain ⟨γ, A, env, S, h⟩ := h
  exact po_none.run pins s σ H Q I (h γ H (Ext.refl _ _) S.rel)
theorem jo_some (ha : JE X G W a fa) : JO X G W (some a) (oSome fa) := by
  refine ⟨⟨fun pins s σ H Q I h => ?_⟩⟩
  obtain ⟨γ, A, env, S, h⟩ := h
  refine (po_some ha.run).run pins s σ H Q I ⟨γ, A, env, S, Post.bind h fun x A1 γ1 H1 e1 R1 h1 v r1 => ?_⟩
  split at h1
  · unfold VR at r1
    exact ⟨_, r1, h1 γ1 H1 (Ext.refl _ _) R1⟩
  · exact h1.elim
def cutD (ds : List D) (lo hi : Option Int) : List D := (ds.drop (HT.sIx ds.length 0 lo)).take (HT.sIx ds.length ds.length hi - HT.sIx ds.length 0 lo)
theorem VRs.cut {γ : Gh} {H : Hp} {ds : List D} {vs : List V} (h : VRs G γ H ds vs) (lo hi : Option Int) : VRs G γ H (cutD ds lo hi) (cutV vs lo hi) := by
  unfold cutD cutV
  rw [h.length]
  exact (h.drop _).take _
def gSl (lo hi : Option Int) (x : D) (A : AH) : Res D := match x with
  | .str z => if z.length ≤ sizeLine then .ok (.str (cutS z lo hi)) A else .stuck
  | .tup ds => .ok (.tup (cutD ds lo hi)) A
  | x => match asQ A x with
    | some ds => .ok (.lst (cutD ds lo hi)) A
    | none => .stuck
def sSlice (fa : Ev → AH → Res D) (fl fh : Ev → AH → Res (Option Int)) : Ev → AH → Res D := fun env A => (fa env A).bind fun x A1 => (fl env A1).bind fun lo A2 => (fh env A2).bind fun hi A3 => gSl lo hi x A3
theorem SlR.or {r r' : V → Option Int → Option Int → Hp → VK → Prop} (h : SlR X r) (h' : SlR X r') : SlR X (fun x lo hi H Q => r x lo hi H Q ∨ r' x lo hi H Q) := fun pins s σ H x v vl vu lo hi sl Q I rx hs pl pu q => by
  rcases q with q | q
  · exact h pins s σ H x v vl vu lo hi sl Q I rx hs pl pu q
  · exact h' pins s σ H x v vl vu lo hi sl Q I rx hs pl pu q
theorem je_slice (o : XO X G W k) {lo hi : Option Expr} {p2 : Pos} {fl fh : Ev → AH → Res (Option Int)} (ha : JE X G W a fa) (hl : JO X G W lo fl) (hh : JO X G W hi fh) : JE X G W (.Subscript a (.Slice lo hi none p2) pos) (sSlice fa fl fh) := by
  refine ⟨PE.imp (pe_slice (SlR.or (SlR.or sl_list sl_tupA) sl_str) ha.run hl.run hh.run) fun σ H Q h => ?_⟩
  obtain ⟨γ, A, env, S, h⟩ := h
  refine ⟨γ, A, env, S, Post.bind h fun x A1 γ1 H1 e1 R1 h1 v r1 => ?_⟩
  refine ⟨γ1, A1, env, S.to e1 R1, Post.bind h1 fun l A2 γ2 H2 e2 R2 h2 => ?_⟩
  refine ⟨γ2, A2, env, (S.to e1 R1).to e2 R2, Post.bind h2 fun u A3 γ3 H3 e3 R3 h3 => ?_⟩
  have r3 := VR.ext (e2.trans e3) _ _ r1
  rw [← o.gk]
  unfold gSl at h3
  split at h3
  · split at h3
    · rename_i z hz
      unfold VR at r3; subst r3
      exact .inr ⟨z, rfl, hz, ok_here R3 (by unfold VR; rfl) h3⟩
    · exact h3.elim
  · rename_i ds
    have r4 := r3
    unfold VR at r3
    obtain ⟨p, vs, rfl, f, rv⟩ := r3
    refine .inl (.inr ⟨p, vs, rfl, f.sq, fun z => ?_, fun z q hq => Post.new (ob := .tup _) R3 hq h3 _ (VR.newT R3 hq (rv.cut _ _))⟩)
    have hw : cutD ds l u = ds := by
      unfold cutD
      rw [rv.length, z.1, z.2, List.drop_zero, List.take_of_length_le (by rw [rv.length]; omega)]
    rw [hw] at h3
    exact ok_here R3 r4 h3
  · rename_i hns hnt
    split at h3
    · rename_i ds e
      obtain ⟨p, vs, rfl, rv, hq⟩ := asQ_at R3 r3 e
      exact .inl (.inl ⟨p, vs, rfl, hq, fun q hq => Post.new (ob := .lst _) R3 hq h3 _ (VR.newL R3 hq (rv.cut _ _))⟩)
    · exact h3.elim
end
end F3
namespace F3
open PySem PySem.Spec
open PyProof.Rows L2
/-! ### built-ins by values -/
def OkC (G : Gc) (r : List V → Hp → VK → Prop) (g : List D → AH → Res D) : Prop := ∀ (γ : Gh) (A : AH) (H : Hp) (ds : List D) (vs : List V) (Q : VK) (Wx : WXe), Rel G γ A H → VRs G γ H ds vs → Post G γ H (g ds A) (fun γ' _ H' d => ∀ v, VR G γ' H' d v → Q v H') Wx → r vs H Q
def sCall (g : List D → AH → Res D) (f : Ev → AH → Res (List D)) : Ev → AH → Res D := fun env A => (f env A).bind fun ds A1 => g ds A1
structure CB (X : Cx) (G : Gc) (fn : Value) (g : List D → AH → Res D) : Prop where
  ex : ∃ r, CallR X fn r ∧ OkC G r g
theorem VRs.one {G : Gc} {γ : Gh} {H : Hp} {d : D} {vs : List V} (h : VRs G γ H [d] vs) : ∃ v, vs = [v] ∧ VR G γ H d v := by
  unfold VRs at h
  obtain ⟨v, r, rfl, h1, h2⟩ := h
  unfold VRs at h2
  subst h2
  exact ⟨v, rfl, h1⟩
theorem VRs.two {G : Gc} {γ : Gh} {H : Hp} {d e : D} {vs : List V} (h : VRs G γ H [d, e] vs) : ∃ v w, vs = [v, w] ∧ VR G γ H d v ∧ VR G γ H e w := by
  unfold VRs at h
  obtain ⟨v, r, rfl, h1, h2⟩ := h
  obtain ⟨w, rfl, h3⟩ := VRs.one h2
  exact ⟨v, w, rfl, h1, h3⟩
theorem CallR.or {X : Cx} {f : Value} {r r' : List V → Hp → VK → Prop} (h : CallR X f r) (h' : CallR X f r') : CallR X f (fun xs H Q => r xs H Q ∨ r' xs H Q) := by
  intro pins s σ H xs us Q I rx q
  rcases q with q | q
  · exact h pins s σ H xs us Q I rx q
  · exact h' pins s σ H xs us Q I rx q
section
variable {X : Cx} {G : Gc} {W : WX} {k : Nat}
theorem tCB_of {r : List V → Hp → VK → Prop} {g : List D → AH → Res D} {f : Ev → AH → Res (List D)} (hv : OkC G r g) {σ : L2.St} {H : Hp} {Q : VK} (h : tE G W (sCall g f) σ H Q) : tCB r (tA G W f) σ H Q := by
  obtain ⟨γ, A, env, S, h⟩ := h
  exact ⟨γ, A, env, S, Post.bind h fun ds A1 γ1 H1 e1 R1 h1 vs r1 => hv γ1 A1 H1 ds vs Q _ R1 r1 h1⟩
theorem je_callB {id : String} {x : Str} {p pos : Pos} {e : Expr} {es : List Expr} {g : List D → AH → Res D} {f : Ev → AH → Res (List D)} (c : CB X G (.builtin id) g) (hg : Gl X x) (hm : X.mg x = none) (hv : bootBuiltins x = some (.builtin id)) (ha : JA X G W (e :: es) f)
    (hn : x ≠ "__name__") (hdb : (x == ("__debug__" : Str)) = false) (he : starEach (e :: es) X.env = (false, eval e X.env) :: starEach es X.env := by rfl) (hpl : (backTo pos (starEach es X.env)).any (·.1) = false := by rfl) : JE X G W (.Call (.Name x p) (e :: es) [] pos) (sCall g f) := by
  obtain ⟨r, h1, h2⟩ := c.ex
  exact ⟨PE.imp (pe_callB h1 hg hm hv ha.run hn hdb he hpl) fun σ H Q h => tCB_of h2 h⟩
theorem je_callTy {T : String} {x : Str} {p pos : Pos} {e : Expr} {es : List Expr} {g : List D → AH → Res D} {f : Ev → AH → Res (List D)} (c : CB X G (.type T) g) (hg : Gl X x) (hm : X.mg x = none) (hv : bootBuiltins x = some (.type T)) (ha : JA X G W (e :: es) f)
    (hn : x ≠ "__name__") (hdb : (x == ("__debug__" : Str)) = false) (he : starEach (e :: es) X.env = (false, eval e X.env) :: starEach es X.env := by rfl) (hpl : (backTo pos (starEach es X.env)).any (·.1) = false := by rfl) : JE X G W (.Call (.Name x p) (e :: es) [] pos) (sCall g f) := by
  obtain ⟨r, h1, h2⟩ := c.ex
  exact ⟨PE.imp (pe_callTy h1 hg hm hv ha.run hn hdb he hpl) fun σ H Q h => tCB_of h2 h⟩
/-- len -/
def gLen (ds : List D) (A : AH) : Res D := match ds with
  | [.str z] => if z.length ≤ sizeLine then .ok (.int z.length) A else .stuck
  | [d] => match asL A d with
    | some xs => .ok (.int xs.length) A
    | none => .stuck
  | _ => .stuck
theorem XO.len (o : XO X G W k) : CB X G (.builtin "len") gLen := by
  refine ⟨_, call_len, fun γ A H ds vs Q Wx R r h => ?_⟩
  unfold gLen at h
  split at h
  · obtain ⟨v, rfl, r1⟩ := r.one
    split at h
    · rename_i hz
      unfold VR at r1; subst r1
      exact ⟨_, _, rfl, ⟨hz, rfl⟩, ok_here R (by unfold VR; rfl) h⟩
    · exact h.elim
  · obtain ⟨v, rfl, r1⟩ := r.one
    split at h
    · rename_i xs e
      obtain ⟨a, us, rfl, rv, hq⟩ := asL_at R r1 e
      rw [o.gk] at hq
      refine ⟨_, us.length, rfl, ?_, by rw [← rv.length]; exact ok_here R (by unfold VR; rfl) h⟩
      rcases hq with hq | hq
      · exact .inl ⟨us, hq, rfl⟩
      · exact .inr ⟨us, hq, rfl⟩
    · exact h.elim
  · exact h.elim
/-- all, any -/
def dbls : List D → Option (List Bool)
  | [] => some []
  | .bl i :: ds => (dbls ds).map (i :: ·)
  | _ :: _ => none
theorem dbls_map : ∀ {ds : List D} {ns : List Bool}, dbls ds = some ns → ds = ns.map D.bl
  | [], ns, e => by unfold dbls at e; cases e; rfl
  | d :: ds, ns, e => by
    cases d with
    | bl i =>
      unfold dbls at e
      obtain ⟨ms, e1, rfl⟩ := Option.map_eq_some_iff.mp e
      rw [dbls_map e1]; rfl
    | _ => unfold dbls at e; cases e
theorem VRs.blsV {γ : Gh} {H : Hp} : ∀ {ns : List Bool} {vs : List V}, VRs G γ H (ns.map D.bl) vs → vs = ns.map V.bl
  | [], vs, h => by simp only [List.map_nil] at h; unfold VRs at h; exact h
  | n :: ns, vs, h => by
    simp only [List.map_cons] at h
    unfold VRs at h
    obtain ⟨v, r, rfl, h1, h2⟩ := h
    unfold VR at h1
    subst h1
    rw [VRs.blsV h2]; rfl
def gAll (ds : List D) (A : AH) : Res D := match ds with
  | [d] => match (asQ A d).bind dbls with
    | some bs => .ok (.bl (bs.all id)) A
    | none => .stuck
  | _ => .stuck
def gAny (ds : List D) (A : AH) : Res D := match ds with
  | [d] => match (asQ A d).bind dbls with
    | some bs => .ok (.bl (bs.any id)) A
    | none => .stuck
  | _ => .stuck
theorem bls_at {γ : Gh} {A : AH} {H : Hp} {d : D} {v : V} {bs : List Bool} (R : Rel G γ A H) (h : VR G γ H d v) (e : (asQ A d).bind dbls = some bs) : ∃ a, v = .ref a ∧ SqL G.K H a (bs.map V.bl) := by
  obtain ⟨xs, e1, e2⟩ := Option.bind_eq_some_iff.mp e
  obtain ⟨a, us, rfl, rv, hq⟩ := asQ_at R h e1
  rw [dbls_map e2] at rv
  rw [VRs.blsV rv] at hq
  exact ⟨a, rfl, hq⟩
theorem XO.all (o : XO X G W k) : CB X G (.builtin "all") gAll := by
  refine ⟨_, cr_all o.calm, fun γ A H ds vs Q Wx R r h => ?_⟩
  unfold gAll at h
  split at h
  · obtain ⟨v, rfl, r1⟩ := r.one
    split at h
    · rename_i bs e
      obtain ⟨a, rfl, hq⟩ := bls_at R r1 e
      rw [o.gk] at hq
      exact ⟨a, bs, rfl, hq, ok_here R (by unfold VR; rfl) h⟩
    · exact h.elim
  · exact h.elim
theorem XO.any (o : XO X G W k) : CB X G (.builtin "any") gAny := by
  refine ⟨_, cr_any o.calm, fun γ A H ds vs Q Wx R r h => ?_⟩
  unfold gAny at h
  split at h
  · obtain ⟨v, rfl, r1⟩ := r.one
    split at h
    · rename_i bs e
      obtain ⟨a, rfl, hq⟩ := bls_at R r1 e
      rw [o.gk] at hq
      exact ⟨a, bs, rfl, hq, ok_here R (by unfold VR; rfl) h⟩
    · exact h.elim
  · exact h.elim
def gAbs (ds : List D) (A : AH) : Res D := match ds with
  | [.int i] => .ok (.int (if i < 0 then -i else i)) A
  | _ => .stuck
theorem cb_abs : CB X G (.builtin "abs") gAbs := by
  refine ⟨_, call_abs, fun γ A H ds vs Q Wx R r h => ?_⟩
  unfold gAbs at h
  split at h
  · obtain ⟨v, rfl, r1⟩ := r.one
    unfold VR at r1; subst r1
    exact ⟨_, rfl, ok_here R (by unfold VR; rfl) h⟩
  · exact h.elim
def gMax2 (ds : List D) (A : AH) : Res D := match ds with
  | [.int i, .int j] => .ok (.int (if j > i then j else i)) A
  | _ => .stuck
def gMin2 (ds : List D) (A : AH) : Res D := match ds with
  | [.int i, .int j] => .ok (.int (if j < i then j else i)) A
  | _ => .stuck
theorem XO.max2 (o : XO X G W k) : CB X G (.builtin "max") gMax2 := by
  refine ⟨_, call_max2 o.calm, fun γ A H ds vs Q Wx R r h => ?_⟩
  unfold gMax2 at h
  split at h
  · obtain ⟨v, w, rfl, r1, r2⟩ := r.two
    unfold VR at r1 r2; subst r1; subst r2
    exact ⟨_, _, rfl, ok_here R (by unfold VR; rfl) h⟩
  · exact h.elim
theorem XO.min2 (o : XO X G W k) : CB X G (.builtin "min") gMin2 := by
  refine ⟨_, call_min2 o.calm, fun γ A H ds vs Q Wx R r h => ?_⟩
  unfold gMin2 at h
  split at h
  · obtain ⟨v, w, rfl, r1, r2⟩ := r.two
    unfold VR at r1 r2; subst r1; subst r2
    exact ⟨_, _, rfl, ok_here R (by unfold VR; rfl) h⟩
  · exact h.elim
def gInt (ds : List D) (A : AH) : Res D := match ds with
  | [.int i] => .ok (.int i) A
  | [.bl b] => .ok (.int (if b = true then 1 else 0)) A
  | [.str a] => match PySem.intText? a with
    | some n => if a.length ≤ 640 then .ok (.int n) A else .stuck
    | none => .stuck
  | _ => .stuck
theorem cb_int : CB X G (.type "int") gInt := by
  refine ⟨_, CallR.or call_int1 call_int_str, fun γ A H ds vs Q Wx R r h => ?_⟩
  unfold gInt at h
  split at h
  · obtain ⟨v, rfl, r1⟩ := r.one
    unfold VR at r1; subst r1
    exact .inl (.inl ⟨_, rfl, ok_here R (by unfold VR; rfl) h⟩)
  · obtain ⟨v, rfl, r1⟩ := r.one
    unfold VR at r1; subst r1
    exact .inl (.inr ⟨_, rfl, ok_here R (by unfold VR; rfl) h⟩)
  · obtain ⟨v, rfl, r1⟩ := r.one
    unfold VR at r1; subst r1
    split at h
    · rename_i n e
      split at h
      · rename_i hz
        exact .inr ⟨_, n, rfl, e, hz, ok_here R (by unfold VR; rfl) h⟩
      · exact h.elim
    · exact h.elim
  · exact h.elim
def gStr (ds : List D) (A : AH) : Res D := match ds with
  | [.int i] => if i.natAbs.log2 < 1920 then .ok (.str (toString i)) A else .stuck
  | [.str a] => .ok (.str a) A
  | _ => .stuck
theorem cb_str : CB X G (.type "str") gStr := by
  refine ⟨_, CallR.or call_str_int SkE.call_str_str, fun γ A H ds vs Q Wx R r h => ?_⟩
  unfold gStr at h
  split at h
  · obtain ⟨v, rfl, r1⟩ := r.one
    unfold VR at r1; subst r1
    split at h
    · rename_i hz
      exact .inl ⟨_, rfl, hz, ok_here R (by unfold VR; rfl) h⟩
    · exact h.elim
  · obtain ⟨v, rfl, r1⟩ := r.one
    unfold VR at r1; subst r1
    exact .inr ⟨_, rfl, ok_here R (by unfold VR; rfl) h⟩
  · exact h.elim
/-- tuple(x), list(x) -/
def gTuple (ds : List D) (A : AH) : Res D := match ds with
  | [.tup xs] => .ok (.tup xs) A
  | [d] => match asQ A d with
    | some xs => .ok (.tup xs) A
    | none => .stuck
  | _ => .stuck
theorem XO.tuple (o : XO X G W k) : CB X G (.type "tuple") gTuple := by
  refine ⟨_, call_tuple_of, fun γ A H ds vs Q Wx R r h => ?_⟩
  unfold gTuple at h
  rw [← o.gk]
  split at h
  · obtain ⟨v, rfl, r1⟩ := r.one
    have r2 := r1
    unfold VR at r1
    obtain ⟨a, us, rfl, f, rv⟩ := r1
    exact ⟨a, us, rfl, .inr ⟨f.sq, ok_here R r2 h⟩⟩
  · obtain ⟨v, rfl, r1⟩ := r.one
    split at h
    · rename_i xs e
      obtain ⟨a, us, rfl, rv, hq⟩ := asQ_at R r1 e
      exact ⟨a, us, rfl, .inl ⟨hq, fun q hq => Post.new (ob := .tup _) R hq h _ (VR.newT R hq rv)⟩⟩
    · exact h.elim
  · exact h.elim
def gList (ds : List D) (A : AH) : Res D := match ds with
  | [d] => match asL A d with
    | some xs => .ok (.lst xs) A
    | none => .stuck
  | _ => .stuck
/-- repr -/
def reprP (A : AH) (x : D) : Option Str := match toP (topD A x) with
  | some d => if d.showable && !d.hasDict && decide (d.depth ≤ 60) && decide (d.shown.length ≤ sizeLine) then some d.shown else none
  | none => none
def gRepr (ds : List D) (A : AH) : Res D := match ds with
  | [d] => match reprP A d with
    | some z => .ok (.str z) A
    | none => .stuck
  | _ => .stuck
def rRepr (K : PySem.W.Frag) : List V → Hp → VK → Prop := fun vs H Q => ∃ x d, vs = [x] ∧ Dp K H x d ∧ d.showable = true ∧ d.hasDict = false ∧ d.depth ≤ 60 ∧ d.shown.length ≤ sizeLine ∧ Q (.str d.shown) H
theorem call_repr (o : XO X G W k) : CallR X (.builtin "repr") (rRepr X.K) := by
  rintro pins s σ H xs us Q I r ⟨x, d, rfl, hd, h1, h2, h3, h4, q⟩
  obtain ⟨u, rfl, ru⟩ := r.one
  have hu := o.u65
  have ref : ∀ a, x = .ref a → wpAny (model X.prog X.w) X.A (call (.builtin "repr") [u]) (EP X pins σ Q) X.xe s := fun a e => by
    subst e
    obtain ⟨as, rd⟩ := Dp.reads I d _ u hd ru
    obtain rfl : u = Value.ref a := ru
    exact repr_of_reads' rd h1 (PyData.noDict_hsm h2) o.gd (by omega) (fun _ _ e => e) (fun h' u tk hk => ⟨.str d.shown, H, I.kept hk, ⟨_, rfl⟩, q⟩) h4
  cases hd with
  | non => cases ru; exact P.repr_of_none ⟨.str _, H, I.tok _, ⟨_, rfl⟩, by simpa only [PyData.shown] using q⟩
  | bl b => cases ru; exact P.repr_of_bool ⟨.str _, H, I.tok _, ⟨_, rfl⟩, by simpa only [PyData.shown] using q⟩
  | int i =>
    obtain ⟨t, rfl⟩ := ru
    have h1' : i.natAbs.log2 < 1920 := by unfold PyData.showable at h1; exact of_decide_eq_true h1
    exact P.repr_of_int h1' ⟨.str _, H, I.tok _, ⟨_, rfl⟩, by simpa only [PyData.shown] using q⟩
  | str z =>
    obtain ⟨t, rfl⟩ := ru
    exact P.repr_of_str ⟨.str _, H, I.tok _, ⟨_, rfl⟩, by simpa only [PyData.shown] using q⟩ (by simpa only [PyData.shown] using h4)
  | lst _ _ => exact ref _ rfl
  | tup _ _ => exact ref _ rfl
theorem XO.repr (o : XO X G W k) : CB X G (.builtin "repr") gRepr := by
  refine ⟨_, call_repr o, fun γ A H ds vs Q Wx R r h => ?_⟩
  unfold gRepr at h
  split at h
  · obtain ⟨v, rfl, r1⟩ := r.one
    split at h
    · rename_i z e
      unfold reprP at e
      split at e
      · rename_i d e1
        split at e
        · rename_i hs
          simp only [Bool.and_eq_true, Bool.not_eq_true', decide_eq_true_eq] at hs
          cases e
          exact ⟨v, d, rfl, o.gk ▸ r1.dpA R e1, hs.1.1.1, hs.1.1.2, hs.1.2, hs.2, ok_here R (by unfold VR; rfl) h⟩
        · cases e
      · cases e
    · exact h.elim
  · exact h.elim
/-! ### methods of texts -/
def dstrs : List D → Option (List Str)
  | [] => some []
  | .str i :: ds => (dstrs ds).map (i :: ·)
  | _ :: _ => none
theorem dstrs_map : ∀ {ds : List D} {ns : List Str}, dstrs ds = some ns → ds = ns.map D.str
  | [], ns, e => by unfold dstrs at e; cases e; rfl
  | d :: ds, ns, e => by
    cases d with
    | str i =>
      unfold dstrs at e
      obtain ⟨ms, e1, rfl⟩ := Option.map_eq_some_iff.mp e
      rw [dstrs_map e1]; rfl
    | _ => unfold dstrs at e; cases e
theorem VRs.strsV {γ : Gh} {H : Hp} : ∀ {ns : List Str} {vs : List V}, VRs G γ H (ns.map D.str) vs → vs = ns.map V.str
  | [], vs, h => by simp only [List.map_nil] at h; unfold VRs at h; exact h
  | n :: ns, vs, h => by
    simp only [List.map_cons] at h
    unfold VRs at h
    obtain ⟨v, r, rfl, h1, h2⟩ := h
    unfold VR at h1
    subst h1
    rw [VRs.strsV h2]; rfl
/-- what a method of texts is called on: evaluated first, a text -/
def sM1 (g : Str → D → AH → Res D) (fa fb : Ev → AH → Res D) : Ev → AH → Res D := fun env A => (fa env A).bind fun x A1 => match x with
  | .str a => (fb env A1).bind fun y A2 => g a y A2
  | _ => .stuck
def mSplit (a : Str) (y : D) (A : AH) : Res D := match y with
  | .str b => if (b.length == 0) = false ∧ a.length + 2 ≤ sizeLine then .ok (.lst ((Txt.split a b).map .str)) A else .stuck
  | _ => .stuck
def mJoin (a : Str) (y : D) (A : AH) : Res D := match (asL A y).bind dstrs with
  | some ys => if (ys.map (·.length)).sum + ys.length * a.length ≤ 16777216 then .ok (.str (Txt.join a ys)) A else .stuck
  | none => .stuck
theorem je_split {a b : Expr} {apos pos : Pos} {fa fb : Ev → AH → Res D} (ha : JE X G W a fa) (hb : JE X G W b fb) (hs : starEach [b] X.env = [(false, eval b X.env)] := by rfl) (hbase : attributeBase a "split" X.env (eval a X.env) = eval a X.env := by rfl)
    (hline : (apos.endLine == pos.line) = true := by rfl) : JE X G W (.Call (.Attribute a "split" apos) [b] [] pos) (sM1 mSplit fa fb) := by
  refine ⟨PE.imp (pe_split ha.run hb.run hs hbase hline) fun σ H Q h => ?_⟩
  obtain ⟨γ, A, env, S, h⟩ := h
  refine ⟨γ, A, env, S, Post.bind h fun x A1 γ1 H1 e1 R1 h1 v r1 => ?_⟩
  split at h1
  · rename_i z
    unfold VR at r1; subst r1
    refine ⟨⟨z, rfl⟩, γ1, A1, env, S.to e1 R1, Post.bind h1 fun y A2 γ2 H2 e2 R2 h2 w r2 => ?_⟩
    unfold mSplit at h2
    split at h2
    · rename_i b
      split at h2
      · rename_i hz
        unfold VR at r2; subst r2
        refine ⟨z, b, rfl, rfl, hz.1, hz.2, fun p hp => Post.new (ob := .lst _) R2 hp h2 _ (VR.newL R2 hp (VRs.strs _))⟩
      · exact h2.elim
    · exact h2.elim
  · exact h1.elim
theorem je_join (o : XO X G W k) {a b : Expr} {apos pos : Pos} {fa fb : Ev → AH → Res D} (ha : JE X G W a fa) (hb : JE X G W b fb) (hs : starEach [b] X.env = [(false, eval b X.env)] := by rfl) (hbase : attributeBase a "join" X.env (eval a X.env) = eval a X.env := by rfl)
    (hline : (apos.endLine == pos.line) = true := by rfl) : JE X G W (.Call (.Attribute a "join" apos) [b] [] pos) (sM1 mJoin fa fb) := by
  refine ⟨PE.imp (pe_join ha.run hb.run hs hbase hline) fun σ H Q h => ?_⟩
  obtain ⟨γ, A, env, S, h⟩ := h
  refine ⟨γ, A, env, S, Post.bind h fun x A1 γ1 H1 e1 R1 h1 v r1 => ?_⟩
  split at h1
  · rename_i z
    unfold VR at r1; subst r1
    refine ⟨⟨z, rfl⟩, γ1, A1, env, S.to e1 R1, Post.bind h1 fun y A2 γ2 H2 e2 R2 h2 w r2 => ?_⟩
    unfold mJoin at h2
    split at h2
    · rename_i ys e
      split at h2
      · rename_i hz
        obtain ⟨xs, e3, e4⟩ := Option.bind_eq_some_iff.mp e
        obtain ⟨p, us, rfl, rv, hq⟩ := asL_at R2 r2 e3
        rw [dstrs_map e4] at rv
        rw [VRs.strsV rv, o.gk] at hq
        exact ⟨z, p, ys, rfl, rfl, hq, hz, ok_here R2 (by unfold VR; rfl) h2⟩
      · exact h2.elim
    · exact h2.elim
  · exact h1.elim
/-! ### f-strings -/
def sFmt (f : Ev → AH → Res D) : Ev → AH → Res D := fun env A => (f env A).bind fun d A1 => match d with
  | .str y => if y.length ≤ sizeLine then .ok (.str y) A1 else .stuck
  | .int i => if i.natAbs.log2 < 1920 then .ok (.str (toString i)) A1 else .stuck
  | _ => .stuck
theorem je_fmt {e : Expr} {pos : Pos} {f : Ev → AH → Res D} (h : JE X G W e f) : JE X G W (.FormattedValue e (-1) none pos) (sFmt f) := by
  refine ⟨PE.imp (pe_fmt h.run) fun σ H Q h => ?_⟩
  obtain ⟨γ, A, env, S, h⟩ := h
  refine ⟨γ, A, env, S, Post.bind h fun x A1 γ1 H1 e1 R1 h1 v r1 => ?_⟩
  split at h1
  · split at h1
    · rename_i hz
      unfold VR at r1; subst r1
      exact .inl ⟨_, rfl, hz, ok_here R1 (by unfold VR; rfl) h1⟩
    · exact h1.elim
  · split at h1
    · rename_i hz
      unfold VR at r1; subst r1
      exact .inr ⟨_, rfl, hz, ok_here R1 (by unfold VR; rfl) h1⟩
    · exact h1.elim
  · exact h1.elim
def fsL : List (Ev → AH → Res D) → Str → Ev → AH → Res D
  | [], acc, _, A => .ok (.str acc) A
  | f :: fs, acc, env, A => (f env A).bind fun d A1 => match d with
    | .str y => if (acc ++ y).length ≤ sizeLine then fsL fs (acc ++ y) env A1 else .stuck
    | _ => .stuck
inductive JJ (X : Cx) (G : Gc) (W : WX) : List Expr → List (Ev → AH → Res D) → Prop where
  | nil : JJ X G W [] []
  | cons {e : Expr} {f : Ev → AH → Res D} {es : List Expr} {fs : List (Ev → AH → Res D)} (h : JE X G W e f) (r : JJ X G W es fs) : JJ X G W (e :: es) (f :: fs)
theorem JJ.pj {es : List Expr} {fs : List (Ev → AH → Res D)} (h : JJ X G W es fs) : PJ X es (fs.map (tE G W)) := by
  induction h with
  | nil => exact .nil
  | cons h r ih => exact .cons h.run ih
theorem fsL_of {σ : L2.St} {Q : VK} : ∀ (fs : List (Ev → AH → Res D)) (acc : Str) (γ : Gh) (A : AH) (env : Ev) (H : Hp), St3 G γ A env H σ → Post G γ H (fsL fs acc env A) (fun γ' _ H' d => ∀ v, VR G γ' H' d v → Q v H') (fun c a H' => W c a σ H') →
    tJs (fs.map (tE G W)) acc σ H fun out H1 => Q (.str out) H1
  | [], acc, γ, A, env, H, S, h => ok_here S.rel (by unfold VR; rfl) h
  | f :: fs, acc, γ, A, env, H, S, h => by
    unfold fsL at h
    refine ⟨γ, A, env, S, Post.bind h fun x A1 γ1 H1 e1 R1 h1 v r1 => ?_⟩
    split at h1
    · rename_i y
      split at h1
      · rename_i hz
        unfold VR at r1; subst r1
        exact ⟨y, rfl, hz, fsL_of fs (acc ++ y) γ1 A1 env H1 (S.to e1 R1) h1⟩
      · exact h1.elim
    · exact h1.elim
theorem je_joined {v1 v2 : Expr} {rest : List Expr} {fs : List (Ev → AH → Res D)} {pos : Pos} (h : JJ X G W (v1 :: v2 :: rest) fs) : JE X G W (.JoinedStr (v1 :: v2 :: rest) pos) (fsL fs Str.empty) := by
  refine ⟨PE.imp (pe_joined h.pj) fun σ H Q h => ?_⟩
  obtain ⟨γ, A, env, S, h⟩ := h
  exact fsL_of fs Str.empty γ A env H S h
/-! ### what is walked -/
def iOf (f : Ev → AH → Res D) : Ev → AH → Res (List D) := fun env A => (f env A).bind fun d A1 => match d with
  | .tup ds => .ok ds A1
  | .lst ds => .ok ds A1
  | .str z => .ok (z.cps.toList.map fun c => .str ⟨#[c]⟩) A1
  | _ => .stuck
theorem PI.or {tg e : Expr} {t t' : TI} (h : PI X tg e t) (h' : PI X tg e t') : PI X tg e (fun σ H R => t σ H R ∨ t' σ H R) := ⟨fun pins s σ H R I z => z.elim (fun z => h.run pins s σ H R I z) fun z => h'.run pins s σ H R I z⟩
theorem yl_list {γ : Gh} {H : Hp} {a : Addr} {ds : List D} {vs : List V} (h : H a = some (.lst vs)) (n : γ.o a = none) (r : VRs G γ H ds vs) (K : PySem.W.Frag) : Yl G γ H (Itl K a) ds := by
  intro i γ' H' A e R
  obtain ⟨h', n'⟩ := e.keep a _ h n (fun _ z => nomatch z)
  refine ⟨fun d q => ?_, fun q => ⟨vs, SqL.of h', by rw [← r.length]; exact q⟩⟩
  obtain ⟨v, e1, rv⟩ := r.get q
  refine ⟨⟨vs, v, SqL.of h', e1⟩, fun x H2 hy => ?_⟩
  obtain ⟨rfl, hx⟩ := hy
  have := hx vs (SqL.of h')
  rw [e1] at this
  cases this
  exact ⟨Ext.refl _ _, R, VR.ext0 e _ _ rv⟩
end
end F3
namespace F3
open PySem PySem.Spec
open PyProof.Rows L2
section
variable {X : Cx} {G : Gc} {W : WX} {k : Nat}
theorem yl_tup {γ : Gh} {H : Hp} {a : Addr} {ds : List D} {vs : List V} (f : FxT G γ H a vs) (r : VRs G γ H ds vs) : Yl G γ H (Itt G.K a) ds := by
  intro i γ' H' A e R
  have f' := e.fxT f
  refine ⟨fun d q => ?_, fun q => ⟨vs, f'.sq, by rw [← r.length]; exact q⟩⟩
  obtain ⟨v, e1, rv⟩ := r.get q
  refine ⟨⟨vs, v, f'.sq, e1⟩, fun x H2 hy => ?_⟩
  obtain ⟨rfl, hx⟩ := hy
  have := hx vs f'.sq
  rw [e1] at this
  cases this
  exact ⟨Ext.refl _ _, R, VR.ext0 e _ _ rv⟩
theorem yl_str {γ : Gh} {H : Hp} (z : Str) : Yl G γ H (Its z) (z.cps.toList.map fun c => .str ⟨#[c]⟩) := by
  intro i γ' H' A e R
  refine ⟨fun d q => ?_, fun q => (by simpa using q : z.cps.size ≤ i)⟩
  rw [List.getElem?_map] at q
  obtain ⟨c, q1, rfl⟩ := Option.map_eq_some_iff.mp q
  have q2 : z.cps[i]? = some c := by simpa using q1
  refine ⟨(Array.getElem?_eq_some_iff.mp q2).1, fun x H2 hy => ?_⟩
  obtain ⟨rfl, c', e1, rfl⟩ := hy
  rw [q2] at e1; cases e1
  exact ⟨Ext.refl _ _, R, by unfold VR; rfl⟩
theorem ji_of (o : XO X G W k) {tg e : Expr} {f : Ev → AH → Res D} (h : JE X G W e f) : JI X G W tg e (iOf f) := by
  refine ⟨PI.imp (PI.or (PI.or (pi_list h.run) (pi_tup h.run)) (pi_str h.run)) fun σ H R hw => ?_⟩
  obtain ⟨γ, A, env, S, hw⟩ := hw
  unfold iOf at hw
  cases q : f env A with
  | ex x A1 =>
    rw [q] at hw
    exact .inl (.inl ⟨γ, A, env, S, by rw [q]; exact hw⟩)
  | stuck => rw [q] at hw; exact hw.elim
  | ok d A1 =>
    rw [q] at hw
    cases d with
    | tup ds =>
      refine .inl (.inr ⟨γ, A, env, S, ?_⟩)
      rw [q]
      intro γ1 H1 e1 R1 v r1
      unfold VR at r1
      obtain ⟨a, vs, rfl, f, rv⟩ := r1
      exact ⟨a, rfl, ⟨vs, o.gk ▸ f.sq⟩, hw γ1 H1 e1 R1 _ (o.gk ▸ yl_tup f rv)⟩
    | lst ds =>
      refine .inl (.inl ⟨γ, A, env, S, ?_⟩)
      rw [q]
      intro γ1 H1 e1 R1 v r1
      unfold VR at r1
      obtain ⟨a, vs, rfl, f, n, rv⟩ := r1
      exact ⟨a, rfl, ⟨vs, SqL.of f⟩, hw γ1 H1 e1 R1 _ (yl_list f n rv X.K)⟩
    | str z =>
      refine .inr ⟨γ, A, env, S, ?_⟩
      rw [q]
      intro γ1 H1 e1 R1 v r1
      unfold VR at r1
      exact ⟨z, r1, hw γ1 H1 e1 R1 _ (yl_str z)⟩
    | _ => exact hw.elim
/-- range -/
def rngL (lo c : Int) : Nat → List D
  | 0 => []
  | n + 1 => .int lo :: rngL (lo + c) c n
theorem rngL_get (c : Int) : ∀ (n : Nat) (lo : Int) (i : Nat), (rngL lo c n)[i]? = if i < n then some (.int (lo + i * c)) else none
  | 0, lo, i => by simp [rngL]
  | n + 1, lo, 0 => by simp [rngL]
  | n + 1, lo, i + 1 => by
    have ih := rngL_get c n (lo + c) i
    simp only [rngL, List.getElem?_cons_succ, ih, Nat.add_lt_add_iff_right]
    split
    · congr 2
      rw [Int.natCast_add, Int.add_mul]
      omega
    · rfl
theorem rngL_length (c : Int) : ∀ (n : Nat) (lo : Int), (rngL lo c n).length = n
  | 0, _ => rfl
  | n + 1, lo => by simp [rngL, rngL_length c n]
theorem yl_rng {γ : Gh} {H : Hp} (lo : Int) (n : Nat) : Yl G γ H (Itr lo n) (rngL lo 1 n) := by
  intro i γ' H' A e R
  refine ⟨fun d q => ?_, fun q => by rw [rngL_length] at q; exact q⟩
  rw [rngL_get] at q
  split at q
  · rename_i hi
    cases q
    refine ⟨hi, fun x H2 hy => ?_⟩
    obtain ⟨rfl, rfl⟩ := hy
    exact ⟨Ext.refl _ _, R, by unfold VR; rw [Int.mul_one]⟩
  · cases q
def iRange1 (f : Ev → AH → Res (List D)) : Ev → AH → Res (List D) := fun env A => (f env A).bind fun ds A1 => match ds with
  | [.int j] => if j.natAbs < 2 ^ 62 then .ok (rngL 0 1 j.toNat) A1 else .stuck
  | _ => .stuck
def iRange2 (f : Ev → AH → Res (List D)) : Ev → AH → Res (List D) := fun env A => (f env A).bind fun ds A1 => match ds with
  | [.int i, .int j] => if i.natAbs < 2 ^ 62 ∧ j.natAbs < 2 ^ 62 then .ok (rngL i 1 (j - i).toNat) A1 else .stuck
  | _ => .stuck
theorem ji_range1 {tg a : Expr} {p pos : Pos} {f : Ev → AH → Res (List D)} (hg : Gl X "range") (hm : X.mg "range" = none) (ha : JA X G W [a] f) (hs : starEach [a] X.env = [(false, eval a X.env)] := by rfl) : JI X G W tg (.Call (.Name "range" p) [a] [] pos) (iRange1 f) := by
  refine ⟨PI.imp (pi_range1 hg hm ha.run hs) fun σ H R hw => ?_⟩
  obtain ⟨γ, A, env, S, hw⟩ := hw
  refine ⟨γ, A, env, S, Post.bind hw fun ds A1 γ1 H1 e1 R1 h1 vs r1 => ?_⟩
  split at h1
  · obtain ⟨v, rfl, r2⟩ := r1.one
    split at h1
    · rename_i hz
      unfold VR at r2; subst r2
      exact ⟨_, rfl, by omega, by omega, h1 γ1 H1 (Ext.refl _ _) R1 _ (yl_rng 0 _)⟩
    · exact h1.elim
  · exact h1.elim
theorem ji_range2 {tg a b : Expr} {p pos : Pos} {f : Ev → AH → Res (List D)} (hg : Gl X "range") (hm : X.mg "range" = none) (ha : JA X G W [a, b] f) (hs : starEach [a, b] X.env = [(false, eval a X.env), (false, eval b X.env)] := by rfl) (hs2 : starEach [b] X.env = [(false, eval b X.env)] := by rfl) :
    JI X G W tg (.Call (.Name "range" p) [a, b] [] pos) (iRange2 f) := by
  refine ⟨PI.imp (pi_range2 hg hm ha.run hs hs2) fun σ H R hw => ?_⟩
  obtain ⟨γ, A, env, S, hw⟩ := hw
  refine ⟨γ, A, env, S, Post.bind hw fun ds A1 γ1 H1 e1 R1 h1 vs r1 => ?_⟩
  split at h1
  · obtain ⟨v, w, rfl, r2, r3⟩ := r1.two
    split at h1
    · rename_i hz
      unfold VR at r2 r3; subst r2; subst r3
      exact ⟨_, _, rfl, ⟨by omega, by omega, by omega, by omega⟩, h1 γ1 H1 (Ext.refl _ _) R1 _ (yl_rng _ _)⟩
    · exact h1.elim
  · exact h1.elim
/-- zip -/
def zipD : List D → List D → List D
  | x :: xs, y :: ys => .tup [x, y] :: zipD xs ys
  | _, _ => []
theorem zipD_get : ∀ (xs ys : List D) (i : Nat) (d : D), (zipD xs ys)[i]? = some d → ∃ x y, xs[i]? = some x ∧ ys[i]? = some y ∧ d = .tup [x, y]
  | [], ys, i, d, h => by simp [zipD] at h
  | x :: xs, [], i, d, h => by simp [zipD] at h
  | x :: xs, y :: ys, 0, d, h => by simp [zipD] at h; exact ⟨x, y, rfl, rfl, h.symm⟩
  | x :: xs, y :: ys, i + 1, d, h => by
    simp [zipD] at h
    obtain ⟨a, b, h1, h2, h3⟩ := zipD_get xs ys i d h
    exact ⟨a, b, by simpa using h1, by simpa using h2, h3⟩
theorem zipD_length : ∀ (xs ys : List D), (zipD xs ys).length = min xs.length ys.length
  | [], ys => by simp [zipD]
  | x :: xs, [] => by simp [zipD]
  | x :: xs, y :: ys => by simp [zipD, zipD_length xs ys]
theorem new_pair {γ : Gh} {A : AH} {H : Hp} {T : Addr} {d e : D} {v w : V} (R : Rel G γ A H) (hT : H T = none) (h1 : VR G γ H d v) (h2 : VR G γ H e w) : Ext γ H γ (upd H T (.tup [v, w])) ∧ Rel G γ A (upd H T (.tup [v, w])) ∧ VR G γ (upd H T (.tup [v, w])) (.tup [d, e]) (.ref T) :=
  ⟨Ext.laid hT, R.laid hT, VR.newT R hT (VRs.cons h1 (VRs.cons h2 VRs.nil))⟩
theorem yl_zipL {γ : Gh} {H : Hp} {a b : Addr} {ds es : List D} {vs ws : List V} (h : H a = some (.lst vs)) (n : γ.o a = none) (r : VRs G γ H ds vs) (h' : H b = some (.lst ws)) (n' : γ.o b = none) (r' : VRs G γ H es ws) (K : PySem.W.Frag) : Yl G γ H (Itz K a b) (zipD ds es) := by
  intro i γ' H' A e R
  obtain ⟨q, _⟩ := e.keep a _ h n (fun _ z => nomatch z)
  obtain ⟨q', _⟩ := e.keep b _ h' n' (fun _ z => nomatch z)
  refine ⟨fun d z => ?_, fun z => ⟨vs, ws, SqL.of q, SqL.of q', by rw [zipD_length] at z; rw [← r.length, ← r'.length]; omega⟩⟩
  obtain ⟨x, y, z1, z2, rfl⟩ := zipD_get _ _ _ _ z
  obtain ⟨v, e1, rv⟩ := r.get z1
  obtain ⟨w, e2, rw'⟩ := r'.get z2
  refine ⟨⟨vs, ws, v, w, SqL.of q, SqL.of q', e1, e2⟩, fun u H2 hy => ?_⟩
  obtain ⟨T, x', y', rfl, hT, rfl, hx, hy⟩ := hy
  have k1 := hx vs (SqL.of q)
  have k2 := hy ws (SqL.of q')
  rw [e1] at k1; cases k1
  rw [e2] at k2; cases k2
  exact new_pair R hT (VR.ext0 e _ _ rv) (VR.ext0 e _ _ rw')
theorem yl_zipT {γ : Gh} {H : Hp} {a b : Addr} {ds es : List D} {vs ws : List V} (f : FxT G γ H a vs) (r : VRs G γ H ds vs) (f' : FxT G γ H b ws) (r' : VRs G γ H es ws) : Yl G γ H (RZ.ItzT G.K a b) (zipD ds es) := by
  intro i γ' H' A e R
  have q := (e.fxT f).sq
  have q' := (e.fxT f').sq
  refine ⟨fun d z => ?_, fun z => ⟨vs, ws, q, q', by rw [zipD_length] at z; rw [← r.length, ← r'.length]; omega⟩⟩
  obtain ⟨x, y, z1, z2, rfl⟩ := zipD_get _ _ _ _ z
  obtain ⟨v, e1, rv⟩ := r.get z1
  obtain ⟨w, e2, rw'⟩ := r'.get z2
  refine ⟨⟨vs, ws, v, w, q, q', e1, e2⟩, fun u H2 hy => ?_⟩
  obtain ⟨T, x', y', rfl, hT, rfl, hx, hy⟩ := hy
  have k1 := hx vs q
  have k2 := hy ws q'
  rw [e1] at k1; cases k1
  rw [e2] at k2; cases k2
  exact new_pair R hT (VR.ext0 e _ _ rv) (VR.ext0 e _ _ rw')
def iZip2 (f : Ev → AH → Res (List D)) : Ev → AH → Res (List D) := fun env A => (f env A).bind fun ds A1 => match ds with
  | [.tup xs, .tup ys] => .ok (zipD xs ys) A1
  | [.lst xs, .lst ys] => .ok (zipD xs ys) A1
  | _ => .stuck
theorem ji_zip (o : XO X G W k) {e e2 : Expr} {p pos tpos : Pos} {elts : List Expr} {kk : Nat} {f : Ev → AH → Res (List D)} (hg : Gl X "zip") (hm : X.mg "zip" = none) (ha : JA X G W [e, e2] f)
    (hs : starEach [e, e2] X.env = (false, eval e X.env) :: starEach [e2] X.env := by rfl) (hs2 : ((backTo pos (starEach [e2] X.env)).any fun x => x.fst) = false := by rfl) : JI X G W (.Tuple elts kk tpos) (.Call (.Name "zip" p) [e, e2] [] pos) (iZip2 f) := by
  refine ⟨PI.imp (RZ.pi_zipA hg hm ha.run hs hs2) fun σ H R hw => ?_⟩
  obtain ⟨γ, A, env, S, hw⟩ := hw
  refine ⟨γ, A, env, S, Post.bind hw fun ds A1 γ1 H1 e1 R1 h1 vs r1 => ?_⟩
  split at h1
  · obtain ⟨v, w, rfl, r2, r3⟩ := r1.two
    unfold VR at r2 r3
    obtain ⟨a, us, rfl, f1, q1⟩ := r2
    obtain ⟨b, ws, rfl, f2, q2⟩ := r3
    exact ⟨a, b, us, ws, rfl, .inr ⟨o.gk ▸ f1.sq, o.gk ▸ f2.sq, h1 γ1 H1 (Ext.refl _ _) R1 _ (o.gk ▸ yl_zipT f1 q1 f2 q2)⟩⟩
  · obtain ⟨v, w, rfl, r2, r3⟩ := r1.two
    unfold VR at r2 r3
    obtain ⟨a, us, rfl, f1, n1, q1⟩ := r2
    obtain ⟨b, ws, rfl, f2, n2, q2⟩ := r3
    exact ⟨a, b, us, ws, rfl, .inl ⟨SqL.of f1, SqL.of f2, h1 γ1 H1 (Ext.refl _ _) R1 _ (yl_zipL f1 n1 q1 f2 n2 q2 X.K)⟩⟩
  · exact h1.elim
/-- enumerate of a list -/
def enumD : Nat → List D → List D
  | _, [] => []
  | i, d :: ds => .tup [.int i, d] :: enumD (i + 1) ds
theorem enumD_get : ∀ (ds : List D) (n i : Nat) (d : D), (enumD n ds)[i]? = some d → ∃ x, ds[i]? = some x ∧ d = .tup [.int ((n + i : Nat) : Int), x]
  | [], n, i, d, h => by simp [enumD] at h
  | x :: xs, n, 0, d, h => by simp [enumD] at h; exact ⟨x, rfl, h.symm⟩
  | x :: xs, n, i + 1, d, h => by
    simp [enumD] at h
    obtain ⟨a, h1, h2⟩ := enumD_get xs (n + 1) i d h
    exact ⟨a, by simpa using h1, by rw [h2]; congr 3; omega⟩
theorem enumD_length : ∀ (ds : List D) (n : Nat), (enumD n ds).length = ds.length
  | [], _ => rfl
  | d :: ds, n => by simp [enumD, enumD_length ds]
theorem yl_enum {γ : Gh} {H : Hp} {a : Addr} {ds : List D} {vs : List V} (h : H a = some (.lst vs)) (n : γ.o a = none) (r : VRs G γ H ds vs) (K : PySem.W.Frag) : Yl G γ H (Ite K a) (enumD 0 ds) := by
  intro i γ' H' A e R
  obtain ⟨q, _⟩ := e.keep a _ h n (fun _ z => nomatch z)
  refine ⟨fun d z => ?_, fun z => ⟨vs, SqL.of q, by rw [enumD_length] at z; rw [← r.length]; exact z⟩⟩
  obtain ⟨x, z1, rfl⟩ := enumD_get _ _ _ _ z
  obtain ⟨v, e1, rv⟩ := r.get z1
  refine ⟨⟨vs, v, SqL.of q, e1⟩, fun u H2 hy => ?_⟩
  obtain ⟨T, x', rfl, hT, rfl, hx⟩ := hy
  have k1 := hx vs (SqL.of q)
  rw [e1] at k1; cases k1
  rw [Nat.zero_add]
  exact new_pair R hT (by unfold VR; rfl) (VR.ext0 e _ _ rv)
def iEnum1 (f : Ev → AH → Res (List D)) : Ev → AH → Res (List D) := fun env A => (f env A).bind fun ds A1 => match ds with
  | [.lst xs] => .ok (enumD 0 xs) A1
  | _ => .stuck
theorem ji_enum {e : Expr} {p pos tpos : Pos} {elts : List Expr} {kk : Nat} {f : Ev → AH → Res (List D)} (hg : Gl X "enumerate") (hm : X.mg "enumerate" = none) (ha : JA X G W [e] f) (hs : starEach [e] X.env = [(false, eval e X.env)] := by rfl) :
    JI X G W (.Tuple elts kk tpos) (.Call (.Name "enumerate" p) [e] [] pos) (iEnum1 f) := by
  refine ⟨PI.imp (pi_enum hg hm ha.run hs) fun σ H R hw => ?_⟩
  obtain ⟨γ, A, env, S, hw⟩ := hw
  refine ⟨γ, A, env, S, Post.bind hw fun ds A1 γ1 H1 e1 R1 h1 vs r1 => ?_⟩
  split at h1
  · obtain ⟨v, rfl, r2⟩ := r1.one
    unfold VR at r2
    obtain ⟨a, us, rfl, f1, n1, q1⟩ := r2
    exact ⟨a, us, rfl, SqL.of f1, h1 γ1 H1 (Ext.refl _ _) R1 _ (yl_enum f1 n1 q1 X.K)⟩
  · exact h1.elim
/-! ### lists that are changed -/
theorem put_list {γ : Gh} {A : AH} {H : Hp} {i : Nat} {v : V} {ds ds' : List D} {vs' : List V} (R : Rel G γ A H) (h : VR G γ H (.ref i) v) (e : A[i]? = some (.lst ds)) :
    ∃ a vs, v = .ref a ∧ H a = some (.lst vs) ∧ VRs G γ H ds vs ∧ (VRs G γ H ds' vs' → Ext γ H γ (upd H a (.lst vs')) ∧ Rel G γ (A.set i (.lst ds')) (upd H a (.lst vs'))) := by
  unfold VR at h
  obtain ⟨a, rfl, h1⟩ := h
  obtain ⟨a', h2, h3, vs, h4, h5⟩ := R.at_ i _ e
  rw [h1] at h2; cases h2
  refine ⟨a, vs, rfl, h4, h5, fun r => ?_⟩
  have E : Ext γ H γ (upd H a (.lst vs')) := Ext.put (i := i) fun b hb => upd_ne fun z => hb (by rw [z]; exact h3)
  refine ⟨E, R.put h1 (fun b hb => upd_ne fun z => hb (by rw [z]; exact h3)) (fun b hb => ?_) ⟨vs', upd_same, VRs.ext E _ _ r⟩⟩
  by_cases z : b = a
  · subst z; rw [upd_same]; exact (fun q => nomatch q)
  · rw [upd_ne z]; exact (R.dom b _ hb).1
/-- xs.append(e) -/
def sAppend (fa fb : Ev → AH → Res D) : Ev → AH → Res D := fun env A => (fa env A).bind fun x A1 => match x with
  | .ref i => match A1[i]? with
    | some (.lst _) => (fb env A1).bind fun d A2 => match A2[i]? with
      | some (.lst ds) => if ds.length < sizeLine then .ok .non (A2.set i (.lst (ds ++ [d]))) else .stuck
      | _ => .stuck
    | _ => .stuck
  | _ => .stuck
theorem je_append (o : XO X G W k) {a b : Expr} {apos cpos : Pos} {fa fb : Ev → AH → Res D} (ha : JE X G W a fa) (hb : JE X G W b fb) (hbase : attributeBase a "append" X.env (eval a X.env) = eval a X.env := by rfl)
    (hfew : ((backTo cpos (starEach [b] X.env)).all (fun x => !x.1) && (backToKw cpos (keywordEach [] X.env)).all (fun x => x.1.isSome)
      && decide ([b].length + ([] : List Keyword).length + (if ([] : List Keyword).isEmpty then 0 else 1) < 30)) = true := by rfl)
    (hline : (apos.endLine == cpos.line) = true := by rfl) (hs : starEach [b] X.env = (false, eval b X.env) :: starEach [] X.env := by rfl) (hplain : (backTo cpos (starEach [] X.env)).any (·.1) = false := by rfl) :
    JE X G W (.Call (.Attribute a "append" apos) [b] [] cpos) (sAppend fa fb) := by
  refine ⟨PE.imp (pe_bm F.plainAttrs_list F.slot_list_append F.type_list_append mt_append ha.run (pa_cons hb.run pa_nil hs) hbase hfew hline hs hplain) fun σ H Q h => ?_⟩
  obtain ⟨γ, A, env, S, h⟩ := h
  refine ⟨γ, A, env, S, Post.bind h fun x A1 γ1 H1 e1 R1 h1 v r1 => ?_⟩
  split at h1
  · rename_i i
    split at h1
    · rename_i ds0 q0
      obtain ⟨a0, vs0, rfl, hl0, _, _⟩ := put_list (ds' := []) (vs' := []) R1 r1 q0
      refine ⟨.inl ⟨rfl, vs0, SqL.of hl0⟩, γ1, A1, env, S.to e1 R1, Post.bind h1 fun d A2 γ2 H2 e2 R2 h2 w r2 => ?_⟩
      have r1' := VR.ext e2 _ _ r1
      split at h2
      · rename_i ds q
        split at h2
        · rename_i hz
          obtain ⟨a1, vs, e3, hl, rv, put⟩ := put_list (ds' := ds ++ [d]) (vs' := vs0) R2 r1' q
          cases e3
          obtain ⟨a2, vs2, e3, hl2, rv2, put⟩ := put_list (ds' := ds ++ [d]) (vs' := vs ++ [w]) R2 r1' q
          cases e3
          rw [hl] at hl2; cases hl2
          obtain ⟨E, R3⟩ := put (rv.append (VRs.cons r2 VRs.nil))
          exact ⟨a0, vs, w, rfl, rfl, hl, by rw [← rv.length]; exact hz, h2 γ2 _ E R3 _ (by unfold VR; rfl)⟩
        · exact h2.elim
      · exact h2.elim
    · exact h1.elim
  · exact h1.elim
/-- xs[i] = e -/
def bStore (fo fi fe : Ev → AH → Res D) : Ev → AH → SR := fun env A => lft (fe env A) env fun d A1 => lft (fo env A1) env fun x A2 => lft (fi env A2) env fun y A3 => match x, y with
  | .ref r, .int n => match A3[r]? with
    | some (.lst ds) => match ixN ds.length n with
      | some j => .nx env (A3.set r (.lst (ds.set j d)))
      | none => .stuck
    | _ => .stuck
  | _, _ => .stuck
theorem js_store {ob ix e : Expr} {pos spos : Pos} {fo fi fe : Ev → AH → Res D} (ho : JE X G W ob fo) (hi : JE X G W ix fi) (he : JE X G W e fe) (ha : ∀ v, assign (.Subscript ob ix spos) X.env v = (do
      let ov ← holding [v] (eval ob X.env)
      let iv ← holding [v, ov] (eval ix X.env)
      standAt spos
      holding [v, ov, iv] (setItem ov iv v)
      release [v, ov, iv] []) := by intro _; rfl)
    (hs : swapsWithSole [.Subscript ob ix spos] e pos.line X.env = pure false := by rfl) (hw : swappedStores [.Subscript ob ix spos] e X.env = pure none := by rfl) (h1 : (assignEach [.Subscript ob ix spos] X.env).map (·.2) = [assign (.Subscript ob ix spos) X.env] := by rfl) :
    JS X G W (.Assign [.Subscript ob ix spos] e pos) (bStore fo fi fe) := by
  refine ⟨PS.imp (ps_asg he.run (pg_sub ho.run hi.run set_list ha) hs hw h1) fun E σ H h => ?_⟩
  obtain ⟨γ, A, env, S, h⟩ := h
  refine ⟨γ, A, env, S, PostS.lft S h fun d A1 γ1 H1 e1 R1 h1 v r1 => ?_⟩
  have S1 := S.to e1 R1
  refine ⟨γ1, A1, env, S1, PostS.lft S1 h1 fun x A2 γ2 H2 e2 R2 h2 p r2 => ?_⟩
  have S2 := S1.to e2 R2
  refine ⟨γ2, A2, env, S2, PostS.lft S2 h2 fun y A3 γ3 H3 e3 R3 h3 q r3 => ?_⟩
  have S3 := S2.to e3 R3
  split at h3
  · rename_i r n
    split at h3
    · rename_i ds q1
      split at h3
      · rename_i j q2
        unfold VR at r3; subst r3
        have rv := VR.ext (e2.trans e3) _ _ r1
        obtain ⟨a0, vs, rfl, hl, rvs, _⟩ := put_list (ds' := ds) (vs' := []) R3 (VR.ext e3 _ _ r2) q1
        obtain ⟨a1, vs1, e4, hl1, rvs1, put⟩ := put_list (ds' := ds.set j d) (vs' := vs.set j v) R3 (VR.ext e3 _ _ r2) q1
        cases e4
        rw [hl] at hl1; cases hl1
        obtain ⟨E', R4⟩ := put (rvs.set rv j)
        exact ⟨a0, vs, n, j, rfl, rfl, hl, by rw [← rvs.length]; exact q2, h3 γ3 _ σ E' (S3.to E' R4)⟩
      · exact h3.elim
    · exact h3.elim
  · exact h3.elim
end
end F3
namespace F3
open PySem PySem.Spec
open PyProof.Rows L2
/-! ### behind a def: what it made is changed no more -/
def frzL (f : D → Option D) : List D → Option (List D)
  | [] => some []
  | d :: ds => match f d, frzL f ds with
    | some e, some es => some (e :: es)
    | _, _ => none
def allSome : List (Option D) → Option (List D)
  | [] => some []
  | some d :: r => (allSome r).map (d :: ·)
  | none :: _ => none
def frz (A : AH) (n : Nat) : Nat → D → Option D
  | 0, _ => none
  | k + 1, d => match d with
    | .tup ds => (frzL (frz A n k) ds).map .tup
    | .lst ds => (frzL (frz A n k) ds).map .lst
    | .scr ds => (frzL (frz A n k) ds).map .scr
    | .ins c ds => (frzL (frz A n k) ds).map (.ins c)
    | .dct ks ds => (frzL (frz A n k) ds).map (.dct ks)
    | .ref i => if i < n then some (.ref i) else match A[i]? with
      | some (.lst ds) => (frzL (frz A n k) ds).map .lst
      | some (.ins c fs) => match fs, allSome fs with
        | _ :: _, some ds => (frzL (frz A n k) ds).map (.ins c)
        | _, _ => none
      | some (.dct ks ds) => (frzL (frz A n k) ds).map (.dct ks)
      | _ => none
    | d => some d
mutual
def below (n : Nat) : D → Bool
  | .ref i => decide (i < n)
  | .tup ds => belows n ds
  | .lst ds => belows n ds
  | .scr ds => belows n ds
  | .ins _ ds => belows n ds
  | .dct _ ds => belows n ds
  | _ => true
def belows (n : Nat) : List D → Bool
  | [] => true
  | d :: ds => below n d && belows n ds
end
def belowF (n : Nat) : List (Option D) → Bool
  | [] => true
  | some d :: r => below n d && belowF n r
  | none :: r => belowF n r
def belowO (n : Nat) : AO → Bool
  | .lst ds => belows n ds
  | .ins _ fs => belowF n fs
  | .dct _ ds => belows n ds
  | .dead => true
def belowsO (n : Nat) : List AO → Bool
  | [] => true
  | o :: r => belowO n o && belowsO n r
/-- what a def hands back: its own lists laid still, its own things forgotten -/
def clean (n : Nat) (d : D) (A : AH) : Res D :=
  if A.length = n then .ok d A else
    match frz A n 30 d with
    | some d' => if belowsO n (A.take n) then .ok d' (A.take n) else .ok d A
    | none => .ok d A
def Gh.cut (γ : Gh) (n : Nat) : Gh := ⟨γ.ρ.take n, fun a => match γ.o a with
  | some (some i) => if i < n then some (some i) else none
  | x => x⟩
section
variable {G : Gc} {γ : Gh} {H : Hp} {A : AH} {n : Nat}
theorem cut_none {a : Addr} (h : γ.o a = none) : (γ.cut n).o a = none := by show (match γ.o a with | some (some i) => _ | x => x) = none; rw [h]
theorem cut_hid {a : Addr} (h : γ.o a = some none) : (γ.cut n).o a = some none := by show (match γ.o a with | some (some i) => _ | x => x) = some none; rw [h]
theorem cut_lt {a : Addr} {i : Nat} (h : γ.o a = some (some i)) (hi : i < n) : (γ.cut n).o a = some (some i) := by
  show (match γ.o a with | some (some i) => if i < n then some (some i) else none | x => x) = some (some i)
  rw [h]; exact if_pos hi
theorem cut_ge {a : Addr} {i : Nat} (h : γ.o a = some (some i)) (hi : n ≤ i) : (γ.cut n).o a = none := by
  show (match γ.o a with | some (some i) => if i < n then some (some i) else none | x => x) = none
  rw [h]; exact if_neg (by omega)
theorem cut_some {a : Addr} {x : Option Nat} (h : (γ.cut n).o a = some x) : γ.o a = some x ∧ ∀ i, x = some i → i < n := by
  cases e : γ.o a with
  | none => rw [cut_none e] at h; cases h
  | some y =>
    cases y with
    | none => rw [cut_hid e] at h; cases h; exact ⟨rfl, fun _ z => nomatch z⟩
    | some i =>
      by_cases hi : i < n
      · rw [cut_lt e hi] at h; cases h; exact ⟨rfl, fun j z => by cases z; exact hi⟩
      · rw [cut_ge e (by omega)] at h; cases h
theorem cut_fxT {a : Addr} {xs : List V} (h : FxT G γ H a xs) : FxT G (γ.cut n) H a xs := ⟨h.1, cut_none h.2⟩
theorem cut_fxL {a : Addr} {xs : List V} (h : FxL G γ H a xs) : FxL G (γ.cut n) H a xs := h.elim (fun h => .inl ⟨h.1, cut_none h.2⟩) .inr
mutual
theorem VR.below : ∀ (d : D) (v : V), VR G γ H d v → below n d = true → VR G (γ.cut n) H d v
  | .non, v, h, _ => by unfold VR at h ⊢; exact h
  | .bl b, v, h, _ => by unfold VR at h ⊢; exact h
  | .int b, v, h, _ => by unfold VR at h ⊢; exact h
  | .str b, v, h, _ => by unfold VR at h ⊢; exact h
  | .tup ds, v, h, b => by
    unfold VR at h ⊢; unfold F3.below at b
    obtain ⟨a, vs, e1, f, r⟩ := h
    exact ⟨a, vs, e1, cut_fxT f, VRs.below ds vs r b⟩
  | .lst ds, v, h, b => by
    unfold VR at h ⊢; unfold F3.below at b
    obtain ⟨a, vs, e1, f, n0, r⟩ := h
    exact ⟨a, vs, e1, f, cut_none n0, VRs.below ds vs r b⟩
  | .scr ds, v, h, b => by
    unfold VR at h ⊢; unfold F3.below at b
    obtain ⟨a, vs, e1, f, r⟩ := h
    exact ⟨a, vs, e1, cut_fxL f, VRs.below ds vs r b⟩
  | .ins c ds, v, h, b => by
    unfold VR at h ⊢; unfold F3.below at b
    obtain ⟨a, C, dx, vs, e1, n1, n2, hc, h1, h2, r⟩ := h
    exact ⟨a, C, dx, vs, e1, cut_none n1, cut_none n2, hc, h1, h2, VRs.below ds vs r b⟩
  | .dct ks ds, v, h, b => by
    unfold VR at h ⊢; unfold F3.below at b
    obtain ⟨a, e1, n1, h | h⟩ := h
    · obtain ⟨kvs, h1, hk, r⟩ := h
      exact ⟨a, e1, cut_none n1, .inl ⟨kvs, h1, hk, VRs.below ds _ r b⟩⟩
    · obtain ⟨kvs, h1, hk, r⟩ := h
      exact ⟨a, e1, cut_none n1, .inr ⟨kvs, h1, hk, VRs.below ds _ r b⟩⟩
  | .ref i, v, h, b => by
    unfold VR at h ⊢; unfold F3.below at b
    obtain ⟨a, e1, h⟩ := h
    refine ⟨a, e1, ?_⟩
    show (γ.ρ.take n)[i]? = some a
    rw [List.getElem?_take_of_lt (of_decide_eq_true b)]; exact h
theorem VRs.below : ∀ (ds : List D) (vs : List V), VRs G γ H ds vs → belows n ds = true → VRs G (γ.cut n) H ds vs
  | [], vs, h, _ => by unfold VRs at h ⊢; exact h
  | d :: ds, vs, h, b => by
    unfold VRs at h ⊢; unfold belows at b
    rw [Bool.and_eq_true] at b
    obtain ⟨v, r, e1, h1, h2⟩ := h
    exact ⟨v, r, e1, VR.below d v h1 b.1, VRs.below ds r h2 b.2⟩
end
theorem FRs.below : ∀ {fs : List (Option D)} {vs : List (Option V)}, FRs G γ H fs vs → belowF n fs = true → FRs G (γ.cut n) H fs vs
  | [], vs, h, _ => h
  | none :: fs, vs, h, b => by
    obtain ⟨vo, r, rfl, h1, h2⟩ := h
    exact ⟨vo, r, rfl, by cases vo <;> exact h1, FRs.below h2 b⟩
  | some d :: fs, vs, h, b => by
    obtain ⟨vo, r, rfl, h1, h2⟩ := h
    unfold belowF at b
    rw [Bool.and_eq_true] at b
    refine ⟨vo, r, rfl, ?_, FRs.below h2 b.2⟩
    cases vo with
    | none => exact h1
    | some v => exact VR.below d v h1 b.1
theorem belowsO_at : ∀ {l : List AO} {i : Nat} {o : AO}, belowsO n l = true → l[i]? = some o → belowO n o = true
  | [], i, o, _, e => by simp at e
  | x :: l, 0, o, b, e => by
    unfold belowsO at b; rw [Bool.and_eq_true] at b
    simp at e; subst e; exact b.1
  | x :: l, i + 1, o, b, e => by
    unfold belowsO at b; rw [Bool.and_eq_true] at b
    exact belowsO_at b.2 (by simpa using e)
theorem Rel.cut (R : Rel G γ A H) (b : belowsO n (A.take n) = true) : Rel G (γ.cut n) (A.take n) H := by
  refine ⟨by show (γ.ρ.take n).length = _; rw [List.length_take, List.length_take, R.len], fun i o e => ?_, fun a x e => ?_, fun q hq => ?_⟩
  · have hi : i < n := by
      have := (List.getElem?_eq_some_iff.mp e).1
      rw [List.length_take] at this; omega
    have bo := belowsO_at b e
    rw [List.getElem?_take_of_lt hi] at e
    obtain ⟨a, e1, e2, r⟩ := R.at_ i o e
    refine ⟨a, by show (γ.ρ.take n)[i]? = some a; rw [List.getElem?_take_of_lt hi]; exact e1, cut_lt e2 hi, ?_⟩
    cases o with
    | lst ds => obtain ⟨vs, h1, r⟩ := r; exact ⟨vs, h1, VRs.below _ _ r bo⟩
    | ins c fs =>
      obtain ⟨C, dx, vs, hc, hs, h1, hn, r⟩ := r
      exact ⟨C, dx, vs, hc, hs, cut_lt h1 hi, hn, FRs.below r bo⟩
    | dct ks ds =>
      rcases r with ⟨kvs, h1, h2, r⟩ | ⟨kvs, h1, h2, r⟩
      · exact .inl ⟨kvs, h1, h2, VRs.below _ _ r bo⟩
      · exact .inr ⟨kvs, h1, h2, VRs.below _ _ r bo⟩
    | dead => trivial
  · obtain ⟨h1, h2⟩ := cut_some e
    obtain ⟨h3, h4⟩ := R.dom a x h1
    refine ⟨h3, fun i z => ?_⟩
    have := h2 i z
    have := h4 i z
    rw [List.length_take]; omega
  · obtain ⟨n0, ps, h1, h2, h3⟩ := R.tab q hq
    refine ⟨cut_none n0, ps, h1, h2, fun pos cv hc => ?_⟩
    obtain ⟨c, c1, c2, c3⟩ := h3 pos cv hc
    exact ⟨c, c1, c2, cut_none c3⟩
theorem FRs.all : ∀ {fs : List (Option D)} {vs : List (Option V)} {ds : List D}, FRs G γ H fs vs → allSome fs = some ds → ∃ us, vs = us.map some ∧ VRs G γ H ds us
  | [], vs, ds, h, e => by unfold allSome at e; cases e; exact ⟨[], h, VRs.nil⟩
  | none :: fs, vs, ds, h, e => by unfold allSome at e; cases e
  | some d :: fs, vs, ds, h, e => by
    unfold allSome at e
    obtain ⟨es, e1, rfl⟩ := Option.map_eq_some_iff.mp e
    obtain ⟨vo, r, rfl, h1, h2⟩ := h
    obtain ⟨us, rfl, h3⟩ := FRs.all h2 e1
    cases vo with
    | none => exact h1.elim
    | some v => exact ⟨v :: us, rfl, VRs.cons h1 h3⟩
theorem frzL_of {f : D → Option D} (hf : ∀ d d' v, f d = some d' → VR G γ H d v → VR G (γ.cut n) H d' v) : ∀ {ds ds' : List D} {vs : List V}, frzL f ds = some ds' → VRs G γ H ds vs → VRs G (γ.cut n) H ds' vs
  | [], ds', vs, e, h => by unfold frzL at e; cases e; unfold VRs at h ⊢; exact h
  | d :: ds, ds', vs, e, h => by
    unfold frzL at e
    unfold VRs at h
    obtain ⟨v, r, rfl, h1, h2⟩ := h
    cases q1 : f d with
    | none => rw [q1] at e; cases e
    | some d1 =>
      cases q2 : frzL f ds with
      | none => rw [q1, q2] at e; cases e
      | some es =>
        rw [q1, q2] at e; cases e
        exact VRs.cons (hf d d1 v q1 h1) (frzL_of hf q2 h2)
theorem frz_of (R : Rel G γ A H) : ∀ (k : Nat) (d d' : D) (v : V), frz A n k d = some d' → VR G γ H d v → VR G (γ.cut n) H d' v
  | 0, d, d', v, e, h => by unfold frz at e; cases e
  | k + 1, d, d', v, e, h => by
    have ih := fun d d' v => frz_of R k d d' v
    unfold frz at e
    cases d with
    | non => cases e; unfold VR at h ⊢; exact h
    | bl _ => cases e; unfold VR at h ⊢; exact h
    | int _ => cases e; unfold VR at h ⊢; exact h
    | str _ => cases e; unfold VR at h ⊢; exact h
    | tup ds =>
      obtain ⟨es, e1, rfl⟩ := Option.map_eq_some_iff.mp e
      unfold VR at h ⊢
      obtain ⟨a, vs, e2, f, r⟩ := h
      exact ⟨a, vs, e2, cut_fxT f, frzL_of ih e1 r⟩
    | lst ds =>
      obtain ⟨es, e1, rfl⟩ := Option.map_eq_some_iff.mp e
      unfold VR at h ⊢
      obtain ⟨a, vs, e2, f, n0, r⟩ := h
      exact ⟨a, vs, e2, f, cut_none n0, frzL_of ih e1 r⟩
    | scr ds =>
      obtain ⟨es, e1, rfl⟩ := Option.map_eq_some_iff.mp e
      unfold VR at h ⊢
      obtain ⟨a, vs, e2, f, r⟩ := h
      exact ⟨a, vs, e2, cut_fxL f, frzL_of ih e1 r⟩
    | ins c ds =>
      obtain ⟨es, e1, rfl⟩ := Option.map_eq_some_iff.mp e
      unfold VR at h ⊢
      obtain ⟨a, C, dx, vs, e2, n1, n2, hc, h1, h2, r⟩ := h
      exact ⟨a, C, dx, vs, e2, cut_none n1, cut_none n2, hc, h1, h2, frzL_of ih e1 r⟩
    | dct ks ds =>
      obtain ⟨es, e1, rfl⟩ := Option.map_eq_some_iff.mp e
      unfold VR at h ⊢
      obtain ⟨a, e2, n1, h | h⟩ := h
      · obtain ⟨kvs, h1, hk, r⟩ := h
        exact ⟨a, e2, cut_none n1, .inl ⟨kvs, h1, hk, frzL_of ih e1 r⟩⟩
      · obtain ⟨kvs, h1, hk, r⟩ := h
        exact ⟨a, e2, cut_none n1, .inr ⟨kvs, h1, hk, frzL_of ih e1 r⟩⟩
    | ref i =>
      simp only at e
      unfold VR at h
      obtain ⟨a, rfl, h0⟩ := h
      split at e
      · rename_i hi
        cases e
        unfold VR
        exact ⟨a, rfl, by show (γ.ρ.take n)[i]? = some a; rw [List.getElem?_take_of_lt hi]; exact h0⟩
      · rename_i hi
        have hi : n ≤ i := by omega
        split at e
        · rename_i ds q
          obtain ⟨es, e1, rfl⟩ := Option.map_eq_some_iff.mp e
          obtain ⟨a', k1, k2, vs, k3, k4⟩ := R.at_ i _ q
          rw [h0] at k1; cases k1
          unfold VR
          exact ⟨a, vs, rfl, k3, cut_ge k2 hi, frzL_of ih e1 k4⟩
        · rename_i c fs q
          split at e
          · rename_i fo fr ds e0
            obtain ⟨es, e1, rfl⟩ := Option.map_eq_some_iff.mp e
            obtain ⟨a', k1, k2, C, dx, vs, hc, hs, k5, k6, k7⟩ := R.at_ i _ q
            rw [h0] at k1; cases k1
            obtain ⟨us, rfl, rv⟩ := FRs.all k7 e0
            unfold VR
            rcases hs with ⟨_, z⟩ | ⟨z1, z2⟩
            · exfalso
              obtain ⟨vo, r, z2, _⟩ := k7
              rw [z] at z2; cases z2
            · exact ⟨a, C, dx, us, rfl, cut_ge k2 hi, cut_ge k5 hi, hc, z1, z2, frzL_of ih e1 rv⟩
          · cases e
        · rename_i ks ds q
          obtain ⟨es, e1, rfl⟩ := Option.map_eq_some_iff.mp e
          obtain ⟨a', k1, k2, r⟩ := R.at_ i _ q
          rw [h0] at k1; cases k1
          unfold VR
          rcases r with ⟨kvs, r1, r2, r3⟩ | ⟨kvs, r1, r2, r3⟩
          · exact ⟨a, rfl, cut_ge k2 hi, .inl ⟨kvs, r1, r2, frzL_of ih e1 r3⟩⟩
          · exact ⟨a, rfl, cut_ge k2 hi, .inr ⟨kvs, r1, r2, frzL_of ih e1 r3⟩⟩
        · cases e
theorem Ext.cut {γ0 : Gh} {A0 : AH} {H0 : Hp} (R0 : Rel G γ0 A0 H0) (e : Ext γ0 H0 γ H) (hn : A0.length = n) : Ext γ0 H0 (γ.cut n) H := by
  refine ⟨⟨fun i a q => ?_, fun a ob q z t => ⟨(e.keep a ob q z t).1, cut_none (e.keep a ob q z t).2⟩⟩, fun a ob q z => ⟨(e.hid a ob q z).1, cut_hid (e.hid a ob q z).2⟩⟩
  have hi : i < n := by
    have := (List.getElem?_eq_some_iff.mp q).1
    rw [R0.len] at this; omega
  show (γ.ρ.take n)[i]? = some a
  rw [List.getElem?_take_of_lt hi]; exact e.ρ i a q
/-- the run of a def, cleaned -/
theorem Post.clean {γ0 : Gh} {A0 : AH} {H0 : Hp} {d : D} {A1 : AH} {Q : VK} {Wx : WXe} (R0 : Rel G γ0 A0 H0) (h : Post G γ0 H0 (clean A0.length d A1) (fun γ' _ H' d => ∀ v, VR G γ' H' d v → Q v H') Wx) :
    ∀ γ' H' v, Ext γ0 H0 γ' H' → Rel G γ' A1 H' → VR G γ' H' d v → Q v H' := by
  intro γ' H' v e R r
  unfold F3.clean at h
  split at h
  · exact h γ' H' e R v r
  · split at h
    · rename_i d' q
      split at h
      · rename_i b
        exact h (γ'.cut A0.length) H' (e.cut R0 rfl) (R.cut b) v (frz_of R _ _ _ _ q r)
      · exact h γ' H' e R v r
    · exact h γ' H' e R v r
theorem XR.cut (R : Rel G γ A H) {x : Xn} {args : List D} {cls : Value} {ad : Option Addr} (h : XR G γ H x cls ad) (e : frzL (frz A n 30) x.args = some args) : XR G (γ.cut n) H ⟨x.c, args⟩ cls ad := by
  obtain ⟨C, h1, h2, h3 | ⟨d, a, f, v, h3, h4, h5, h6⟩⟩ := h
  · rw [h3.1] at e
    unfold frzL at e
    cases e
    exact ⟨C, h1, h2, .inl ⟨rfl, h3.2⟩⟩
  · rw [h3] at e
    unfold frzL at e
    cases q : frz A n 30 d with
    | none => rw [q] at e; cases e
    | some d' =>
      rw [q] at e
      cases e
      exact ⟨C, h1, h2, .inr ⟨d', a, f, v, rfl, h4, h5, frz_of R _ _ _ _ q h6⟩⟩
/-- .. of an error -/
def cleanX (n : Nat) (x : Xn) (A : AH) : Res D :=
  if A.length = n then .ex x A else
    match frzL (frz A n 30) x.args with
    | some args => if belowsO n (A.take n) then .ex ⟨x.c, args⟩ (A.take n) else .ex x A
    | none => .ex x A
theorem Post.cleanX {γ0 : Gh} {A0 : AH} {H0 : Hp} {x : Xn} {A1 : AH} {Q : Gh → AH → Hp → D → Prop} {Wx : WXe} (R0 : Rel G γ0 A0 H0) (h : Post G γ0 H0 (cleanX A0.length x A1) Q Wx) :
    ∀ γ' H' cls ad, Ext γ0 H0 γ' H' → Rel G γ' A1 H' → XR G γ' H' x cls ad → Wx cls ad H' := by
  intro γ' H' cls ad e R r
  unfold F3.cleanX at h
  split at h
  · exact h γ' H' cls ad e R r
  · split at h
    · rename_i args q
      split at h
      · rename_i b
        exact h (γ'.cut A0.length) H' cls ad (e.cut R0 rfl) (R.cut b) (r.cut R q)
      · exact h γ' H' cls ad e R r
    · exact h γ' H' cls ad e R r
end
end F3
namespace F3
open PySem PySem.Spec
open PyProof.Rows L2
/-! ### what a def does, whatever stands around -/
def FnG (P : Program) (w : World) (K : PySem.W.Frag) (mg : Str → Option Value) (base : Heap) (G : Gc) (k : Nat) (f : Addr) (m : List D → AH → Res D) : Prop :=
  ∀ (A : Around) (outer : List Env) (s : Shared) (H : Hp) (us : List Value) (vs : List V) (ds : List D) (γ : Gh) (Ah : AH) (Q : VK) (E : XK), Room k A → A.guards = some [] → Env0 P w K mg base A outer s H → Vals vs us → Rel G γ Ah H → VRs G γ H ds vs →
    Post G γ H (m ds Ah) (fun γ' _ H' d => ∀ v, VR G γ' H' d v → Q v H') E → codeAny (model P w) A (.call (.ref f) ⟨us, []⟩) (CR (L2.CX P w) outer P w H s Q E) s
theorem FnG.mono {P : Program} {w : World} {K : PySem.W.Frag} {mg : Str → Option Value} {base : Heap} {G : Gc} {j k : Nat} {f : Addr} {m : List D → AH → Res D} (F : FnG P w K mg base G j f m) (h : j ≤ k) : FnG P w K mg base G k f m :=
  fun A outer s H us vs ds γ Ah Q E hr => F A outer s H us vs ds γ Ah Q E (hr.mono h)
/-- a def's run: its names, how many are parameters, its body -/
def runF (n p : Nat) (g : Ev → AH → SR) (ds : List D) (A : AH) : Res D :=
  if ds.length = p then
    match g (ds.map some ++ List.replicate (n - p) none) A with
    | .nx _ A1 => clean A.length .non A1
    | .rt d A1 => clean A.length d A1
    | .ex x _ A1 => cleanX A.length x A1
    | _ => .stuck
  else .stuck
section
variable {P : Program} {w : World} {K : PySem.W.Frag} {mg : Str → Option Value} {base : Heap} {G : Gc}
theorem er_start {γ : Gh} {H : Hp} {ds : List D} {vs : List V} {n : Nat} (h : VRs G γ H ds vs) (N : List Str) (hp : N.length - vs.length = n) : ER G γ H (ds.map some ++ List.replicate n none) (L2.start N vs) := by
  intro i d e
  unfold L2.start
  by_cases hi : i < ds.length
  · rw [List.getElem?_append_left (by simpa using hi), List.getElem?_map] at e
    obtain ⟨d', e1, e2⟩ := Option.map_eq_some_iff.mp e
    cases e2
    obtain ⟨v, e3, r⟩ := h.get e1
    refine ⟨v, ?_, r⟩
    rw [List.getElem?_append_left (by rw [List.length_map, ← h.length]; exact hi), List.getElem?_map, e3]; rfl
  · rw [List.getElem?_append_right (by simpa using hi), List.getElem?_replicate] at e
    split at e <;> cases e
theorem fnG_of {x qual : Str} {st : Stmt} {f : Addr} {fd : FuncData} {N ps : List Str} {k : Nat} {g : Ev → AH → SR} (F : Fun K x qual st f fd) (Sc : FnScope N ps (defScope st)) (hK : G.K = K)
    (hb : ∀ (kV doc pm : Value) (an : Option Addr) (cdv ct : Value) (us : List Value), us.length = ps.length → bindArgs (PySem.W.fnOf x qual (defArgs st) (defBody st) (defScope st) .none kV doc pm an cdv ct) ⟨us, []⟩ = pure (ps.zip us))
    (body : ∀ (cdv : Value) (A : Around) (outer : List Env) (s : Shared) (H : Hp) (E : XK), XO (cxOf (L2.CX P w) P w K mg base N qual (defScope st) f cdv A outer s H E) G (fun c d _ H => E c d H) k →
      JB (cxOf (L2.CX P w) P w K mg base N qual (defScope st) f cdv A outer s H E) G (fun c d _ H => E c d H) (defBody st) g) :
    FnG P w K mg base G (k + 1) f (runF N.length ps.length g) := by
  intro A outer s H us vs ds γ Ah Q E hr hg e0 r R rv h
  obtain ⟨oc, od, kV, doc, pm, an, cdv, ct, osl, rfl, lk, hcd⟩ := F.ex
  unfold runF at h
  by_cases hl : ds.length = ps.length
  · rw [if_pos hl] at h
    have hlv : vs.length = ps.length := by rw [← rv.length]; exact hl
    have hNp : ps.length ≤ N.length := by have := congrArg List.length Sc.pre; rw [List.length_take] at this; omega
    refine LamX.run_ofS (N := N) (us := us) (vs := vs) lk hcd Sc hr e0 (.of_eq (hb _ _ _ _ _ _ us (by rw [← r.length]; exact hlv))) r hlv fun hr' => ?_
    have o : XO (cxOf (L2.CX P w) P w K mg base N qual (defScope st) f cdv A outer s H E) G (fun c d _ H => E c d H) k :=
      ⟨takes_of rfl rfl rfl rfl, passes_of rfl, rfl, hr', hg, hK⟩
    refine ⟨_, (body cdv A outer s H E o).run, γ, Ah, ds.map some ++ List.replicate (N.length - ps.length) none, ⟨R, ?_, er_start rv N (by rw [hlv])⟩, ?_⟩
    · unfold L2.start
      simp only [List.length_append, List.length_map, List.length_replicate]
      omega
    · cases q : g (ds.map some ++ List.replicate (N.length - ps.length) none) Ah with
      | nx env1 A1 =>
        rw [q] at h
        exact fun γ' H' σ' e S => Post.clean R h γ' H' .non e S.rel (by unfold VR; rfl)
      | rt d A1 =>
        rw [q] at h
        exact fun γ' H' v e R' r' => Post.clean R h γ' H' v e R' r'
      | ex x env1 A1 =>
        rw [q] at h
        exact fun γ' H' σ' cls ad e S xr => Post.cleanX R h γ' H' cls ad e S.rel xr
      | bk env1 A1 => rw [q] at h; exact h.elim
      | ct env1 A1 => rw [q] at h; exact h.elim
      | stuck => rw [q] at h; exact h.elim
  · rw [if_neg hl] at h; exact h.elim
end
section
variable {X : Cx} {G : Gc} {W : WX} {k j : Nat}
/-- the callee runs from a body -/
theorem run_fg {pins : List (Addr × Obj)} {σ : L2.St} {H : Hp} {s : Shared} {Q : VK} {f : Addr} {us : List Value} {vs : List V} {ds : List D} {γ : Gh} {Ah : AH} {m : List D → AH → Res D} (o : XO X G W k) (F : FnG X.prog X.w X.K X.mg X.base G k f m) (I : Inv X pins σ H s) (r : Vals vs us) (R : Rel G γ Ah H) (rv : VRs G γ H ds vs)
    (h : Post G γ H (m ds Ah) (fun γ' _ H' d => ∀ v, VR G γ' H' d v → Q v H') (fun c a H' => W c a σ H')) : wpAny (model X.prog X.w) X.A (call (.ref f) us) (EP X pins σ Q) X.xe s := by
  refine wpAny_call (codeAny_mono (F X.A X.stack s H us vs ds γ Ah Q (WE W σ) o.room o.gd I.env0 r R rv h) fun z s' hq => ?_)
  cases z with
  | error e => exact passAt o.tk σ _ _ _ _ _ I hq
  | ok fl =>
    cases fl with
    | ret u => exact I.after hq
    | _ => exact False.elim hq
theorem je_call (o : XO X G W k) {f : Addr} {x : Str} {p pos : Pos} {e : Expr} {es : List Expr} {m : List D → AH → Res D} {fa : Ev → AH → Res (List D)} (F : FnG X.prog X.w X.K X.mg X.base G j f m) (hj : j ≤ k) (hg : Gl X x) (hm : X.mg x = some (.ref f)) (hk : PySem.W.keepIn X.K (.ref f) = true)
    (ha : JA X G W (e :: es) fa) (hdb : (x == ("__debug__" : Str)) = false) (he : starEach (e :: es) X.env = (false, eval e X.env) :: starEach es X.env := by rfl) (hpl : (backTo pos (starEach es X.env)).any (·.1) = false := by rfl) : JE X G W (.Call (.Name x p) (e :: es) [] pos) (sCall m fa) := by
  refine ⟨⟨fun pins s σ H Q I h => ?_⟩⟩
  obtain ⟨γ, A, env, S, h⟩ := h
  refine wpAny_Call_Name_kw (ld_glob I hg hm ?_ hdb)
  refine PySem.W.callWith_K (h₀ := X.base) I.ok.mod.kin hk (thn (ha.run.run pos pins s σ H (fun vs H1 => ∃ γ1 A1 ds, Rel G γ1 A1 H1 ∧ VRs G γ1 H1 ds vs ∧ Post G γ1 H1 (m ds A1) (fun γ' _ H' d => ∀ v, VR G γ' H' d v → Q v H') (fun c a H' => W c a σ H')) I
    ⟨γ, A, env, S, Post.bind h fun ds A1 γ1 H1 e1 R1 h1 vs r1 => ⟨γ1, A1, ds, R1, r1, h1⟩⟩) fun us s1 ⟨vs, H1, I1, r, γ1, A1, ds, R1, r1, h1⟩ => ⟨I1.kIn, ?_⟩) he hpl
  exact run_fg o (F.mono hj) I1 r R1 r1 h1
theorem je_call0 (o : XO X G W k) {f : Addr} {x : Str} {p pos : Pos} {m : List D → AH → Res D} (F : FnG X.prog X.w X.K X.mg X.base G j f m) (hj : j ≤ k) (hg : Gl X x) (hm : X.mg x = some (.ref f)) (hk : PySem.W.keepIn X.K (.ref f) = true)
    (hdb : (x == ("__debug__" : Str)) = false) : JE X G W (.Call (.Name x p) [] [] pos) (sCall m sNil) := by
  refine ⟨⟨fun pins s σ H Q I h => ?_⟩⟩
  obtain ⟨γ, A, env, S, h⟩ := h
  refine wpAny_Call_Name_kw (ld_glob I hg hm ?_ hdb)
  exact PySem.W.callWith_K0 I.kIn hk (run_fg (us := []) o (F.mono hj) I .nil S.rel VRs.nil h)
/-! ### classes with slots -/
/-- what stands of the class numbered c -/
structure SC (G : Gc) (K : PySem.W.Frag) (c : Nat) (C : Addr) : Prop where
  cls : G.cls c = some C
  sc : SlX.SCls K C
/-- e.f, f the i-th slot -/
def gFld (c i : Nat) (x : D) (A : AH) : Res D := match x with
  | .ins c' ds => if c' = c then match ds[i]? with
    | some d => .ok d A
    | none => .stuck
    else .stuck
  | .ref r => match A[r]? with
    | some (.ins c' fs) => if c' = c then match fs[i]? with
      | some (some d) => .ok d A
      | _ => .stuck
      else .stuck
    | _ => .stuck
  | _ => .stuck
theorem FRs.get {γ : Gh} {H : Hp} : ∀ {fs : List (Option D)} {vs : List (Option V)} {i : Nat} {d : D}, FRs G γ H fs vs → fs[i]? = some (some d) → ∃ v, vs[i]? = some (some v) ∧ VR G γ H d v
  | [], _, _, _, _, e => by simp at e
  | fo :: fs, vs, 0, d, h, e => by
    obtain ⟨vo, r, rfl, h1, h2⟩ := h
    simp at e; subst e
    cases vo with
    | none => exact h1.elim
    | some v => exact ⟨v, rfl, h1⟩
  | fo :: fs, vs, i + 1, d, h, e => by
    obtain ⟨vo, r, rfl, h1, h2⟩ := h
    obtain ⟨v, e1, r⟩ := FRs.get h2 (by simpa using e)
    exact ⟨v, by simpa using e1, r⟩
theorem je_fld (o : XO X G W k) {c i : Nat} {C p : Addr} {f : Str} {e : Expr} {pos : Pos} {fa : Ev → AH → Res D} (T : SC G X.K c C) (t : SlX.Slot1 X.K C f p i) (ha : JE X G W e fa) (hb : attributeBase e f X.env (eval e X.env) = eval e X.env := by rfl) : JE X G W (.Attribute e f pos) (sUn (gFld c i) fa) := by
  refine ⟨PE.imp (SlX.pe_sl ha.run hb) fun σ H Q h => ?_⟩
  obtain ⟨γ, A, env, S, h⟩ := h
  refine ⟨γ, A, env, S, Post.bind h fun x A1 γ1 H1 e1 R1 h1 v r1 => ?_⟩
  unfold gFld at h1
  split at h1
  · rename_i c' ds
    split at h1
    · rename_i hc
      subst hc
      split at h1
      · rename_i d q
        unfold VR at r1
        obtain ⟨a, C', dx, vs, rfl, n1, n2, hC, k1, k2, rv⟩ := r1
        rw [T.cls] at hC; cases hC
        obtain ⟨u, q1, q2⟩ := rv.get q
        exact ⟨a, C, dx, p, vs.map some, i, u, rfl, .inr ⟨k1, k2⟩, T.sc, t, by rw [List.getElem?_map, q1]; rfl, ok_here R1 q2 h1⟩
      · exact h1.elim
    · exact h1.elim
  · rename_i r
    split at h1
    · rename_i c' fs q
      split at h1
      · rename_i hc
        subst hc
        split at h1
        · rename_i d q2
          unfold VR at r1
          obtain ⟨a, rfl, q3⟩ := r1
          obtain ⟨a', k1, k2, C', dx, vs, hC, hs, k3, k4, rv⟩ := R1.at_ _ _ q
          rw [q3] at k1; cases k1
          rw [T.cls] at hC; cases hC
          obtain ⟨u, q4, q5⟩ := FRs.get rv q2
          exact ⟨a, C, dx, p, vs, i, u, rfl, hs, T.sc, t, q4, ok_here R1 q5 h1⟩
        · exact h1.elim
      · exact h1.elim
    · exact h1.elim
  · exact h1.elim
/-- slots stored -/
def putD (i : Nat) (d : D) (fs : List (Option D)) : List (Option D) := (fs ++ List.replicate (i + 1 - fs.length) none).set i (some d)
theorem FRs.length {γ : Gh} {H : Hp} : ∀ {fs : List (Option D)} {vs : List (Option V)}, FRs G γ H fs vs → fs.length = vs.length
  | [], vs, h => by have : vs = [] := h; subst this; rfl
  | fo :: fs, vs, h => by
    obtain ⟨vo, r, rfl, h1, h2⟩ := h
    simp [FRs.length h2]
theorem FRs.pad {γ : Gh} {H : Hp} : ∀ (n : Nat), FRs G γ H (List.replicate n none) (List.replicate n none)
  | 0 => rfl
  | n + 1 => ⟨none, List.replicate n none, rfl, trivial, FRs.pad n⟩
theorem FRs.append {γ : Gh} {H : Hp} : ∀ {fs gs : List (Option D)} {vs ws : List (Option V)}, FRs G γ H fs vs → FRs G γ H gs ws → FRs G γ H (fs ++ gs) (vs ++ ws)
  | [], gs, vs, ws, h, t => by have : vs = [] := h; subst this; exact t
  | fo :: fs, gs, vs, ws, h, t => by
    obtain ⟨vo, r, rfl, h1, h2⟩ := h
    exact ⟨vo, r ++ ws, rfl, h1, FRs.append h2 t⟩
theorem FRs.set {γ : Gh} {H : Hp} {d : D} {v : V} (hd : VR G γ H d v) : ∀ {fs : List (Option D)} {vs : List (Option V)} (n : Nat), FRs G γ H fs vs → FRs G γ H (fs.set n (some d)) (vs.set n (some v))
  | [], vs, n, h => by have : vs = [] := h; subst this; simp; rfl
  | fo :: fs, vs, 0, h => by
    obtain ⟨vo, r, rfl, h1, h2⟩ := h
    exact ⟨some v, r, rfl, hd, h2⟩
  | fo :: fs, vs, n + 1, h => by
    obtain ⟨vo, r, rfl, h1, h2⟩ := h
    exact ⟨vo, r.set n (some v), rfl, h1, FRs.set hd n h2⟩
theorem FRs.put {γ : Gh} {H : Hp} {d : D} {v : V} {fs : List (Option D)} {vs : List (Option V)} (h : FRs G γ H fs vs) (hd : VR G γ H d v) (i : Nat) : FRs G γ H (putD i d fs) (SlX.putS i v vs) := by
  unfold putD SlX.putS
  rw [FRs.length h]
  exact FRs.set hd i (FRs.append h (FRs.pad _))
theorem put_slot {γ : Gh} {A : AH} {H : Hp} {r c i : Nat} {fs : List (Option D)} {d : D} {v u : V} {C : Addr} (R : Rel G γ A H) (h : VR G γ H (.ref r) v) (e : A[r]? = some (.ins c fs)) (hC : G.cls c = some C) (hd : VR G γ H d u) :
    ∃ a dx vs, v = .ref a ∧ SlX.Slt H a C dx vs ∧ Ext γ H γ (SlX.slH H a C dx (SlX.putS i u vs)) ∧ Rel G γ (A.set r (.ins c (putD i d fs))) (SlX.slH H a C dx (SlX.putS i u vs)) := by
  unfold VR at h
  obtain ⟨a, rfl, h1⟩ := h
  obtain ⟨a', h2, h3, C', dx, vs, hC', hs, h4, h5, rv⟩ := R.at_ r _ e
  rw [h1] at h2; cases h2
  rw [hC] at hC'; cases hC'
  have off : ∀ b, γ.o b ≠ some (some r) → SlX.slH H a C dx (SlX.putS i u vs) b = H b := fun b hb => SlX.slH_ne (fun z => hb (by rw [z]; exact h3)) fun z => hb (by rw [z]; exact h4)
  have E : Ext γ H γ (SlX.slH H a C dx (SlX.putS i u vs)) := Ext.put off
  refine ⟨a, dx, vs, rfl, hs, E, R.put h1 off (fun b hb => ?_) ⟨C, dx, SlX.putS i u vs, hC, SlX.slH_slt h5, h4, h5, (FRs.put rv hd i).ext E.toExt0⟩⟩
  by_cases z1 : b = a
  · subst z1; unfold SlX.slH; rw [upd_same]; exact (fun q => nomatch q)
  · by_cases z2 : b = dx
    · subst z2; unfold SlX.slH; rw [upd_ne z1, upd_same]; exact (fun q => nomatch q)
    · rw [SlX.slH_ne z1 z2]; exact (R.dom b _ hb).1
/-- self.f = e -/
def bFld (c i : Nat) (fo fe : Ev → AH → Res D) : Ev → AH → SR := fun env A => lft (fe env A) env fun d A1 => lft (fo env A1) env fun x A2 => match x with
  | .ref r => match A2[r]? with
    | some (.ins c' fs) => if c' = c then .nx env (A2.set r (.ins c (putD i d fs))) else .stuck
    | _ => .stuck
  | _ => .stuck
theorem js_fld {c i : Nat} {C p : Addr} {f : Str} {ob e : Expr} {pos pos' : Pos} {fo fe : Ev → AH → Res D} (T : SC G X.K c C) (t : SlX.Slot1 X.K C f p i) (ho : JE X G W ob fo) (he : JE X G W e fe)
    (hs : swapsWith e (some (.Attribute ob f pos')) pos.line X.env = pure false := by rfl) : JS X G W (.Assign [.Attribute ob f pos'] e pos) (bFld c i fo fe) := by
  refine ⟨PS.imp (SlX.ps_sl ho.run he.run hs) fun E σ H h => ?_⟩
  obtain ⟨γ, A, env, S, h⟩ := h
  refine ⟨γ, A, env, S, PostS.lft S h fun d A1 γ1 H1 e1 R1 h1 v r1 => ?_⟩
  have S1 := S.to e1 R1
  refine ⟨γ1, A1, env, S1, PostS.lft S1 h1 fun x A2 γ2 H2 e2 R2 h2 u r2 => ?_⟩
  have S2 := S1.to e2 R2
  split at h2
  · rename_i r
    split at h2
    · rename_i c' fs q
      split at h2
      · rename_i hc
        subst hc
        obtain ⟨a, dx, vs, rfl, hsl, E', R3⟩ := put_slot (i := i) R2 r2 q T.cls (VR.ext e2 _ _ r1)
        exact ⟨a, C, dx, p, vs, i, rfl, hsl, T.sc, t, h2 γ2 _ σ E' (S2.to E' R3)⟩
      · exact h2.elim
    · exact h2.elim
  · exact h2.elim
end
end F3
namespace F3
open PySem PySem.Spec
open PyProof.Rows L2
/-! ### self.f, self.g = x, y -/
structure JGA (X : Cx) (G : Gc) (tg : Expr) (g : Ev → AH → D → Option AH) : Prop where
  run : PG X tg (fun v σ H Q => ∃ γ A env d A', St3 G γ A env H σ ∧ VR G γ H d v ∧ g env A d = some A' ∧ ∀ γ' H', Ext γ H γ' H' → St3 G γ' A' env H' σ → Q σ H')
structure JGAs (X : Cx) (G : Gc) (tgs : List Expr) (g : Ev → AH → List D → Option AH) : Prop where
  run : PGs X tgs (fun vs σ H Q => ∃ γ A env ds A', St3 G γ A env H σ ∧ VRs G γ H ds vs ∧ g env A ds = some A' ∧ ∀ γ' H', Ext γ H γ' H' → St3 G γ' A' env H' σ → Q σ H')
def aFld (c i : Nat) (fo : Ev → AH → Res D) : Ev → AH → D → Option AH := fun env A d => match fo env A with
  | .ok (.ref r) A1 => match A1[r]? with
    | some (.ins c' fs) => if c' = c then some (A1.set r (.ins c (putD i d fs))) else none
    | _ => none
  | _ => none
def aEnd : Ev → AH → List D → Option AH := fun _ A ds => match ds with
  | [] => some A
  | _ => none
def aMore (g : Ev → AH → D → Option AH) (gs : Ev → AH → List D → Option AH) : Ev → AH → List D → Option AH := fun env A ds => match ds with
  | d :: r => (g env A d).bind fun A1 => gs env A1 r
  | [] => none
section
variable {X : Cx} {G : Gc} {W : WX} {k j : Nat}
theorem pg_attr {ob : Expr} {f : Str} {pos : Pos} {to : TE} (ho : PE X ob to) : PG X (.Attribute ob f pos) (fun v σ H Q => to σ H fun x H1 => ∃ a C dx p vs i, x = .ref a ∧ SlX.Slt H1 a C dx vs ∧ SlX.SCls X.K C ∧ SlX.Slot1 X.K C f p i ∧ Q σ (SlX.slH H1 a C dx (SlX.putS i v vs))) := by
  refine ⟨fun pins s σ H v u Q I r h => ?_⟩
  rw [assign_Attribute]
  refine wpAny_bind (wpAny_holding (thn (ho.run pins s σ H _ I h) fun ov s1 hv => ?_))
  obtain ⟨x, H1, I1, rx, a, C, dx, p, vs, i, rfl, hsl, c, t, q⟩ := hv
  obtain rfl : ov = Value.ref a := rx
  refine wpAny_bind (wpAny_standAt (wpAny_bind (wpAny_holding (SlX.setslot_ok I1 hsl c t r fun s2 I2 => ?_))))
  exact wpAny_release ⟨σ, _, I2, q⟩
theorem jga_fld {c i : Nat} {C p : Addr} {f : Str} {ob : Expr} {pos : Pos} {fo : Ev → AH → Res D} (T : SC G X.K c C) (t : SlX.Slot1 X.K C f p i) (ho : JE X G W0 ob fo) : JGA X G (.Attribute ob f pos) (aFld c i fo) := by
  refine ⟨PG.imp (pg_attr ho.run) fun v σ H Q h => ?_⟩
  obtain ⟨γ, A, env, d, A', S, r, e, h⟩ := h
  unfold aFld at e
  split at e
  · rename_i n A1 q0
    split at e
    · rename_i c' fs q
      split at e
      · rename_i hc
        subst hc
        cases e
        refine ⟨γ, A, env, S, ?_⟩
        rw [q0]
        intro γ1 H1 e1 R1 u r1
        obtain ⟨a, dx, vs, rfl, hsl, E', R3⟩ := put_slot (i := i) R1 r1 q T.cls (VR.ext e1 _ _ r)
        exact ⟨a, C, dx, p, vs, i, rfl, hsl, T.sc, t, h γ1 _ (e1.trans E') ((S.to e1 R1).to E' R3)⟩
      · cases e
    · cases e
  · cases e
theorem jgas_nil : JGAs X G [] aEnd := by
  refine ⟨PGs.imp pgs_nil fun vs σ H Q h => ?_⟩
  obtain ⟨γ, A, env, ds, A', S, r, e, h⟩ := h
  cases ds with
  | nil =>
    cases e
    unfold VRs at r
    exact ⟨r, h γ H (Ext.refl _ _) S⟩
  | cons d ds => cases e
theorem jgas_cons {e : Expr} {es : List Expr} {g : Ev → AH → D → Option AH} {gs : Ev → AH → List D → Option AH} (h1 : JGA X G e g) (h2 : JGAs X G es gs) (hs : (assignEach (e :: es) X.env).map (·.2) = assign e X.env :: (assignEach es X.env).map (·.2) := by rfl) : JGAs X G (e :: es) (aMore g gs) := by
  refine ⟨PGs.imp (pgs_cons h1.run h2.run hs) fun vs σ H Q h => ?_⟩
  obtain ⟨γ, A, env, ds, A', S, r, e, h⟩ := h
  cases ds with
  | nil => cases e
  | cons d ds =>
    unfold VRs at r
    obtain ⟨v, rs, rfl, r1, r2⟩ := r
    obtain ⟨A1, e1, e2⟩ := Option.bind_eq_some_iff.mp (show (g env A d).bind _ = some A' from e)
    refine ⟨v, rs, rfl, γ, A, env, d, A1, S, r1, e1, fun γ1 H1 e3 S1 => ?_⟩
    exact ⟨γ1, A1, env, ds, A', S1, VRs.ext e3 _ _ r2, e2, fun γ2 H2 e4 S2 => h γ2 H2 (e3.trans e4) S2⟩
theorem aMore_len {n : Nat} {g : Ev → AH → D → Option AH} {gs : Ev → AH → List D → Option AH} (h : ∀ env A ds A', gs env A ds = some A' → ds.length = n) : ∀ env A ds A', aMore g gs env A ds = some A' → ds.length = n + 1 := fun env A ds A' e => by
  cases ds with
  | nil => cases e
  | cons d ds =>
    obtain ⟨A1, e1, e2⟩ := Option.bind_eq_some_iff.mp (show (g env A d).bind _ = some A' from e)
    rw [List.length_cons, h _ _ _ _ e2]
theorem aEnd_len : ∀ env A ds A', aEnd env A ds = some A' → ds.length = 0 := fun env A ds A' e => by
  cases ds with
  | nil => rfl
  | cons _ _ => cases e
def bFlds (gs : Ev → AH → List D → Option AH) (f : Ev → AH → Res D) : Ev → AH → SR := fun env A => lft (f env A) env fun d A1 => match d with
  | .tup ds => match gs env A1 ds with
    | some A2 => .nx env A2
    | none => .stuck
  | _ => .stuck
theorem js_flds (o : XO X G W k) {es : List Expr} {e : Expr} {kk : Nat} {tpos pos : Pos} {gs : Ev → AH → List D → Option AH} {f : Ev → AH → Res D} (n : Nat) (hg : JGAs X G es gs) (hl : ∀ env A ds A', gs env A ds = some A' → ds.length = n) (he : JE X G W e f)
    (hn : (assignEach es X.env).length = n := by rfl) (hst : (assignEach es X.env).findIdx? (·.1) = none := by rfl)
    (hs : swapsWithSole [.Tuple es kk tpos] e pos.line X.env = pure false := by rfl) (hw : swappedStores [.Tuple es kk tpos] e X.env = pure none := by rfl) (h1 : (assignEach [.Tuple es kk tpos] X.env).map (·.2) = [assign (.Tuple es kk tpos) X.env] := by rfl) :
    JS X G W (.Assign [.Tuple es kk tpos] e pos) (bFlds gs f) := by
  refine ⟨PS.imp (ps_asg he.run (pg_tup o.calm hg.run hn hst) hs hw h1) fun E σ H h => ?_⟩
  obtain ⟨γ, A, env, S, h⟩ := h
  refine ⟨γ, A, env, S, PostS.lft S h fun d A1 γ1 H1 e1 R1 h1 v r1 => ?_⟩
  split at h1
  · rename_i ds
    split at h1
    · rename_i A2 q
      unfold VR at r1
      obtain ⟨a, vs, rfl, f1, rv⟩ := r1
      exact ⟨a, vs, rfl, o.gk ▸ f1.sq, by rw [← rv.length]; exact hl _ _ _ _ q, γ1, A1, env, ds, A2, S.to e1 R1, rv, q, fun γ2 H2 e2 S2 => h1 γ2 H2 σ e2 S2⟩
    · exact h1.elim
  · exact h1.elim
/-! ### isinstance -/
/-- the built-in type of a value -/
def tyD (A : AH) : D → Option String
  | .non => some "NoneType"
  | .bl _ => some "bool"
  | .int _ => some "int"
  | .str _ => some "str"
  | .tup _ => some "tuple"
  | .lst _ => some "list"
  | .dct _ _ => some "dict"
  | .ref i => match A[i]? with
    | some (.lst _) => some "list"
    | some (.dct _ _) => some "dict"
    | _ => none
  | _ => none
theorem tyD_at {γ : Gh} {A : AH} {H : Hp} {d : D} {v : V} {t : String} (R : Rel G γ A H) (h : VR G γ H d v) (e : tyD A d = some t) : TyX G.K H v (.type t) := by
  cases d with
  | non => unfold VR at h; subst h; cases e; exact .base .non
  | bl _ => unfold VR at h; subst h; cases e; exact .base (.bl _)
  | int _ => unfold VR at h; subst h; cases e; exact .base (.int _)
  | str _ => unfold VR at h; subst h; cases e; exact .base (.str _)
  | tup _ => unfold VR at h; obtain ⟨a, vs, rfl, f, _⟩ := h; cases e; exact .base (.tup f.1)
  | lst _ => unfold VR at h; obtain ⟨a, vs, rfl, f, _⟩ := h; cases e; exact .base (.lst f)
  | scr _ => cases e
  | ins _ _ => cases e
  | dct _ _ =>
    unfold VR at h
    obtain ⟨a, rfl, _, ⟨kvs, h1, _⟩ | ⟨kvs, h1, _⟩⟩ := h
    · cases e; exact .base (.dK h1)
    · cases e; exact .base (.dT h1)
  | ref i =>
    unfold VR at h
    obtain ⟨a, rfl, h0⟩ := h
    unfold tyD at e
    simp only at e
    split at e
    · rename_i q
      obtain ⟨a', k1, k2, vs, k3, k4⟩ := R.at_ i _ q
      rw [h0] at k1; cases k1; cases e
      exact .base (.lst k3)
    · rename_i q
      obtain ⟨a', k1, k2, r⟩ := R.at_ i _ q
      rw [h0] at k1; cases k1; cases e
      rcases r with ⟨kvs, h1, _⟩ | ⟨kvs, h1, _⟩
      · exact .base (.dK h1)
      · exact .base (.dT h1)
    · cases e
def isiB (t T : String) : Bool := t == T || (t == "bool" && T == "int")
/-- the classes asked by the program are among these -/
def gIsiB (T : String) (d : D) (A : AH) : Res D := match d with
  | .ins _ _ => .ok (.bl false) A
  | .ref r => match A[r]? with
    | some (.ins _ _) => .ok (.bl false) A
    | _ => match tyD A (.ref r) with
      | some t => .ok (.bl (isiB t T)) A
      | none => .stuck
  | d => match tyD A d with
    | some t => .ok (.bl (isiB t T)) A
    | none => .stuck
/-- what isinstance with a built-in class T asks -/
structure IsB (G : Gc) (K : PySem.W.Frag) (T : String) : Prop where
  bt : ∀ t ∈ (["NoneType", "bool", "int", "str", "tuple", "list", "dict"] : List String), PySem.W.kitOne K (.type t) (.type T) = some (isiB t T)
  own : ∀ c C, G.cls c = some C → SlX.SCls K C ∧ SlX.SIsi K C ∧ PySem.W.kitOne K (.ref C) (.type T) = some false
def rIsiU (K : PySem.W.Frag) (T : String) : List V → Hp → VK → Prop := fun xs H Q => rIsi K xs H Q ∨ SlX.rIsiSl K (.type T) xs H Q
theorem tyD_mem {A : AH} {d : D} {t : String} (e : tyD A d = some t) : t ∈ (["NoneType", "bool", "int", "str", "tuple", "list", "dict"] : List String) := by
  unfold tyD at e
  split at e <;> first
    | (cases e; simp; done)
    | (split at e <;> first | (cases e; simp; done) | cases e)
    | cases e
def sIsiB (T : String) (f : Ev → AH → Res D) : Ev → AH → Res D := sUn (gIsiB T) f
theorem je_isiB (o : XO X G W k) {T : String} {x y : Str} {p p2 pos : Pos} {e : Expr} {f : Ev → AH → Res D} (B : IsB G X.K T) (he : JE X G W e f) (hg : Gl X x) (hm : X.mg x = none) (hv : bootBuiltins x = some (.builtin "isinstance")) (hn : x ≠ "__name__") (hdb : (x == ("__debug__" : Str)) = false)
    (hg2 : Gl X y) (hm2 : X.mg y = none) (hv2 : bootBuiltins y = some (.type T)) (hn2 : y ≠ "__name__") (hdb2 : (y == ("__debug__" : Str)) = false)
    (hs : starEach [e, .Name y p2] X.env = (false, eval e X.env) :: starEach [.Name y p2] X.env := by rfl) (hs2 : starEach [.Name y p2] X.env = (false, eval (.Name y p2) X.env) :: starEach [] X.env := by rfl) (hpl : (backTo pos (starEach [.Name y p2] X.env)).any (·.1) = false := by rfl) :
    JE X G W (.Call (.Name x p) [e, .Name y p2] [] pos) (sIsiB T f) := by
  refine ⟨PE.imp (pe_callB (CallR.or call_isi (SlX.call_isiSl (.type T))) hg hm hv (pa_cons he.run (pa_cons (pe_bltn (v := .ty T) hg2 hm2 hv2 rfl hn2 hdb2) pa_nil hs2) hs) hn hdb hs hpl) fun σ H Q h => ?_⟩
  obtain ⟨γ, A, env, S, h⟩ := h
  refine ⟨γ, A, env, S, Post.bind h fun d A1 γ1 H1 e1 R1 h1 v r1 => ?_⟩
  have one : ∀ w, RelV (.ty T) w → w = Value.type T := fun w z => z
  have bti : ∀ t, tyD A1 d = some t → Q (.bl (isiB t T)) H1 → rIsi X.K [v, .ty T] H1 Q ∨ SlX.rIsiSl X.K (.type T) [v, .ty T] H1 Q := fun t q z =>
    .inl ⟨v, .ty T, .type t, .type T, _, rfl, .ty T, o.gk ▸ tyD_at R1 r1 q, B.bt t (tyD_mem q), z⟩
  have insi : ∀ a C dx vs, v = .ref a → SlX.Slt H1 a C dx vs → (∃ c, G.cls c = some C) → Q (.bl false) H1 → rIsi X.K [v, .ty T] H1 Q ∨ SlX.rIsiSl X.K (.type T) [v, .ty T] H1 Q := fun a C dx vs ev hsl hc z => by
    obtain ⟨c, hc⟩ := hc
    obtain ⟨q1, q2, q3⟩ := B.own c C hc
    exact .inr ⟨a, C, dx, vs, .ty T, false, by rw [ev], rfl, one, hsl, q1, q2, q3, z⟩
  unfold gIsiB at h1
  split at h1
  · unfold VR at r1
    obtain ⟨a, C, dx, vs, rfl, n1, n2, hc, k1, k2, _⟩ := r1
    exact insi a C dx _ rfl (.inr ⟨k1, k2⟩) ⟨_, hc⟩ (ok_here R1 (by unfold VR; rfl) h1)
  · split at h1
    · rename_i r c fs q
      unfold VR at r1
      obtain ⟨a, rfl, h0⟩ := r1
      obtain ⟨a', k1, k2, C, dx, vs, hC, hsl, _⟩ := R1.at_ _ _ q
      rw [h0] at k1; cases k1
      exact insi a C dx vs rfl hsl ⟨_, hC⟩ (ok_here R1 (by unfold VR; rfl) h1)
    · split at h1
      · rename_i t q
        exact bti t q (ok_here R1 (by unfold VR; rfl) h1)
      · exact h1.elim
  · split at h1
    · rename_i t q
      exact bti t q (ok_here R1 (by unfold VR; rfl) h1)
    · exact h1.elim
/-- isinstance with an own class -/
def gIsiO (c : Nat) (d : D) (A : AH) : Res D := match d with
  | .ins c' _ => .ok (.bl (c' == c)) A
  | .ref r => match A[r]? with
    | some (.ins c' _) => .ok (.bl (c' == c)) A
    | _ => match tyD A (.ref r) with
      | some _ => .ok (.bl false) A
      | none => .stuck
  | d => match tyD A d with
    | some _ => .ok (.bl false) A
    | none => .stuck
structure IsO (G : Gc) (K : PySem.W.Frag) (c : Nat) (C : Addr) : Prop where
  bt : ∀ t ∈ (["NoneType", "bool", "int", "str", "tuple", "list", "dict"] : List String), PySem.W.kitOne K (.type t) (.ref C) = some false
  own : ∀ c' C', G.cls c' = some C' → SlX.SCls K C' ∧ SlX.SIsi K C' ∧ PySem.W.kitOne K (.ref C') (.ref C) = some (c' == c)
def sIsiO (c : Nat) (f : Ev → AH → Res D) : Ev → AH → Res D := sUn (gIsiO c) f
theorem je_isiO (o : XO X G W k) {c : Nat} {C : Addr} {x y : Str} {p p2 pos : Pos} {e : Expr} {f : Ev → AH → Res D} (B : IsO G X.K c C) (he : JE X G W e f) (hg : Gl X x) (hm : X.mg x = none) (hv : bootBuiltins x = some (.builtin "isinstance")) (hn : x ≠ "__name__") (hdb : (x == ("__debug__" : Str)) = false)
    (hg2 : Gl X y) (hm2 : X.mg y = some (.ref C)) (hdb2 : (y == ("__debug__" : Str)) = false)
    (hs : starEach [e, .Name y p2] X.env = (false, eval e X.env) :: starEach [.Name y p2] X.env := by rfl) (hs2 : starEach [.Name y p2] X.env = (false, eval (.Name y p2) X.env) :: starEach [] X.env := by rfl) (hpl : (backTo pos (starEach [.Name y p2] X.env)).any (·.1) = false := by rfl) :
    JE X G W (.Call (.Name x p) [e, .Name y p2] [] pos) (sIsiO c f) := by
  refine ⟨PE.imp (pe_callB (CallR.or call_isi (SlX.call_isiSl (.ref C))) hg hm hv (pa_cons he.run (pa_cons (pe_glob (v := .ref C) hg2 hm2 rfl hdb2) pa_nil hs2) hs) hn hdb hs hpl) fun σ H Q h => ?_⟩
  obtain ⟨γ, A, env, S, h⟩ := h
  refine ⟨γ, A, env, S, Post.bind h fun d A1 γ1 H1 e1 R1 h1 v r1 => ?_⟩
  have one : ∀ w, RelV (.ref C) w → w = Value.ref C := fun w z => z
  have bti : ∀ t, tyD A1 d = some t → Q (.bl false) H1 → rIsi X.K [v, .ref C] H1 Q ∨ SlX.rIsiSl X.K (.ref C) [v, .ref C] H1 Q := fun t q z =>
    .inl ⟨v, .ref C, .type t, .ref C, _, rfl, .own C, o.gk ▸ tyD_at R1 r1 q, B.bt t (tyD_mem q), z⟩
  have insi : ∀ a C' dx vs c', v = .ref a → SlX.Slt H1 a C' dx vs → G.cls c' = some C' → Q (.bl (c' == c)) H1 → rIsi X.K [v, .ref C] H1 Q ∨ SlX.rIsiSl X.K (.ref C) [v, .ref C] H1 Q := fun a C' dx vs c' ev hsl hc z => by
    obtain ⟨q1, q2, q3⟩ := B.own c' C' hc
    exact .inr ⟨a, C', dx, vs, .ref C, _, by rw [ev], rfl, one, hsl, q1, q2, q3, z⟩
  unfold gIsiO at h1
  split at h1
  · unfold VR at r1
    obtain ⟨a, C', dx, vs, rfl, n1, n2, hc, k1, k2, _⟩ := r1
    exact insi a C' dx _ _ rfl (.inr ⟨k1, k2⟩) hc (ok_here R1 (by unfold VR; rfl) h1)
  · split at h1
    · rename_i r c' fs q
      unfold VR at r1
      obtain ⟨a, rfl, h0⟩ := r1
      obtain ⟨a', k1, k2, C', dx, vs, hC, hsl, _⟩ := R1.at_ _ _ q
      rw [h0] at k1; cases k1
      exact insi a C' dx vs _ rfl hsl hC (ok_here R1 (by unfold VR; rfl) h1)
    · split at h1
      · rename_i t q
        exact bti t q (ok_here R1 (by unfold VR; rfl) h1)
      · exact h1.elim
  · split at h1
    · rename_i t q
      exact bti t q (ok_here R1 (by unfold VR; rfl) h1)
    · exact h1.elim
end
end F3
namespace F3
open PySem PySem.Spec
open PyProof.Rows L2
/-! ### an instance is made -/
section
variable {G : Gc} {γ : Gh} {H : Hp} {A : AH} {n : Nat} {p dx : Addr} {ob od : HO}
/-- a changed thing in two places -/
def Gh.more2 (γ : Gh) (n : Nat) (p dx : Addr) : Gh := ⟨γ.ρ ++ [p], fun a => if a = p ∨ a = dx then some (some n) else γ.o a⟩
theorem Gh.more2_in {a : Addr} (h : a = p ∨ a = dx) : (γ.more2 n p dx).o a = some (some n) := if_pos h
theorem Gh.more2_out {a : Addr} (h : a ≠ p) (h' : a ≠ dx) : (γ.more2 n p dx).o a = γ.o a := if_neg fun z => z.elim h h'
theorem Ext.more2 (h : H p = none) (hd : H dx = none) : Ext γ H (γ.more2 n p dx) (upd (upd H dx od) p ob) := by
  have off : ∀ b o, H b = some o → upd (upd H dx od) p ob b = some o ∧ (γ.more2 n p dx).o b = γ.o b := fun b o e => by
    have b1 := ne_of_none e h
    have b2 := ne_of_none e hd
    exact ⟨by rw [upd_ne b1, upd_ne b2]; exact e, Gh.more2_out b1 b2⟩
  refine ⟨⟨fun i a e => ?_, fun b o e z _ => ?_⟩, fun b o e z => ?_⟩
  · show (γ.ρ ++ [p])[i]? = some a
    rw [List.getElem?_append_left (List.getElem?_eq_some_iff.mp e).1]; exact e
  · obtain ⟨q1, q2⟩ := off b o e; exact ⟨q1, by rw [q2]; exact z⟩
  · obtain ⟨q1, q2⟩ := off b o e; exact ⟨q1, by rw [q2]; exact z⟩
theorem Rel.more2 {ao : AO} (R : Rel G γ A H) (h : H p = none) (hd : H dx = none) (new : OR G (γ.more2 A.length p dx) (upd (upd H dx od) p ob) A.length ao p) : Rel G (γ.more2 A.length p dx) (A ++ [ao]) (upd (upd H dx od) p ob) := by
  have E : Ext γ H (γ.more2 A.length p dx) (upd (upd H dx od) p ob) := Ext.more2 h hd
  have np : ∀ b, H b ≠ none → b ≠ p := fun b q z => q (by rw [z]; exact h)
  have nd : ∀ b, H b ≠ none → b ≠ dx := fun b q z => q (by rw [z]; exact hd)
  have off : ∀ b, H b ≠ none → upd (upd H dx od) p ob b = H b := fun b q => by rw [upd_ne (np b q), upd_ne (nd b q)]
  have oof : ∀ b, H b ≠ none → (γ.more2 A.length p dx).o b = γ.o b := fun b q => Gh.more2_out (np b q) (nd b q)
  refine ⟨by show (γ.ρ ++ [p]).length = _; rw [List.length_append, List.length_append, R.len]; rfl, fun i o e => ?_, fun a x e => ?_, fun q hq => ?_⟩
  · by_cases hi : i < A.length
    · rw [List.getElem?_append_left hi] at e
      obtain ⟨a, e1, e2, r⟩ := R.at_ i o e
      have na := (R.dom a _ e2).1
      exact ⟨a, E.ρ i a e1, by rw [oof a na]; exact e2, r.ext (j := i) E.toExt0 (off a na) fun y q => ⟨off y (R.dom y _ q).1, by rw [oof y (R.dom y _ q).1]; exact q⟩⟩
    · rw [List.getElem?_append_right (by omega)] at e
      have hi2 : i = A.length := by
        have := (List.getElem?_eq_some_iff.mp e).1
        simp at this; omega
      subst hi2
      rw [Nat.sub_self] at e
      cases e
      refine ⟨p, ?_, Gh.more2_in (.inl rfl), new⟩
      show (γ.ρ ++ [p])[A.length]? = some p
      rw [← R.len]; simp
  · by_cases z : a = p ∨ a = dx
    · rw [Gh.more2_in z] at e; cases e
      refine ⟨?_, fun i q => by cases q; rw [List.length_append]; simp⟩
      by_cases z1 : a = p
      · subst z1; rw [upd_same]; exact fun q => nomatch q
      · have z2 := z.resolve_left z1
        subst z2; rw [upd_ne z1, upd_same]; exact fun q => nomatch q
    · rw [Gh.more2_out (fun w => z (.inl w)) fun w => z (.inr w)] at e
      obtain ⟨d1, d2⟩ := R.dom a x e
      exact ⟨by rw [off a d1]; exact d1, fun i q => by have := d2 i q; rw [List.length_append]; omega⟩
  · obtain ⟨n, ps, h1, h2, h3⟩ := R.tab q hq
    have nq : H q.1 ≠ none := by rw [h1]; exact fun z => nomatch z
    refine ⟨by rw [oof _ nq]; exact n, ps, by rw [off _ nq]; exact h1, h2, fun pos cv hc => ?_⟩
    obtain ⟨c, c1, c2, c3⟩ := h3 pos cv hc
    have nc : H c ≠ none := by rw [c2]; exact fun z => nomatch z
    exact ⟨c, c1, by rw [off _ nc]; exact c2, by rw [oof _ nc]; exact c3⟩
end
/-- C(..): m is what __init__ does -/
def mMake (c : Nat) (m : List D → AH → Res D) (ds : List D) (A : AH) : Res D := match m (.ref A.length :: ds) (A ++ [.ins c []]) with
  | .ok .non A1 => clean A.length (.ref A.length) A1
  | .ex x A1 => cleanX A.length x A1
  | _ => .stuck
section
variable {X : Cx} {G : Gc} {W : WX} {k j c : Nat} {f C : Addr} {m : List D → AH → Res D}
theorem guards_make {A : Around} {us : List Value} : (A.under (.builtin "type.__call__" ⟨.ref C :: us, []⟩)).guards = A.guards := by
  first | rfl | simp [Around.under, Code.guards, pushGuards, Code.isGuard, guardIds]
theorem run_mk {pins : List (Addr × Obj)} {σ : L2.St} {H : Hp} {s : Shared} {Q : VK} {us : List Value} {vs : List V} {ds : List D} {γ : Gh} {Ah : AH} (o : XO X G W k) (M : Mk X.K C f) (hC : G.cls c = some C) (F : FnG X.prog X.w X.K X.mg X.base G j f m) (hj : j + 1 ≤ k) (I : Inv X pins σ H s)
    (r : Vals vs us) (R : Rel G γ Ah H) (rv : VRs G γ H ds vs) (h : Post G γ H (mMake c m ds Ah) (fun γ' _ H' d => ∀ v, VR G γ' H' d v → Q v H') (fun c a H' => W c a σ H')) : wpAny (model X.prog X.w) X.A (call (.ref C) us) (EP X pins σ Q) X.xe s := by
  have n1 : H (s.heap.objs.size + 1) = none := I.hok.fresh (Nat.le_succ _)
  have n0 : H s.heap.objs.size = none := I.hok.fresh (Nat.le_refl _)
  have ne : s.heap.objs.size ≠ s.heap.objs.size + 1 := Nat.ne_of_lt (Nat.lt_succ_self _)
  have I2 := Inv.made (C := C) I
  have E2 : Ext γ H (γ.more2 Ah.length (s.heap.objs.size + 1) s.heap.objs.size) (upd (upd H s.heap.objs.size (.own (s.heap.objs.size + 1))) (s.heap.objs.size + 1) (.ins C s.heap.objs.size [])) := Ext.more2 n1 n0
  have R2 : Rel G _ (Ah ++ [.ins c []]) _ := R.more2 (od := .own (s.heap.objs.size + 1)) (ob := .ins C s.heap.objs.size []) n1 n0 ⟨C, s.heap.objs.size, [], hC, .inl ⟨upd_same, rfl⟩, Gh.more2_in (.inr rfl), ne, rfl⟩
  have hself : ∀ H', VR G (γ.more2 Ah.length (s.heap.objs.size + 1) s.heap.objs.size) H' (.ref Ah.length) (.ref (s.heap.objs.size + 1)) := fun H' => by
    unfold VR
    refine ⟨_, rfl, ?_⟩
    show (γ.ρ ++ [s.heap.objs.size + 1])[Ah.length]? = _
    rw [← R.len]; simp
  have r2 : Vals (V.ref (s.heap.objs.size + 1) :: vs) (Value.ref (s.heap.objs.size + 1) :: us) := .cons rfl r
  have rv2 : VRs G (γ.more2 Ah.length (s.heap.objs.size + 1) s.heap.objs.size) (upd (upd H s.heap.objs.size (.own (s.heap.objs.size + 1))) (s.heap.objs.size + 1) (.ins C s.heap.objs.size [])) (.ref Ah.length :: ds) (V.ref (s.heap.objs.size + 1) :: vs) := VRs.cons (hself _) (VRs.ext E2 _ _ rv)
  refine wpAny_call (make_map (f := f) I.kIn M.makes M.init (beq_iff_eq.mp M.fn) (codeAny_mono (F _ X.stack _ _ _ _ _ _ _ (fun v H' => v = .non ∧ Q (.ref (s.heap.objs.size + 1)) H') (WE W σ) ((o.room.mono hj).make C us []) (by rw [guards_make]; exact o.gd) (I2.env0.make C us []) r2 R2 rv2 ?_) fun z s' hq => ?_))
  · unfold mMake at h
    split at h
    · rename_i A1 q
      rw [q]
      intro γ' H' e R' v rn
      unfold VR at rn
      exact ⟨rn, Post.clean R h γ' H' _ (E2.trans e) R' (VR.ext e _ _ (hself _))⟩
    · rename_i x A1 q
      rw [q]
      exact fun γ' H' cls ad e R' xr => Post.cleanX R h γ' H' cls ad (E2.trans e) R' xr
    · exact h.elim
  · cases z with
    | error e => exact passAt o.tk σ _ _ _ _ _ I2 hq
    | ok fl =>
      cases fl with
      | ret u =>
        obtain ⟨v, H', I3, rx, ev, q3⟩ := I2.after hq
        subst ev
        exact ⟨rx, ⟨V.ref (s.heap.objs.size + 1), H', I3, rfl, q3⟩⟩
      | _ => exact False.elim hq
theorem je_mk (o : XO X G W k) {x : Str} {p pos : Pos} {e : Expr} {es : List Expr} {fa : Ev → AH → Res (List D)} (M : Mk X.K C f) (hC : G.cls c = some C) (F : FnG X.prog X.w X.K X.mg X.base G j f m) (hj : j + 1 ≤ k) (hg : Gl X x) (hm : X.mg x = some (.ref C))
    (ha : JA X G W (e :: es) fa) (hdb : (x == ("__debug__" : Str)) = false) (he : starEach (e :: es) X.env = (false, eval e X.env) :: starEach es X.env := by rfl) (hpl : (backTo pos (starEach es X.env)).any (·.1) = false := by rfl) : JE X G W (.Call (.Name x p) (e :: es) [] pos) (sCall (mMake c m) fa) := by
  refine ⟨⟨fun pins s σ H Q I h => ?_⟩⟩
  obtain ⟨γ, A, env, S, h⟩ := h
  refine wpAny_Call_Name_kw (ld_glob I hg hm ?_ hdb)
  refine PySem.W.callWith_K (h₀ := X.base) I.ok.mod.kin M.kp (thn (ha.run.run pos pins s σ H (fun vs H1 => ∃ γ1 A1 ds, Rel G γ1 A1 H1 ∧ VRs G γ1 H1 ds vs ∧ Post G γ1 H1 (mMake c m ds A1) (fun γ' _ H' d => ∀ v, VR G γ' H' d v → Q v H') (fun c a H' => W c a σ H')) I
    ⟨γ, A, env, S, Post.bind h fun ds A1 γ1 H1 e1 R1 h1 vs r1 => ⟨γ1, A1, ds, R1, r1, h1⟩⟩) fun us s1 ⟨vs, H1, I1, r, γ1, A1, ds, R1, r1, h1⟩ => ⟨I1.kIn, ?_⟩) he hpl
  exact run_mk o M hC F hj I1 r R1 r1 h1
/-! ### a property -/
/-- whose instance a value is -/
def insC (A : AH) : D → Option Nat
  | .ins c _ => some c
  | .ref r => match A[r]? with
    | some (.ins c _) => some c
    | _ => none
  | _ => none
theorem insC_at {γ : Gh} {A : AH} {H : Hp} {d : D} {v : V} (R : Rel G γ A H) (h : VR G γ H d v) (e : insC A d = some c) (hC : G.cls c = some C) : ∃ a dx vs, v = .ref a ∧ SlX.Slt H a C dx vs := by
  cases d with
  | ins c' ds =>
    cases e
    unfold VR at h
    obtain ⟨a, C', dx, vs, rfl, n1, n2, hC', k1, k2, _⟩ := h
    rw [hC] at hC'; cases hC'
    exact ⟨a, dx, vs.map some, rfl, .inr ⟨k1, k2⟩⟩
  | ref r =>
    unfold VR at h
    obtain ⟨a, rfl, h0⟩ := h
    unfold insC at e
    simp only at e
    split at e
    · rename_i c' fs q
      cases e
      obtain ⟨a', k1, k2, C', dx, vs, hC', hsl, _⟩ := R.at_ _ _ q
      rw [h0] at k1; cases k1
      rw [hC] at hC'; cases hC'
      exact ⟨a, dx, vs, rfl, hsl⟩
    · cases e
  | _ => cases e
/-- what a property of the class C asks -/
structure PropAt (K : PySem.W.Frag) (C : Addr) (f : Str) (p g : Addr) : Prop where
  sc : SlX.SCls K C
  at_ : PySem.W.findIn K (.ref C) f = some (some (.ref p))
  get : PySem.W.specialIn K (.ref p) "__get__" = some (some (.builtin "property.__get__"))
  tk : PySem.W.takesIn K (.ref p) = some true
  rc : ∃ rest, PySem.W.recIn K p "property" = some (.ref g :: rest)
def gProp (c : Nat) (m : List D → AH → Res D) (x : D) (A : AH) : Res D := if insC A x = some c then match m [x] A with
  | .ok d A1 => .ok d A1
  | _ => .stuck
  else .stuck
theorem je_prop (o : XO X G W k) {fn : Str} {e : Expr} {pos : Pos} {fa : Ev → AH → Res D} {p g : Addr} (P : PropAt X.K C fn p g) (hC : G.cls c = some C) (F : FnG X.prog X.w X.K X.mg X.base G j g m) (hj : j + 1 ≤ k) (he : JE X G W e fa) (hb : attributeBase e fn X.env (eval e X.env) = eval e X.env := by rfl) :
    JE X G W (.Attribute e fn pos) (sUn (gProp c m) fa) := by
  refine ⟨⟨fun pins s σ H Q I h => ?_⟩⟩
  obtain ⟨γ, A, env, S, h⟩ := h
  refine attr_of hb (thn (he.run.run pins s σ H (fun v H1 => ∃ γ1 A1 d, Rel G γ1 A1 H1 ∧ VR G γ1 H1 d v ∧ Post G γ1 H1 (gProp c m d A1) (fun γ' _ H' d => ∀ v, VR G γ' H' d v → Q v H') (fun c a H' => W c a σ H')) I
    ⟨γ, A, env, S, Post.bind h fun d A1 γ1 H1 e1 R1 h1 v r1 => ⟨γ1, A1, d, R1, r1, h1⟩⟩) fun u s1 ⟨v, H1, I1, ru, γ1, A1, d, R1, r1, h1⟩ => ?_)
  unfold gProp at h1
  split at h1
  · rename_i hi
    obtain ⟨a, dx, vs, rfl, hsl⟩ := insC_at R1 r1 hi hC
    obtain rfl : u = Value.ref a := ru
    obtain ⟨sl, od, _, J, _⟩ := SlX.slt_inst I1 hsl
    obtain ⟨rest, hrec⟩ := P.rc
    have I2 : Inv X pins σ H1 { s1 with toks := s1.toks + 1 } := I1.tok (s1.toks + 1)
    refine PySem.W.get_bind I1.kIn J (PySem.W.plainGet_of (P.sc.get fn)).1 (PySem.W.findObj_data P.sc.ic P.at_ P.get P.tk) (PySem.W.plainGet_of (P.sc.get fn)).2 (wpAny_call (PySem.W.prop_get (s := { s1 with toks := s1.toks + 1 }) I1.kIn hrec ?_))
    refine codeAny_mono (F X.A.in1 X.stack { s1 with toks := s1.toks + 1 } H1 [.ref a] [.ref a] [d] γ1 A1 Q (fun _ _ _ => False) (o.room.mono hj).in1 o.gd I2.env0.in1 (.cons rfl .nil) R1 (VRs.cons r1 VRs.nil) ?_) fun z s' hq => ?_
    · cases q : m [d] A1 with
      | ok d2 A2 => rw [q] at h1; exact h1
      | ex x A2 => rw [q] at h1; exact h1.elim
      | stuck => rw [q] at h1; exact h1.elim
    · cases z with
      | error e =>
        obtain ⟨a, B, H', cls, d, _, _, _, _, _, _, _, z⟩ := hq
        exact z.elim
      | ok fl =>
        cases fl with
        | ret u =>
          obtain ⟨v, H', I3, rv, q⟩ := I2.after hq
          exact wpAny_of_eq (PySem.W.handedOut_of (handed_of rv)) ⟨v, H', I3, rv, q⟩
        | _ => exact False.elim hq
  · exact h1.elim
end
end F3
namespace F3
open PySem PySem.Spec
open PyProof.Rows L2
/-! ### == and != of a class with its own __eq__ -/
section
variable {M : Model} {A : Around} {E : Value → Shared → Prop} {s : Shared} {K : PySem.W.Frag} {x C g : Addr} {y : Value} {ox : Obj} {od : Option Obj}
theorem ne_slot (X : K.In s.heap) (I : PySem.W.InstAt s.heap x ox C od) (hs : PySem.W.findIn K (.ref C) "__eq__" = some (some (.ref g))) (hf : PySem.W.isFn K (.ref g) = true) (hu : A.units < cLine) {Q : Fin → Shared → Prop}
    (hcall : wpAny M A (call (.ref g) [.ref x, y]) (fun v s' => ∃ b, v = .bool b ∧ Q (.done (.ret (.bool (!b)))) s') E s) : wpAny M A (Builtin.«object.__ne__» ⟨[.ref x, y], []⟩) Q E s := by
  unfold Builtin.«object.__ne__»
  repeat (first
    | with_reducible refine wpAny_cRoomFor hu ?_
    | (refine wpAny_bind (m := callSpecialIfBound? (.ref x) (Str.ofString "__eq__") [y])
        (PySem.W.ifBound_K X I hs hf (wpAny_mono hcall (fun r s' hr => by
          obtain ⟨b, rfl, hq⟩ := hr
          repeat (first | exact hq | exact wpAny_pure hq | exact wpAny_truthy_bool hq | (refine wpAny_bind (m := truthy (.bool _)) (wpAny_truthy_bool ?_)) | wp_step)) fun _ _ e => e)))
    | wp_step)
theorem ne_check (X : K.In s.heap) (I : PySem.W.InstAt s.heap x ox C od) (hb : PySem.W.subIn K (.ref C) (.type "object") = some true) {Q : Unit → Shared → Prop} (hq : Q () s) :
    wpAny M A (checkBuiltinCall "object.__ne__" ⟨[.ref x, y], []⟩) Q E s := by
  simp only [checkBuiltinCall, PySem.F.cmpKind_ne, PySem.F.cmpSplit_ne]
  refine wpAny_bind ?_
  unfold isInstance
  refine wpAny_bind (I.type.here ((PySem.W.looks_subIn X hb).here ?_))
  show wpAny M A _ _ E s
  repeat (first
    | (simp only [if_true]; fail_if_success trivial)
    | wp_step)
  exact hq
theorem ne_try {prog : Program} {w : World} (X : K.In s.heap) (I : PySem.W.InstAt s.heap x ox C od) (hb : PySem.W.subIn K (.ref C) (.type "object") = some true) (hs : PySem.W.findIn K (.ref C) "__eq__" = some (some (.ref g))) (hf : PySem.W.isFn K (.ref g) = true)
    (hn : PySem.W.findIn K (.ref C) "__ne__" = some (some (.builtin "object.__ne__"))) (hu : A.units + 1 < cLine) {Q : Option Value → Shared → Prop}
    (hcall : wpAny (model prog w) A.in1 (call (.ref g) [.ref x, y]) (fun v s' => ∃ b, v = .bool b ∧ Q (some (.bool (!b))) s') E s) : wpAny (model prog w) A (tryCompare (.ref x) "__ne__" y) Q E s := by
  have body : wpAny (model prog w) A (call (.builtin "object.__ne__") [.ref x, y]) (fun v s' => ∃ b, v = .bool b ∧ Q (some (.bool b)) s') E s := by
    refine wpAny_call (codeAny_call_builtin PySem.F.cmp_object.ne.plain PySem.F.cmpEntry_ne (ne_check X I hb (ne_slot (A := A.in1) X I hs hf hu (wpAny_mono hcall (fun v s' hv => ?_) fun _ _ e => e))))
    obtain ⟨b, rfl, hq⟩ := hv
    exact ⟨b, rfl, ⟨!b, rfl, hq⟩⟩
  unfold tryCompare
  refine wpAny_bind (m := callSpecialIfBound? (.ref x) "__ne__" [y]) ?_
  refine wpAny_mono (Q := fun r s' => ∃ b, r = some (.bool b) ∧ Q (some (.bool b)) s') ?_ (fun r s' ⟨b, e, q⟩ => by subst e; exact wpAny_pure q) fun _ _ e => e
  simp only [callSpecialIfBound?, bindSpecialIfBound?]
  refine wpAny_holding (wpAny_bind (wpAny_bind (wpAny_bind (I.type.here ((PySem.W.looks_findIn X hn).here ?_)))))
  refine wpAny_bind (wpAny_askSetting (wpAny_ite ?_))
  simp only [PySem.F.cmp_object.ne.bind]
  have fin : wpAny (model prog w) A (call (.builtin "object.__ne__") ([.ref x] ++ [y]) >>= fun v => pure (some v)) (fun r s' => ∃ b, r = some (.bool b) ∧ Q (some (.bool b)) s') E s :=
    wpAny_bind (wpAny_mono body (fun v s' ⟨b, e, q⟩ => wpAny_pure ⟨b, by rw [e], q⟩) fun _ _ e => e)
  split
  · exact wpAny_bind (wpAny_pure (wpAny_pure fin))
  · exact wpAny_tryCatch (wpAny_bind (wpAny_pure (wpAny_pure fin)))
theorem ne_rich {prog : Program} {w : World} {tb : Value} (X : K.In s.heap) (I : PySem.W.InstAt s.heap x ox C od) (hy : PySem.W.Looks (model prog w) s.heap (typeOf y) tb) (ht : PySem.W.notFirst K C tb = true) (hb : PySem.W.subIn K (.ref C) (.type "object") = some true) (hs : PySem.W.findIn K (.ref C) "__eq__" = some (some (.ref g))) (hf : PySem.W.isFn K (.ref g) = true)
    (hn : PySem.W.findIn K (.ref C) "__ne__" = some (some (.builtin "object.__ne__"))) (hu : A.units + 1 < cLine) {Q : Value → Shared → Prop}
    (hcall : wpAny (model prog w) A.in1 (call (.ref g) [.ref x, y]) (fun v s' => ∃ b, v = .bool b ∧ Q (.bool (!b)) s') E s) : wpAny (model prog w) A (richCompare .NotEq (.ref x) y) Q E s := by
  have one : wpAny (model prog w) A (tryCompare (.ref x) "__ne__" y) (fun r s' => ∃ b, r = some (.bool b) ∧ Q (.bool b) s') E s :=
    ne_try X I hb hs hf hn hu (wpAny_mono hcall (fun v s' ⟨b, e, q⟩ => ⟨b, e, !b, rfl, q⟩) fun _ _ e => e)
  unfold richCompare
  simp only [oneThing_ref]
  refine wpAny_holding (wpAny_bind (wpAny_cRoomFor (Nat.lt_of_succ_lt hu) ?_))
  rw [cmpInfo_NotEq]
  dsimp only
  refine wpAny_bind (I.type.here (wpAny_bind (hy.here ?_)))
  split
  · rename_i q
    have e : PySem.W.subIn K tb (.ref C) = some false := by
      rcases Bool.or_eq_true_iff.mp ht with e | e
      · rw [beq_iff_eq.mp e] at q; simp at q
      · exact beq_iff_eq.mp e
    refine wpAny_bind ((PySem.W.looks_subIn X e).here ?_)
    simp only [Bool.false_eq_true, if_false]
    refine wpAny_bind (wpAny_mono one (fun r s' ⟨b, e, q⟩ => ?_) fun _ _ e => e)
    subst e
    exact wpAny_pure q
  · refine wpAny_bind (wpAny_pure ?_)
    simp only [Bool.false_eq_true, if_false]
    refine wpAny_bind (wpAny_mono one (fun r s' ⟨b, e, q⟩ => ?_) fun _ _ e => e)
    subst e
    exact wpAny_pure q
end
/-! ### .. as rules -/
/-- what the class at C has of ==: its own def at g -/
structure EqAt (K : PySem.W.Frag) (C g : Addr) : Prop where
  eq : PySem.W.findIn K (.ref C) "__eq__" = some (some (.ref g))
  ne : PySem.W.findIn K (.ref C) "__ne__" = some (some (.builtin "object.__ne__"))
  fn : PySem.W.isFn K (.ref g) = true
  ob : PySem.W.subIn K (.ref C) (.type "object") = some true
/-- the def's answer; n: turned about -/
def gOwnEq (c : Nat) (m : List D → AH → Res D) (n : Bool) (x y : D) (A : AH) : Res D := if insC A x = some c then (if insC A y = some c then (match m [x, y] A with
  | .ok (.bl b) A1 => .ok (.bl (n ^^ b)) A1
  | _ => .stuck) else .stuck) else .stuck
def rOwnG (G : Gc) (c : Nat) (m : List D → AH → Res D) (n : Bool) : R2 := fun x y H Q => ∃ γ A a b, Rel G γ A H ∧ VR G γ H a x ∧ VR G γ H b y ∧ Post G γ H (gOwnEq c m n a b A) (fun γ' _ H' d => ∀ v, VR G γ' H' d v → Q v H') (fun _ _ _ => False)
section
variable {X : Cx} {G : Gc} {W : WX} {k j c : Nat} {g C : Addr} {m : List D → AH → Res D}
theorem own_call {A : Around} {pins : List (Addr × Obj)} {σ : L2.St} {H : Hp} {s : Shared} {n : Bool} {a b : Addr} {x y : D} {γ : Gh} {Ah : AH} {Q : VK} (F : FnG X.prog X.w X.K X.mg X.base G j g m) (hr : Room j A) (hg : A.guards = some []) (e0 : Env0 X.prog X.w X.K X.mg X.base A X.stack s H) (I : Inv X pins σ H s)
    (R : Rel G γ Ah H) (r1 : VR G γ H x (.ref a)) (r2 : VR G γ H y (.ref b)) (h : Post G γ H (gOwnEq c m n x y Ah) (fun γ' _ H' d => ∀ v, VR G γ' H' d v → Q v H') (fun _ _ _ => False)) {Ex : Value → Shared → Prop} :
    wpAny (model X.prog X.w) A (call (.ref g) [.ref a, .ref b]) (fun v s' => ∃ z, v = .bool z ∧ EP X pins σ Q (.bool (n ^^ z)) s') Ex s := by
  refine wpAny_call (codeAny_mono (F A X.stack s H [.ref a, .ref b] [.ref a, .ref b] [x, y] γ Ah (fun v H' => ∃ z, v = .bl z ∧ Q (.bl (n ^^ z)) H') (fun _ _ _ => False) hr hg e0 (.cons rfl (.cons rfl .nil)) R (VRs.cons r1 (VRs.cons r2 VRs.nil)) ?_) fun z s' hq => ?_)
  · unfold gOwnEq at h
    split at h
    · split at h
      · split at h
        · rename_i z A1 q
          rw [q]
          intro γ' H' e R' v rv
          unfold VR at rv
          exact ⟨z, rv, h γ' H' e R' _ (by unfold VR; rfl)⟩
        · exact h.elim
      · exact h.elim
    · exact h.elim
  · cases z with
    | error e =>
      obtain ⟨a, B, H', cls, d, _, _, _, _, _, _, _, z⟩ := hq
      exact z.elim
    | ok fl =>
      cases fl with
      | ret u =>
        obtain ⟨v, H', I3, rv, z, ez, q⟩ := I.after hq
        subst ez
        exact ⟨z, rv, .bl (n ^^ z), H', I3, rfl, q⟩
      | _ => exact False.elim hq
theorem op_ownG (o : XO X G W k) {op : CmpOp} {n : Bool} (T : EqAt X.K C g) (hC : G.cls c = some C) (F : FnG X.prog X.w X.K X.mg X.base G j g m) (hj : j + 1 ≤ k) (hop : (op = .Eq ∧ n = false) ∨ (op = .NotEq ∧ n = true)) : OpR X (compareOp op) (rOwnG G c m n) := by
  intro pins s σ H x y v u Q I rx ry h
  obtain ⟨γ, A, a, b, R, r1, r2, h⟩ := h
  have h0 := h
  unfold gOwnEq at h
  split at h
  · rename_i h1
    split at h
    · rename_i h2
      obtain ⟨p, dx, vs, rfl, s1⟩ := insC_at R r1 h1 hC
      obtain ⟨q, dy, ws, rfl, s2⟩ := insC_at R r2 h2 hC
      cases (show v = Value.ref p from rx)
      cases (show u = Value.ref q from ry)
      obtain ⟨sl, od, _, J, _⟩ := SlX.slt_inst I s1
      obtain ⟨sl', od', _, J', _⟩ := SlX.slt_inst I s2
      obtain ⟨mF, hF⟩ := I.fr
      have nf : PySem.W.notFirst X.K C (.ref C) = true := by simp [PySem.W.notFirst]
      rcases hop with ⟨rfl, rfl⟩ | ⟨rfl, rfl⟩
      · show wpAny _ _ (richCompare .Eq _ _) _ _ _
        refine PySem.W.cmp_K (op := .Eq) (tb := .ref C) o.u0 hF I.ok.mod.kin J J'.type nf T.eq T.fn ?_
        refine wpAny_mono (own_call F (o.room.mono (by omega)) o.gd I.env0 I R r1 r2 h0) (fun w s' z => ?_) fun _ _ e => e
        obtain ⟨z, rfl, q⟩ := z
        rw [Bool.false_xor] at q
        exact q
      · show wpAny _ _ (richCompare .NotEq _ _) _ _ _
        refine ne_rich I.kIn J J'.type nf T.ob T.eq T.fn T.ne (by have := o.u64; omega) ?_
        refine wpAny_mono (own_call F (o.room.mono hj).in1 o.gd I.env0.in1 I R r1 r2 h0) (fun w s' z => ?_) fun _ _ e => e
        obtain ⟨z, rfl, q⟩ := z
        rw [Bool.true_xor] at q
        exact ⟨z, rfl, q⟩
    · exact h.elim
  · exact h.elim
/-- == of data, or by the class's own def -/
def gEqO (c : Nat) (m : List D → AH → Res D) (x y : D) (A : AH) : Res D := if insC A x = some c then gOwnEq c m false x y A else gEq x y A
def gNeO (c : Nat) (m : List D → AH → Res D) (x y : D) (A : AH) : Res D := if insC A x = some c then gOwnEq c m true x y A else gNe x y A
theorem post_noex {γ : Gh} {H : Hp} {A : AH} {n : Bool} {x y : D} {Q : Gh → AH → Hp → D → Prop} {Wx : WXe} (h : Post G γ H (gOwnEq c m n x y A) Q Wx) : Post G γ H (gOwnEq c m n x y A) Q (fun _ _ _ => False) := by
  unfold gOwnEq at h ⊢
  split at h
  · rename_i h1
    rw [if_pos h1]
    split at h
    · rename_i h2
      rw [if_pos h2]
      split at h
      · rename_i z A1 q
        exact h
      · exact h.elim
    · exact h.elim
  · exact h.elim
theorem XO.eqO (o : XO X G W k) (T : EqAt X.K C g) (hC : G.cls c = some C) (F : FnG X.prog X.w X.K X.mg X.base G j g m) (hj : j + 1 ≤ k) : CO X G .Eq (gEqO c m) := by
  refine ⟨_, OpR.or (op_ownG o (n := false) T hC F hj (.inl ⟨rfl, rfl⟩)) (op_eqD o.u64), fun γ A H a b x y Q Wx R r1 r2 h => ?_⟩
  unfold gEqO at h
  split at h
  · exact .inl ⟨γ, A, a, b, R, r1, r2, post_noex h⟩
  · exact .inr (ok_eq o.gk γ A H a b x y Q Wx R r1 r2 h)
theorem XO.neO (o : XO X G W k) (T : EqAt X.K C g) (hC : G.cls c = some C) (F : FnG X.prog X.w X.K X.mg X.base G j g m) (hj : j + 1 ≤ k) : CO X G .NotEq (gNeO c m) := by
  refine ⟨_, OpR.or (op_ownG o (n := true) T hC F hj (.inr ⟨rfl, rfl⟩)) (op_neD o.u64), fun γ A H a b x y Q Wx R r1 r2 h => ?_⟩
  unfold gNeO at h
  split at h
  · exact .inl ⟨γ, A, a, b, R, r1, r2, post_noex h⟩
  · exact .inr (ok_ne o.gk γ A H a b x y Q Wx R r1 r2 h)
end
end F3
namespace F3
open PySem PySem.Spec
open PyProof.Rows L2
/-! ### sorted -/
section
variable {α : Type}
def insB (lt : α → α → Bool) (x : α) : List α → List α
  | [] => [x]
  | y :: l => if lt y x then y :: insB lt x l else x :: y :: l
def isortB (lt : α → α → Bool) : List α → List α
  | [] => []
  | x :: l => insB lt x (isortB lt l)
theorem insB_perm (lt : α → α → Bool) (x : α) : ∀ l : List α, (insB lt x l).Perm (x :: l)
  | [] => .refl _
  | y :: l => by
    unfold insB
    split
    · exact ((insB_perm lt x l).cons y).trans (.swap x y l)
    · exact .refl _
theorem isortB_perm (lt : α → α → Bool) : ∀ l : List α, (isortB lt l).Perm l
  | [] => .refl _
  | x :: l => (insB_perm lt x _).trans ((isortB_perm lt l).cons x)
/-- a strict order that tells all things apart -/
structure Lin (lt : α → α → Bool) : Prop where
  tr : ∀ a b c, lt b a = false → lt c b = false → lt c a = false
  asym : ∀ a b, lt a b = true → lt b a = false
  eq : ∀ a b, lt a b = false → lt b a = false → a = b
theorem insB_sorted {lt : α → α → Bool} (L : Lin lt) (x : α) : ∀ l : List α, l.Pairwise (fun a b => lt b a = false) → (insB lt x l).Pairwise (fun a b => lt b a = false)
  | [], _ => .cons (fun _ h => nomatch h) .nil
  | y :: l, h => by
    obtain ⟨h1, h2⟩ := List.pairwise_cons.mp h
    unfold insB
    split
    · rename_i q
      refine .cons (fun z hz => ?_) (insB_sorted L x l h2)
      rcases List.mem_cons.mp ((insB_perm lt x l).mem_iff.mp hz) with e | e
      · subst e; exact L.asym _ _ q
      · exact h1 z e
    · rename_i q
      have q : lt y x = false := by simpa using q
      refine .cons (fun z hz => ?_) h
      rcases List.mem_cons.mp hz with e | e
      · subst e; exact q
      · exact L.tr _ _ _ q (h1 z e)
theorem isortB_sorted {lt : α → α → Bool} (L : Lin lt) : ∀ l : List α, (isortB lt l).Pairwise (fun a b => lt b a = false)
  | [] => .nil
  | x :: l => insB_sorted L x _ (isortB_sorted L l)
theorem sorted_one {lt : α → α → Bool} (L : Lin lt) : ∀ {l m : List α}, l.Pairwise (fun a b => lt b a = false) → m.Pairwise (fun a b => lt b a = false) → l.Perm m → l = m
  | [], m, _, _, h => (List.Perm.eq_nil h.symm).symm
  | x :: l, [], _, _, h => absurd h.length_eq (by simp)
  | x :: l, y :: m, hl, hm, h => by
    obtain ⟨l1, l2⟩ := List.pairwise_cons.mp hl
    obtain ⟨m1, m2⟩ := List.pairwise_cons.mp hm
    have e : x = y := by
      rcases List.mem_cons.mp (h.mem_iff.mp List.mem_cons_self) with e | hx
      · exact e
      · rcases List.mem_cons.mp (h.mem_iff.mpr List.mem_cons_self) with e | hy
        · exact e.symm
        · exact L.eq _ _ (m1 x hx) (l1 y hy)
    subst e
    rw [sorted_one L l2 m2 h.cons_inv]
end
def ltI (a b : Int) : Bool := decide (a < b)
theorem lin_int : Lin ltI := ⟨fun a b c h1 h2 => by unfold ltI at *; simp at *; omega, fun a b h => by unfold ltI at *; simp at *; omega, fun a b h1 h2 => by unfold ltI at *; simp at *; omega⟩
theorem lin_lex : Lin SrtO.lexB := ⟨fun a b c h1 h2 => by rw [SrtO.lexB_no] at *; omega, fun a b h => by rw [SrtO.lexB_no]; rw [SrtO.lexB_iff] at h; omega, fun a b h1 h2 => by
  rw [SrtO.lexB_no] at *
  obtain ⟨a1, a2⟩ := a
  obtain ⟨b1, b2⟩ := b
  simp only at *
  have e1 : a1 = b1 := by omega
  have e2 : a2 = b2 := by omega
  rw [e1, e2]⟩
def dpairs : List D → Option (List (Int × Int))
  | [] => some []
  | .tup [.int i, .int j] :: r => (dpairs r).map ((i, j) :: ·)
  | _ => none
def pD (p : Int × Int) : D := .tup [.int p.1, .int p.2]
theorem dpairs_map : ∀ {ds : List D} {ns : List (Int × Int)}, dpairs ds = some ns → ds = ns.map pD
  | [], ns, h => by unfold dpairs at h; cases h; rfl
  | d :: ds, ns, h => by
    unfold dpairs at h
    split at h
    · rename_i e; cases e
    · rename_i i j r e
      cases e
      obtain ⟨ms, e1, rfl⟩ := Option.map_eq_some_iff.mp h
      rw [dpairs_map e1]; rfl
    · cases h
def sortP (ds : List D) : Option (List D) := match dints ds with
  | some ns => some ((isortB ltI ns).map .int)
  | none => (dpairs ds).map fun ps => (isortB SrtO.lexB ps).map pD
def gSorted (ds : List D) (A : AH) : Res D := match ds with
  | [d] => match (asQ A d).bind sortP with
    | some xs => .ok (.lst xs) A
    | none => .stuck
  | _ => .stuck
def kH (H : Hp) (v : V) : Int × Int := match v with
  | .ref t => match H t with
    | some (.tup [.int i, .int j]) => (i, j)
    | _ => (0, 0)
  | _ => (0, 0)
section
variable {X : Cx} {G : Gc} {W : WX} {k : Nat}
theorem vr_pair {γ : Gh} {H : Hp} {p : Int × Int} {v : V} (h : VR G γ H (pD p) v) : ∃ t, v = .ref t ∧ H t = some (.tup [.int p.1, .int p.2]) ∧ γ.o t = none := by
  unfold pD at h
  unfold VR at h
  obtain ⟨a, vs, rfl, f, r⟩ := h
  obtain ⟨v1, v2, rfl, r1, r2⟩ := VRs.two r
  unfold VR at r1 r2
  subst r1 r2
  exact ⟨a, rfl, f.1, f.2⟩
theorem kH_of {γ : Gh} {H : Hp} {p : Int × Int} {v : V} (h : VR G γ H (pD p) v) : kH H v = p := by
  obtain ⟨t, rfl, e, _⟩ := vr_pair h
  unfold kH
  simp only [e]
theorem VRs.mem {γ : Gh} {H : Hp} : ∀ {ds : List D} {vs : List V} {v : V}, VRs G γ H ds vs → v ∈ vs → ∃ d ∈ ds, VR G γ H d v
  | [], vs, v, h, m => by unfold VRs at h; subst h; cases m
  | d :: ds, vs, v, h, m => by
    unfold VRs at h
    obtain ⟨u, r, rfl, h1, h2⟩ := h
    rcases List.mem_cons.mp m with e | e
    · subst e; exact ⟨d, List.mem_cons_self, h1⟩
    · obtain ⟨d', m', h'⟩ := VRs.mem h2 e
      exact ⟨d', List.mem_cons_of_mem _ m', h'⟩
theorem kH_map {γ : Gh} {H : Hp} : ∀ {ps : List (Int × Int)} {vs : List V}, VRs G γ H (ps.map pD) vs → vs.map (kH H) = ps
  | [], vs, h => by unfold VRs at h; subst h; rfl
  | p :: ps, vs, h => by
    simp only [List.map_cons] at h
    unfold VRs at h
    obtain ⟨u, r, rfl, h1, h2⟩ := h
    rw [List.map_cons, kH_of h1, kH_map h2]
theorem pairs_back {γ : Gh} {H : Hp} : ∀ {ys : List V}, (∀ y ∈ ys, ∃ p, VR G γ H (pD p) y) → VRs G γ H ((ys.map (kH H)).map pD) ys
  | [], _ => VRs.nil
  | y :: ys, h => by
    obtain ⟨p, hp⟩ := h y List.mem_cons_self
    refine VRs.cons ?_ (pairs_back fun z hz => h z (List.mem_cons_of_mem _ hz))
    rw [kH_of hp]; exact hp
theorem XO.sorted (o : XO X G W k) : CB X G (.builtin "sorted") gSorted := by
  refine ⟨_, CallR.or cr_sortedI cr_sortedPO, fun γ A H ds vs Q Wx R rv h => ?_⟩
  unfold gSorted at h
  split at h
  · rename_i d
    obtain ⟨v, rfl, r⟩ := VRs.one rv
    split at h
    · rename_i xs q
      obtain ⟨ds, q1, q2⟩ := Option.bind_eq_some_iff.mp q
      obtain ⟨a, ws, rfl, r2, hq⟩ := asQ_at R r q1
      rw [o.gk] at hq
      unfold sortP at q2
      split at q2
      · rename_i ns e
        cases q2
        rw [ints_map e] at r2
        obtain rfl := r2.intsV
        refine .inl ⟨a, ns, rfl, hq, fun ns' p hp hs hn => ?_⟩
        have e2 : ns' = isortB ltI ns := sorted_one lin_int (hs.imp fun {x y} z => by unfold ltI; simp; omega) (isortB_sorted lin_int _) (hp.trans (isortB_perm _ _).symm)
        subst e2
        exact Post.new (ob := .lst _) R hn h _ (VR.newL R hn (VRs.ints _))
      · obtain ⟨ps, e, rfl⟩ := Option.map_eq_some_iff.mp q2
        rw [dpairs_map e] at r2
        refine .inr ⟨a, ws, kH H, rfl, hq, fun x hx => ?_, fun ys p hs hb hn => ?_⟩
        · obtain ⟨d, hd, hv⟩ := r2.mem hx
          obtain ⟨p, _, rfl⟩ := List.mem_map.mp hd
          obtain ⟨t, rfl, e, _⟩ := vr_pair hv
          rw [kH_of hv]
          exact ⟨t, rfl, e⟩
        · have e2 : ys.map (kH H) = isortB SrtO.lexB ps := by
            refine sorted_one lin_lex (List.pairwise_map.mpr hs) (isortB_sorted lin_lex _) ?_
            refine (hb.perm.map _).trans ?_
            rw [kH_map r2]
            exact (isortB_perm _ _).symm
          have rb : VRs G γ H ((ys.map (kH H)).map pD) ys := pairs_back fun y hy => by
            obtain ⟨d, hd, hv⟩ := r2.mem (hb.perm.mem_iff.mp hy)
            obtain ⟨p, _, rfl⟩ := List.mem_map.mp hd
            exact ⟨p, hv⟩
          rw [e2] at rb
          exact Post.new (ob := .lst ys) R hn h _ (VR.newL R hn rb)
    · exact h.elim
  · exact h.elim
/-! ### list -/
theorem XO.list (o : XO X G W k) : CB X G (.type "list") gList := by
  refine ⟨_, call_list_of, fun γ A H ds vs Q Wx R rv h => ?_⟩
  unfold gList at h
  split at h
  · obtain ⟨v, rfl, r⟩ := VRs.one rv
    split at h
    · rename_i xs q
      obtain ⟨a, ws, rfl, r2, hq⟩ := asL_at R r q
      rw [o.gk] at hq
      exact ⟨a, ws, rfl, hq, fun p hp => Post.new (ob := .lst ws) R hp h _ (VR.newL R hp r2)⟩
    · exact h.elim
  · exact h.elim
/-! ### a def that hands back a thing that is changed -/
def runN (n p : Nat) (g : Ev → AH → SR) (ds : List D) (A : AH) : Res D :=
  if ds.length = p then
    match g (ds.map some ++ List.replicate (n - p) none) A with
    | .nx _ A1 => .ok .non A1
    | .rt d A1 => .ok d A1
    | .ex x _ A1 => .ex x A1
    | _ => .stuck
  else .stuck
theorem fnN_of {P : Program} {w : World} {K : PySem.W.Frag} {mg : Str → Option Value} {base : Heap} {x qual : Str} {st : Stmt} {f : Addr} {fd : FuncData} {N ps : List Str} {g : Ev → AH → SR} (F : Fun K x qual st f fd) (Sc : FnScope N ps (defScope st)) (hK : G.K = K)
    (hb : ∀ (kV doc pm : Value) (an : Option Addr) (cdv ct : Value) (us : List Value), us.length = ps.length → bindArgs (PySem.W.fnOf x qual (defArgs st) (defBody st) (defScope st) .none kV doc pm an cdv ct) ⟨us, []⟩ = pure (ps.zip us))
    (body : ∀ (cdv : Value) (A : Around) (outer : List Env) (s : Shared) (H : Hp) (E : XK), XO (cxOf (L2.CX P w) P w K mg base N qual (defScope st) f cdv A outer s H E) G (fun c d _ H => E c d H) k →
      JB (cxOf (L2.CX P w) P w K mg base N qual (defScope st) f cdv A outer s H E) G (fun c d _ H => E c d H) (defBody st) g) :
    FnG P w K mg base G (k + 1) f (runN N.length ps.length g) := by
  intro A outer s H us vs ds γ Ah Q E hr hg e0 r R rv h
  obtain ⟨oc, od, kV, doc, pm, an, cdv, ct, osl, rfl, lk, hcd⟩ := F.ex
  unfold runN at h
  by_cases hl : ds.length = ps.length
  · rw [if_pos hl] at h
    have hlv : vs.length = ps.length := by rw [← rv.length]; exact hl
    have hNp : ps.length ≤ N.length := by have := congrArg List.length Sc.pre; rw [List.length_take] at this; omega
    refine LamX.run_ofS (N := N) (us := us) (vs := vs) lk hcd Sc hr e0 (.of_eq (hb _ _ _ _ _ _ us (by rw [← r.length]; exact hlv))) r hlv fun hr' => ?_
    have o : XO (cxOf (L2.CX P w) P w K mg base N qual (defScope st) f cdv A outer s H E) G (fun c d _ H => E c d H) k :=
      ⟨takes_of rfl rfl rfl rfl, passes_of rfl, rfl, hr', hg, hK⟩
    refine ⟨_, (body cdv A outer s H E o).run, γ, Ah, ds.map some ++ List.replicate (N.length - ps.length) none, ⟨R, ?_, er_start rv N (by rw [hlv])⟩, ?_⟩
    · unfold L2.start
      simp only [List.length_append, List.length_map, List.length_replicate]
      omega
    · cases q : g (ds.map some ++ List.replicate (N.length - ps.length) none) Ah with
      | nx env1 A1 =>
        rw [q] at h
        exact fun γ' H' σ' e S => h γ' H' e S.rel .non (by unfold VR; rfl)
      | rt d A1 =>
        rw [q] at h
        exact fun γ' H' v e R' r' => h γ' H' e R' v r'
      | ex x env1 A1 =>
        rw [q] at h
        exact fun γ' H' σ' cls ad e S xr => h γ' H' cls ad e S.rel xr
      | bk env1 A1 => rw [q] at h; exact h.elim
      | ct env1 A1 => rw [q] at h; exact h.elim
      | stuck => rw [q] at h; exact h.elim
  · rw [if_neg hl] at h; exact h.elim
end
end F3
namespace F3
open PySem PySem.Spec
open PyProof.Rows L2
/-! ### the law's own end -/
section
variable {P : Program} {w : World} {K : PySem.W.Frag} {mg mb : Str → Option Value} {k : Nat} {fa a : Addr} {st : Shared} {vals : List Value} {ns : List Int}
/-- what stands at the start of the law's def -/
structure Begin (K : PySem.W.Frag) (mg mb : Str → Option Value) (st : Shared) (a : Addr) (vals : List Value) (ns : List Int) : Prop where
  kin : K.In st.heap
  glo : st.heap.Ns mainGlobals mg
  bl : st.heap.Ns builtinsNs mb
  bb : ∀ x : Str, x ≠ "__name__" → mb x = bootBuiltins x
  lim : st.heap.NoLimit
  gens : st.gens = #[]
  at_ : st.heap.get? a = some { cls := .type "list", data := .seq vals.toArray }
  nums : IntsAre vals ns
  len : ns.length ≤ sizeLine
def Gh0 : Gh := ⟨[], fun _ => none⟩
theorem rel0 {G : Gc} {H : Hp} (hT : G.T = []) : Rel G Gh0 [] H := by
  refine ⟨rfl, fun i o e => by simp at e, fun b x e => ?_, fun q hq => ?_⟩
  · cases e
  · rw [hT] at hq; cases hq
theorem begin_run {G : Gc} {m : List D → AH → Res D} (B : Begin K mg mb st a vals ns) (hr : Room k callerA) (hT : G.T = []) (hK : G.K = K) (F : ∀ base : Heap, K.In base → base.Ns mainGlobals mg → FnG P w K mg base G k fa m) (hm : ∃ A, m [.scr (ns.map .int)] [] = .ok (.bl true) A)
    (H : Hp) (hO : Only H) (hS : SqL K H a (ns.map V.int)) (hok : HOk P w H st.heap) (hA : ∀ b, H b ≠ none → b = a) (hL : H a ≠ none → K.lookup a = none) :
    codeAny (model P w) callerA (.call (.ref fa) ⟨[.ref a], []⟩) (fun r s' => r = .ok (.ret (.bool true)) ∧ OldK st.heap s'.heap ∧ s'.os = st.os ∧ AllBare s'.gens) st := by
  -- all but the script lies in the ground
  have low : ∀ {b : Addr} {o : Obj}, st.heap.get? b = some o → H b = none → (hidT st.heap H).get? b = some o := fun z z' => hidT_get z z'
  have dictFree : ∀ {b : Addr} {o : Obj} {es : Array DictEntry} {ep : Nat}, st.heap.get? b = some o → o.data = .dict es ep → H b = none := fun {b o es ep} z zd => by
    rcases hO b with q | ⟨oo, xs, q⟩
    · exact q
    · have hb : b = a := hA b (by rw [q]; exact fun z => nomatch z)
      subst hb
      have oe := B.at_.symm.trans z
      cases oe
      have dd : Data.seq vals.toArray _ = Data.dict es ep := zd
      cases dd
  have lowNs : ∀ {b : Addr} {mm : Str → Option Value}, st.heap.Ns b mm → (hidT st.heap H).Ns b mm := fun {b mm} z => by
    obtain ⟨o, es, ep, z1, z2, z3⟩ := z
    exact ⟨o, es, ep, low z1 (dictFree z1 z2), z2, z3⟩
  have lowK : K.In (hidT st.heap H) := fun b o z => by
    refine low (B.kin b o z) ?_
    rcases hO b with q | ⟨oo, xs, q⟩
    · exact q
    · have hb : b = a := hA b (by rw [q]; exact fun z => nomatch z)
      subst hb
      rw [hL (by rw [q]; exact fun z => nomatch z)] at z
      cases z
  obtain ⟨mc, l1, l2⟩ := B.lim
  have md : Mod K mg (hidT st.heap H) := ⟨lowK, lowNs B.glo, ⟨mb, lowNs B.bl, B.bb⟩, ⟨mc, lowNs l1, l2⟩⟩
  have start : Env0 P w K mg (hidT st.heap H) callerA [] st H := ⟨rfl, md, fun b o z => of_hidT z, Nat.le_of_eq (hidT_size _ _), trivial, fun b hb => (List.not_mem_nil (show b ∈ ([] : List Addr) from hb)).elim, hok, .of_eq B.gens⟩
  have script : VR G Gh0 H (.scr (ns.map .int)) (.ref a) := by
    unfold VR
    refine ⟨a, ns.map V.int, rfl, ?_, VRs.ints ns⟩
    rcases hS with hS | hS
    · exact .inl ⟨hS, rfl⟩
    · right; rw [hK]; exact .inr hS
  obtain ⟨A1, hm⟩ := hm
  refine codeAny_mono (F _ lowK (lowNs B.glo) callerA [] st H [.ref a] [.ref a] [.scr (ns.map .int)] Gh0 [] (fun v _ => v = .bl true) (fun _ _ _ => False) hr rfl start (.cons rfl .nil) (rel0 hT) (VRs.cons script VRs.nil) ?_) fun r s' z => ?_
  · rw [hm]
    intro γ' H' e R v rv
    unfold VR at rv
    exact rv
  · match r, z with
    | .error _, z =>
      obtain ⟨_, _, _, _, _, _, _, _, _, _, _, _, no⟩ := z
      exact no.elim
    | .ok .next, z => exact False.elim z
    | .ok .brk, z => exact False.elim z
    | .ok .cont, z => exact False.elim z
    | .ok (.ret u), z =>
      obtain ⟨v, H', os, bare, un, hok', ru, rfl⟩ := z
      obtain rfl : u = Value.bool true := ru
      refine ⟨rfl, OldK.of_keep fun b o z => ?_, os, bare⟩
      rcases hO b with q | ⟨oo, xs, q⟩
      · exact un.keep b o z q (fun y => (List.not_mem_nil (show b ∈ ([] : List Addr) from y)).elim) (by simp)
      · obtain ⟨y1, _⟩ := hok b _ q
        obtain ⟨y2, _⟩ := hok' b _ (un.frzs b oo _ q)
        rw [z] at y1; cases y1
        exact y2
theorem begin_all {G : Gc} {m : List D → AH → Res D} (B : Begin K mg mb st a vals ns) (hr : Room k callerA) (hT : G.T = []) (hK : G.K = K) (F : ∀ base : Heap, K.In base → base.Ns mainGlobals mg → FnG P w K mg base G k fa m) (hm : ∃ A, m [.scr (ns.map .int)] [] = .ok (.bl true) A) :
    codeAny (model P w) callerA (.call (.ref fa) ⟨[.ref a], []⟩) (fun r s' => r = .ok (.ret (.bool true)) ∧ OldK st.heap s'.heap ∧ s'.os = st.os ∧ AllBare s'.gens) st := by
  have rv := vals_ints B.nums
  have lv := B.nums.length
  rcases q : K.lookup a with _ | o
  · let ob : Obj := { cls := .type "list", data := .seq vals.toArray }
    let H : Hp := fun b => if b = a then some (.frz ob (.lst (ns.map V.int))) else none
    have atA : H a = some (.frz ob (.lst (ns.map V.int))) := if_pos rfl
    have off : ∀ b, b ≠ a → H b = none := fun b z => if_neg z
    refine begin_run B hr hT hK F hm H (fun b => ?_) (.inl (.inr ⟨ob, atA⟩)) (fun b u z => ?_) (fun b z => ?_) fun _ => q
    · by_cases z : b = a
      · subst z; exact .inr ⟨_, _, atA⟩
      · exact .inl (off b z)
    · by_cases y : b = a
      · subst y
        rw [atA] at z; cases z
        exact ⟨B.at_, by rw [List.length_map]; exact B.len, vals, _, rv, B.at_⟩
      · rw [off b y] at z; cases z
    · by_cases y : b = a
      · exact y
      · exact (z (off b y)).elim
  · have z := (B.kin a o q).symm.trans B.at_
    cases z
    refine begin_run B hr hT hK F hm (fun _ => none) (fun _ => .inl rfl) (.inr ⟨_, vals.toArray, _, q, rfl, rfl, rfl, ?_, by simpa using rv⟩) (fun b u z => nomatch z) (fun b z => (z rfl).elim) fun z => (z rfl).elim
    rw [List.size_toArray, lv]; exact B.len
end
/-- a law, from what its def reckons -/
theorem walkG {l : PySem.W.OpenLaw} {n k : Nat} {q : Program} {loose : List Str} {XP : (Str → Option Value) → Heap → Prop} {YP : World → Heap → Prop} {d : DefRec} {K : Params → PySem.W.Frag}
    (hn : l.most = some n) (hn2 : n ≤ sizeLine) (hdf : d.params.defaults = []) (hr : Room k callerA) (hY : ∀ (w : World) (h : Heap), YP w h → (K w.params).In h)
    (F : ∀ (w : World) (mg : Str → Option Value) (fa : Addr) (h : Heap), (K w.params).In h → h.Ns mainGlobals mg → mg d.name = some (.ref fa) →
      ∃ (G : Gc) (m : List D → AH → Res D), G.T = [] ∧ G.K = K w.params ∧ (∀ ns : List Int, ns.length ≤ n → ∃ A, m [.scr (ns.map .int)] [] = .ok (.bl true) A) ∧
        ∀ base : Heap, (K w.params).In base → base.Ns mainGlobals mg → FnG l.prog w (K w.params) mg base G k fa m) :
    PySem.W.WalkO q loose XP YP l.row.toRowW d [] (fun f vs => PySem.call f vs) := by
  refine Att.attach_call hn hdf fun w s₀ st mg mb fa o pm cd doc a vals ns GG Y ho hd hcd hmg hobj hints hlen hg => ?_
  have hk := hY w _ Y
  obtain ⟨G, m, hT, hK, hm, hF⟩ := F w mg fa _ hk GG.T.g hmg
  exact begin_all ⟨hk, GG.T.g, GG.T.b, GG.T.builtins, GG.T.nolimit, hg, hobj, hints, Nat.le_trans hlen hn2⟩ hr hT hK hF (hm ns hlen)
theorem room_caller {k : Nat} (h : callerA.depth + 3 * k + 5 < recursionLimit) (h' : callerA.units + 16 * k + 200 < cLine) : Room k callerA := ⟨rfl, h, h'⟩
end F3
namespace F3
open PySem PySem.Spec
open PyProof.Rows L2
/-! ### facts about names, asked of the written scopes alone -/
section
variable {X : Cx} {G : Gc} {W : WX} {k : Nat}
theorem XO.blk (o : XO X G W k) {s : Shared} {H : Hp} {scope : Scope} {cenv : Env} {fp : List Addr} : XO (X.blk s H scope cenv fp) G W0 k := by
  refine ⟨fun u s' x => ?_, PassesOwn.never, o.calm, o.room, o.gd, o.gk⟩
  obtain ⟨a, B, sI, pins, σ, H, cls, d, _, _, _, _, _, _, _, _, no⟩ := x
  exact no.elim
section
variable {CX : CXT} {P : Program} {w : World} {K : PySem.W.Frag} {mg : Str → Option Value} {base : Heap} {N : List Str} {qual : Str} {sc : Scope} {f : Addr} {cd : Value} {A : Around} {outer : List Env} {s : Shared} {H : Hp} {E : XK} {x : Str}
theorem vf (h : sc.names.lookup x = some .local) : Vis (cxOf CX P w K mg base N qual sc f cd A outer s H E).env.scope x := .inl h
theorem vfc (h : sc.names.lookup x = some .cell) : Vis (cxOf CX P w K mg base N qual sc f cd A outer s H E).env.scope x := .inr (.inl h)
theorem gf (h : sc.names.lookup x = some .globalImplicit) : Gl (cxOf CX P w K mg base N qual sc f cd A outer s H E) x := h
theorem lf (h : sc.names.lookup x = some .local) : Loc (cxOf CX P w K mg base N qual sc f cd A outer s H E).env.scope x := .inl h
theorem lfc (h : sc.names.lookup x = some .cell) : Loc (cxOf CX P w K mg base N qual sc f cd A outer s H E).env.scope x := .inr h
theorem ff : (cxOf CX P w K mg base N qual sc f cd A outer s H E).fn x = true ∨ (cxOf CX P w K mg base N qual sc f cd A outer s H E).env.scope.names.lookup x = some .local := .inl rfl
theorem qf (h : sc.names.lookup x = some .local) : (cxOf CX P w K mg base N qual sc f cd A outer s H E).env.scope.names.lookup x = some .local := h
theorem bf {scope : Scope} {own : List (Str × Nat)} (h : blkC N sc scope own = true) : BlkOk (cxOf CX P w K mg base N qual sc f cd A outer s H E).N (cxOf CX P w K mg base N qual sc f cd A outer s H E).env.scope scope own := blkOk_by h
end
theorem rel_other {env : Env} {x : Str} {kd : NameKind} (nf : kd ≠ .free) : ∀ {names : List (Str × NameKind)}, names.lookup x = some kd →
    (names.map fun (n, k) => if (k == NameKind.free && env.scope.kind == .function && env.kindOf n == some .cell) then (n, NameKind.cell) else (n, k)).lookup x = some kd
  | [], h => by cases h
  | (n, q) :: r, h => by
    have ih := rel_other (env := env) (x := x) nf (names := r)
    simp only [List.map_cons]
    cases hx : x == n with
    | true =>
      simp only [List.lookup_cons, hx, Option.some.injEq] at h
      subst h
      have : (q == NameKind.free) = false := by simpa using nf
      simp [this, List.lookup_cons, hx]
    | false =>
      simp only [List.lookup_cons, hx] at h
      split <;> simp only [List.lookup_cons, hx] <;> exact ih h
theorem rel_free {env : Env} {x : Str} : ∀ {names : List (Str × NameKind)}, names.lookup x = some .free →
    (names.map fun (n, k) => if (k == NameKind.free && env.scope.kind == .function && env.kindOf n == some .cell) then (n, NameKind.cell) else (n, k)).lookup x = some .cell ∨
    (names.map fun (n, k) => if (k == NameKind.free && env.scope.kind == .function && env.kindOf n == some .cell) then (n, NameKind.cell) else (n, k)).lookup x = some .free
  | [], h => by cases h
  | (n, q) :: r, h => by
    have ih := rel_free (env := env) (x := x) (names := r)
    simp only [List.map_cons]
    cases hx : x == n with
    | true =>
      simp only [List.lookup_cons, hx, Option.some.injEq] at h
      subst h
      split <;> simp [List.lookup_cons, hx]
    | false =>
      simp only [List.lookup_cons, hx] at h
      split <;> simp only [List.lookup_cons, hx] <;> exact ih h
variable {s : Shared} {H : Hp} {scope : Scope} {cl : List (Str × Addr)} {C : Addr} {fp : List Addr} {x : Str}
theorem vb (h : scope.names.lookup x = some .local) : Vis (X.blk s H scope (compEnvC scope cl C X.env) fp).env.scope x := .inl (rel_other (by decide) h)
theorem vbc (h : scope.names.lookup x = some .cell) : Vis (X.blk s H scope (compEnvC scope cl C X.env) fp).env.scope x := .inr (.inl (rel_other (by decide) h))
theorem vbf (h : scope.names.lookup x = some .free) : Vis (X.blk s H scope (compEnvC scope cl C X.env) fp).env.scope x := .inr (rel_free h)
theorem gb (h : scope.names.lookup x = some .globalImplicit) : Gl (X.blk s H scope (compEnvC scope cl C X.env) fp) x := rel_other (names := scope.names) (by decide) h
theorem lb (h : scope.names.lookup x = some .local) : Loc (X.blk s H scope (compEnvC scope cl C X.env) fp).env.scope x := .inl (rel_other (by decide) h)
theorem lbc (h : scope.names.lookup x = some .cell) : Loc (X.blk s H scope (compEnvC scope cl C X.env) fp).env.scope x := .inr (rel_other (by decide) h)
theorem fb (h : scope.names.lookup x = some .local) : (X.blk s H scope (compEnvC scope cl C X.env) fp).fn x = true ∨ (X.blk s H scope (compEnvC scope cl C X.env) fp).env.scope.names.lookup x = some .local := .inr (rel_other (by decide) h)
theorem fbc (h : scope.names.lookup x = some .cell) : (X.blk s H scope (compEnvC scope cl C X.env) fp).fn x = true ∨ (X.blk s H scope (compEnvC scope cl C X.env) fp).env.scope.names.lookup x = some .local := .inl (by show (scope.names.lookup x == some .cell) = true; rw [h]; rfl)
/-- a block in a block -/
theorem bb {outer : Scope} {N : List Str} {inner : Scope} {own : List (Str × Nat)} (h : blkC X.N (relabel scope X.env) inner own = true) : BlkOk (X.blk s H scope (compEnvC scope cl C X.env) fp).N (X.blk s H scope (compEnvC scope cl C X.env) fp).env.scope inner own := blkOk_by h
/-- the module's constants -/
theorem je_gi {i : Int} {pos : Pos} (hg : Gl X x) (hd : (x == ("__debug__" : Str)) = false) (hm : ∃ t, X.mg x = some (.int i t)) : JE X G W (.Name x pos) (sC (.int i)) := let ⟨_, h⟩ := hm; je_globI hg hd h
theorem je_gs {y : Str} {pos : Pos} (hg : Gl X x) (hd : (x == ("__debug__" : Str)) = false) (hm : ∃ t, X.mg x = some (.str y t)) : JE X G W (.Name x pos) (sC (.str y)) := let ⟨_, h⟩ := hm; je_globS hg hd h
end
theorem bt_len : bootBuiltins "len" = some (.builtin "len") := by decide +kernel
theorem bt_all : bootBuiltins "all" = some (.builtin "all") := by decide +kernel
theorem bt_any : bootBuiltins "any" = some (.builtin "any") := by decide +kernel
theorem bt_max : bootBuiltins "max" = some (.builtin "max") := by decide +kernel
theorem bt_min : bootBuiltins "min" = some (.builtin "min") := by decide +kernel
theorem bt_abs : bootBuiltins "abs" = some (.builtin "abs") := by decide +kernel
theorem bt_repr : bootBuiltins "repr" = some (.builtin "repr") := by decide +kernel
theorem bt_sorted : bootBuiltins "sorted" = some (.builtin "sorted") := by decide +kernel
theorem bt_isinstance : bootBuiltins "isinstance" = some (.builtin "isinstance") := by decide +kernel
theorem bt_int : bootBuiltins "int" = some (.type "int") := by decide +kernel
theorem bt_str : bootBuiltins "str" = some (.type "str") := by decide +kernel
theorem bt_bool : bootBuiltins "bool" = some (.type "bool") := by decide +kernel
theorem bt_tuple : bootBuiltins "tuple" = some (.type "tuple") := by decide +kernel
theorem bt_list : bootBuiltins "list" = some (.type "list") := by decide +kernel
theorem bt_dict : bootBuiltins "dict" = some (.type "dict") := by decide +kernel
theorem isB_int (K : PySem.W.Frag) : ∀ t ∈ (["NoneType", "bool", "int", "str", "tuple", "list", "dict"] : List String), PySem.W.kitOne K (.type t) (.type "int") = some (isiB t "int") := by
  intro t ht
  simp only [List.mem_cons, List.not_mem_nil, or_false] at ht
  rcases ht with rfl | rfl | rfl | rfl | rfl | rfl | rfl <;> kernel_rfl
theorem isB_bool (K : PySem.W.Frag) : ∀ t ∈ (["NoneType", "bool", "int", "str", "tuple", "list", "dict"] : List String), PySem.W.kitOne K (.type t) (.type "bool") = some (isiB t "bool") := by
  intro t ht
  simp only [List.mem_cons, List.not_mem_nil, or_false] at ht
  rcases ht with rfl | rfl | rfl | rfl | rfl | rfl | rfl <;> kernel_rfl
theorem isB_str (K : PySem.W.Frag) : ∀ t ∈ (["NoneType", "bool", "int", "str", "tuple", "list", "dict"] : List String), PySem.W.kitOne K (.type t) (.type "str") = some (isiB t "str") := by
  intro t ht
  simp only [List.mem_cons, List.not_mem_nil, or_false] at ht
  rcases ht with rfl | rfl | rfl | rfl | rfl | rfl | rfl <;> kernel_rfl
theorem isB_tuple (K : PySem.W.Frag) : ∀ t ∈ (["NoneType", "bool", "int", "str", "tuple", "list", "dict"] : List String), PySem.W.kitOne K (.type t) (.type "tuple") = some (isiB t "tuple") := by
  intro t ht
  simp only [List.mem_cons, List.not_mem_nil, or_false] at ht
  rcases ht with rfl | rfl | rfl | rfl | rfl | rfl | rfl <;> kernel_rfl
theorem isB_list (K : PySem.W.Frag) : ∀ t ∈ (["NoneType", "bool", "int", "str", "tuple", "list", "dict"] : List String), PySem.W.kitOne K (.type t) (.type "list") = some (isiB t "list") := by
  intro t ht
  simp only [List.mem_cons, List.not_mem_nil, or_false] at ht
  rcases ht with rfl | rfl | rfl | rfl | rfl | rfl | rfl <;> kernel_rfl
theorem isB_dict (K : PySem.W.Frag) : ∀ t ∈ (["NoneType", "bool", "int", "str", "tuple", "list", "dict"] : List String), PySem.W.kitOne K (.type t) (.type "dict") = some (isiB t "dict") := by
  intro t ht
  simp only [List.mem_cons, List.not_mem_nil, or_false] at ht
  rcases ht with rfl | rfl | rfl | rfl | rfl | rfl | rfl <;> kernel_rfl
theorem kits {K : PySem.W.Frag} {C : Addr} (h1 : PySem.W.kitOne K (.type "NoneType") (.ref C) = some false) (h2 : PySem.W.kitOne K (.type "bool") (.ref C) = some false) (h3 : PySem.W.kitOne K (.type "int") (.ref C) = some false) (h4 : PySem.W.kitOne K (.type "str") (.ref C) = some false)
    (h5 : PySem.W.kitOne K (.type "tuple") (.ref C) = some false) (h6 : PySem.W.kitOne K (.type "list") (.ref C) = some false) (h7 : PySem.W.kitOne K (.type "dict") (.ref C) = some false) :
    ∀ t ∈ (["NoneType", "bool", "int", "str", "tuple", "list", "dict"] : List String), PySem.W.kitOne K (.type t) (.ref C) = some false := by
  intro t ht
  simp only [List.mem_cons, List.not_mem_nil, or_false] at ht
  rcases ht with rfl | rfl | rfl | rfl | rfl | rfl | rfl <;> assumption
theorem strEq {mg : Str → Option Value} {x y z : Str} {t : Tok} (h : mg x = some (.str y t)) (e : y = z) : mg x = some (.str z t) := e ▸ h
end F3
namespace F3
open PySem PySem.Spec
open PyProof.Rows L2
/-! ### reckoning by simp: only what stands first is looked at -/
section
variable {α β : Type} {env : Ev} {A : AH}
/-- what hangs on k: simp leaves k as it stands -/
structure Dep {α : Type} (k : α) : Type where
/-- as bind; simp reads it word by word -/
def Res.bd {α β : Type} (r : Res α) (k : α → AH → Res β) (_ : Dep k := ⟨⟩) : Res β := r.bind k
/-- as lft -/
def lfv {α : Type} (r : Res α) (env : Ev) (k : α → AH → SR) (_ : Dep k := ⟨⟩) : SR := lft r env k
@[simp] theorem bind_ok (a : α) (A : AH) (k : α → AH → Res β) (u : Dep k) : Res.bd (.ok a A) k u = k a A := rfl
@[simp] theorem bind_ex (x : Xn) (A : AH) (k : α → AH → Res β) (u : Dep k) : Res.bd (.ex x A) k u = .ex x A := rfl
@[simp] theorem bind_stuck (k : α → AH → Res β) (u : Dep k) : Res.bd (.stuck : Res α) k u = .stuck := rfl
@[simp] theorem lft_ok (a : α) (A : AH) (k : α → AH → SR) (u : Dep k) : lfv (.ok a A) env k u = k a A := rfl
@[simp] theorem lft_ex (x : Xn) (A : AH) (k : α → AH → SR) (u : Dep k) : lfv (.ex x A) env k u = .ex x env A := rfl
@[simp] theorem lft_stuck (k : α → AH → SR) (u : Dep k) : lfv (.stuck : Res α) env k u = .stuck := rfl
def SR.seq (r : SR) (g : Ev → AH → SR) (_ : Dep g := ⟨⟩) : SR := match r with
  | .nx env A => g env A
  | r => r
@[simp] theorem seq_nx (g : Ev → AH → SR) (u : Dep g) : SR.seq (.nx env A) g u = g env A := rfl
@[simp] theorem seq_rt (d : D) (g : Ev → AH → SR) (u : Dep g) : SR.seq (.rt d A) g u = .rt d A := rfl
@[simp] theorem seq_bk (g : Ev → AH → SR) (u : Dep g) : SR.seq (.bk env A) g u = .bk env A := rfl
@[simp] theorem seq_ct (g : Ev → AH → SR) (u : Dep g) : SR.seq (.ct env A) g u = .ct env A := rfl
@[simp] theorem seq_ex (x : Xn) (g : Ev → AH → SR) (u : Dep g) : SR.seq (.ex x env A) g u = .ex x env A := rfl
@[simp] theorem seq_stuck (g : Ev → AH → SR) (u : Dep g) : SR.seq .stuck g u = .stuck := rfl
@[simp] theorem e_bSeq (f g : Ev → AH → SR) : bSeq f g env A = SR.seq (f env A) g := by
  unfold bSeq SR.seq; cases f env A <;> rfl
/-- a def's end -/
def SR.fin (n : Nat) (r : SR) : Res D := match r with
  | .nx _ A1 => clean n .non A1
  | .rt d A1 => clean n d A1
  | .ex x _ A1 => cleanX n x A1
  | _ => .stuck
@[simp] theorem fin_nx (n : Nat) : SR.fin n (.nx env A) = clean n .non A := rfl
@[simp] theorem fin_rt (n : Nat) (d : D) : SR.fin n (.rt d A) = clean n d A := rfl
@[simp] theorem fin_ex (n : Nat) (x : Xn) : SR.fin n (.ex x env A) = cleanX n x A := rfl
theorem e_runF (n p : Nat) (g : Ev → AH → SR) (ds : List D) (h : ds.length = p) : runF n p g ds A = SR.fin A.length (g (ds.map some ++ List.replicate (n - p) none) A) := by
  unfold runF SR.fin; rw [if_pos h] <;> try rfl
def SR.finN (r : SR) : Res D := match r with
  | .nx _ A1 => .ok .non A1
  | .rt d A1 => .ok d A1
  | .ex x _ A1 => .ex x A1
  | _ => .stuck
@[simp] theorem finN_rt (d : D) : SR.finN (.rt d A) = .ok d A := rfl
theorem e_runN (n p : Nat) (g : Ev → AH → SR) (ds : List D) (h : ds.length = p) : runN n p g ds A = SR.finN (g (ds.map some ++ List.replicate (n - p) none) A) := by
  unfold runN SR.finN; rw [if_pos h] <;> try rfl
@[simp] theorem clean_same (d : D) : clean A.length d A = .ok d A := if_pos rfl
@[simp] theorem cleanX_same (x : Xn) : cleanX A.length x A = .ex x A := if_pos rfl
/-! the words -/
@[simp] theorem e_sVar (i : Nat) : sVar i env A = (match env[i]? with
  | some (some d) => .ok d A
  | _ => .stuck) := rfl
@[simp] theorem e_sC (d : D) : sC d env A = .ok d A := rfl
@[simp] theorem e_sBin (g : D → D → AH → Res D) (fa fb : Ev → AH → Res D) : sBin g fa fb env A = (fa env A).bd fun x A1 => (fb env A1).bd fun y A2 => g x y A2 := rfl
@[simp] theorem e_sUn (g : D → AH → Res D) (fa : Ev → AH → Res D) : sUn g fa env A = (fa env A).bd fun x A1 => g x A1 := rfl
def tst (d : D) (A : AH) : Res Bool := match d with
  | .bl b => .ok b A
  | _ => .stuck
@[simp] theorem tst_bl (b : Bool) : tst (.bl b) A = .ok b A := rfl
@[simp] theorem e_sTest (f : Ev → AH → Res D) : sTest f env A = (f env A).bd tst := by
  rfl
def chn (g' : D → D → AH → Res D) (fc : Ev → AH → Res D) (env : Ev) (y z : D) (A : AH) : Res D := match z with
  | .bl true => (fc env A).bd fun w A4 => g' y w A4
  | .bl false => .ok (.bl false) A
  | _ => .stuck
@[simp] theorem chn_t (g' : D → D → AH → Res D) (fc : Ev → AH → Res D) (y : D) : chn g' fc env y (.bl true) A = (fc env A).bd fun w A4 => g' y w A4 := rfl
@[simp] theorem chn_f (g' : D → D → AH → Res D) (fc : Ev → AH → Res D) (y : D) : chn g' fc env y (.bl false) A = .ok (.bl false) A := rfl
@[simp] theorem e_sChain (g g' : D → D → AH → Res D) (fa fb fc : Ev → AH → Res D) : sChain g g' fa fb fc env A = (fa env A).bd fun x A1 => (fb env A1).bd fun y A2 => (g x y A2).bd fun z A3 => chn g' fc env y z A3 := rfl
def cnd {β : Type} (k1 k2 : AH → β) (b : Bool) (A : AH) : β := match b with
  | true => k1 A
  | false => k2 A
@[simp] theorem cnd_t {β : Type} (k1 k2 : AH → β) : cnd k1 k2 true A = k1 A := rfl
@[simp] theorem cnd_f {β : Type} (k1 k2 : AH → β) : cnd k1 k2 false A = k2 A := rfl
@[simp] theorem e_sAndT (f g : Ev → AH → Res Bool) : sAndT f g env A = (f env A).bd (cnd (g env) (.ok false)) := by
  unfold sAndT; congr 1
@[simp] theorem e_sOrT (f g : Ev → AH → Res Bool) : sOrT f g env A = (f env A).bd (cnd (.ok true) (g env)) := by
  unfold sOrT; congr 1
@[simp] theorem e_sNotT (f : Ev → AH → Res Bool) : sNotT f env A = (f env A).bd fun c A1 => .ok (!c) A1 := rfl
def vcn (k1 k2 : AH → Res D) (d : D) (A : AH) : Res D := match d with
  | .bl true => k1 A
  | .bl false => k2 A
  | _ => .stuck
@[simp] theorem vcn_t (k1 k2 : AH → Res D) : vcn k1 k2 (.bl true) A = k1 A := rfl
@[simp] theorem vcn_f (k1 k2 : AH → Res D) : vcn k1 k2 (.bl false) A = k2 A := rfl
@[simp] theorem e_sAndV (f g : Ev → AH → Res D) : sAndV f g env A = (f env A).bd (vcn (g env) (.ok (.bl false))) := by
  rfl
@[simp] theorem e_sOrV (f g : Ev → AH → Res D) : sOrV f g env A = (f env A).bd (vcn (.ok (.bl true)) (g env)) := by
  rfl
@[simp] theorem e_sNotV (f : Ev → AH → Res D) : sNotV f env A = (f env A).bd fun c A1 => match c with
  | .bl b => .ok (.bl (!b)) A1
  | _ => .stuck := rfl
@[simp] theorem e_sIf (c : Ev → AH → Res Bool) (f g : Ev → AH → Res D) : sIf c f g env A = (c env A).bd (cnd (f env) (g env)) := by
  unfold sIf; congr 1
@[simp] theorem e_sNil : sNil env A = .ok [] A := rfl
@[simp] theorem e_sCons (f : Ev → AH → Res D) (g : Ev → AH → Res (List D)) : sCons f g env A = (f env A).bd fun d A1 => (g env A1).bd fun ds A2 => .ok (d :: ds) A2 := rfl
@[simp] theorem e_sStar (f : Ev → AH → Res D) (g : Ev → AH → Res (List D)) : sStar f g env A = (f env A).bd fun d A1 => match asL A1 d with
  | some xs => (g env A1).bd fun ds A2 => .ok (xs ++ ds) A2
  | none => .stuck := rfl
@[simp] theorem e_sTup (f : Ev → AH → Res (List D)) : sTup f env A = (f env A).bd fun ds A1 => if ds.length ≤ sizeLine then .ok (.tup ds) A1 else .stuck := rfl
@[simp] theorem e_sLst (f : Ev → AH → Res (List D)) : sLst f env A = (f env A).bd fun ds A1 => if ds.length ≤ sizeLine then .ok (.lst ds) A1 else .stuck := rfl
@[simp] theorem e_sLstM (f : Ev → AH → Res (List D)) : sLstM f env A = (f env A).bd fun ds A1 => if ds.length ≤ sizeLine then .ok (.ref A1.length) (A1 ++ [.lst ds]) else .stuck := rfl
@[simp] theorem e_sCall (g : List D → AH → Res D) (f : Ev → AH → Res (List D)) : sCall g f env A = (f env A).bd fun ds A1 => g ds A1 := rfl
@[simp] theorem e_oNone : oNone env A = .ok none A := rfl
@[simp] theorem e_oSome (f : Ev → AH → Res D) : oSome f env A = (f env A).bd fun d A1 => match d with
  | .int i => .ok (some i) A1
  | _ => .stuck := rfl
@[simp] theorem e_sSlice (fa : Ev → AH → Res D) (fl fh : Ev → AH → Res (Option Int)) : sSlice fa fl fh env A = (fa env A).bd fun x A1 => (fl env A1).bd fun lo A2 => (fh env A2).bd fun hi A3 => gSl lo hi x A3 := rfl
@[simp] theorem e_sM1 (g : Str → D → AH → Res D) (fa fb : Ev → AH → Res D) : sM1 g fa fb env A = (fa env A).bd fun x A1 => match x with
  | .str a => (fb env A1).bd fun y A2 => g a y A2
  | _ => .stuck := rfl
@[simp] theorem e_sFmt (f : Ev → AH → Res D) : sFmt f env A = (f env A).bd fun d A1 => match d with
  | .str y => if y.length ≤ sizeLine then .ok (.str y) A1 else .stuck
  | .int i => if i.natAbs.log2 < 1920 then .ok (.str (toString i)) A1 else .stuck
  | _ => .stuck := rfl
@[simp] theorem e_fsNil (acc : Str) : fsL [] acc env A = .ok (.str acc) A := rfl
@[simp] theorem e_fsL (f : Ev → AH → Res D) (fs : List (Ev → AH → Res D)) (acc : Str) : fsL (f :: fs) acc env A = (f env A).bd fun d A1 => match d with
  | .str y => if (acc ++ y).length ≤ sizeLine then fsL fs (acc ++ y) env A1 else .stuck
  | _ => .stuck := rfl
@[simp] theorem e_sIsiB (T : String) (f : Ev → AH → Res D) : sIsiB T f env A = (f env A).bd fun x A1 => gIsiB T x A1 := rfl
@[simp] theorem e_sIsiO (c : Nat) (f : Ev → AH → Res D) : sIsiO c f env A = (f env A).bd fun x A1 => gIsiO c x A1 := rfl
@[simp] theorem e_sLC (vs : List Nat) (fi : Ev → AH → Res (List D)) (st : Ev → D → Option Ev) (t : Ev → AH → Res Bool) (f : Ev → AH → Res D) : sLC vs fi st t f env A = (fi env A).bd fun ds A1 => if ds.length ≤ sizeLine then (compL st t f ds (wip vs env) A1).bd fun ds A1 => .ok (.lst ds) A1 else .stuck := by
  unfold sLC sComp
  cases fi env A with
  | ok ds A1 =>
    show (if ds.length ≤ sizeLine then compL st t f ds (wip vs env) A1 else .stuck).bind _ = if ds.length ≤ sizeLine then (compL st t f ds (wip vs env) A1).bind _ else .stuck
    split <;> rfl
  | ex x A1 => rfl
  | stuck => rfl
@[simp] theorem e_sAppend (fa fb : Ev → AH → Res D) : sAppend fa fb env A = (fa env A).bd fun x A1 => match x with
  | .ref i => match A1[i]? with
    | some (.lst _) => (fb env A1).bd fun d A2 => match A2[i]? with
      | some (.lst ds) => if ds.length < sizeLine then .ok .non (A2.set i (.lst (ds ++ [d]))) else .stuck
      | _ => .stuck
    | _ => .stuck
  | _ => .stuck := rfl
@[simp] theorem e_iOf (f : Ev → AH → Res D) : iOf f env A = (f env A).bd fun d A1 => match d with
  | .tup ds => .ok ds A1
  | .lst ds => .ok ds A1
  | .str z => .ok (z.cps.toList.map fun c => .str ⟨#[c]⟩) A1
  | _ => .stuck := by
  rfl
theorem e_iRange1 (f : Ev → AH → Res (List D)) : iRange1 f env A = (f env A).bd fun ds A1 => match ds with
  | [.int j] => if j.natAbs < 2 ^ 62 then .ok (rngL 0 1 j.toNat) A1 else .stuck
  | _ => .stuck := rfl
theorem e_iRange2 (f : Ev → AH → Res (List D)) : iRange2 f env A = (f env A).bd fun ds A1 => match ds with
  | [.int i, .int j] => if i.natAbs < 2 ^ 62 ∧ j.natAbs < 2 ^ 62 then .ok (rngL i 1 (j - i).toNat) A1 else .stuck
  | _ => .stuck := rfl
@[simp] theorem e_iZip2 (f : Ev → AH → Res (List D)) : iZip2 f env A = (f env A).bd fun ds A1 => match ds with
  | [.tup xs, .tup ys] => .ok (zipD xs ys) A1
  | [.lst xs, .lst ys] => .ok (zipD xs ys) A1
  | _ => .stuck := rfl
@[simp] theorem e_iEnum1 (f : Ev → AH → Res (List D)) : iEnum1 f env A = (f env A).bd fun ds A1 => match ds with
  | [.lst xs] => .ok (enumD 0 xs) A1
  | _ => .stuck := rfl
@[simp] theorem e_tTrue : tTrue env A = .ok true A := rfl
@[simp] theorem e_gNm (i : Nat) (d : D) : gNm i env d = some (env.set i (some d)) := rfl
@[simp] theorem e_gEnd : gEnd env [] = some env := rfl
@[simp] theorem e_gMore (g : Ev → D → Option Ev) (gs : Ev → List D → Option Ev) (d : D) (r : List D) : gMore g gs env (d :: r) = (g env d).bind fun env1 => gs env1 r := rfl
@[simp] theorem e_gTp (gs : Ev → List D → Option Ev) (ds : List D) : gTp gs env (.tup ds) = gs env ds := rfl
@[simp] theorem e_bNil : bNil env A = .nx env A := rfl
@[simp] theorem e_bRet (f : Ev → AH → Res D) : bRet f env A = lfv (f env A) env fun d A1 => .rt d A1 := rfl
@[simp] theorem e_bExpr (f : Ev → AH → Res D) : bExpr f env A = lfv (f env A) env fun _ A1 => .nx env A1 := rfl
@[simp] theorem e_bIf (c : Ev → AH → Res Bool) (f g : Ev → AH → SR) : bIf c f g env A = lfv (c env A) env (cnd (f env) (g env)) := by
  unfold bIf; congr 1
def stTo (o : Option Ev) (A : AH) : SR := match o with
  | some env1 => .nx env1 A
  | none => .stuck
@[simp] theorem stTo_some : stTo (some env) A = .nx env A := rfl
@[simp] theorem e_bSet (st : Ev → D → Option Ev) (f : Ev → AH → Res D) : bSet st f env A = lfv (f env A) env fun d A1 => stTo (st env d) A1 := by
  rfl
@[simp] theorem e_bPar (i j : Nat) (f : Ev → AH → Res (List D)) : bPar i j f env A = lfv (f env A) env fun ds A1 => match ds with
  | [x, y] => .nx ((env.set i (some x)).set j (some y)) A1
  | _ => .stuck := rfl
@[simp] theorem e_bFor (fi : Ev → AH → Res (List D)) (st : Ev → D → Option Ev) (body : Ev → AH → SR) : bFor fi st body env A = lfv (fi env A) env fun ds A1 => forL st body ds env A1 := rfl
@[simp] theorem e_bStore (fo fi fe : Ev → AH → Res D) : bStore fo fi fe env A = lfv (fe env A) env fun d A1 => lfv (fo env A1) env fun x A2 => lfv (fi env A2) env fun y A3 => match x, y with
  | .ref r, .int n => match A3[r]? with
    | some (.lst ds) => match ixN ds.length n with
      | some j => .nx env (A3.set r (.lst (ds.set j d)))
      | none => .stuck
    | _ => .stuck
  | _, _ => .stuck := rfl
@[simp] theorem e_bFld (c i : Nat) (fo fe : Ev → AH → Res D) : bFld c i fo fe env A = lfv (fe env A) env fun d A1 => lfv (fo env A1) env fun x A2 => match x with
  | .ref r => match A2[r]? with
    | some (.ins c' fs) => if c' = c then .nx env (A2.set r (.ins c (putD i d fs))) else .stuck
    | _ => .stuck
  | _ => .stuck := rfl
def flds (gs : Ev → AH → List D → Option AH) (env : Ev) (d : D) (A : AH) : SR := match d with
  | .tup ds => match gs env A ds with
    | some A2 => .nx env A2
    | none => .stuck
  | _ => .stuck
@[simp] theorem e_bFlds (gs : Ev → AH → List D → Option AH) (f : Ev → AH → Res D) : bFlds gs f env A = lfv (f env A) env (flds gs env) := by
  rfl
@[simp] theorem e_aFld (c i : Nat) (fo : Ev → AH → Res D) (d : D) : aFld c i fo env A d = (match fo env A with
  | .ok (.ref r) A1 => match A1[r]? with
    | some (.ins c' fs) => if c' = c then some (A1.set r (.ins c (putD i d fs))) else none
    | _ => none
  | _ => none) := rfl
@[simp] theorem e_aEnd : aEnd env A [] = some A := rfl
@[simp] theorem e_aMore (g : Ev → AH → D → Option AH) (gs : Ev → AH → List D → Option AH) (d : D) (r : List D) : aMore g gs env A (d :: r) = (g env A d).bind fun A1 => gs env A1 r := rfl
@[simp] theorem e_bStuck : bStuck env A = .stuck := rfl
theorem range1_ok {f : Ev → AH → Res (List D)} {A1 : AH} {k : Nat} (h : f env A = .ok [.int k] A1) (hk : k < 1000000) : iRange1 f env A = .ok (rngL 0 1 k) A1 := by
  have h1 : (k : Int).natAbs < 2 ^ 62 := by rw [Int.natAbs_natCast]; omega
  unfold iRange1
  rw [h]
  simp only [Res.bind]
  rw [if_pos h1, Int.toNat_natCast]
/-! loops over lists, by what one turn does -/
/-- item by item -/
inductive All2 {α β : Type} (P : α → β → Prop) : List α → List β → Prop where
  | nil : All2 P [] []
  | cons {a : α} {b : β} {as : List α} {bs : List β} (h : P a b) (t : All2 P as bs) : All2 P (a :: as) (b :: bs)
theorem compL_map {st : Ev → D → Option Ev} {t : Ev → AH → Res Bool} {f : Ev → AH → Res D} {g : D → D} : ∀ (ds : List D), (∀ d ∈ ds, ∃ env1, st env d = some env1 ∧ t env1 A = .ok true A ∧ f env1 A = .ok (g d) A) → compL st t f ds env A = .ok (ds.map g) A
  | [], _ => rfl
  | d :: ds, h => by
    obtain ⟨env1, h1, h2, h3⟩ := h d List.mem_cons_self
    unfold compL
    rw [h1]; simp only; rw [h2]; simp only; rw [h3]; simp only
    rw [compL_map ds fun e he => h e (List.mem_cons_of_mem _ he)]
    rfl
/-- .. where the things that are changed are changed -/
theorem compL_inv {st : Ev → D → Option Ev} {t : Ev → AH → Res Bool} {f : Ev → AH → Res D} (I : AH → Prop) (P : D → D → Prop) : ∀ (ds : List D) (A : AH), I A → (∀ d ∈ ds, ∀ A, I A → ∃ env1 x A', st env d = some env1 ∧ t env1 A = .ok true A ∧ f env1 A = .ok x A' ∧ I A' ∧ P d x) →
    ∃ xs A', compL st t f ds env A = .ok xs A' ∧ I A' ∧ All2 P ds xs
  | [], A, hA, _ => ⟨[], A, rfl, hA, .nil⟩
  | d :: ds, A, hA, h => by
    obtain ⟨env1, x, A1, h1, h2, h3, h4, h5⟩ := h d List.mem_cons_self A hA
    obtain ⟨xs, A2, k1, k2, k3⟩ := compL_inv I P ds A1 h4 fun e he => h e (List.mem_cons_of_mem _ he)
    refine ⟨x :: xs, A2, ?_, k2, .cons h5 k3⟩
    unfold compL
    rw [h1]; simp only; rw [h2]; simp only; rw [h3]; simp only
    rw [k1]
theorem forL_inv {st : Ev → D → Option Ev} {body : Ev → AH → SR} (I : List D → Ev → AH → Prop) : ∀ (ds done : List D) (env : Ev) (A : AH), I done env A → (∀ (pre : List D) (d : D) (post : List D), done ++ ds = pre ++ d :: post → ∀ env A, I pre env A → ∃ env1 env2 A2, st env d = some env1 ∧ body env1 A = .nx env2 A2 ∧ I (pre ++ [d]) env2 A2) →
    ∃ env' A', forL st body ds env A = .nx env' A' ∧ I (done ++ ds) env' A'
  | [], done, env, A, h0, _ => ⟨env, A, rfl, by rw [List.append_nil]; exact h0⟩
  | d :: ds, done, env, A, h0, h => by
    obtain ⟨env1, env2, A2, h1, h2, h3⟩ := h done d ds rfl env A h0
    obtain ⟨env', A', k1, k2⟩ := forL_inv I ds (done ++ [d]) env2 A2 h3 fun pre e post q => h pre e post (by simpa using q)
    refine ⟨env', A', ?_, by simpa using k2⟩
    unfold forL
    rw [h1]; simp only; rw [h2]
    exact k1
end
/-! == by data -/
theorem gEq_of {A : AH} {x y : D} {d e : PyData} (h1 : toP (topD A x) = some d) (h2 : toP (topD A y) = some e) (s1 : SeqAt.shaped d = true) (s2 : SeqAt.shaped e = true) : gEq x y A = .ok (.bl (PyData.eqv d e)) A := by
  unfold gEq eqP; rw [h1, h2]; simp only [s1, s2]; rfl
theorem gNe_of {A : AH} {x y : D} {d e : PyData} (h1 : toP (topD A x) = some d) (h2 : toP (topD A y) = some e) (s1 : SeqAt.shaped d = true) (s2 : SeqAt.shaped e = true) : gNe x y A = .ok (.bl (!PyData.eqv d e)) A := by
  unfold gNe eqP; rw [h1, h2]; simp only [s1, s2]; rfl
theorem shaped_str {x : Str} (h : PyData.strOk x = true) : SeqAt.shaped (.str x) = true := by
  unfold SeqAt.shaped PyData.canLay0 PyData.depth; rw [h]; rfl
@[simp] theorem gEq_int (i j : Int) (A : AH) : gEq (.int i) (.int j) A = .ok (.bl (i == j)) A := gEq_of (d := .int i) (e := .int j) rfl rfl rfl rfl
@[simp] theorem gNe_int (i j : Int) (A : AH) : gNe (.int i) (.int j) A = .ok (.bl (!(i == j))) A := gNe_of (d := .int i) (e := .int j) rfl rfl rfl rfl
theorem gEq_str {x y : Str} (hx : PyData.strOk x = true) (hy : PyData.strOk y = true) (A : AH) : gEq (.str x) (.str y) A = .ok (.bl (x == y)) A := gEq_of (d := .str x) (e := .str y) rfl rfl (shaped_str hx) (shaped_str hy)
theorem gNe_str {x y : Str} (hx : PyData.strOk x = true) (hy : PyData.strOk y = true) (A : AH) : gNe (.str x) (.str y) A = .ok (.bl (!(x == y))) A := gNe_of (d := .str x) (e := .str y) rfl rfl (shaped_str hx) (shaped_str hy)
theorem toPs_strs : ∀ ls : List Str, toPs (ls.map .str) = some (ls.map .str)
  | [] => rfl
  | l :: ls => by
    show (match toP (.str l), toPs (ls.map .str) with | some p, some ps => some (p :: ps) | _, _ => none) = _
    rw [toPs_strs ls]; rfl
theorem toPs_ints : ∀ ls : List Int, toPs (ls.map .int) = some (ls.map .int)
  | [] => rfl
  | l :: ls => by
    show (match toP (.int l), toPs (ls.map .int) with | some p, some ps => some (p :: ps) | _, _ => none) = _
    rw [toPs_ints ls]; rfl
theorem lay_strs : ∀ ls : List Str, (∀ l ∈ ls, PyData.strOk l = true) → PyData.canLayAll0 (ls.map .str) = true ∧ PyData.depthAll (ls.map .str) = 0
  | [], _ => ⟨rfl, rfl⟩
  | l :: ls, h => by
    obtain ⟨h1, h2⟩ := lay_strs ls fun x hx => h x (List.mem_cons_of_mem _ hx)
    constructor
    · show (PyData.strOk l && PyData.canLayAll0 (ls.map .str)) = true
      rw [h l List.mem_cons_self, h1]; rfl
    · show max 0 (PyData.depthAll (ls.map .str)) = 0
      rw [h2]; rfl
theorem lay_ints : ∀ ls : List Int, PyData.canLayAll0 (ls.map .int) = true ∧ PyData.depthAll (ls.map .int) = 0
  | [] => ⟨rfl, rfl⟩
  | l :: ls => by
    obtain ⟨h1, h2⟩ := lay_ints ls
    exact ⟨by show (true && PyData.canLayAll0 (ls.map .int)) = true; rw [h1]; rfl, by show max 0 (PyData.depthAll (ls.map .int)) = 0; rw [h2]; rfl⟩
theorem shaped_list {ps : List PyData} (h : PyData.canLayAll0 ps = true) (h' : PyData.depthAll ps ≤ 60) : SeqAt.shaped (.list ps) = true := by
  unfold SeqAt.shaped PyData.canLay0 PyData.depth; rw [h]; simp; omega
theorem shaped_tuple {ps : List PyData} (h : PyData.canLayAll0 ps = true) (h' : PyData.depthAll ps ≤ 60) : SeqAt.shaped (.tuple ps) = true := by
  unfold SeqAt.shaped PyData.canLay0 PyData.depth; rw [h]; simp; omega
theorem eqv_lists {ps qs : List PyData} (h : PyData.canLayAll0 ps = true) (e : ps = qs) : PyData.eqvAll ps qs = true := by
  subst e; exact SeqAt.eqvAll_refl ps h
end F3
namespace Lw
open PySem PySem.Spec
open PyProof.Rows L2 F3
/-- 0 script, 1 at, 2 cell, 3 great, 4 blend -/
def b_law_bag : Ev → AH → SR := bSeq (bSet (gNm 2) (sIf (sTest (sBin gLt (sVar 1) (sCall gLen (sCons (sVar 0) (sNil))))) (sCall gInt (sCons (sBin gIx (sVar 0) (sVar 1)) (sNil))) (sBin gAdd (sBin gMul (sC (.int 89)) (sVar 1)) (sC (.int 41))))) (bSeq (bSet (gNm 3) (sBin gMod (sCall gMax2 (sCons (sC (.int 0)) (sCons (sBin gSub (sCall gAbs (sCons (sVar 2) (sNil))) (sBin gPow (sC (.int 10)) (sC (.int 18)))) (sNil)))) (sBin gMul (sBin gPow (sC (.int 10)) (sC (.int 60))) (sBin gPow (sC (.int 10)) (sC (.int 60)))))) (bSeq (bSet (gNm 4) (sBin gAdd (sBin gAdd (sBin gAdd (sBin gMul (sBin gMod (sCall gInt (sCons (sCall gAbs (sCons (sVar 2) (sNil))) (sNil))) (sBin gAdd (sBin gPow (sC (.int 10)) (sC (.int 12))) (sC (.int 39)))) (sC (.int 10007))) (sBin gMul (sC (.int 509)) (sVar 1))) (sBin gMul (sC (.int 17)) (sCall gInt (sCons (sBin gLt (sVar 2) (sC (.int 0))) (sNil))))) (sC (.int 1)))) (bRet (sLstM (sCons (sVar 3) (sCons (sBin gMod (sCall gInt (sCons (sVar 4) (sNil))) (sBin gSub (sBin gPow (sC (.int 2)) (sC (.int 61))) (sC (.int 1)))) (sNil)))))))
def m_law_bag : List D → AH → Res D := runN 5 2 b_law_bag
theorem u_law_bag (x0 x1 : D) (A : AH) : m_law_bag [x0, x1] A = SR.finN (b_law_bag [some x0, some x1, none, none, none] A) := e_runN 5 2 _ _ rfl
/-- 0 bag, 1 many, 2 found -/
def b_law_draw : Ev → AH → SR := bSeq (bIf (sTest (sBin gGt (sBin gIx (sVar 0) (sC (.int 0))) (sC (.int 0)))) (bSeq (bSet (gNm 2) (sBin gMod (sCall gInt (sCons (sBin gIx (sVar 0) (sC (.int 0))) (sNil))) (sVar 1))) (bSeq (bStore (sVar 0) (sC (.int 0)) (sBin gFdiv (sBin gIx (sVar 0) (sC (.int 0))) (sVar 1))) (bRet (sVar 2)))) (bNil)) (bSeq (bStore (sVar 0) (sC (.int 1)) (sBin gMod (sCall gInt (sCons (sBin gAdd (sBin gMul (sBin gIx (sVar 0) (sC (.int 1))) (sC (.int 6364136223))) (sC (.int 1442695041))) (sNil))) (sBin gSub (sBin gPow (sC (.int 2)) (sC (.int 61))) (sC (.int 1))))) (bRet (sBin gMod (sCall gInt (sCons (sBin gFdiv (sBin gIx (sVar 0) (sC (.int 1))) (sC (.int 65537))) (sNil))) (sVar 1))))
def m_law_draw : List D → AH → Res D := runF 3 2 b_law_draw
theorem u_law_draw (x0 x1 : D) (A : AH) : m_law_draw [x0, x1] A = SR.fin A.length (b_law_draw [some x0, some x1, none] A) := e_runF 3 2 _ _ rfl
/-- 0 bag, 1 items -/
def b_law_one_of : Ev → AH → SR := bRet (sBin gIx (sVar 1) (sCall m_law_draw (sCons (sVar 0) (sCons (sCall gLen (sCons (sVar 1) (sNil))) (sNil)))))
def m_law_one_of : List D → AH → Res D := runF 2 2 b_law_one_of
theorem u_law_one_of (x0 x1 : D) (A : AH) : m_law_one_of [x0, x1] A = SR.fin A.length (b_law_one_of [some x0, some x1] A) := e_runF 2 2 _ _ rfl
/-- 0 bag, 1 size, 2 most, 3 found, 4 loops, 5 turn, 6 one, 7 other -/
def b_law_ties : Ev → AH → SR := bSeq (bPar 3 4 (sCons (sLstM (sNil)) (sCons (sCall m_law_one_of (sCons (sVar 0) (sCons (sLst (sCons (sC (.int 0)) (sCons (sC (.int 0)) (sCons (sC (.int 6)) (sCons (sC (.int 3)) (sNil)))))) (sNil)))) sNil))) (bSeq (bFor (iRange1 (sCons (sCall m_law_draw (sCons (sVar 0) (sCons (sBin gAdd (sVar 2) (sC (.int 1))) (sNil)))) (sNil))) (gNm 5) (bSeq (bPar 6 7 (sCons (sCall m_law_draw (sCons (sVar 0) (sCons (sVar 1) (sNil)))) (sCons (sCall m_law_draw (sCons (sVar 0) (sCons (sVar 1) (sNil)))) sNil))) (bSeq (bIf (sAndT (sTest (sBin gEq (sVar 6) (sVar 7))) (sAndT (sTest (sBin gGt (sVar 1) (sC (.int 1)))) (sOrT (sTest (sBin gEq (sVar 4) (sC (.int 0)))) (sTest (sBin gGt (sCall m_law_draw (sCons (sVar 0) (sCons (sVar 4) (sNil)))) (sC (.int 0))))))) (bSet (gNm 7) (sBin gMod (sCall gInt (sCons (sBin gAdd (sBin gAdd (sVar 6) (sC (.int 1))) (sCall m_law_draw (sCons (sVar 0) (sCons (sBin gSub (sVar 1) (sC (.int 1))) (sNil))))) (sNil))) (sVar 1))) (bNil)) (bExpr (sAppend (sVar 3) (sTup (sCons (sCall gMin2 (sCons (sVar 6) (sCons (sVar 7) (sNil)))) (sCons (sCall gMax2 (sCons (sVar 6) (sCons (sVar 7) (sNil)))) (sNil))))))))) (bRet (sCall gTuple (sCons (sCall gSorted (sCons (sVar 3) (sNil))) (sNil)))))
def m_law_ties : List D → AH → Res D := runF 8 3 b_law_ties
theorem u_law_ties (x0 x1 x2 : D) (A : AH) : m_law_ties [x0, x1, x2] A = SR.fin A.length (b_law_ties [some x0, some x1, some x2, none, none, none, none, none] A) := e_runF 8 3 _ _ rfl
/-- 0 value -/
def b_is_int : Ev → AH → SR := bRet (sAndV (sIsiB "int" (sVar 0)) (sNotV (sIsiB "bool" (sVar 0))))
def m_is_int : List D → AH → Res D := runF 1 1 b_is_int
theorem u_is_int (x0 : D) (A : AH) : m_is_int [x0] A = SR.fin A.length (b_is_int [some x0] A) := e_runF 1 1 _ _ rfl
/-- 0 value -/
def b_is_whole : Ev → AH → SR := bRet (sAndV (sCall m_is_int (sCons (sVar 0) (sNil))) (sChain gLt gLt (sUn gNeg (sC (.int 1000000000000000000000000000000000000000000000000000000000000))) (sVar 0) (sC (.int 1000000000000000000000000000000000000000000000000000000000000))))
def m_is_whole : List D → AH → Res D := runF 1 1 b_is_whole
theorem u_is_whole (x0 : D) (A : AH) : m_is_whole [x0] A = SR.fin A.length (b_is_whole [some x0] A) := e_runF 1 1 _ _ rfl
/-- 0 value, 1 low, 2 high -/
def b_is_within : Ev → AH → SR := bRet (sAndV (sCall m_is_whole (sCons (sVar 0) (sNil))) (sChain gLe gLe (sVar 1) (sVar 0) (sVar 2)))
def m_is_within : List D → AH → Res D := runF 3 3 b_is_within
theorem u_is_within (x0 x1 x2 : D) (A : AH) : m_is_within [x0, x1, x2] A = SR.fin A.length (b_is_within [some x0, some x1, some x2] A) := e_runF 3 3 _ _ rfl
/-- 0 size -/
def b_require_size : Ev → AH → SR := bIf (sNotT (sTest (sCall m_is_within (sCons (sVar 0) (sCons (sC (.int 1)) (sCons (sC (.int 7)) (sNil))))))) (bStuck) (bNil)
def m_require_size : List D → AH → Res D := runF 1 1 b_require_size
theorem u_require_size (x0 : D) (A : AH) : m_require_size [x0] A = SR.fin A.length (b_require_size [some x0] A) := e_runF 1 1 _ _ rfl
/-- 0 size, 1 value, 2 tie, 3 one, 4 other -/
def b_are_ties : Ev → AH → SR := bSeq (bIf (sOrT (sNotT (sTest (sIsiB "tuple" (sVar 1)))) (sTest (sBin gGt (sCall gLen (sCons (sVar 1) (sNil))) (sC (.int 14))))) (bRet (sC (.bl false))) (bNil)) (bSeq (bIf (sNotT (sTest (sCall gAll (sCons (sLC [2] (iOf (sVar 1)) (gNm 2) (tTrue) (sAndV (sIsiB "tuple" (sVar 2)) (sBin gEq (sCall gLen (sCons (sVar 2) (sNil))) (sC (.int 2))))) (sNil))))) (bRet (sC (.bl false))) (bNil)) (bSeq (bIf (sNotT (sTest (sCall gAll (sCons (sLC [3, 4] (iOf (sVar 1)) (gTp (gMore (gNm 3) (gMore (gNm 4) (gEnd)))) (tTrue) (sAndV (sCall m_is_within (sCons (sVar 3) (sCons (sC (.int 0)) (sCons (sBin gSub (sVar 0) (sC (.int 1))) (sNil))))) (sCall m_is_within (sCons (sVar 4) (sCons (sVar 3) (sCons (sBin gSub (sVar 0) (sC (.int 1))) (sNil))))))) (sNil))))) (bRet (sC (.bl false))) (bNil)) (bRet (sCall gAll (sCons (sLC [3, 4] (iZip2 (sCons (sVar 1) (sCons (sSlice (sVar 1) (oSome (sC (.int 1))) (oNone)) (sNil)))) (gTp (gMore (gNm 3) (gMore (gNm 4) (gEnd)))) (tTrue) (sBin gLe (sVar 3) (sVar 4))) (sNil))))))
def m_are_ties : List D → AH → Res D := runF 5 2 b_are_ties
theorem u_are_ties (x0 x1 : D) (A : AH) : m_are_ties [x0, x1] A = SR.fin A.length (b_are_ties [some x0, some x1, none, none, none] A) := e_runF 5 2 _ _ rfl
/-- 0 self, 1 size, 2 ties -/
def b_Web_init : Ev → AH → SR := bSeq (bExpr (sCall m_require_size (sCons (sVar 1) (sNil)))) (bSeq (bIf (sNotT (sTest (sCall m_are_ties (sCons (sVar 1) (sCons (sVar 2) (sNil)))))) (bStuck) (bNil)) (bFlds (aMore (aFld 0 0 (sVar 0)) (aMore (aFld 0 1 (sVar 0)) (aEnd))) (sTup (sCons (sVar 1) (sCons (sVar 2) (sNil))))))
def m_Web_init : List D → AH → Res D := runF 3 3 b_Web_init
theorem u_Web_init (x0 x1 x2 : D) (A : AH) : m_Web_init [x0, x1, x2] A = SR.fin A.length (b_Web_init [some x0, some x1, some x2] A) := e_runF 3 3 _ _ rfl
/-- 0 web -/
def b_require_web : Ev → AH → SR := bIf (sNotT (sTest (sIsiO 0 (sVar 0)))) (bStuck) (bNil)
def m_require_web : List D → AH → Res D := runF 1 1 b_require_web
theorem u_require_web (x0 : D) (A : AH) : m_require_web [x0] A = SR.fin A.length (b_require_web [some x0] A) := e_runF 1 1 _ _ rfl
/-- 0 lines, 1 line -/
def b_lines_text : Ev → AH → SR := bRet (sM1 mJoin (sC (.str ⟨#[]⟩)) (sLC [1] (iOf (sVar 0)) (gNm 1) (tTrue) (fsL [sFmt (sVar 1), sC (.str ⟨#[10]⟩)] Str.empty)))
def m_lines_text : List D → AH → Res D := runF 2 1 b_lines_text
theorem u_lines_text (x0 : D) (A : AH) : m_lines_text [x0] A = SR.fin A.length (b_lines_text [some x0, none] A) := e_runF 2 1 _ _ rfl
/-- 0 web, 1 one, 2 other -/
def b_write_web : Ev → AH → SR := bSeq (bExpr (sCall m_require_web (sCons (sVar 0) (sNil)))) (bRet (sCall m_lines_text (sCons (sLst (sCons (fsL [sFmt (sC (.str ⟨#[112, 108, 97, 99, 101, 115]⟩)), sC (.str ⟨#[32]⟩), sFmt (sUn (gFld 0 0) (sVar 0))] Str.empty) (sStar (sLC [1, 2] (iOf (sUn (gFld 0 1) (sVar 0))) (gTp (gMore (gNm 1) (gMore (gNm 2) (gEnd)))) (tTrue) (fsL [sFmt (sVar 1), sC (.str ⟨#[45]⟩), sFmt (sVar 2)] Str.empty)) (sNil)))) (sNil))))
def m_write_web : List D → AH → Res D := runF 3 1 b_write_web
theorem u_write_web (x0 : D) (A : AH) : m_write_web [x0] A = SR.fin A.length (b_write_web [some x0, none, none] A) := e_runF 3 1 _ _ rfl
/-- 0 text -/
def b_require_text : Ev → AH → SR := bIf (sOrT (sNotT (sTest (sIsiB "str" (sVar 0)))) (sTest (sBin gGt (sCall gLen (sCons (sVar 0) (sNil))) (sC (.int 20000))))) (bStuck) (bNil)
def m_require_text : List D → AH → Res D := runF 1 1 b_require_text
theorem u_require_text (x0 : D) (A : AH) : m_require_text [x0] A = SR.fin A.length (b_require_text [some x0] A) := e_runF 1 1 _ _ rfl
/-- 0 text, 1 lines -/
def b_whole_lines : Ev → AH → SR := bSeq (bSet (gNm 1) (sM1 mSplit (sVar 0) (sC (.str ⟨#[10]⟩)))) (bRet (sTup (sCons (sSlice (sVar 1) (oNone) (oSome (sUn gNeg (sC (.int 1))))) (sCons (sBin gIx (sVar 1) (sUn gNeg (sC (.int 1)))) (sNil)))))
def m_whole_lines : List D → AH → Res D := runF 2 1 b_whole_lines
theorem u_whole_lines (x0 : D) (A : AH) : m_whole_lines [x0] A = SR.fin A.length (b_whole_lines [some x0, none] A) := e_runF 2 1 _ _ rfl
/-- 0 part, 1 sign -/
def b_number_of : Ev → AH → SR := bSeq (bIf (sOrT (sNotT (sTest (sChain gLe gLe (sC (.int 1)) (sCall gLen (sCons (sVar 0) (sNil))) (sC (.int 9))))) (sNotT (sTest (sCall gAll (sCons (sLC [1] (iOf (sVar 0)) (gNm 1) (tTrue) (sBin gIn (sVar 1) (sC (.str ⟨#[48, 49, 50, 51, 52, 53, 54, 55, 56, 57]⟩)))) (sNil)))))) (bRet (sC .non)) (bNil)) (bRet (sIf (sAndT (sTest (sBin gEq (sBin gIx (sVar 0) (sC (.int 0))) (sC (.str ⟨#[48]⟩)))) (sTest (sBin gGt (sCall gLen (sCons (sVar 0) (sNil))) (sC (.int 1))))) (sC .non) (sCall gInt (sCons (sVar 0) (sNil)))))
def m_number_of : List D → AH → Res D := runF 2 1 b_number_of
theorem u_number_of (x0 : D) (A : AH) : m_number_of [x0] A = SR.fin A.length (b_number_of [some x0, none] A) := e_runF 2 1 _ _ rfl
/-- 0 line, 1 parts, 2 size -/
def b_size_from : Ev → AH → SR := bSeq (bSet (gNm 1) (sM1 mSplit (sVar 0) (sC (.str ⟨#[32]⟩)))) (bSeq (bSet (gNm 2) (sIf (sAndT (sTest (sBin gEq (sCall gLen (sCons (sVar 1) (sNil))) (sC (.int 2)))) (sTest (sBin gEq (sBin gIx (sVar 1) (sC (.int 0))) (sC (.str ⟨#[112, 108, 97, 99, 101, 115]⟩))))) (sCall m_number_of (sCons (sBin gIx (sVar 1) (sC (.int 1))) (sNil))) (sC .non))) (bRet (sIf (sAndT (sTest (sBin gIsNot (sVar 2) (sC .non))) (sTest (sCall m_is_within (sCons (sVar 2) (sCons (sC (.int 1)) (sCons (sC (.int 7)) (sNil))))))) (sVar 2) (sC .non))))
def m_size_from : List D → AH → Res D := runF 3 1 b_size_from
theorem u_size_from (x0 : D) (A : AH) : m_size_from [x0] A = SR.fin A.length (b_size_from [some x0, none, none] A) := e_runF 3 1 _ _ rfl
/-- 0 parts, 1 found, 2 part -/
def b_numbers_of : Ev → AH → SR := bSeq (bSet (gNm 1) (sCall gTuple (sCons (sLC [2] (iOf (sVar 0)) (gNm 2) (tTrue) (sCall m_number_of (sCons (sVar 2) (sNil)))) (sNil)))) (bRet (sIf (sTest (sBin gIn (sC .non) (sVar 1))) (sC .non) (sVar 1)))
def m_numbers_of : List D → AH → Res D := runF 3 1 b_numbers_of
theorem u_numbers_of (x0 : D) (A : AH) : m_numbers_of [x0] A = SR.fin A.length (b_numbers_of [some x0, none, none] A) := e_runF 3 1 _ _ rfl
/-- 0 size, 1 line, 2 tie -/
def b_tie_from : Ev → AH → SR := bSeq (bSet (gNm 2) (sCall m_numbers_of (sCons (sM1 mSplit (sVar 1) (sC (.str ⟨#[45]⟩))) (sNil)))) (bSeq (bIf (sOrT (sTest (sBin gIs (sVar 2) (sC .non))) (sTest (sBin gNe (sCall gLen (sCons (sVar 2) (sNil))) (sC (.int 2))))) (bRet (sC .non)) (bNil)) (bRet (sIf (sTest (sChain gLe gLt (sBin gIx (sVar 2) (sC (.int 0))) (sBin gIx (sVar 2) (sC (.int 1))) (sVar 0))) (sVar 2) (sC .non))))
def m_tie_from : List D → AH → Res D := runF 3 2 b_tie_from
theorem u_tie_from (x0 x1 : D) (A : AH) : m_tie_from [x0, x1] A = SR.fin A.length (b_tie_from [some x0, some x1, none] A) := e_runF 3 2 _ _ rfl
/-- 0 text, 1 lines, 2 rest, 3 size, 4 found, 5 number, 6 line, 7 tie -/
def b_read_web : Ev → AH → SR := bSeq (bExpr (sCall m_require_text (sCons (sVar 0) (sNil)))) (bSeq (bSet (gTp (gMore (gNm 1) (gMore (gNm 2) (gEnd)))) (sCall m_whole_lines (sCons (sVar 0) (sNil)))) (bSeq (bSet (gNm 3) (sIf (sTest (sBin gNe (sVar 1) (sLst (sNil)))) (sCall m_size_from (sCons (sBin gIx (sVar 1) (sC (.int 0))) (sNil))) (sC .non))) (bSeq (bIf (sTest (sBin gIs (sVar 3) (sC .non))) (bStuck) (bNil)) (bSeq (bSet (gNm 4) (sLstM (sNil))) (bSeq (bFor (iEnum1 (sCons (sSlice (sVar 1) (oSome (sC (.int 1))) (oNone)) (sNil))) (gTp (gMore (gNm 5) (gMore (gNm 6) (gEnd)))) (bSeq (bSet (gNm 7) (sCall m_tie_from (sCons (sVar 3) (sCons (sVar 6) (sNil))))) (bSeq (bIf (sOrT (sTest (sBin gIs (sVar 7) (sC .non))) (sOrT (sTest (sBin gEq (sCall gLen (sCons (sVar 4) (sNil))) (sC (.int 14)))) (sAndT (sTest (sBin gNe (sVar 4) (sLst (sNil)))) (sTest (sBin gLt (sVar 7) (sBin gIx (sVar 4) (sUn gNeg (sC (.int 1))))))))) (bStuck) (bNil)) (bExpr (sAppend (sVar 4) (sVar 7)))))) (bSeq (bIf (sTest (sBin gNe (sVar 2) (sC (.str ⟨#[]⟩)))) (bStuck) (bNil)) (bRet (sCall (mMake 0 m_Web_init) (sCons (sVar 3) (sCons (sCall gTuple (sCons (sVar 4) (sNil))) (sNil)))))))))))
def m_read_web : List D → AH → Res D := runF 8 1 b_read_web
theorem u_read_web (x0 : D) (A : AH) : m_read_web [x0] A = SR.fin A.length (b_read_web [some x0, none, none, none, none, none, none, none] A) := e_runF 8 1 _ _ rfl
/-- 0 self, 1 other -/
def b_Web_eq : Ev → AH → SR := bRet (sAndV (sIsiO 0 (sVar 1)) (sBin gEq (sTup (sCons (sUn (gFld 0 0) (sVar 0)) (sCons (sUn (gFld 0 1) (sVar 0)) (sNil)))) (sTup (sCons (sUn (gFld 0 0) (sVar 1)) (sCons (sUn (gFld 0 1) (sVar 1)) (sNil))))))
def m_Web_eq : List D → AH → Res D := runF 2 2 b_Web_eq
theorem u_Web_eq (x0 x1 : D) (A : AH) : m_Web_eq [x0, x1] A = SR.fin A.length (b_Web_eq [some x0, some x1] A) := e_runF 2 2 _ _ rfl
/-- 0 self -/
def b_Web_ties : Ev → AH → SR := bRet (sUn (gFld 0 1) (sVar 0))
def m_Web_ties : List D → AH → Res D := runF 1 1 b_Web_ties
theorem u_Web_ties (x0 : D) (A : AH) : m_Web_ties [x0] A = SR.fin A.length (b_Web_ties [some x0] A) := e_runF 1 1 _ _ rfl
/-- 0 web, 1 value, 2 one -/
def b_are_signs_in : Ev → AH → SR := bSeq (bIf (sOrT (sNotT (sTest (sIsiB "tuple" (sVar 1)))) (sTest (sBin gNe (sCall gLen (sCons (sVar 1) (sNil))) (sCall gLen (sCons (sUn (gFld 0 1) (sVar 0)) (sNil)))))) (bRet (sC (.bl false))) (bNil)) (bRet (sCall gAll (sCons (sLC [2] (iOf (sVar 1)) (gNm 2) (tTrue) (sAndV (sCall m_is_within (sCons (sVar 2) (sCons (sUn gNeg (sC (.int 1))) (sCons (sC (.int 1)) (sNil))))) (sBin gNe (sVar 2) (sC (.int 0))))) (sNil))))
def m_are_signs_in : List D → AH → Res D := runF 3 2 b_are_signs_in
theorem u_are_signs_in (x0 x1 : D) (A : AH) : m_are_signs_in [x0, x1] A = SR.fin A.length (b_are_signs_in [some x0, some x1, none] A) := e_runF 3 2 _ _ rfl
/-- 0 web, 1 signs -/
def b_require_signs : Ev → AH → SR := bSeq (bExpr (sCall m_require_web (sCons (sVar 0) (sNil)))) (bIf (sNotT (sTest (sCall m_are_signs_in (sCons (sVar 0) (sCons (sVar 1) (sNil)))))) (bStuck) (bNil))
def m_require_signs : List D → AH → Res D := runF 2 2 b_require_signs
theorem u_require_signs (x0 x1 : D) (A : AH) : m_require_signs [x0, x1] A = SR.fin A.length (b_require_signs [some x0, some x1] A) := e_runF 2 2 _ _ rfl
/-- 0 web, 1 signs, 2 sign -/
def b_write_signs : Ev → AH → SR := bSeq (bExpr (sCall m_require_signs (sCons (sVar 0) (sCons (sVar 1) (sNil))))) (bRet (sCall m_lines_text (sCons (sLst (sCons (sM1 mJoin (sC (.str ⟨#[]⟩)) (sLC [2] (iOf (sVar 1)) (gNm 2) (tTrue) (sIf (sTest (sBin gEq (sVar 2) (sC (.int 1)))) (sC (.str ⟨#[62]⟩)) (sC (.str ⟨#[60]⟩))))) (sNil))) (sNil))))
def m_write_signs : List D → AH → Res D := runF 3 2 b_write_signs
theorem u_write_signs (x0 x1 : D) (A : AH) : m_write_signs [x0, x1] A = SR.fin A.length (b_write_signs [some x0, some x1, none] A) := e_runF 3 2 _ _ rfl
/-- 0 text, 1 lines, 2 rest -/
def b_alone_line : Ev → AH → SR := bSeq (bSet (gTp (gMore (gNm 1) (gMore (gNm 2) (gEnd)))) (sCall m_whole_lines (sCons (sVar 0) (sNil)))) (bSeq (bIf (sTest (sBin gEq (sVar 1) (sLst (sNil)))) (bStuck) (bNil)) (bSeq (bIf (sOrT (sTest (sBin gGt (sCall gLen (sCons (sVar 1) (sNil))) (sC (.int 1)))) (sTest (sBin gNe (sVar 2) (sC (.str ⟨#[]⟩))))) (bRet (sTup (sCons (sBin gIx (sVar 1) (sC (.int 0))) (sCons (sC (.int 1)) (sNil))))) (bNil)) (bRet (sTup (sCons (sBin gIx (sVar 1) (sC (.int 0))) (sCons (sC .non) (sNil)))))))
def m_alone_line : List D → AH → Res D := runF 3 1 b_alone_line
theorem u_alone_line (x0 : D) (A : AH) : m_alone_line [x0] A = SR.fin A.length (b_alone_line [some x0, none, none] A) := e_runF 3 1 _ _ rfl
/-- 0 web, 1 text, 2 line, 3 spot, 4 sign -/
def b_read_signs : Ev → AH → SR := bSeq (bExpr (sCall m_require_web (sCons (sVar 0) (sNil)))) (bSeq (bExpr (sCall m_require_text (sCons (sVar 1) (sNil)))) (bSeq (bSet (gTp (gMore (gNm 2) (gMore (gNm 3) (gEnd)))) (sCall m_alone_line (sCons (sVar 1) (sNil)))) (bSeq (bIf (sOrT (sTest (sBin gNe (sCall gLen (sCons (sVar 2) (sNil))) (sCall gLen (sCons (sUn (gFld 0 1) (sVar 0)) (sNil))))) (sNotT (sTest (sCall gAll (sCons (sLC [4] (iOf (sVar 2)) (gNm 4) (tTrue) (sBin gIn (sVar 4) (sTup (sCons (sC (.str ⟨#[62]⟩)) (sCons (sC (.str ⟨#[60]⟩)) (sNil)))))) (sNil)))))) (bStuck) (bNil)) (bSeq (bIf (sTest (sBin gIsNot (sVar 3) (sC .non))) (bStuck) (bNil)) (bRet (sCall gTuple (sCons (sLC [4] (iOf (sVar 2)) (gNm 4) (tTrue) (sIf (sTest (sBin gEq (sVar 4) (sC (.str ⟨#[62]⟩)))) (sC (.int 1)) (sUn gNeg (sC (.int 1))))) (sNil))))))))
def m_read_signs : List D → AH → Res D := runF 5 2 b_read_signs
theorem u_read_signs (x0 x1 : D) (A : AH) : m_read_signs [x0, x1] A = SR.fin A.length (b_read_signs [some x0, some x1, none, none, none] A) := e_runF 5 2 _ _ rfl
/-- 0 web, 1 value, 2 one -/
def b_are_hues_in : Ev → AH → SR := bSeq (bIf (sOrT (sNotT (sTest (sIsiB "tuple" (sVar 1)))) (sTest (sBin gNe (sCall gLen (sCons (sVar 1) (sNil))) (sUn (gFld 0 0) (sVar 0))))) (bRet (sC (.bl false))) (bNil)) (bRet (sCall gAll (sCons (sLC [2] (iOf (sVar 1)) (gNm 2) (tTrue) (sCall m_is_within (sCons (sVar 2) (sCons (sC (.int 0)) (sCons (sC (.int 9)) (sNil)))))) (sNil))))
def m_are_hues_in : List D → AH → Res D := runF 3 2 b_are_hues_in
theorem u_are_hues_in (x0 x1 : D) (A : AH) : m_are_hues_in [x0, x1] A = SR.fin A.length (b_are_hues_in [some x0, some x1, none] A) := e_runF 3 2 _ _ rfl
/-- 0 web, 1 row, 2 hue -/
def b_write_hues : Ev → AH → SR := bSeq (bExpr (sCall m_require_web (sCons (sVar 0) (sNil)))) (bSeq (bIf (sNotT (sTest (sCall m_are_hues_in (sCons (sVar 0) (sCons (sVar 1) (sNil)))))) (bStuck) (bNil)) (bRet (sCall m_lines_text (sCons (sLst (sCons (sM1 mJoin (sC (.str ⟨#[32]⟩)) (sLst (sCons (sC (.str ⟨#[104, 117, 101, 115]⟩)) (sStar (sLC [2] (iOf (sVar 1)) (gNm 2) (tTrue) (sCall gStr (sCons (sVar 2) (sNil)))) (sNil))))) (sNil))) (sNil)))))
def m_write_hues : List D → AH → Res D := runF 3 2 b_write_hues
theorem u_write_hues (x0 x1 : D) (A : AH) : m_write_hues [x0, x1] A = SR.fin A.length (b_write_hues [some x0, some x1, none] A) := e_runF 3 2 _ _ rfl
/-- 0 web, 1 text, 2 line, 3 spot, 4 parts, 5 row -/
def b_read_hues : Ev → AH → SR := bSeq (bExpr (sCall m_require_web (sCons (sVar 0) (sNil)))) (bSeq (bExpr (sCall m_require_text (sCons (sVar 1) (sNil)))) (bSeq (bSet (gTp (gMore (gNm 2) (gMore (gNm 3) (gEnd)))) (sCall m_alone_line (sCons (sVar 1) (sNil)))) (bSeq (bSet (gNm 4) (sM1 mSplit (sVar 2) (sC (.str ⟨#[32]⟩)))) (bSeq (bSet (gNm 5) (sIf (sTest (sBin gEq (sBin gIx (sVar 4) (sC (.int 0))) (sC (.str ⟨#[104, 117, 101, 115]⟩)))) (sCall m_numbers_of (sCons (sSlice (sVar 4) (oSome (sC (.int 1))) (oNone)) (sNil))) (sC .non))) (bSeq (bIf (sOrT (sTest (sBin gIs (sVar 5) (sC .non))) (sNotT (sTest (sCall m_are_hues_in (sCons (sVar 0) (sCons (sVar 5) (sNil))))))) (bStuck) (bNil)) (bSeq (bIf (sTest (sBin gIsNot (sVar 3) (sC .non))) (bStuck) (bNil)) (bRet (sVar 5))))))))
def m_read_hues : List D → AH → Res D := runF 6 2 b_read_hues
theorem u_read_hues (x0 x1 : D) (A : AH) : m_read_hues [x0, x1] A = SR.fin A.length (b_read_hues [some x0, some x1, none, none, none, none] A) := e_runF 6 2 _ _ rfl
/-- 0 bag, 1 size, 2 ties, 3 web, 4 signs, 5 row, 6 text, 7 tie, 8 place, 9 one, 10 other, 11 sign, 12 hue -/
def b_law_right : Ev → AH → SR := bSeq (bSet (gNm 1) (sBin gAdd (sC (.int 1)) (sCall m_law_draw (sCons (sVar 0) (sCons (sC (.int 7)) (sNil)))))) (bSeq (bSet (gNm 2) (sCall m_law_ties (sCons (sVar 0) (sCons (sVar 1) (sCons (sC (.int 14)) (sNil)))))) (bSeq (bPar 3 4 (sCons (sCall (mMake 0 m_Web_init) (sCons (sVar 1) (sCons (sVar 2) (sNil)))) (sCons (sCall gTuple (sCons (sLC [7] (iOf (sVar 2)) (gNm 7) (tTrue) (sCall m_law_one_of (sCons (sVar 0) (sCons (sLst (sCons (sC (.int 1)) (sCons (sUn gNeg (sC (.int 1))) (sNil)))) (sNil))))) (sNil))) sNil))) (bSeq (bSet (gNm 5) (sCall gTuple (sCons (sLC [8] (iRange1 (sCons (sVar 1) (sNil))) (gNm 8) (tTrue) (sCall m_law_draw (sCons (sVar 0) (sCons (sC (.int 10)) (sNil))))) (sNil)))) (bSeq (bSet (gNm 6) (sBin gAdd (sBin gAdd (sBin gAdd (sC (.str ⟨#[112, 108, 97, 99, 101, 115, 32]⟩)) (sCall gStr (sCons (sVar 1) (sNil)))) (sC (.str ⟨#[10]⟩))) (sM1 mJoin (sC (.str ⟨#[]⟩)) (sLC [9, 10] (iOf (sVar 2)) (gTp (gMore (gNm 9) (gMore (gNm 10) (gEnd)))) (tTrue) (sBin gAdd (sBin gAdd (sBin gAdd (sCall gStr (sCons (sVar 9) (sNil))) (sC (.str ⟨#[45]⟩))) (sCall gStr (sCons (sVar 10) (sNil)))) (sC (.str ⟨#[10]⟩))))))) (bSeq (bIf (sOrT (sTest (sBin gNe (sCall m_write_web (sCons (sVar 3) (sNil))) (sVar 6))) (sOrT (sTest (sBin (gNeO 0 m_Web_eq) (sCall m_read_web (sCons (sVar 6) (sNil))) (sVar 3))) (sTest (sBin gNe (sCall gRepr (sCons (sUn (gProp 0 m_Web_ties) (sCall m_read_web (sCons (sVar 6) (sNil)))) (sNil))) (sCall gRepr (sCons (sVar 2) (sNil))))))) (bRet (sC (.bl false))) (bNil)) (bSeq (bSet (gNm 6) (sBin gAdd (sM1 mJoin (sC (.str ⟨#[]⟩)) (sLC [11] (iOf (sVar 4)) (gNm 11) (tTrue) (sIf (sTest (sBin gEq (sVar 11) (sC (.int 1)))) (sC (.str ⟨#[62]⟩)) (sC (.str ⟨#[60]⟩))))) (sC (.str ⟨#[10]⟩)))) (bSeq (bIf (sOrT (sTest (sBin gNe (sCall m_write_signs (sCons (sVar 3) (sCons (sVar 4) (sNil)))) (sVar 6))) (sTest (sBin gNe (sCall gRepr (sCons (sCall m_read_signs (sCons (sVar 3) (sCons (sVar 6) (sNil)))) (sNil))) (sCall gRepr (sCons (sVar 4) (sNil)))))) (bRet (sC (.bl false))) (bNil)) (bSeq (bSet (gNm 6) (sBin gAdd (sBin gAdd (sC (.str ⟨#[104, 117, 101, 115, 32]⟩)) (sM1 mJoin (sC (.str ⟨#[32]⟩)) (sLC [12] (iOf (sVar 5)) (gNm 12) (tTrue) (sCall gStr (sCons (sVar 12) (sNil)))))) (sC (.str ⟨#[10]⟩)))) (bRet (sAndV (sBin gEq (sCall m_write_hues (sCons (sVar 3) (sCons (sVar 5) (sNil)))) (sVar 6)) (sBin gEq (sCall gRepr (sCons (sCall m_read_hues (sCons (sVar 3) (sCons (sVar 6) (sNil)))) (sNil))) (sCall gRepr (sCons (sVar 5) (sNil))))))))))))))
def m_law_right : List D → AH → Res D := runF 13 1 b_law_right
theorem u_law_right (x0 : D) (A : AH) : m_law_right [x0] A = SR.fin A.length (b_law_right [some x0, none, none, none, none, none, none, none, none, none, none, none, none] A) := e_runF 13 1 _ _ rfl
/-- 0 script, 1 at, 2 bag, 3 three, 4 told, 5 turn -/
def b_law : Ev → AH → SR := bSeq (bFor (iRange1 (sCons (sCall gMax2 (sCons (sC (.int 1)) (sCons (sCall gMin2 (sCons (sC (.int 3)) (sCons (sCall gLen (sCons (sVar 0) (sNil))) (sNil)))) (sNil)))) (sNil))) (gNm 1) (bSeq (bSet (gNm 2) (sCall m_law_bag (sCons (sVar 0) (sCons (sVar 1) (sNil))))) (bIf (sTest (sBin gNe (sLC [5] (iRange1 (sCons (sC (.int 5)) (sNil))) (gNm 5) (sNotT (sTest (sCall m_law_right (sCons (sVar 2) (sNil))))) (sC (.int 1))) (sLst (sNil)))) (bRet (sC (.bl false))) (bNil)))) (bSeq (bSet (gNm 3) (sCall (mMake 0 m_Web_init) (sCons (sC (.int 3)) (sCons (sTup (sCons (sTup (sCons (sC (.int 0)) (sCons (sC (.int 1)) (sNil)))) (sCons (sTup (sCons (sC (.int 0)) (sCons (sC (.int 2)) (sNil)))) (sCons (sTup (sCons (sC (.int 1)) (sCons (sC (.int 2)) (sNil)))) (sNil))))) (sNil))))) (bSeq (bSet (gNm 4) (sLst (sCons (sCall m_write_web (sCons (sVar 3) (sNil))) (sCons (sUn (gProp 0 m_Web_ties) (sCall m_read_web (sCons (sC (.str ⟨#[112, 108, 97, 99, 101, 115, 32, 50, 10, 48, 45, 48, 10, 48, 45, 49, 10]⟩)) (sNil)))) (sCons (sCall m_write_signs (sCons (sVar 3) (sCons (sTup (sCons (sC (.int 1)) (sCons (sUn gNeg (sC (.int 1))) (sCons (sC (.int 1)) (sNil))))) (sNil)))) (sCons (sCall m_read_signs (sCons (sVar 3) (sCons (sC (.str ⟨#[60, 60, 62, 10]⟩)) (sNil)))) (sCons (sCall m_write_hues (sCons (sVar 3) (sCons (sTup (sCons (sC (.int 0)) (sCons (sC (.int 1)) (sCons (sC (.int 2)) (sNil))))) (sNil)))) (sNil)))))))) (bSeq (bSet (gNm 4) (sBin gAdd (sVar 4) (sLst (sCons (sCall m_write_signs (sCons (sCall (mMake 0 m_Web_init) (sCons (sC (.int 2)) (sCons (sTup (sNil)) (sNil)))) (sCons (sTup (sNil)) (sNil)))) (sCons (sCall m_read_signs (sCons (sCall (mMake 0 m_Web_init) (sCons (sC (.int 2)) (sCons (sTup (sNil)) (sNil)))) (sCons (sC (.str ⟨#[10]⟩)) (sNil)))) (sCons (sCall m_write_web (sCons (sCall (mMake 0 m_Web_init) (sCons (sC (.int 1)) (sCons (sTup (sNil)) (sNil)))) (sNil))) (sNil))))))) (bRet (sBin gEq (sCall gRepr (sCons (sVar 4) (sNil))) (sCall gRepr (sCons (sLst (sCons (sC (.str ⟨#[112, 108, 97, 99, 101, 115, 32, 51, 10, 48, 45, 49, 10, 48, 45, 50, 10, 49, 45, 50, 10]⟩)) (sCons (sTup (sCons (sTup (sCons (sC (.int 0)) (sCons (sC (.int 0)) (sNil)))) (sCons (sTup (sCons (sC (.int 0)) (sCons (sC (.int 1)) (sNil)))) (sNil)))) (sCons (sC (.str ⟨#[62, 60, 62, 10]⟩)) (sCons (sTup (sCons (sUn gNeg (sC (.int 1))) (sCons (sUn gNeg (sC (.int 1))) (sCons (sC (.int 1)) (sNil))))) (sCons (sC (.str ⟨#[104, 117, 101, 115, 32, 48, 32, 49, 32, 50, 10]⟩)) (sCons (sC (.str ⟨#[10]⟩)) (sCons (sTup (sNil)) (sCons (sC (.str ⟨#[112, 108, 97, 99, 101, 115, 32, 49, 10]⟩)) (sNil)))))))))) (sNil))))))))
def m_law : List D → AH → Res D := runF 6 1 b_law
theorem u_law (x0 : D) (A : AH) : m_law [x0] A = SR.fin A.length (b_law [some x0, none, none, none, none, none] A) := e_runF 6 1 _ _ rfl
end Lw
namespace Lw
open PySem PySem.Spec
open PyProof.Rows L2 F3
@[simp] theorem len_mk (a : Array Nat) : (⟨a⟩ : Str).length = a.size := rfl
@[simp] theorem size_line : sizeLine = 16777216 := rfl
/-! ### small numbers -/
theorem is_int_int (i : Int) (A : AH) : m_is_int [.int i] A = .ok (.bl true) A := by
  simp [u_is_int, b_is_int, gIsiB, tyD, isiB]
theorem is_within_int (v lo hi : Int) (A : AH) (h1 : -1000 < v) (h2 : v < 1000) : m_is_within [.int v, .int lo, .int hi] A = .ok (.bl (decide (lo ≤ v ∧ v ≤ hi))) A := by
  have k1 : -1000000000000000000000000000000000000000000000000000000000000 < v := by omega
  have k2 : v < 1000000000000000000000000000000000000000000000000000000000000 := by omega
  by_cases q : lo ≤ v <;> simp [u_is_within, b_is_within, u_is_whole, b_is_whole, is_int_int, gLt, gLe, gNeg, k1, k2, q]
/-- a digit, a number below ten as a text -/
def dg (n : Nat) : Str := ⟨#[48 + n]⟩
@[simp] theorem dg_len (n : Nat) : (dg n).length = 1 := rfl
@[simp] theorem dg_cps (n : Nat) : (dg n).cps = #[48 + n] := rfl
theorem ten {p : Nat → Prop} (h0 : p 0) (h1 : p 1) (h2 : p 2) (h3 : p 3) (h4 : p 4) (h5 : p 5) (h6 : p 6) (h7 : p 7) (h8 : p 8) (h9 : p 9) (n : Nat) (h : n < 10) : p n := by
  match n, h with
  | 0, _ => exact h0
  | 1, _ => exact h1
  | 2, _ => exact h2
  | 3, _ => exact h3
  | 4, _ => exact h4
  | 5, _ => exact h5
  | 6, _ => exact h6
  | 7, _ => exact h7
  | 8, _ => exact h8
  | 9, _ => exact h9
theorem toStr_dg (n : Nat) (h : n < 10) : (toString (n : Int) : Str) = dg n := ten (p := fun n => (toString (n : Int) : Str) = dg n) (by decide +kernel) (by decide +kernel) (by decide +kernel) (by decide +kernel) (by decide +kernel) (by decide +kernel) (by decide +kernel) (by decide +kernel) (by decide +kernel) (by decide +kernel) n h
theorem int_dg (n : Nat) (h : n < 10) : PySem.intText? (dg n) = some (n : Int) := ten (p := fun n => PySem.intText? (dg n) = some (n : Int)) (by decide +kernel) (by decide +kernel) (by decide +kernel) (by decide +kernel) (by decide +kernel) (by decide +kernel) (by decide +kernel) (by decide +kernel) (by decide +kernel) (by decide +kernel) n h
theorem log_dg (n : Nat) (h : n < 10) : (n : Int).natAbs.log2 < 1920 := by
  rw [Int.natAbs_natCast]
  exact Nat.lt_of_le_of_lt (Nat.log2_le_self n) (by omega)
theorem str_dg (n : Nat) (h : n < 10) (A : AH) : gStr [.int n] A = .ok (.str (dg n)) A := by
  unfold gStr
  simp only [if_pos (log_dg n h), toStr_dg n h]
theorem ok_small {l : List Nat} (h : ∀ c ∈ l, c < 200) : PyData.strOk ⟨l.toArray⟩ = true := by
  unfold PyData.strOk
  rw [← Array.all_toList]
  simp only [List.all_eq_true, decide_eq_true_eq]
  exact fun c hc => Nat.lt_trans (h c hc) (by decide)
theorem ok_sign {c : Nat} (h : c < 200) : PyData.strOk ⟨#[c]⟩ = true := ok_small (l := [c]) (by simpa using h)
@[simp] theorem atI0 {α : Type} (x : α) (l : List α) : atI (x :: l) 0 = some x := by
  unfold atI ixN; simp
theorem number_of_dg (n : Nat) (h : n < 10) (A : AH) : m_number_of [.str (dg n)] A = .ok (.int n) A := by
  have e2 : signIn ⟨#[48 + n]⟩ ⟨#[48, 49, 50, 51, 52, 53, 54, 55, 56, 57]⟩ = true := by
    unfold signIn; simp; omega
  have e3 := ok_sign (c := 48 + n) (by omega)
  have e4 := ok_sign (c := 48) (by omega)
  cases n with
  | zero => simp [u_number_of, b_number_of, gLe, gLen, gIn, inP, topD, compL, e2, pureB, gAll, asQ, dbls, gEq_str e3 e4, gEq_str e4 e4, gIx, gCmpI, gInt, int_dg 0 h, wip]
  | succ n =>
    have e5 : ((⟨#[48 + (n + 1)]⟩ : Str) == ⟨#[48]⟩) = false := beq_eq_false_iff_ne.mpr fun z => by
      have z1 := congrArg (fun x : Str => x.cps.toList) z
      simp at z1
    simp [e5, u_number_of, b_number_of, gLe, gLen, gIn, inP, topD, compL, e2, pureB, gAll, asQ, dbls, gEq_str e3 e4, gIx, gCmpI, gInt, int_dg (n+1) h, wip]
/-! ### lines -/
def nl : Str := ⟨#[10]⟩
def emp : Str := ⟨#[]⟩
theorem tl_emp : TL.tl emp = [] := rfl
theorem tl_nl : TL.tl nl = [10] := rfl
/-- lines, each with its end -/
def linesT (ls : List Str) : Str := Txt.join emp (ls.map (· ++ nl))
def cat10 (ls : List Str) : List Nat := ls.flatMap fun l => TL.tl l ++ [10]
theorem joinL_nil : ∀ ls : List (List Nat), TL.joinL [] ls = ls.flatten
  | [] => rfl
  | [p] => by simp [TL.joinL]
  | p :: q :: r => by
    show p ++ ([] ++ TL.joinL [] (q :: r)) = _
    rw [joinL_nil (q :: r)]; simp
theorem joinL_10 : ∀ ls : List Str, TL.joinL [10] ((ls ++ [emp]).map TL.tl) = cat10 ls
  | [] => rfl
  | l :: ls => by
    have ih := joinL_10 ls
    cases ls with
    | nil => simp [TL.joinL, cat10, tl_emp, TL.tl, emp]
    | cons k r =>
      show TL.tl l ++ ([10] ++ TL.joinL [10] (((k :: r) ++ [emp]).map TL.tl)) = _
      rw [ih]
      unfold cat10; simp
theorem tl_lines (ls : List Str) : TL.tl (linesT ls) = cat10 ls := by
  unfold linesT
  rw [TL.join_eq, TL.tl_join, tl_emp, joinL_nil]
  unfold cat10
  rw [List.flatMap_def, List.map_map]
  congr 1
  refine List.map_congr_left fun l _ => ?_
  show TL.tl (l ++ nl) = _
  rw [TL.tl_append, tl_nl]
theorem lines_join (ls : List Str) : linesT ls = Txt.join nl (ls ++ [emp]) := by
  refine TL.ext_tl ?_
  rw [tl_lines, TL.join_eq, TL.tl_join, tl_nl, joinL_10]
theorem split_lines (ls : List Str) (h : ∀ l ∈ ls, 10 ∉ TL.tl l) : Txt.split (linesT ls) nl = ls ++ [emp] := by
  rw [lines_join]
  refine TL.split_join (S := []) tl_nl (by decide +kernel) (by simp) fun p hp => ?_
  rcases List.mem_append.mp hp with q | q
  · exact h p q
  · rw [List.mem_singleton.mp q, tl_emp]; simp
def few (ls : List Str) : Prop := ls.length ≤ 100 ∧ ∀ l ∈ ls, l.length ≤ 100
theorem few_sum {ls : List Str} (h : ∀ l ∈ ls, l.length ≤ 101) : (ls.map (·.length)).sum ≤ 101 * ls.length := by
  induction ls with
  | nil => simp
  | cons l ls ih =>
    have := ih fun x hx => h x (List.mem_cons_of_mem _ hx)
    have := h l List.mem_cons_self
    simp; omega
theorem join_ok {y : Str} {ys : List Str} (h : ys.length ≤ 100) (h' : ∀ l ∈ ys, l.length ≤ 101) (hy : y.length ≤ 1) (A : AH) : mJoin y (.lst (ys.map .str)) A = .ok (.str (Txt.join y ys)) A := by
  have e : dstrs (ys.map D.str) = some ys := by
    induction ys with
    | nil => rfl
    | cons l ls ih =>
      show (dstrs (ls.map D.str)).map (l :: ·) = _
      rw [ih (by simp at h; omega) fun x hx => h' x (List.mem_cons_of_mem _ hx)]; rfl
  have z := few_sum h'
  have z2 : ys.length * y.length ≤ 100 * 1 := Nat.mul_le_mul h hy
  unfold mJoin
  rw [show asL A (.lst (ys.map .str)) = some (ys.map .str) from rfl, Option.bind_some, e]
  simp only
  rw [if_pos (by omega)]
@[simp] theorem emp_len : emp.length = 0 := rfl
@[simp] theorem nl_len : nl.length = 1 := rfl
theorem lines_text_of {ls : List Str} (h : few ls) (A : AH) : m_lines_text [.lst (ls.map .str)] A = .ok (.str (linesT ls)) A := by
  have hm := compL_map (st := gNm 1) (t := tTrue) (f := fsL [sFmt (sVar 1), sC (.str nl)] Str.empty) (A := A) (g := fun d => match d with | .str l => .str (l ++ nl) | d => d) (env := [some (D.lst (ls.map .str)), none]) (ls.map .str) (fun d hd => by
    obtain ⟨l, hl, rfl⟩ := List.mem_map.mp hd
    have z := h.2 l hl
    have z2 : l.length ≤ 16777216 := by omega
    refine ⟨_, rfl, rfl, ?_⟩
    have e1 : (Str.empty ++ l).length = l.length := by rw [strLen_append]; show 0 + _ = _; omega
    have e2 : (Str.empty ++ l ++ nl).length = l.length + 1 := by rw [strLen_append, e1]; rfl
    have e3 : Str.empty ++ l ++ nl = l ++ nl := by refine TL.ext_tl ?_; rw [TL.tl_append, TL.tl_append, TL.tl_append]; rfl
    have e4 : (l ++ nl).length ≤ 16777216 := by rw [← e3, e2]; omega
    simp [z2, e1, e3, e4])
  have e : (ls.map D.str).map (fun d => match d with | .str l => .str (l ++ nl) | d => d) = (ls.map (· ++ nl)).map D.str := by
    rw [List.map_map, List.map_map]; rfl
  rw [e] at hm
  have z : ls.length ≤ 16777216 := by have := h.1; omega
  have j := join_ok (y := emp) (ys := ls.map (· ++ nl)) (by rw [List.length_map]; exact h.1) (fun x hx => by
    obtain ⟨l, hl, rfl⟩ := List.mem_map.mp hx
    have := h.2 l hl
    rw [strLen_append]; show _ + 1 ≤ _; omega) (by decide) A
  unfold nl at hm
  unfold emp at j
  rw [show (fun x : Str => x ++ nl) = fun x => x ++ ⟨#[10]⟩ from rfl] at j
  simp [u_lines_text, b_lines_text, wip, z, hm, j, -List.map_map]
  rfl
theorem cutD_init (xs : List D) (x : D) : F3.cutD (xs ++ [x]) none (some (-1)) = xs := by
  unfold F3.cutD
  have e1 : HT.sIx (xs ++ [x]).length 0 none = 0 := rfl
  have e2 : HT.sIx (xs ++ [x]).length (xs ++ [x]).length (some (-1)) = xs.length := by
    unfold HT.sIx; simp; omega
  rw [e1, e2]; simp
theorem cutD_tail (x : D) (xs : List D) : F3.cutD (x :: xs) (some 1) none = xs := by
  unfold F3.cutD
  have e1 : HT.sIx (x :: xs).length 0 (some 1) = 1 := by
    unfold HT.sIx; simp; try omega
  have e2 : HT.sIx (x :: xs).length (x :: xs).length none = xs.length + 1 := rfl
  rw [e1, e2]; simp
theorem atI_last {α : Type} (xs : List α) (x : α) : atI (xs ++ [x]) (-1) = some x := by
  unfold atI ixN
  have h1 : ¬ (0 : Int) ≤ -1 := by decide
  have h2 : -((xs ++ [x]).length : Int) ≤ -1 := by simp; omega
  rw [if_neg h1, if_pos h2, Option.bind_some]
  have h3 : (-1 + ((xs ++ [x]).length : Int)).toNat = xs.length := by simp; omega
  rw [h3]; simp
theorem lines_len {ls : List Str} (h : few ls) : (linesT ls).length ≤ 10100 := by
  rw [TL.len_tl, tl_lines]
  unfold cat10
  rw [List.flatMap_def, List.length_flatten, List.map_map]
  have := few_sum (ls := ls.map (· ++ nl)) fun x hx => by
    obtain ⟨l, hl, rfl⟩ := List.mem_map.mp hx
    have := h.2 l hl
    rw [strLen_append]; show _ + 1 ≤ _; omega
  rw [List.map_map, List.length_map] at this
  have e : (List.length ∘ fun l => TL.tl l ++ [10]) = ((fun x : Str => x.length) ∘ fun x => x ++ nl) := by
    funext l; show (TL.tl l ++ [10]).length = (l ++ nl).length
    rw [strLen_append, TL.len_tl l]; simp
  rw [e]
  have := h.1
  omega
def free (c : Nat) (ls : List Str) : Prop := ∀ l ∈ ls, c ∉ TL.tl l
theorem whole_lines_of {ls : List Str} (h : few ls) (hf : free 10 ls) (A : AH) : m_whole_lines [.str (linesT ls)] A = .ok (.tup [.lst (ls.map .str), .str emp]) A := by
  have z := lines_len h
  have z2 : (linesT ls).length ≤ 16777214 := by omega
  have e := split_lines ls hf
  have e2 : (ls ++ [emp]).map D.str = ls.map D.str ++ [.str emp] := by simp
  unfold nl at e
  simp [u_whole_lines, b_whole_lines, mSplit, z2, e, gSl, asQ, e2, gNeg, cutD_init, gIx, asL, atI_last, -List.map_append]
end Lw
namespace Lw
open PySem PySem.Spec
open PyProof.Rows L2 F3
def placesL (n : Nat) : Str := ⟨#[112, 108, 97, 99, 101, 115, 32, 48 + n]⟩
def tieL (p : Nat × Nat) : Str := ⟨#[48 + p.1, 45, 48 + p.2]⟩
theorem split1 {x y : Str} {s : Nat} (parts : List Str) (ey : TL.tl y = [s]) (hs : s < 256) (hne : parts ≠ []) (hp : ∀ p ∈ parts, s ∉ TL.tl p) (hx : TL.tl x = TL.joinL [s] (parts.map TL.tl)) : Txt.split x y = parts := by
  have e : x = Txt.join y parts := TL.ext_tl (by rw [hx, TL.join_eq, TL.tl_join, ey])
  rw [e]
  refine TL.split_join (S := []) ey ?_ hne hp
  rw [← Array.all_toList]
  have e2 : y.cps.toList = [s] := ey
  rw [e2]; simpa using hs
theorem split_places (n : Nat) (h : n < 10) : Txt.split (placesL n) ⟨#[32]⟩ = [⟨#[112, 108, 97, 99, 101, 115]⟩, dg n] :=
  split1 _ (s := 32) rfl (by decide) (by simp) (fun p hp => by
    simp only [List.mem_cons, List.not_mem_nil, or_false] at hp
    rcases hp with rfl | rfl
    · decide +kernel
    · show 32 ∉ [48 + n]; simp; omega) rfl
theorem split_tie (p : Nat × Nat) (h1 : p.1 < 10) (h2 : p.2 < 10) : Txt.split (tieL p) ⟨#[45]⟩ = [dg p.1, dg p.2] :=
  split1 _ (s := 45) rfl (by decide) (by simp) (fun q hq => by
    simp only [List.mem_cons, List.not_mem_nil, or_false] at hq
    rcases hq with rfl | rfl
    · show 45 ∉ [48 + p.1]; simp; omega
    · show 45 ∉ [48 + p.2]; simp; omega) rfl
theorem ok_places : PyData.strOk ⟨#[112, 108, 97, 99, 101, 115]⟩ = true := by decide +kernel
@[simp] theorem atI1 {α : Type} (x y : α) (l : List α) : atI (x :: y :: l) 1 = some y := by
  unfold atI ixN; simp; split <;> first | rfl | omega
theorem size_from_of (n : Nat) (h1 : 1 ≤ n) (h : n ≤ 7) (A : AH) : m_size_from [.str (placesL n)] A = .ok (.int n) A := by
  have e := split_places n (by omega)
  have z : (placesL n).length ≤ 16777214 := by show 8 ≤ _; decide
  have w := is_within_int (n : Int) 1 7 A (by omega) (by omega)
  have c1 : (1 : Int) ≤ n := by omega
  have c2 : (n : Int) ≤ 7 := by omega
  simp [u_size_from, b_size_from, mSplit, e, z, gLen, asL, gIx, gEq_str ok_places ok_places, number_of_dg n (by omega), gIsNot, w, c1, c2]
/-- numbers below ten, one text each -/
theorem numbers_of_dg (ns : List Nat) (h : ∀ n ∈ ns, n < 10) (hl : ns.length ≤ 100) (A : AH) : m_numbers_of [.lst (ns.map fun n : Nat => D.str (dg n))] A = .ok (.tup (ns.map fun n : Nat => D.int n)) A := by
  have hm := compL_map (st := gNm 2) (t := tTrue) (f := sCall m_number_of (sCons (sVar 2) sNil)) (A := A) (g := fun d => match d with | .str l => .int ((l.cps.toList.headD 48 - 48 : Nat) : Int) | d => d) (env := [some (D.lst (ns.map fun n : Nat => D.str (dg n))), none, none]) (ns.map fun n => D.str (dg n)) (fun d hd => by
    obtain ⟨n, hn, rfl⟩ := List.mem_map.mp hd
    refine ⟨_, rfl, rfl, ?_⟩
    simp [number_of_dg n (h n hn)])
  have e : (ns.map fun n => D.str (dg n)).map (fun d => match d with | .str l => .int ((l.cps.toList.headD 48 - 48 : Nat) : Int) | d => d) = ns.map fun n : Nat => D.int n := by
    rw [List.map_map]
    refine List.map_congr_left fun n _ => ?_
    simp
  rw [e] at hm
  have z : ns.length ≤ 16777216 := by omega
  have hp : toPs (ns.map fun n : Nat => D.int n) = some ((ns.map fun n : Nat => (n : Int)).map PyData.int) := by
    rw [← toPs_ints, List.map_map]; rfl
  have sh : SeqAt.shaped (.tuple ((ns.map fun n : Nat => (n : Int)).map PyData.int)) = true := by
    obtain ⟨q1, q2⟩ := lay_ints (ns.map fun n : Nat => (n : Int))
    exact shaped_tuple q1 (by rw [q2]; decide)
  have an : ((ns.map fun n : Nat => (n : Int)).map PyData.int).any (fun z => PyData.eqv z PyData.none) = false := by
    rw [List.any_eq_false]
    intro x hx
    obtain ⟨i, _, rfl⟩ := List.mem_map.mp hx
    simp [PyData.eqv]
  have hin : gIn .non (.tup (ns.map fun n : Nat => D.int n)) A = .ok (.bl false) A := by
    unfold gIn inP
    simp only [topD, hp]
    rw [show toP D.non = some PyData.none from rfl]
    simp only [sh, an, show SeqAt.shaped PyData.none = true from rfl]
    rfl
  simp [u_numbers_of, b_numbers_of, wip, z, hm, gTuple, asQ, hin, -List.map_map]
def tieD (p : Nat × Nat) : D := .tup [.int p.1, .int p.2]
theorem tie_from_of (n : Nat) (p : Nat × Nat) (h1 : p.1 ≤ p.2) (h2 : p.2 < n) (h : n ≤ 7) (A : AH) : m_tie_from [.int n, .str (tieL p)] A = .ok (tieD p) A := by
  have e := split_tie p (by omega) (by omega)
  have z : (tieL p).length ≤ 16777214 := by show 3 ≤ _; decide
  have q := numbers_of_dg [p.1, p.2] (by simp; omega) (by simp) A
  simp only [List.map_cons, List.map_nil] at q
  have c1 : (p.1 : Int) ≤ p.2 := by omega
  have c2 : (p.2 : Int) < n := by omega
  simp [u_tie_from, b_tie_from, mSplit, e, z, q, gIs, gLen, asL, gIx, gLe, gLt, c1, c2, tieD]
end Lw
namespace Lw
open PySem PySem.Spec
open PyProof.Rows L2 F3
/-! ### the things that are changed: bags alone -/
def Bags (A : AH) : Prop := ∀ o ∈ A, ∃ g b : Int, o = .lst [.int g, .int b]
theorem belows_bags : ∀ {A : AH} (n : Nat), Bags A → belowsO n A = true
  | [], _, _ => rfl
  | o :: A, n, h => by
    obtain ⟨g, b, rfl⟩ := h o List.mem_cons_self
    show (true && belowsO n A) = true
    rw [belows_bags n fun x hx => h x (List.mem_cons_of_mem _ hx)]; rfl
/-- no thing holds another -/
def Flat (A : AH) : Prop := ∀ n, belowsO n A = true
theorem Bags.flat {A : AH} (h : Bags A) : Flat A := fun n => belows_bags n h
theorem flat_app : ∀ {A : AH} {o : AO}, Flat A → (∀ n, belowO n o = true) → Flat (A ++ [o])
  | [], o, _, h, n => by show (belowO n o && true) = true; rw [h n]; rfl
  | x :: A, o, h, h', n => by
    have e : (belowO n x && belowsO n A) = true := h n
    have e1 := Bool.and_eq_true_iff.mp e
    show (belowO n x && belowsO n (A ++ [o])) = true
    have ih : Flat A := fun m => by
      have q : (belowO m x && belowsO m A) = true := h m
      exact (Bool.and_eq_true_iff.mp q).2
    rw [e1.1, flat_app ih h' n]; rfl
theorem clean_app {A B : AH} {d d' : D} (hA : Flat A) (hne : B ≠ []) (hf : frz (A ++ B) A.length 30 d = some d') : clean A.length d (A ++ B) = .ok d' A := by
  unfold clean
  have z : ¬ (A ++ B).length = A.length := by
    rw [List.length_append]
    cases B with
    | nil => exact absurd rfl hne
    | cons b B => simp
  rw [if_neg z, hf]
  simp [hA _]
theorem frz_int (A : AH) (n k : Nat) (i : Int) : frz A n (k + 1) (.int i) = some (.int i) := rfl
theorem frz_bl (A : AH) (n k : Nat) (i : Bool) : frz A n (k + 1) (.bl i) = some (.bl i) := rfl
theorem frz_tie (A : AH) (n k : Nat) (p : Nat × Nat) : frz A n (k + 2) (tieD p) = some (tieD p) := rfl
theorem frzL_map {α : Type} {f : D → Option D} {g : α → D} : ∀ {l : List α}, (∀ x ∈ l, f (g x) = some (g x)) → frzL f (l.map g) = some (l.map g)
  | [], _ => rfl
  | x :: l, h => by
    show (match f (g x), frzL f (l.map g) with | some e, some es => some (e :: es) | _, _ => none) = _
    rw [h x List.mem_cons_self, frzL_map fun y hy => h y (List.mem_cons_of_mem _ hy)]; rfl
def tiesD (ts : List (Nat × Nat)) : D := .tup (ts.map tieD)
theorem frz_ties (A : AH) (n k : Nat) (ts : List (Nat × Nat)) : frz A n (k + 3) (tiesD ts) = some (tiesD ts) := by
  show (frzL (frz A n (k + 2)) (ts.map tieD)).map D.tup = _
  rw [frzL_map fun x _ => frz_tie A n k x]; rfl
/-- a right row of ties -/
structure Ties (n : Nat) (ts : List (Nat × Nat)) : Prop where
  size : 1 ≤ n ∧ n ≤ 7
  few : ts.length ≤ 14
  rng : ∀ p ∈ ts, p.1 ≤ p.2 ∧ p.2 < n
  ord : ts.Pairwise fun p q => p.1 < q.1 ∨ (p.1 = q.1 ∧ p.2 ≤ q.2)
theorem leL_pair (a b c d : Int) : leL [a, b] [c, d] = decide (a < c ∨ (a = c ∧ b ≤ d)) := by
  unfold leL
  show Ob.lexAt _ _ _ 0 2 = _
  unfold Ob.lexAt
  by_cases h : a = c
  · subst h
    simp [Ob.lexAt]
    by_cases h2 : b = d
    · subst h2; simp
    · simp [h2]
  · simp [h]; omega
theorem all_true {α : Type} (l : List α) (A : AH) : gAll [.lst (l.map fun _ => D.bl true)] A = .ok (.bl true) A := by
  have e : dbls (l.map fun _ => D.bl true) = some (l.map fun _ => true) := by
    induction l with
    | nil => rfl
    | cons x l ih => show (dbls (l.map fun _ => D.bl true)).map (true :: ·) = _; rw [ih]; rfl
  unfold gAll
  simp [asQ, e]
theorem zip_near {ts : List (Nat × Nat)} : zipD (ts.map tieD) ((ts.map tieD).drop 1) = (ts.zip (ts.drop 1)).map fun q => D.tup [tieD q.1, tieD q.2] := by
  have gen : ∀ (xs ys : List (Nat × Nat)), zipD (xs.map tieD) (ys.map tieD) = (xs.zip ys).map fun q => D.tup [tieD q.1, tieD q.2] := by
    intro xs
    induction xs with
    | nil => intro ys; rfl
    | cons x xs ih =>
      intro ys
      cases ys with
      | nil => rfl
      | cons y ys => show D.tup [tieD x, tieD y] :: zipD (xs.map tieD) (ys.map tieD) = _; rw [ih]; rfl
  rw [← List.map_drop]; exact gen _ _
theorem near_ord {ts : List (Nat × Nat)} {R : Nat × Nat → Nat × Nat → Prop} : ts.Pairwise R → ∀ q ∈ ts.zip (ts.drop 1), R q.1 q.2 := by
  induction ts with
  | nil => intro _ q hq; simp at hq
  | cons x ts ih =>
    intro h q hq
    obtain ⟨h1, h2⟩ := List.pairwise_cons.mp h
    cases ts with
    | nil => simp at hq
    | cons y r =>
      rcases List.mem_cons.mp (show q ∈ (x, y) :: (y :: r).zip ((y :: r).drop 1) from hq) with e | e
      · subst e; exact h1 y List.mem_cons_self
      · exact ih h2 q e
theorem cutD_one (xs : List D) : F3.cutD xs (some 1) none = xs.drop 1 := by
  cases xs with
  | nil => rfl
  | cons x xs => exact cutD_tail x xs
theorem are_ties_of {n : Nat} {ts : List (Nat × Nat)} (T : Ties n ts) (A : AH) : m_are_ties [.int n, tiesD ts] A = .ok (.bl true) A := by
  have z : ts.length ≤ 16777216 := by have := T.few; omega
  have z1 : ¬ (14 : Int) < ts.length := by have := T.few; omega
  have z2 : (zipD (ts.map tieD) ((ts.map tieD).drop 1)).length ≤ 16777216 := by
    rw [zip_near, List.length_map, List.length_zip]; omega
  have h1 := compL_map (st := gNm 2) (t := tTrue) (f := sAndV (sIsiB "tuple" (sVar 2)) (sBin gEq (sCall gLen (sCons (sVar 2) sNil)) (sC (.int 2)))) (A := A) (g := fun _ => .bl true) (env := [some (.int n), some (tiesD ts), none, none, none]) (ts.map tieD) (fun d hd => by
    obtain ⟨p, hp, rfl⟩ := List.mem_map.mp hd
    refine ⟨_, rfl, rfl, ?_⟩
    simp [gIsiB, tieD, tyD, isiB, gLen, asL])
  have h2 := compL_map (st := gTp (gMore (gNm 3) (gMore (gNm 4) gEnd))) (t := tTrue) (f := sAndV (sCall m_is_within (sCons (sVar 3) (sCons (sC (.int 0)) (sCons (sBin gSub (sVar 0) (sC (.int 1))) sNil)))) (sCall m_is_within (sCons (sVar 4) (sCons (sVar 3) (sCons (sBin gSub (sVar 0) (sC (.int 1))) sNil)))))
    (A := A) (g := fun _ => .bl true) (env := [some (.int n), some (tiesD ts), none, none, none]) (ts.map tieD) (fun d hd => by
    obtain ⟨p, hp, rfl⟩ := List.mem_map.mp hd
    have r := T.rng p hp
    have s := T.size
    have w1 := is_within_int (p.1 : Int) 0 (n - 1) A (by omega) (by omega)
    have w2 := is_within_int (p.2 : Int) p.1 (n - 1) A (by omega) (by omega)
    have c1 : (p.1 : Int) ≤ n - 1 := by omega
    have c2 : (p.1 : Int) ≤ p.2 := by omega
    have c3 : (p.2 : Int) ≤ n - 1 := by omega
    refine ⟨[some (.int n), some (tiesD ts), none, some (.int p.1), some (.int p.2)], rfl, rfl, ?_⟩
    simp [F3.gSub, w1, w2, c1, c2, c3])
  have h3 := compL_map (st := gTp (gMore (gNm 3) (gMore (gNm 4) gEnd))) (t := tTrue) (f := sBin gLe (sVar 3) (sVar 4))
    (A := A) (g := fun _ => .bl true) (env := [some (.int n), some (tiesD ts), none, none, none]) (zipD (ts.map tieD) ((ts.map tieD).drop 1)) (fun d hd => by
    rw [zip_near] at hd
    obtain ⟨q, hq, rfl⟩ := List.mem_map.mp hd
    have r := near_ord T.ord q hq
    refine ⟨[some (.int n), some (tiesD ts), none, some (tieD q.1), some (tieD q.2)], rfl, rfl, ?_⟩
    simp [gLe, tieD, dints, leL_pair]
    omega)
  have k1 := all_true (ts.map tieD) A
  have k3 := all_true (zipD (ts.map tieD) ((ts.map tieD).drop 1)) A
  unfold tiesD at *
  simp [u_are_ties, b_are_ties, gIsiB, tyD, isiB, gLen, asL, gCmpI, z, z1, wip, h1, h2, k1, gSl, cutD_one, z2, h3, k3, -List.map_map, -List.map_drop, -List.map_const_fun, -List.drop_one]
end Lw
namespace Lw
open PySem PySem.Spec
open PyProof.Rows L2 F3
/-- a web -/
def webD (n : Nat) (ts : List (Nat × Nat)) : D := .ins 0 [.int n, tiesD ts]
theorem require_size_of (n : Nat) (h : 1 ≤ n ∧ n ≤ 7) (A : AH) : m_require_size [.int n] A = .ok .non A := by
  have w := is_within_int (n : Int) 1 7 A (by omega) (by omega)
  have c1 : (1 : Int) ≤ n := by omega
  have c2 : (n : Int) ≤ 7 := by omega
  simp [u_require_size, b_require_size, w, c1, c2]
theorem init_of {n : Nat} {ts : List (Nat × Nat)} (T : Ties n ts) (A : AH) : m_Web_init [.ref A.length, .int n, tiesD ts] (A ++ [.ins 0 []]) = .ok .non (A ++ [.ins 0 [some (.int n), some (tiesD ts)]]) := by
  have r := require_size_of n T.size (A ++ [.ins 0 []])
  have t := are_ties_of T (A ++ [.ins 0 []])
  simp [u_Web_init, b_Web_init, r, t, flds, putD]
  have e := clean_same (A := A ++ [AO.ins 0 [some (.int n), some (tiesD ts)]]) .non
  simpa using e
theorem make_of {n : Nat} {ts : List (Nat × Nat)} (T : Ties n ts) {A : AH} (hA : Flat A) : mMake 0 m_Web_init [.int n, tiesD ts] A = .ok (webD n ts) A := by
  unfold mMake
  rw [init_of T A]
  simp only
  refine clean_app hA (by simp) ?_
  unfold frz
  simp only [Nat.lt_irrefl, if_false]
  rw [show (A ++ [AO.ins 0 [some (.int n), some (tiesD ts)]])[A.length]? = some (.ins 0 [some (.int n), some (tiesD ts)]) by simp]
  simp only [allSome, Option.map_some]
  have e1 : frzL (frz (A ++ [AO.ins 0 [some (.int n), some (tiesD ts)]]) A.length 29) [.int n, tiesD ts] = some [.int n, tiesD ts] := by
    have e2 := frzL_map (f := frz (A ++ [AO.ins 0 [some (.int n), some (tiesD ts)]]) A.length 29) (g := tiesD) (l := [ts]) fun x _ => frz_ties _ _ 26 x
    show (match some (D.int n), frzL (frz _ _ 29) [tiesD ts] with | some e, some es => some (e :: es) | _, _ => none) = _
    rw [show frzL (frz (A ++ [AO.ins 0 [some (.int n), some (tiesD ts)]]) A.length 29) [tiesD ts] = some [tiesD ts] from e2]
  rw [e1]; rfl
theorem require_web_of (n : Nat) (ts : List (Nat × Nat)) (A : AH) : m_require_web [webD n ts] A = .ok .non A := by
  simp [u_require_web, b_require_web, gIsiO, webD]
/-- a web's lines -/
def webL (n : Nat) (ts : List (Nat × Nat)) : List Str := placesL n :: ts.map tieL
theorem few_web {n : Nat} {ts : List (Nat × Nat)} (T : Ties n ts) : few (webL n ts) := by
  refine ⟨by have := T.few; simp [webL]; omega, fun l hl => ?_⟩
  rcases List.mem_cons.mp hl with e | e
  · subst e; show 8 ≤ 100; decide
  · obtain ⟨p, _, rfl⟩ := List.mem_map.mp e; show 3 ≤ 100; decide
theorem fmt_dg (n : Nat) (h : n < 10) (env : Ev) (A : AH) (f : Ev → AH → Res D) (hf : f env A = .ok (.int n) A) : sFmt f env A = .ok (.str (dg n)) A := by
  rw [e_sFmt, hf, bind_ok]
  simp only [toStr_dg n h]
  rw [if_pos (log_dg n h)]
theorem write_web_of {n : Nat} {ts : List (Nat × Nat)} (T : Ties n ts) (A : AH) : m_write_web [webD n ts] A = .ok (.str (linesT (webL n ts))) A := by
  have z : ts.length ≤ 16777216 := by have := T.few; omega
  have z2 : ts.length + 1 ≤ 16777216 := by have := T.few; omega
  have hm := compL_map (st := gTp (gMore (gNm 1) (gMore (gNm 2) gEnd))) (t := tTrue) (f := fsL [sFmt (sVar 1), sC (.str ⟨#[45]⟩), sFmt (sVar 2)] Str.empty) (A := A)
    (g := fun d => match d with | .tup [.int a, .int b] => .str (tieL (a.toNat, b.toNat)) | d => d) (env := [some (webD n ts), none, none]) (ts.map tieD) (fun d hd => by
    obtain ⟨p, hp, rfl⟩ := List.mem_map.mp hd
    have r := T.rng p hp
    have s := T.size
    refine ⟨[some (webD n ts), some (.int p.1), some (.int p.2)], rfl, rfl, ?_⟩
    have e1 : Str.empty ++ dg p.1 = dg p.1 := TL.ext_tl rfl
    have e2 : dg p.1 ++ ⟨#[45]⟩ ++ dg p.2 = tieL p := TL.ext_tl (by rw [TL.tl_append, TL.tl_append]; rfl)
    have e3 : (dg p.1 ++ ⟨#[45]⟩).length = 2 := by rw [strLen_append]; rfl
    have e4 : (tieL p).length = 3 := rfl
    rw [e_fsL, fmt_dg p.1 (by omega) _ A _ rfl, bind_ok]
    simp only [e1, dg_len, size_line]
    rw [if_pos (by decide), e_fsL]
    simp only [e_sC, bind_ok, e3, size_line]
    rw [if_pos (by decide), e_fsL, fmt_dg p.2 (by omega) _ A _ rfl, bind_ok]
    simp only [e2, e4, size_line]
    rw [if_pos (by decide)]
    simp [tieD])
  have e : (ts.map tieD).map (fun d => match d with | .tup [.int a, .int b] => .str (tieL (a.toNat, b.toNat)) | d => d) = ts.map (D.str ∘ tieL) := by
    rw [List.map_map]
    refine List.map_congr_left fun p _ => ?_
    simp [tieD]
  rw [e] at hm
  have s := T.size
  have f1 : Str.empty ++ ⟨#[112, 108, 97, 99, 101, 115]⟩ = (⟨#[112, 108, 97, 99, 101, 115]⟩ : Str) := TL.ext_tl rfl
  have f2 : (⟨#[112, 108, 97, 99, 101, 115]⟩ : Str) ++ ⟨#[32]⟩ = ⟨#[112, 108, 97, 99, 101, 115, 32]⟩ := TL.ext_tl rfl
  have f3 : (⟨#[112, 108, 97, 99, 101, 115, 32]⟩ : Str) ++ dg n = placesL n := TL.ext_tl rfl
  have f4 : (placesL n).length = 8 := rfl
  have w := lines_text_of (few_web T) A
  have e5 : (webL n ts).map D.str = .str (placesL n) :: ts.map (D.str ∘ tieL) := by unfold webL; simp
  rw [e5] at w
  have hd := fmt_dg n (by omega) [some (webD n ts), none, none] A (sUn (gFld 0 0) (sVar 0)) rfl
  have hd0 : sFmt (sC (.str ⟨#[112, 108, 97, 99, 101, 115]⟩)) [some (webD n ts), none, none] A = .ok (.str ⟨#[112, 108, 97, 99, 101, 115]⟩) A := by simp
  have g1 : gFld 0 1 (webD n ts) A = .ok (.tup (ts.map tieD)) A := rfl
  rw [u_write_web]
  unfold b_write_web
  simp [-e_sFmt, require_web_of, hd0, f1, f2, hd, f3, f4, g1, z, wip, hm, asL, z2, w]
end Lw
namespace Lw
open PySem PySem.Spec
open PyProof.Rows L2 F3
theorem require_text_of {x : Str} (h : x.length ≤ 20000) (A : AH) : m_require_text [.str x] A = .ok .non A := by
  have z : x.length ≤ 16777216 := by omega
  have z2 : ¬ (20000 : Int) < x.length := by omega
  simp [u_require_text, b_require_text, gIsiB, tyD, isiB, gLen, z, gCmpI, z2]
def tieP (p : Nat × Nat) : PyData := .tuple [.int p.1, .int p.2]
theorem toPs_ties : ∀ ts : List (Nat × Nat), toPs (ts.map tieD) = some (ts.map tieP)
  | [] => rfl
  | p :: ts => by
    show (match toP (tieD p), toPs (ts.map tieD) with | some p, some ps => some (p :: ps) | _, _ => none) = _
    rw [toPs_ties ts]; rfl
theorem lay_ties : ∀ ts : List (Nat × Nat), PyData.canLayAll0 (ts.map tieP) = true ∧ PyData.depthAll (ts.map tieP) ≤ 1
  | [] => ⟨rfl, Nat.zero_le _⟩
  | p :: ts => by
    obtain ⟨h1, h2⟩ := lay_ties ts
    refine ⟨by show (true && PyData.canLayAll0 (ts.map tieP)) = true; rw [h1]; rfl, ?_⟩
    show max 1 (PyData.depthAll (ts.map tieP)) ≤ 1
    omega
theorem ok_tie (p : Nat × Nat) (h1 : p.1 < 10) (h2 : p.2 < 10) : PyData.strOk (tieL p) = true := ok_small (l := [48 + p.1, 45, 48 + p.2]) (by simp; omega)
theorem ok_placesL (n : Nat) (h : n < 10) : PyData.strOk (placesL n) = true := ok_small (l := [112, 108, 97, 99, 101, 115, 32, 48 + n]) (by simp; omega)
theorem ne_nil_strs {l : Str} {ls : List Str} (h : ∀ x ∈ l :: ls, PyData.strOk x = true) (A : AH) : gNe (.lst (.str l :: ls.map .str)) (.lst []) A = .ok (.bl true) A := by
  obtain ⟨q1, q2⟩ := lay_strs (l :: ls) h
  exact gNe_of (d := .list ((l :: ls).map .str)) (e := .list []) (by
    show toP (.lst ((l :: ls).map .str)) = _
    unfold toP
    rw [toPs_strs]; rfl) rfl (shaped_list q1 (by rw [q2]; decide)) rfl
theorem ne_ref_ties {A : AH} {r : Nat} {ts : List (Nat × Nat)} (h : A[r]? = some (.lst (ts.map tieD))) : gNe (.ref r) (.lst []) A = .ok (.bl (!ts.isEmpty)) A := by
  obtain ⟨q1, q2⟩ := lay_ties ts
  have e := gNe_of (A := A) (x := .ref r) (y := .lst []) (d := .list (ts.map tieP)) (e := .list []) (by
    unfold topD
    simp only [h]
    unfold toP
    rw [toPs_ties]; rfl) rfl (shaped_list q1 (by omega)) rfl
  rw [e]
  cases ts <;> rfl
theorem below_tie (n : Nat) : ∀ ts : List (Nat × Nat), belows n (ts.map tieD) = true
  | [] => rfl
  | p :: ts => by show (true && belows n (ts.map tieD)) = true; rw [below_tie n ts]; rfl
theorem flat_ties {A : AH} (h : Flat A) (ts : List (Nat × Nat)) : Flat (A ++ [.lst (ts.map tieD)]) := flat_app h fun n => below_tie n ts
abbrev bodyW : Ev → AH → SR := bSeq (bSet (gNm 7) (sCall m_tie_from (sCons (sVar 3) (sCons (sVar 6) (sNil))))) (bSeq (bIf (sOrT (sTest (sBin gIs (sVar 7) (sC .non))) (sOrT (sTest (sBin gEq (sCall gLen (sCons (sVar 4) (sNil))) (sC (.int 14)))) (sAndT (sTest (sBin gNe (sVar 4) (sLst (sNil)))) (sTest (sBin gLt (sVar 7) (sBin gIx (sVar 4) (sUn gNeg (sC (.int 1))))))))) (bStuck) (bNil)) (bExpr (sAppend (sVar 4) (sVar 7))))
theorem lex_no {a b c d : Int} (h : c < a ∨ (c = a ∧ d ≤ b)) : HT.lexLt [a, b] [c, d] = false := by
  unfold HT.lexLt
  rcases h with h | ⟨rfl, h⟩
  · have h1 : ¬ a < c := by omega
    have h2 : ¬ a = c := by omega
    simp [h1, h2]
  · have h1 : ¬ b < d := by omega
    simp [HT.lexLt, h1]
theorem step_of {n : Nat} {ts pre post : List (Nat × Nat)} {p : Nat × Nat} (T : Ties n ts) (e : pre ++ p :: post = ts) {A' : AH} {rr : Nat} {M : List D} (hM : M = pre.map tieD) (hA : A'[rr]? = some (.lst M)) (t l r x5 x7 : Option D) :
    bodyW [t, l, r, some (.int n), some (.ref rr), x5, some (.str (tieL p)), x7] A' = .nx [t, l, r, some (.int n), some (.ref rr), x5, some (.str (tieL p)), some (tieD p)] (A'.set rr (.lst (M ++ [tieD p]))) := by
  have hp : p ∈ ts := by rw [← e]; simp
  have rg := T.rng p hp
  have s := T.size
  have hl : M.length < 14 := by have := T.few; rw [← e] at this; rw [hM]; simp at this ⊢; omega
  have tf := tie_from_of n p rg.1 rg.2 s.2 A'
  have z : M.length < 16777216 := by omega
  have c1 : ((M.length : Int) == 14) = false := by simp; omega
  have nn := ne_ref_ties (A := A') (r := rr) (ts := pre) (by rw [hA, hM])
  have gi : gIs (tieD p) .non A' = .ok (.bl false) A' := rfl
  by_cases hne : pre = []
  · subst hne
    simp [tf, gi, gLen, asL, c1, nn, hA, z]
  · have hb : pre.isEmpty = false := by cases pre with
      | nil => exact absurd rfl hne
      | cons _ _ => rfl
    have lt : gLt (tieD p) (tieD (pre.getLast hne)) A' = .ok (.bl false) A' := by
      have ho := T.ord
      rw [← e, List.pairwise_append] at ho
      have o1 := ho.2.2 (pre.getLast hne) (List.getLast_mem hne) p (by simp)
      have := lex_no (a := p.1) (b := p.2) (c := (pre.getLast hne).1) (d := (pre.getLast hne).2) (by omega)
      unfold gLt
      simp only [tieD, dints, Option.map_some, this]
    have e9 : atI M (-1) = some (tieD (pre.getLast hne)) := by
      have e8 : M = (pre.dropLast).map tieD ++ [tieD (pre.getLast hne)] := by
        rw [hM]
        conv => lhs; rw [← List.dropLast_concat_getLast hne]
        simp
      rw [e8]; exact atI_last _ _
    simp [tf, gi, gLen, asL, c1, nn, hA, z, hb, gIx, gNeg, e9, lt]
theorem loop_of {n : Nat} {ts : List (Nat × Nat)} (T : Ties n ts) {A : AH} (t l r : Option D) : ∀ (post pre : List (Nat × Nat)) (x5 x6 x7 : Option D), pre ++ post = ts → ∃ y5 y6 y7,
    forL (gTp (gMore (gNm 5) (gMore (gNm 6) gEnd))) bodyW
      (enumD pre.length (post.map (D.str ∘ tieL))) [t, l, r, some (.int n), some (.ref A.length), x5, x6, x7] (A ++ [.lst (pre.map tieD)]) = .nx [t, l, r, some (.int n), some (.ref A.length), y5, y6, y7] (A ++ [.lst (ts.map tieD)])
  | [], pre, x5, x6, x7, e => ⟨x5, x6, x7, by rw [← e, List.append_nil]; rfl⟩
  | p :: post, pre, x5, x6, x7, e => by
    obtain ⟨y5, y6, y7, ih⟩ := loop_of T (A := A) t l r post (pre ++ [p]) (some (.int pre.length)) (some (.str (tieL p))) (some (tieD p)) (by rw [← e]; simp)
    refine ⟨y5, y6, y7, ?_⟩
    have step := step_of T e (A' := A ++ [.lst (pre.map tieD)]) (rr := A.length) rfl (by simp) t l r (some (.int pre.length)) x7
    have es : (A ++ [AO.lst (pre.map tieD)]).set A.length (.lst (pre.map tieD ++ [tieD p])) = A ++ [.lst ((pre ++ [p]).map tieD)] := by simp
    rw [es] at step
    show forL _ _ (D.tup [.int pre.length, .str (tieL p)] :: enumD (pre.length + 1) (post.map (D.str ∘ tieL))) _ _ = _
    unfold forL
    simp only [e_gTp, e_gMore, e_gNm, e_gEnd, Option.bind_some, List.set_cons_succ, List.set_cons_zero]
    rw [step]
    simp only
    rw [List.length_append] at ih
    exact ih
end Lw
namespace Lw
open PySem PySem.Spec
open PyProof.Rows L2 F3
theorem free_web {n : Nat} {ts : List (Nat × Nat)} (T : Ties n ts) : free 10 (webL n ts) := fun l hl => by
  have s := T.size
  rcases List.mem_cons.mp hl with e | e
  · subst e; show 10 ∉ [112, 108, 97, 99, 101, 115, 32, 48 + n]; simp; omega
  · obtain ⟨p, _, rfl⟩ := List.mem_map.mp e; show 10 ∉ [48 + p.1, 45, 48 + p.2]; simp; omega
theorem ok_web {n : Nat} {ts : List (Nat × Nat)} (T : Ties n ts) : ∀ x ∈ webL n ts, PyData.strOk x = true := fun l hl => by
  have s := T.size
  rcases List.mem_cons.mp hl with e | e
  · subst e; exact ok_placesL n (by omega)
  · obtain ⟨p, hp, rfl⟩ := List.mem_map.mp e
    have := T.rng p hp
    exact ok_tie p (by omega) (by omega)
theorem frz_web (A : AH) (m k n : Nat) (ts : List (Nat × Nat)) : frz A m (k + 4) (webD n ts) = some (webD n ts) := by
  show (frzL (frz A m (k + 3)) [.int n, tiesD ts]).map (D.ins 0) = _
  have e2 := frzL_map (f := frz A m (k + 3)) (g := tiesD) (l := [ts]) fun x _ => frz_ties _ _ k x
  have e1 : frzL (frz A m (k + 3)) [.int n, tiesD ts] = some [.int n, tiesD ts] := by
    show (match some (D.int n), frzL (frz A m (k + 3)) [tiesD ts] with | some e, some es => some (e :: es) | _, _ => none) = _
    rw [show frzL (frz A m (k + 3)) [tiesD ts] = some [tiesD ts] from e2]
  rw [e1]; rfl
theorem read_web_of {n : Nat} {ts : List (Nat × Nat)} (T : Ties n ts) {A : AH} (hA : Flat A) : m_read_web [.str (linesT (webL n ts))] A = .ok (webD n ts) A := by
  have s := T.size
  have rt := require_text_of (x := linesT (webL n ts)) (by have := lines_len (few_web T); omega) A
  have wl := whole_lines_of (few_web T) (free_web T) A
  have nn := ne_nil_strs (l := placesL n) (ls := ts.map tieL) (ok_web T) A
  have sf := size_from_of n s.1 s.2 A
  have e5 : (webL n ts).map D.str = .str (placesL n) :: ts.map (D.str ∘ tieL) := by unfold webL; simp
  have e6 : (ts.map tieL).map D.str = ts.map (D.str ∘ tieL) := by simp
  rw [e5] at wl
  rw [e6] at nn
  obtain ⟨y5, y6, y7, lp⟩ := loop_of T (A := A) (some (.str (linesT (webL n ts)))) (some (.lst (.str (placesL n) :: ts.map (D.str ∘ tieL)))) (some (.str emp)) ts [] none none none rfl
  have ne2 : gNe (.str emp) (.str ⟨#[]⟩) (A ++ [.lst (ts.map tieD)]) = .ok (.bl false) (A ++ [.lst (ts.map tieD)]) := by
    rw [gNe_str (by decide +kernel) (by decide +kernel)]; rfl
  have mk := make_of T (flat_ties hA ts)
  have gi : gIs (.int n) .non A = .ok (.bl false) A := rfl
  have gt : gTuple [.ref A.length] (A ++ [.lst (ts.map tieD)]) = .ok (tiesD ts) (A ++ [.lst (ts.map tieD)]) := by
    unfold gTuple asQ
    simp only [List.getElem?_concat_length]; rfl
  have cl := clean_app (B := [AO.lst (ts.map tieD)]) hA (by simp) (frz_web _ _ 26 n ts)
  have z : 0 ≤ sizeLine := Nat.zero_le _
  simp only [List.map_nil, List.length_nil] at lp
  rw [u_read_web]
  unfold b_read_web
  simp [rt, wl, nn, gIx, asL, sf, gi, gSl, asQ, cutD_tail, lp, ne2, gt, mk, cl]
/-! ### webs against webs, shown ties -/
theorem web_eq_of (n : Nat) (ts : List (Nat × Nat)) (A : AH) : m_Web_eq [webD n ts, webD n ts] A = .ok (.bl true) A := by
  obtain ⟨q1, q2⟩ := lay_ties ts
  have g1 : gFld 0 1 (webD n ts) A = .ok (tiesD ts) A := rfl
  have g0 : gFld 0 0 (webD n ts) A = .ok (.int n) A := rfl
  have l1 : PyData.canLayAll0 [.int n, .tuple (ts.map tieP)] = true := by
    show (true && (PyData.canLayAll0 (ts.map tieP) && true)) = true; rw [q1]; rfl
  have e : gEq (.tup [.int n, tiesD ts]) (.tup [.int n, tiesD ts]) A = .ok (.bl true) A := by
    have tp : toP (topD A (.tup [.int n, tiesD ts])) = some (.tuple [.int n, .tuple (ts.map tieP)]) := by
      show (match toP (.int n), toPs [tiesD ts] with | some p, some ps => some (p :: ps) | _, _ => none).map PyData.tuple = _
      have : toPs [tiesD ts] = some [.tuple (ts.map tieP)] := by
        show (match (toPs (ts.map tieD)).map PyData.tuple, toPs [] with | some p, some ps => some (p :: ps) | _, _ => none) = _
        rw [toPs_ties]; rfl
      rw [this]; rfl
    have sh : SeqAt.shaped (.tuple [.int n, .tuple (ts.map tieP)]) = true := by
      refine shaped_tuple l1 ?_
      show max 0 (max (PyData.depthAll (ts.map tieP) + 1) 0) ≤ 60
      omega
    rw [gEq_of tp tp sh sh]
    have := SeqAt.eqv_refl (.tuple [.int n, .tuple (ts.map tieP)]) (by unfold PyData.canLay0; exact l1)
    rw [this]
  have gi : gIsiO 0 (webD n ts) A = .ok (.bl true) A := rfl
  simp [u_Web_eq, b_Web_eq, gi, g0, g1, e]
theorem ne_web_of (n : Nat) (ts : List (Nat × Nat)) (A : AH) : gNeO 0 m_Web_eq (webD n ts) (webD n ts) A = .ok (.bl false) A := by
  have i : insC A (webD n ts) = some 0 := rfl
  unfold gNeO gOwnEq
  rw [if_pos i, if_pos i, if_pos i, web_eq_of]; rfl
theorem prop_of (n : Nat) (ts : List (Nat × Nat)) (A : AH) : gProp 0 m_Web_ties (webD n ts) A = .ok (tiesD ts) A := by
  have e : m_Web_ties [webD n ts] A = .ok (tiesD ts) A := by
    have g1 : gFld 0 1 (webD n ts) A = .ok (tiesD ts) A := rfl
    simp [u_Web_ties, b_Web_ties, g1]
  have i : insC A (webD n ts) = some 0 := rfl
  unfold gProp
  rw [if_pos i, e]
theorem tuple_len (l : List Str) (k : Nat) (h : ∀ x ∈ l, x.length ≤ k) : (tupleText l).length ≤ l.length * (k + 2) + 4 := by
  have pl : piled l ≤ l.length * (k + 2) := by
    induction l with
    | nil => simp [piled]
    | cons x l ih =>
      rw [piled_cons, List.length_cons, Nat.add_mul]
      have := ih fun y hy => h y (List.mem_cons_of_mem _ hy)
      have := h x List.mem_cons_self
      omega
  have hj : (Str.join ", " l).length ≤ piled l + 1 := by
    by_cases q : l = []
    · subst q; decide
    · have := join_length_add l q; omega
  unfold tupleText
  rw [strLen_append, strLen_append]
  have h1 : ((("(" : String) : Str)).length = 1 := by decide +kernel
  have h2 : (((if (l.length == 1) = true then ",)" else ")" : String) : Str)).length ≤ 2 := by split <;> decide +kernel
  omega
theorem shown_dg (n : Nat) (h : n < 10) : (PyData.int n).shown = dg n := by
  unfold PyData.shown; exact toStr_dg n h
theorem shown_tie (p : Nat × Nat) (h1 : p.1 < 10) (h2 : p.2 < 10) : (tieP p).shown.length ≤ 20 := by
  have := tuple_len [dg p.1, dg p.2] 1 (by simp)
  have e : (tieP p).shown = tupleText [dg p.1, dg p.2] := by
    show tupleText [(PyData.int p.1).shown, (PyData.int p.2).shown] = _
    rw [shown_dg _ h1, shown_dg _ h2]
  rw [e]; simp at this; omega
theorem shownAll_map {α : Type} (g : α → PyData) : ∀ l : List α, PyData.shownAll (l.map g) = l.map fun x => (g x).shown
  | [] => rfl
  | x :: l => by show (g x).shown :: PyData.shownAll (l.map g) = _; rw [shownAll_map g l]; rfl
theorem ok_app {x y : Str} (hx : PyData.strOk x = true) (hy : PyData.strOk y = true) : PyData.strOk (x ++ y) = true := by
  unfold PyData.strOk at *
  rw [← Array.all_toList] at *
  have e : (x ++ y).cps.toList = x.cps.toList ++ y.cps.toList := TL.tl_append x y
  rw [e, List.all_append, hx, hy]; rfl
theorem ok_join {y : Str} (hy : PyData.strOk y = true) : ∀ l : List Str, (∀ x ∈ l, PyData.strOk x = true) → PyData.strOk (Str.join y l) = true
  | [], _ => by unfold Str.join; decide +kernel
  | [x], h => h x (by simp)
  | x :: z :: r, h => by
    show PyData.strOk (x ++ y ++ Str.join y (z :: r)) = true
    exact ok_app (ok_app (h x (by simp)) hy) (ok_join hy (z :: r) fun q hq => h q (List.mem_cons_of_mem _ hq))
theorem ok_tuple {l : List Str} (h : ∀ x ∈ l, PyData.strOk x = true) : PyData.strOk (tupleText l) = true := by
  unfold tupleText
  refine ok_app (ok_app (by decide +kernel) (ok_join (by decide +kernel) l h)) ?_
  split <;> decide +kernel
theorem ok_dg (n : Nat) (h : n < 10) : PyData.strOk (dg n) = true := ok_sign (by omega)
theorem repr_of {d : PyData} {x : D} {A : AH} (h : toP (topD A x) = some d) (h1 : d.showable = true) (h2 : d.hasDict = false) (h3 : d.depth ≤ 60) (h4 : d.shown.length ≤ sizeLine) : gRepr [x] A = .ok (.str d.shown) A := by
  unfold gRepr reprP
  simp only [h, h1, h2, h3, h4]; rfl
theorem small_ties : ∀ ts : List (Nat × Nat), (∀ p ∈ ts, p.1 < 10 ∧ p.2 < 10) → PyData.showableAll (ts.map tieP) = true ∧ PyData.hasDictAll (ts.map tieP) = false
  | [], _ => ⟨rfl, rfl⟩
  | p :: ts, h => by
    obtain ⟨h1, h2⟩ := small_ties ts fun q hq => h q (List.mem_cons_of_mem _ hq)
    obtain ⟨l1, l2⟩ := h p List.mem_cons_self
    have e : (tieP p).showable = true := by
      show (decide _ && (decide _ && true)) = true
      rw [decide_eq_true (log_dg p.1 l1), decide_eq_true (log_dg p.2 l2)]; rfl
    exact ⟨by show ((tieP p).showable && PyData.showableAll (ts.map tieP)) = true; rw [h1, e]; rfl, by show ((tieP p).hasDict || PyData.hasDictAll (ts.map tieP)) = false; rw [h2]; rfl⟩
theorem repr_ties {n : Nat} {ts : List (Nat × Nat)} (T : Ties n ts) (A : AH) : ∃ x, gRepr [tiesD ts] A = .ok (.str x) A ∧ PyData.strOk x = true := by
  have s := T.size
  have sm : ∀ p ∈ ts, p.1 < 10 ∧ p.2 < 10 := fun p hp => by have := T.rng p hp; omega
  obtain ⟨q1, q2⟩ := lay_ties ts
  obtain ⟨q3, q4⟩ := small_ties ts sm
  have sh : (PyData.tuple (ts.map tieP)).shown = tupleText (ts.map fun p => (tieP p).shown) := by
    show tupleText (PyData.shownAll (ts.map tieP)) = _
    rw [shownAll_map]
  refine ⟨(PyData.tuple (ts.map tieP)).shown, repr_of (d := .tuple (ts.map tieP)) ?_ q3 q4 (by show PyData.depthAll _ + 1 ≤ 60; omega) ?_, ?_⟩
  · show (toPs (ts.map tieD)).map PyData.tuple = _
    rw [toPs_ties]; rfl
  · rw [sh]
    have := tuple_len (ts.map fun p => (tieP p).shown) 20 fun x hx => by
      obtain ⟨p, hp, rfl⟩ := List.mem_map.mp hx
      exact shown_tie p (sm p hp).1 (sm p hp).2
    rw [List.length_map] at this
    have := T.few
    show _ ≤ 16777216
    omega
  · rw [sh]
    refine ok_tuple fun x hx => ?_
    obtain ⟨p, hp, rfl⟩ := List.mem_map.mp hx
    show PyData.strOk (tupleText [(PyData.int p.1).shown, (PyData.int p.2).shown]) = true
    rw [shown_dg _ (sm p hp).1, shown_dg _ (sm p hp).2]
    exact ok_tuple (by simp [ok_dg p.1 (sm p hp).1, ok_dg p.2 (sm p hp).2])
end Lw
namespace Lw
open PySem PySem.Spec
open PyProof.Rows L2 F3
/-! ### signs -/
def sgI (b : Bool) : Int := if b = true then 1 else -1
def sgD (b : Bool) : D := .int (sgI b)
def sgC (b : Bool) : Nat := if b = true then 62 else 60
def sgL (bs : List Bool) : Str := ⟨(bs.map sgC).toArray⟩
theorem sgC_small (b : Bool) : sgC b < 200 := by cases b <;> decide
theorem tl_sg (bs : List Bool) : TL.tl (sgL bs) = bs.map sgC := rfl
@[simp] theorem sgL_len (bs : List Bool) : (sgL bs).length = bs.length := by show (bs.map sgC).toArray.size = _; simp
theorem ok_sgL (bs : List Bool) : PyData.strOk (sgL bs) = true := ok_small fun c hc => by
  obtain ⟨b, _, rfl⟩ := List.mem_map.mp hc; exact sgC_small b
theorem all_bl {α : Type} (l : List α) (A : AH) (g : α → D) (hg : ∀ x ∈ l, g x = .bl true) : gAll [.lst (l.map g)] A = .ok (.bl true) A := by
  have e : l.map g = l.map fun _ => D.bl true := List.map_congr_left hg
  rw [e]; exact all_true l A
theorem are_signs_of {n : Nat} {ts : List (Nat × Nat)} {bs : List Bool} (T : Ties n ts) (h : bs.length = ts.length) (A : AH) : m_are_signs_in [webD n ts, .tup (bs.map sgD)] A = .ok (.bl true) A := by
  have z : bs.length ≤ 16777216 := by have := T.few; omega
  have g1 : gFld 0 1 (webD n ts) A = .ok (.tup (ts.map tieD)) A := rfl
  have hm := compL_map (st := gNm 2) (t := tTrue) (f := sAndV (sCall m_is_within (sCons (sVar 2) (sCons (sUn gNeg (sC (.int 1))) (sCons (sC (.int 1)) (sNil))))) (sBin gNe (sVar 2) (sC (.int 0)))) (A := A) (g := fun _ => .bl true) (env := [some (webD n ts), some (.tup (bs.map sgD)), none]) (bs.map sgD) (fun d hd => by
    obtain ⟨b, hb, rfl⟩ := List.mem_map.mp hd
    refine ⟨_, rfl, rfl, ?_⟩
    have w := is_within_int (sgI b) (-1) 1 A (by cases b <;> decide) (by cases b <;> decide)
    have w1 : decide ((-1 : Int) ≤ sgI b ∧ sgI b ≤ 1) = true := by cases b <;> decide
    have w2 : (sgI b == (0 : Int)) = false := by cases b <;> decide
    rw [w1] at w
    simp [gNeg, sgD, w, w2])
  have k := all_true (bs.map sgD) A
  simp [u_are_signs_in, b_are_signs_in, gIsiB, tyD, isiB, gLen, asL, g1, h, z, hm, k, wip, -List.map_map, -List.map_const_fun]
  have z' : ts.length ≤ 16777216 := by omega
  simp [z', hm, k, -List.map_map, -List.map_const_fun]
theorem require_signs_of {n : Nat} {ts : List (Nat × Nat)} {bs : List Bool} (T : Ties n ts) (h : bs.length = ts.length) (A : AH) : m_require_signs [webD n ts, .tup (bs.map sgD)] A = .ok .non A := by
  simp [u_require_signs, b_require_signs, require_web_of, are_signs_of T h]
theorem join_chars : ∀ bs : List Bool, Txt.join emp (bs.map fun b => ⟨#[sgC b]⟩) = sgL bs := fun bs => by
  refine TL.ext_tl ?_
  rw [TL.join_eq, TL.tl_join, tl_emp, joinL_nil, tl_sg, List.map_map]
  induction bs with
  | nil => rfl
  | cons b bs ih => simp only [List.map_cons, List.flatten_cons, ih]; rfl
theorem few_one {l : Str} (h : l.length ≤ 100) : few [l] := ⟨by simp, fun x hx => by rw [List.mem_singleton.mp hx]; exact h⟩
theorem write_signs_of {n : Nat} {ts : List (Nat × Nat)} {bs : List Bool} (T : Ties n ts) (h : bs.length = ts.length) (A : AH) : m_write_signs [webD n ts, .tup (bs.map sgD)] A = .ok (.str (linesT [sgL bs])) A := by
  have z : bs.length ≤ 16777216 := by have := T.few; omega
  have z' : ts.length ≤ 16777216 := by omega
  have hm := compL_map (st := gNm 2) (t := tTrue) (f := sIf (sTest (sBin gEq (sVar 2) (sC (.int 1)))) (sC (.str ⟨#[62]⟩)) (sC (.str ⟨#[60]⟩))) (A := A) (g := fun d => match d with | .int i => .str ⟨#[if i = 1 then 62 else 60]⟩ | d => d) (env := [some (webD n ts), some (.tup (bs.map sgD)), none]) (bs.map sgD) (fun d hd => by
    obtain ⟨b, hb, rfl⟩ := List.mem_map.mp hd
    refine ⟨_, rfl, rfl, ?_⟩
    cases b <;> simp [sgD, sgI])
  have e : (bs.map sgD).map (fun d => match d with | .int i => .str ⟨#[if i = 1 then 62 else 60]⟩ | d => d) = (bs.map fun b => (⟨#[sgC b]⟩ : Str)).map D.str := by
    rw [List.map_map, List.map_map]
    refine List.map_congr_left fun b _ => ?_
    cases b <;> rfl
  rw [e] at hm
  have j := join_ok (y := emp) (ys := bs.map fun b => (⟨#[sgC b]⟩ : Str)) (by rw [List.length_map]; have := T.few; omega) (fun x hx => by
    obtain ⟨b, _, rfl⟩ := List.mem_map.mp hx; show 1 ≤ 101; decide) (by decide) A
  rw [join_chars] at j
  unfold emp at j
  have w := lines_text_of (few_one (l := sgL bs) (by rw [sgL_len]; have := T.few; omega)) A
  simp only [List.map_cons, List.map_nil] at w
  simp [u_write_signs, b_write_signs, require_signs_of T h, h, z', wip, hm, j, w, -List.map_map]
theorem alone_of {l : Str} (h : l.length ≤ 100) (hf : 10 ∉ TL.tl l) (ho : PyData.strOk l = true) (A : AH) : m_alone_line [.str (linesT [l])] A = .ok (.tup [.str l, .non]) A := by
  have wl := whole_lines_of (few_one h) (fun x hx => by rw [List.mem_singleton.mp hx]; exact hf) A
  simp only [List.map_cons, List.map_nil] at wl
  obtain ⟨q1, q2⟩ := lay_strs [l] (by simpa using ho)
  have en : gEq (.lst [.str l]) (.lst []) A = .ok (.bl false) A := by
    rw [gEq_of (d := .list [.str l]) (e := .list []) rfl rfl (shaped_list q1 (by rw [List.map_cons, List.map_nil] at q2; rw [q2]; decide)) rfl]; rfl
  have en2 : gNe (.str emp) (.str ⟨#[]⟩) A = .ok (.bl false) A := by rw [gNe_str (by decide +kernel) (by decide +kernel)]; rfl
  simp [u_alone_line, b_alone_line, wl, en, gLen, asL, gCmpI, en2, gIx]
theorem repr_ints (ns : List Int) (h : ∀ i ∈ ns, (PyData.int i).showable = true ∧ (PyData.int i).shown.length ≤ 10 ∧ PyData.strOk (PyData.int i).shown = true) (hl : ns.length ≤ 100) (A : AH) : ∃ x, gRepr [.tup (ns.map .int)] A = .ok (.str x) A ∧ PyData.strOk x = true := by
  obtain ⟨q1, q2⟩ := lay_ints ns
  have sh : (PyData.tuple (ns.map .int)).shown = tupleText (ns.map fun p => (PyData.int p).shown) := by
    show tupleText (PyData.shownAll (ns.map .int)) = _
    rw [shownAll_map]
  have q3 : ∀ l : List Int, (∀ i ∈ l, (PyData.int i).showable = true) → PyData.showableAll (l.map .int) = true ∧ PyData.hasDictAll (l.map .int) = false := by
    intro l
    induction l with
    | nil => intro _; exact ⟨rfl, rfl⟩
    | cons i l ih =>
      intro hl
      obtain ⟨k1, k2⟩ := ih fun x hx => hl x (List.mem_cons_of_mem _ hx)
      exact ⟨by show ((PyData.int i).showable && PyData.showableAll (l.map .int)) = true; rw [hl i List.mem_cons_self, k1]; rfl, by show ((PyData.int i).hasDict || PyData.hasDictAll (l.map .int)) = false; rw [k2]; rfl⟩
  obtain ⟨k1, k2⟩ := q3 ns fun i hi => (h i hi).1
  refine ⟨(PyData.tuple (ns.map .int)).shown, repr_of (d := .tuple (ns.map .int)) ?_ k1 k2 (by show PyData.depthAll _ + 1 ≤ 60; omega) ?_, ?_⟩
  · show (toPs (ns.map .int)).map PyData.tuple = _
    rw [toPs_ints]; rfl
  · rw [sh]
    have := tuple_len (ns.map fun p => (PyData.int p).shown) 10 fun x hx => by
      obtain ⟨p, hp, rfl⟩ := List.mem_map.mp hx
      exact (h p hp).2.1
    rw [List.length_map] at this
    show _ ≤ 16777216
    omega
  · rw [sh]
    refine ok_tuple fun x hx => ?_
    obtain ⟨p, hp, rfl⟩ := List.mem_map.mp hx
    exact (h p hp).2.2
theorem sg_map (bs : List Bool) : bs.map sgD = (bs.map sgI).map D.int := by rw [List.map_map]; rfl
theorem repr_signs (bs : List Bool) (hl : bs.length ≤ 100) (A : AH) : ∃ x, gRepr [.tup (bs.map sgD)] A = .ok (.str x) A ∧ PyData.strOk x = true := by
  rw [sg_map]
  refine repr_ints _ (fun i hi => ?_) (by simpa using hl) A
  obtain ⟨b, _, rfl⟩ := List.mem_map.mp hi
  cases b
  · exact ⟨by decide +kernel, by decide +kernel, by decide +kernel⟩
  · exact ⟨by decide +kernel, by decide +kernel, by decide +kernel⟩
theorem read_signs_of {n : Nat} {ts : List (Nat × Nat)} {bs : List Bool} (T : Ties n ts) (h : bs.length = ts.length) (A : AH) : m_read_signs [webD n ts, .str (linesT [sgL bs])] A = .ok (.tup (bs.map sgD)) A := by
  have z : bs.length ≤ 14 := by have := T.few; omega
  have rt := require_text_of (x := linesT [sgL bs]) (by have := lines_len (few_one (l := sgL bs) (by rw [sgL_len]; omega)); omega) A
  have al := alone_of (l := sgL bs) (by rw [sgL_len]; omega) (by
    rw [tl_sg]; intro hm
    obtain ⟨b, _, q⟩ := List.mem_map.mp hm
    cases b <;> simp [sgC] at q) (ok_sgL bs) A
  have g1 : gFld 0 1 (webD n ts) A = .ok (.tup (ts.map tieD)) A := rfl
  have chars : (sgL bs).cps.toList.map (fun c => D.str ⟨#[c]⟩) = bs.map fun b => D.str ⟨#[sgC b]⟩ := by
    show (bs.map sgC).map (fun c => D.str ⟨#[c]⟩) = _
    rw [List.map_map]; rfl
  have okc : ∀ b, PyData.strOk ⟨#[sgC b]⟩ = true := fun b => ok_sign (sgC_small b)
  have h1 : ∀ (env : Ev), env.length = 5 → compL (gNm 4) tTrue (sBin gIn (sVar 4) (sTup (sCons (sC (.str ⟨#[62]⟩)) (sCons (sC (.str ⟨#[60]⟩)) (sNil))))) (bs.map fun b => D.str ⟨#[sgC b]⟩) env A = .ok ((bs.map fun b => D.str ⟨#[sgC b]⟩).map fun _ => .bl true) A := fun env he => compL_map (g := fun _ => .bl true) _ fun d hd => by
    obtain ⟨b, hb, rfl⟩ := List.mem_map.mp hd
    refine ⟨_, rfl, rfl, ?_⟩
    have gi : gIn (.str ⟨#[sgC b]⟩) (.tup [.str ⟨#[62]⟩, .str ⟨#[60]⟩]) A = .ok (.bl true) A := by
      have e : inP A (.str ⟨#[sgC b]⟩) (.tup [.str ⟨#[62]⟩, .str ⟨#[60]⟩]) = some true := by
        show inP [] (.str ⟨#[sgC b]⟩) (.tup [.str ⟨#[62]⟩, .str ⟨#[60]⟩]) = some true
        cases b <;> decide +kernel
      unfold gIn; rw [e]; rfl
    simp [gi, he]
  have h2 : ∀ (env : Ev), env.length = 5 → compL (gNm 4) tTrue (sIf (sTest (sBin gEq (sVar 4) (sC (.str ⟨#[62]⟩)))) (sC (.int 1)) (sUn gNeg (sC (.int 1)))) (bs.map fun b => D.str ⟨#[sgC b]⟩) env A = .ok (bs.map sgD) A := fun env he => by
    have := compL_map (st := gNm 4) (t := tTrue) (f := sIf (sTest (sBin gEq (sVar 4) (sC (.str ⟨#[62]⟩)))) (sC (.int 1)) (sUn gNeg (sC (.int 1)))) (A := A) (env := env) (g := fun d => match d with | .str x => .int (if x = ⟨#[62]⟩ then 1 else -1) | d => d) (bs.map fun b => D.str ⟨#[sgC b]⟩) fun d hd => by
      obtain ⟨b, hb, rfl⟩ := List.mem_map.mp hd
      refine ⟨_, rfl, rfl, ?_⟩
      have ge := gEq_str (okc b) (okc true) A
      cases b
      · have ge' : gEq (.str ⟨#[sgC false]⟩) (.str ⟨#[62]⟩) A = .ok (.bl false) A := ge
        have e0 : ¬ ((⟨#[sgC false]⟩ : Str) = ⟨#[62]⟩) := by decide
        simp [he, ge', gNeg, e0]
      · have ge' : gEq (.str ⟨#[sgC true]⟩) (.str ⟨#[62]⟩) A = .ok (.bl true) A := ge
        have ge2 : gEq (.str ⟨#[62]⟩) (.str ⟨#[62]⟩) A = .ok (.bl true) A := ge
        have e0 : sgC true = 62 := rfl
        simp [he, ge2, gNeg, e0]
    rw [this, List.map_map]
    congr 1
    refine List.map_congr_left fun b _ => ?_
    cases b <;> rfl
  have k := all_true (bs.map fun b => D.str ⟨#[sgC b]⟩) A
  have z1 : bs.length ≤ 16777216 := by omega
  have z2 : ts.length ≤ 16777216 := by omega
  have gn : gIsNot .non .non A = .ok (.bl false) A := rfl
  simp [u_read_signs, b_read_signs, require_web_of, rt, al, gLen, z1, z2, asL, g1, h, chars, wip, h1, k, gn, gTuple, asQ, h2, -List.map_map, -List.map_const_fun]
end Lw
namespace Lw
open PySem PySem.Spec
open PyProof.Rows L2 F3
/-! ### hues -/
def hueW : Str := ⟨#[104, 117, 101, 115]⟩
def sp : Str := ⟨#[32]⟩
def hueL (hs : List Nat) : Str := Txt.join sp (hueW :: hs.map dg)
def rowD (hs : List Nat) : D := .tup (hs.map fun h : Nat => D.int h)
structure Row (n : Nat) (hs : List Nat) : Prop where
  len : hs.length = n
  rng : ∀ h ∈ hs, h < 10
theorem joinL_sp : ∀ (hs : List Nat) (p : List Nat), TL.joinL [32] (p :: hs.map fun h => [48 + h]) = p ++ hs.flatMap fun h => [32, 48 + h]
  | [], p => by simp [TL.joinL]
  | h :: hs, p => by
    show p ++ ([32] ++ TL.joinL [32] ([48 + h] :: hs.map fun h => [48 + h])) = _
    rw [joinL_sp hs]; simp
theorem tl_hues (hs : List Nat) : TL.tl (hueL hs) = [104, 117, 101, 115] ++ hs.flatMap fun h => [32, 48 + h] := by
  unfold hueL
  rw [TL.join_eq, TL.tl_join, List.map_cons, List.map_map]
  show TL.joinL [32] ([104, 117, 101, 115] :: hs.map fun h => [48 + h]) = _
  exact joinL_sp hs _
theorem hueL_len (hs : List Nat) : (hueL hs).length = 4 + 2 * hs.length := by
  rw [TL.len_tl, tl_hues]
  induction hs with
  | nil => rfl
  | cons h hs ih => simp at ih ⊢; omega
theorem mem_hues {hs : List Nat} {c : Nat} (h : c ∈ TL.tl (hueL hs)) : c ∈ [104, 117, 101, 115] ∨ c = 32 ∨ ∃ k ∈ hs, c = 48 + k := by
  rw [tl_hues, List.mem_append] at h
  rcases h with h | h
  · exact .inl h
  · obtain ⟨k, hk, hc⟩ := List.mem_flatMap.mp h
    simp at hc
    rcases hc with hc | hc
    · exact .inr (.inl hc)
    · exact .inr (.inr ⟨k, hk, hc⟩)
theorem ok_hues {n : Nat} {hs : List Nat} (R : Row n hs) : PyData.strOk (hueL hs) = true := by
  have e : hueL hs = ⟨(TL.tl (hueL hs)).toArray⟩ := (TL.mk_tl _).symm
  rw [e]
  refine ok_small fun c hc => ?_
  rcases mem_hues hc with h | h | ⟨k, hk, h⟩
  · simp at h; omega
  · omega
  · have := R.rng k hk; omega
theorem free_hues {n : Nat} {hs : List Nat} (R : Row n hs) : 10 ∉ TL.tl (hueL hs) := fun hc => by
  rcases mem_hues hc with h | h | ⟨k, hk, h⟩
  · simp at h
  · omega
  · omega
theorem split_hues {n : Nat} {hs : List Nat} (R : Row n hs) : Txt.split (hueL hs) ⟨#[32]⟩ = hueW :: hs.map dg := by
  refine TL.split_join (y := sp) (s := 32) (S := []) rfl (by decide +kernel) (by simp) fun p hp => ?_
  rcases List.mem_cons.mp hp with rfl | hp
  · decide +kernel
  · obtain ⟨h, hh, rfl⟩ := List.mem_map.mp hp
    show 32 ∉ [48 + h]; simp; omega
theorem are_hues_of {n : Nat} {ts : List (Nat × Nat)} {hs : List Nat} (T : Ties n ts) (R : Row n hs) (A : AH) : m_are_hues_in [webD n ts, rowD hs] A = .ok (.bl true) A := by
  have s := T.size
  have g0 : gFld 0 0 (webD n ts) A = .ok (.int n) A := rfl
  have hl := R.len
  have z : n ≤ 16777216 := by omega
  have hm := compL_map (st := gNm 2) (t := tTrue) (f := sCall m_is_within (sCons (sVar 2) (sCons (sC (.int 0)) (sCons (sC (.int 9)) (sNil))))) (A := A) (g := fun _ => .bl true) (env := [some (webD n ts), some (.tup (hs.map fun h : Nat => D.int h)), none]) (hs.map fun h : Nat => D.int h) (fun d hd => by
    obtain ⟨h, hh, rfl⟩ := List.mem_map.mp hd
    have r := R.rng h hh
    refine ⟨_, rfl, rfl, ?_⟩
    have w := is_within_int (h : Int) 0 9 A (by omega) (by omega)
    have c1 : (h : Int) ≤ 9 := by omega
    simp [w, c1])
  have k := all_true (hs.map fun h : Nat => D.int h) A
  unfold rowD
  simp [u_are_hues_in, b_are_hues_in, gIsiB, tyD, isiB, gLen, asL, g0, hl, z, wip, hm, k, -List.map_map, -List.map_const_fun]
theorem write_hues_of {n : Nat} {ts : List (Nat × Nat)} {hs : List Nat} (T : Ties n ts) (R : Row n hs) (A : AH) : m_write_hues [webD n ts, rowD hs] A = .ok (.str (linesT [hueL hs])) A := by
  have s := T.size
  have hl := R.len
  have z : n ≤ 16777216 := by omega
  have z1 : n + 1 ≤ 16777216 := by omega
  have ah := are_hues_of T R A
  have hm := compL_map (st := gNm 2) (t := tTrue) (f := sCall gStr (sCons (sVar 2) (sNil))) (A := A) (g := fun d => match d with | .int i => .str (dg i.toNat) | d => d) (env := [some (webD n ts), some (rowD hs), none]) (hs.map fun h : Nat => D.int h) (fun d hd => by
    obtain ⟨h, hh, rfl⟩ := List.mem_map.mp hd
    refine ⟨_, rfl, rfl, ?_⟩
    simp [str_dg h (R.rng h hh)])
  have e : (hs.map fun h : Nat => D.int h).map (fun d => match d with | .int i => .str (dg i.toNat) | d => d) = hs.map fun h => D.str (dg h) := by
    rw [List.map_map]
    refine List.map_congr_left fun h _ => ?_
    simp
  rw [e] at hm
  have j := join_ok (y := sp) (ys := hueW :: hs.map dg) (by simp; omega) (fun x hx => by
    rcases List.mem_cons.mp hx with rfl | hx
    · decide
    · obtain ⟨h, _, rfl⟩ := List.mem_map.mp hx; show 1 ≤ 101; decide) (by decide) A
  have e2 : (hueW :: hs.map dg).map D.str = .str hueW :: hs.map fun h => D.str (dg h) := by simp
  rw [e2] at j
  change mJoin sp _ A = .ok (.str (hueL hs)) A at j
  unfold sp hueW at j
  have w := lines_text_of (few_one (l := hueL hs) (by rw [hueL_len]; omega)) A
  simp only [List.map_cons, List.map_nil] at w
  have io : ∀ A', iOf (sVar 1) [some (webD n ts), some (rowD hs), none] A' = .ok (hs.map fun h : Nat => D.int h) A' := fun _ => rfl
  simp [u_write_hues, b_write_hues, require_web_of, ah, io, hl, z, wip, hm, asL, z1, j, w, -e_iOf, -List.map_map]
theorem read_hues_of {n : Nat} {ts : List (Nat × Nat)} {hs : List Nat} (T : Ties n ts) (R : Row n hs) (A : AH) : m_read_hues [webD n ts, .str (linesT [hueL hs])] A = .ok (rowD hs) A := by
  have s := T.size
  have hl := R.len
  have fw := few_one (l := hueL hs) (by rw [hueL_len]; omega)
  have rt := require_text_of (x := linesT [hueL hs]) (by have := lines_len fw; omega) A
  have al := alone_of (l := hueL hs) (by rw [hueL_len]; omega) (free_hues R) (ok_hues R) A
  have spl := split_hues R
  have z : (hueL hs).length ≤ 16777214 := by rw [hueL_len]; omega
  have nf := numbers_of_dg hs R.rng (by omega) A
  have ge : gEq (.str hueW) (.str hueW) A = .ok (.bl true) A := by rw [gEq_str (by decide +kernel) (by decide +kernel)]; simp
  have ah := are_hues_of T R A
  have e2 : (hueW :: hs.map dg).map D.str = .str hueW :: hs.map fun h => D.str (dg h) := by simp
  have gi : gIs (.tup (hs.map fun h : Nat => D.int h)) .non A = .ok (.bl false) A := rfl
  have gn : gIsNot .non .non A = .ok (.bl false) A := rfl
  unfold rowD at ah ⊢
  have hw : hueW = ⟨#[104, 117, 101, 115]⟩ := rfl
  rw [hw] at ge e2 spl
  simp [u_read_hues, b_read_hues, require_web_of, rt, al, mSplit, z, spl, gIx, asL, ge, gSl, asQ, cutD_tail, nf, gi, ah, gn, -List.map_map]
  have e3 : hs.map (D.str ∘ dg) = hs.map fun h => D.str (dg h) := rfl
  simp [e3, nf, gi, ah, gn]
theorem row_map (hs : List Nat) : (hs.map fun h : Nat => D.int h) = (hs.map fun h : Nat => (h : Int)).map D.int := by rw [List.map_map]; rfl
theorem repr_row {n : Nat} {hs : List Nat} (R : Row n hs) (h : n ≤ 7) (A : AH) : ∃ x, gRepr [rowD hs] A = .ok (.str x) A ∧ PyData.strOk x = true := by
  unfold rowD
  rw [row_map]
  have hl := R.len
  refine repr_ints _ (fun i hi => ?_) (by simp; omega) A
  obtain ⟨k, hk, rfl⟩ := List.mem_map.mp hi
  have r := R.rng k hk
  refine ⟨?_, ?_, ?_⟩
  · show decide _ = true
    exact decide_eq_true (log_dg k r)
  · rw [shown_dg k r]; show 1 ≤ 10; decide
  · rw [shown_dg k r]; exact ok_dg k r
end Lw
namespace Lw
open PySem PySem.Spec
open PyProof.Rows L2 F3
/-! ### drawing -/
def isBag (o : AO) : Prop := ∃ g b : Int, o = .lst [.int g, .int b] ∧ 0 ≤ b ∧ b < 2305843009213693951
def Bgs (A : AH) : Prop := ∀ o ∈ A, isBag o
theorem Bgs.flat {A : AH} (h : Bgs A) : Flat A := Bags.flat fun o ho => let ⟨g, b, e, _⟩ := h o ho; ⟨g, b, e⟩
theorem Bgs.set {A : AH} (h : Bgs A) {i : Nat} {o : AO} (ho : isBag o) : Bgs (A.set i o) := fun x hx => by
  rcases List.mem_or_eq_of_mem_set hx with e | e
  · exact h x e
  · rw [e]; exact ho
theorem log_small {x : Int} (h : 0 ≤ x) (h' : x < 2 ^ 200) : x.natAbs.log2 < 9000 := by
  by_cases q : x.natAbs = 0
  · rw [q]; decide
  · rw [Nat.log2_lt q]
    have : x.natAbs < 2 ^ 200 := by omega
    exact Nat.lt_trans this (by decide +kernel)
/-- one draw; what lies behind the bags stays -/
theorem draw_of {A : AH} (h : Bgs A) (S : AH) {i : Nat} (hi : i < A.length) (m : Nat) (h1 : 1 ≤ m) (h2 : m ≤ 1000) :
    ∃ (r : Nat) (A' : AH), m_law_draw [.ref i, .int m] (A ++ S) = .ok (.int r) (A' ++ S) ∧ r < m ∧ Bgs A' ∧ A'.length = A.length := by
  obtain ⟨g, b, e, b0, b1⟩ := h A[i] (List.getElem_mem hi)
  have at_ : (A ++ S)[i]? = some (.lst [.int g, .int b]) := by
    rw [List.getElem?_append_left hi, List.getElem?_eq_getElem hi, e]
  have hm : (0 : Int) < m := by omega
  have hml : (m : Int).natAbs.log2 < 9000 := log_small (by omega) (by omega)
  have hmN : 0 < m := by omega
  have hmlN : m.log2 < 9000 := by rw [Int.natAbs_natCast] at hml; exact hml
  have ix1 : ixN 2 0 = some 0 := by decide
  have ix2 : ixN 2 1 = some 1 := by decide
  have toN : ∀ x : Int, ∃ r : Nat, x % (m : Int) = (r : Int) ∧ r < m := fun x => by
    have q1 := Int.emod_nonneg x (show (m : Int) ≠ 0 by omega)
    have q2 := Int.emod_lt_of_pos x hm
    exact ⟨(x % (m : Int)).toNat, by omega, by omega⟩
  have hl : ∀ o, ((A ++ S).set i o).length = (A ++ S).length := fun o => List.length_set
  have hs : ∀ o, (A ++ S).set i o = A.set i o ++ S := fun o => List.set_append_left _ _ hi
  have cl : ∀ (d : D) (o : AO), clean (A ++ S).length d ((A ++ S).set i o) = .ok d ((A ++ S).set i o) := fun d o => by
    have := clean_same (A := (A ++ S).set i o) d
    rw [hl] at this; exact this
  by_cases hg : 0 < g
  · obtain ⟨r, e1, e2⟩ := toN g
    refine ⟨r, A.set i (.lst [.int (g / m), .int b]), ?_, e2, h.set ⟨_, _, rfl, b0, b1⟩, List.length_set⟩
    rw [u_law_draw]
    unfold b_law_draw
    simp [gIx, asL, at_, gCmpI, hg, gInt, gMod, hmN, gFdiv, hmlN, ix1, -List.length_append]
    rw [cl, hs, e1]
  · have k0 : 0 ≤ (b * 6364136223 + 1442695041) % (2 ^ 61 - 1) := Int.emod_nonneg _ (by decide)
    have k1 : (b * 6364136223 + 1442695041) % (2 ^ 61 - 1) < 2305843009213693951 := Int.emod_lt_of_pos _ (by decide)
    obtain ⟨r, e1, e2⟩ := toN ((b * 6364136223 + 1442695041) % (2 ^ 61 - 1) / 65537)
    refine ⟨r, A.set i (.lst [.int g, .int ((b * 6364136223 + 1442695041) % (2 ^ 61 - 1))]), ?_, e2, h.set ⟨_, _, rfl, k0, k1⟩, List.length_set⟩
    have lb : b.natAbs.log2 < 9000 := log_small b0 (by omega)
    have lm : b.natAbs.log2 + Nat.log2 6364136223 < 1000000 := by
      have : Nat.log2 6364136223 < 100 := by decide +kernel
      omega
    have l6 : Nat.log2 65537 < 9000 := by decide +kernel
    have p61 : ((2 : Int) ^ (61 : Nat)) = 2305843009213693952 := by decide +kernel
    have at2 : ∀ x, (A ++ S)[i]? = some x → ∀ o, ((A ++ S).set i o)[i]? = some o := fun x hx o => by
      rw [List.getElem?_set_self (List.getElem?_eq_some_iff.mp hx).1]
    have at3 := at2 _ at_
    rw [u_law_draw]
    unfold b_law_draw
    simp [gIx, asL, at_, at3, gCmpI, hg, gInt, gMod, hmN, gFdiv, gMul, gAdd, F3.gSub, gPow, ix2, lm, l6, p61, -List.length_append]
    have e0 : (2 : Int) ^ 61 - 1 = 2305843009213693951 := by decide +kernel
    rw [e0] at e1
    rw [cl, hs, e1]
theorem one_of_of {A : AH} (h : Bgs A) (S : AH) {i : Nat} (hi : i < A.length) (xs : List D) (h1 : 1 ≤ xs.length) (h2 : xs.length ≤ 1000) :
    ∃ (x : D) (A' : AH), m_law_one_of [.ref i, .lst xs] (A ++ S) = .ok x (A' ++ S) ∧ x ∈ xs ∧ Bgs A' ∧ A'.length = A.length := by
  obtain ⟨r, A', e, hr, hB, hl⟩ := draw_of h S hi xs.length h1 h2
  refine ⟨xs[r], A', ?_, List.getElem_mem hr, hB, hl⟩
  have ix : atI xs (r : Int) = some xs[r] := by
    unfold atI ixN
    rw [if_pos (by omega), if_pos (by omega), Option.bind_some, Int.toNat_natCast, List.getElem?_eq_getElem hr]
  have cl := clean_same (A := A' ++ S) xs[r]
  rw [List.length_append, hl, ← List.length_append] at cl
  rw [u_law_one_of]
  unfold b_law_one_of
  simp [gLen, asL, e, gIx, ix, -List.length_append, cl]
/-- a tie as drawn -/
structure Tie1 (n : Nat) (p : Nat × Nat) : Prop where
  le : p.1 ≤ p.2
  lt : p.2 < n
abbrev bodyT : Ev → AH → SR := bSeq (bPar 6 7 (sCons (sCall m_law_draw (sCons (sVar 0) (sCons (sVar 1) (sNil)))) (sCons (sCall m_law_draw (sCons (sVar 0) (sCons (sVar 1) (sNil)))) sNil))) (bSeq (bIf (sAndT (sTest (sBin gEq (sVar 6) (sVar 7))) (sAndT (sTest (sBin gGt (sVar 1) (sC (.int 1)))) (sOrT (sTest (sBin gEq (sVar 4) (sC (.int 0)))) (sTest (sBin gGt (sCall m_law_draw (sCons (sVar 0) (sCons (sVar 4) (sNil)))) (sC (.int 0))))))) (bSet (gNm 7) (sBin gMod (sCall gInt (sCons (sBin gAdd (sBin gAdd (sVar 6) (sC (.int 1))) (sCall m_law_draw (sCons (sVar 0) (sCons (sBin gSub (sVar 1) (sC (.int 1))) (sNil))))) (sNil))) (sVar 1))) (bNil)) (bExpr (sAppend (sVar 3) (sTup (sCons (sCall gMin2 (sCons (sVar 6) (sCons (sVar 7) (sNil)))) (sCons (sCall gMax2 (sCons (sVar 6) (sCons (sVar 7) (sNil)))) (sNil)))))))
/-- the first half of a turn: two places -/
theorem turn_of {A : AH} (h : Bgs A) {i n lp : Nat} (hi : i < A.length) (hn : 1 ≤ n ∧ n ≤ 7) (hlp : lp ≤ 6) (f : List (Nat × Nat)) (hf : f.length < 100) (x2 x5 x6 x7 : Option D) :
    ∃ (A' : AH) (p : Nat × Nat) (y6 y7 : Option D), bodyT [some (.ref i), some (.int n), x2, some (.ref A.length), some (.int lp), x5, x6, x7] (A ++ [.lst (f.map tieD)]) = .nx [some (.ref i), some (.int n), x2, some (.ref A.length), some (.int lp), x5, y6, y7] (A' ++ [.lst ((f ++ [p]).map tieD)]) ∧ Bgs A' ∧ A'.length = A.length ∧ Tie1 n p := by
  obtain ⟨a, A1, e1, a1, B1, l1⟩ := draw_of h [.lst (f.map tieD)] hi n hn.1 (by omega)
  obtain ⟨b, A2, e2, b1, B2, l2⟩ := draw_of B1 [.lst (f.map tieD)] (by omega : i < A1.length) n hn.1 (by omega)
  have l12 : A2.length = A.length := by omega
  have hz : f.length < 16777216 := by omega
  -- behind the places
  have fin : ∀ (A3 : AH) (c : Nat), Bgs A3 → A3.length = A.length → c < n → bExpr (sAppend (sVar 3) (sTup (sCons (sCall gMin2 (sCons (sVar 6) (sCons (sVar 7) (sNil)))) (sCons (sCall gMax2 (sCons (sVar 6) (sCons (sVar 7) (sNil)))) (sNil)))))
      [some (.ref i), some (.int n), x2, some (.ref A.length), some (.int lp), x5, some (.int a), some (.int c)] (A3 ++ [.lst (f.map tieD)]) = .nx [some (.ref i), some (.int n), x2, some (.ref A.length), some (.int lp), x5, some (.int a), some (.int c)] (A3 ++ [.lst ((f ++ [(min a c, max a c)]).map tieD)]) := by
    intro A3 c _ l3 _
    simp [gMin2, gMax2, ← l3, hz, tieD]
    constructor <;> split <;> omega
  have good : ∀ c, c < n → Tie1 n (min a c, max a c) := fun c hc => ⟨by show min a c ≤ max a c; omega, by show max a c < n; omega⟩
  by_cases hab : a = b ∧ 1 < n
  · obtain ⟨rfl, hn1⟩ := hab
    have hn1' : (1 : Int) < n := by omega
    -- whether the other is drawn anew
    have anew : ∀ (A3 : AH), Bgs A3 → A3.length = A.length → ∃ (A4 : AH) (c : Nat), Bgs A4 ∧ A4.length = A.length ∧ c < n ∧
        bSet (gNm 7) (sBin gMod (sCall gInt (sCons (sBin gAdd (sBin gAdd (sVar 6) (sC (.int 1))) (sCall m_law_draw (sCons (sVar 0) (sCons (sBin F3.gSub (sVar 1) (sC (.int 1))) (sNil))))) (sNil))) (sVar 1))
          [some (.ref i), some (.int n), x2, some (.ref A.length), some (.int lp), x5, some (.int a), some (.int a)] (A3 ++ [.lst (f.map tieD)]) = .nx [some (.ref i), some (.int n), x2, some (.ref A.length), some (.int lp), x5, some (.int a), some (.int c)] (A4 ++ [.lst (f.map tieD)]) := by
      intro A3 B3 l3
      obtain ⟨d, A4, e4, d1, B4, l4⟩ := draw_of B3 [.lst (f.map tieD)] (by omega : i < A3.length) (n - 1) (by omega) (by omega)
      have en : ((n - 1 : Nat) : Int) = (n : Int) - 1 := by omega
      rw [en] at e4
      have hm : 0 < n := by omega
      obtain ⟨c, e5, c1⟩ : ∃ c : Nat, ((a : Int) + 1 + d) % n = (c : Int) ∧ c < n := by
        have k1 := Int.emod_nonneg ((a : Int) + 1 + d) (show (n : Int) ≠ 0 by omega)
        have k2 := Int.emod_lt_of_pos ((a : Int) + 1 + d) (show (0 : Int) < n by omega)
        exact ⟨(((a : Int) + 1 + d) % n).toNat, by omega, by omega⟩
      refine ⟨A4, c, B4, by omega, c1, ?_⟩
      simp [gAdd, F3.gSub, e4, gInt, gMod, hm, e5]
    by_cases hl0 : lp = 0
    · obtain ⟨A4, c, B4, l4, c1, e4⟩ := anew A2 B2 l12
      refine ⟨A4, (min a c, max a c), some (.int a), some (.int c), ?_, B4, l4, good c c1⟩
      rw [← fin A4 c B4 l4 c1]
      have hl0' : ((lp : Int) == 0) = true := by simp; omega
      simp [e1, e2, gCmpI, hn1, hn1', hl0', e4, -e_bExpr, -e_bSet]
    · obtain ⟨d, A3, e3, d1, B3, l3⟩ := draw_of B2 [.lst (f.map tieD)] (by omega : i < A2.length) lp (by omega) (by omega)
      have hl0' : ((lp : Int) == 0) = false := by simp; omega
      by_cases hd : 0 < d
      · obtain ⟨A4, c, B4, l4, c1, e4⟩ := anew A3 B3 (by omega)
        refine ⟨A4, (min a c, max a c), some (.int a), some (.int c), ?_, B4, l4, good c c1⟩
        rw [← fin A4 c B4 l4 c1]
        simp [e1, e2, gCmpI, hn1, hn1', hl0', e3, hd, e4, -e_bExpr, -e_bSet]
      · refine ⟨A3, (min a a, max a a), some (.int a), some (.int a), ?_, B3, by omega, good a a1⟩
        rw [← fin A3 a B3 (by omega) a1]
        simp [e1, e2, gCmpI, hn1, hn1', hl0', e3, hd, -e_bExpr, -e_bSet]
  · refine ⟨A2, (min a b, max a b), some (.int a), some (.int b), ?_, B2, l12, good b b1⟩
    rw [← fin A2 b B2 l12 b1]
    by_cases q : a = b
    · subst q
      have hn1 : ¬ 1 < n := fun z => hab ⟨rfl, z⟩
      have hn1' : decide ((1 : Int) < n) = false := decide_eq_false (by omega)
      simp only [gCmpI, e_bSeq, e_bPar, e_bIf, e_sAndT, e_sTest, e_sBin, e_sVar, e_sC, e_sCons, e_sNil, e_sCall, List.getElem?_cons_zero, List.getElem?_cons_succ, bind_ok, lft_ok, seq_nx, e1, e2, List.set_cons_zero, List.set_cons_succ, gEq_int, beq_self_eq_true, tst_bl, cnd_t, cnd_f, hn1', e_bNil]
    · have q' : ((a : Int) == b) = false := by simp; omega
      simp [e1, e2, q', -e_bExpr, -e_bSet]
end Lw
namespace Lw
open PySem PySem.Spec
open PyProof.Rows L2 F3
theorem turns_of {i n lp : Nat} (hn : 1 ≤ n ∧ n ≤ 7) (hlp : lp ≤ 6) (x2 : Option D) : ∀ (k : Nat) (lo : Int) (A : AH) (f : List (Nat × Nat)) (x5 x6 x7 : Option D), Bgs A → i < A.length → f.length + k ≤ 14 → (∀ p ∈ f, Tie1 n p) →
    ∃ (A' : AH) (f' : List (Nat × Nat)) (y5 y6 y7 : Option D), forL (gNm 5) bodyT (rngL lo 1 k) [some (.ref i), some (.int n), x2, some (.ref A.length), some (.int lp), x5, x6, x7] (A ++ [.lst (f.map tieD)]) = .nx [some (.ref i), some (.int n), x2, some (.ref A.length), some (.int lp), y5, y6, y7] (A' ++ [.lst (f'.map tieD)]) ∧
      Bgs A' ∧ A'.length = A.length ∧ f'.length ≤ 14 ∧ ∀ p ∈ f', Tie1 n p
  | 0, lo, A, f, x5, x6, x7, h, hi, hl, hf => ⟨A, f, x5, x6, x7, rfl, h, rfl, by omega, hf⟩
  | k + 1, lo, A, f, x5, x6, x7, h, hi, hl, hf => by
    obtain ⟨A1, p, z6, z7, e1, B1, l1, t1⟩ := turn_of h hi hn hlp f (by omega) x2 (some (.int lo)) x6 x7
    obtain ⟨A2, f', y5, y6, y7, e2, B2, l2, c2, t2⟩ := turns_of (i := i) hn hlp x2 k (lo + 1) A1 (f ++ [p]) (some (.int lo)) z6 z7 B1 (by omega) (by simp; omega) fun q hq => by
      rcases List.mem_append.mp hq with e | e
      · exact hf q e
      · rw [List.mem_singleton.mp e]; exact t1
    refine ⟨A2, f', y5, y6, y7, ?_, B2, by omega, c2, t2⟩
    rw [l1] at e2
    show forL _ _ (D.int lo :: rngL (lo + 1) 1 k) _ _ = _
    unfold forL
    simp only [e_gNm, List.set_cons_succ, List.set_cons_zero]
    rw [e1]
    exact e2
/-- sorted ties -/
def pI (p : Nat × Nat) : Int × Int := (p.1, p.2)
def pN (p : Int × Int) : Nat × Nat := (p.1.toNat, p.2.toNat)
theorem dpairs_ties : ∀ f : List (Nat × Nat), dpairs (f.map tieD) = some (f.map pI)
  | [] => rfl
  | p :: f => by
    show (dpairs (f.map tieD)).map (((p.1 : Int), (p.2 : Int)) :: ·) = _
    rw [dpairs_ties f]; rfl
def sortT (f : List (Nat × Nat)) : List (Nat × Nat) := (isortB SrtO.lexB (f.map pI)).map pN
theorem sortT_perm (f : List (Nat × Nat)) : (sortT f).Perm f := by
  have h := (isortB_perm SrtO.lexB (f.map pI)).map pN
  rw [List.map_map] at h
  have e : f.map (pN ∘ pI) = f := by
    conv => rhs; rw [← List.map_id f]
    refine List.map_congr_left fun p _ => ?_
    show ((p.1 : Int).toNat, (p.2 : Int).toNat) = p
    simp
  rw [e] at h; exact h
theorem sort_of (f : List (Nat × Nat)) : sortP (f.map tieD) = some ((sortT f).map tieD) := by
  unfold sortP
  have e : (isortB SrtO.lexB (f.map pI)).map pD = (sortT f).map tieD := by
    unfold sortT
    rw [List.map_map]
    refine List.map_congr_left fun q hq => ?_
    obtain ⟨p, _, rfl⟩ := List.mem_map.mp ((isortB_perm SrtO.lexB (f.map pI)).mem_iff.mp hq)
    show D.tup [.int (p.1 : Int), .int (p.2 : Int)] = D.tup [.int (((p.1 : Int).toNat : Nat) : Int), .int (((p.2 : Int).toNat : Nat) : Int)]
    simp
  cases f with
  | nil => rfl
  | cons p f =>
    rw [show dints ((p :: f).map tieD) = none from rfl]
    simp only
    rw [dpairs_ties]
    exact congrArg some e
theorem sortT_ord (f : List (Nat × Nat)) : (sortT f).Pairwise fun p q => p.1 < q.1 ∨ (p.1 = q.1 ∧ p.2 ≤ q.2) := by
  unfold sortT
  have h := isortB_sorted lin_lex (f.map pI)
  rw [List.pairwise_map]
  refine List.Pairwise.imp_of_mem (fun {a b} ha hb hab => ?_) h
  obtain ⟨p, _, rfl⟩ := List.mem_map.mp ((isortB_perm SrtO.lexB (f.map pI)).mem_iff.mp ha)
  obtain ⟨q, _, rfl⟩ := List.mem_map.mp ((isortB_perm SrtO.lexB (f.map pI)).mem_iff.mp hb)
  rw [SrtO.lexB_no] at hab
  show (p.1 : Int).toNat < (q.1 : Int).toNat ∨ ((p.1 : Int).toNat = (q.1 : Int).toNat ∧ (p.2 : Int).toNat ≤ (q.2 : Int).toNat)
  have hab' : ¬ ((q.1 : Int) < p.1 ∨ ((q.1 : Int) = p.1 ∧ (q.2 : Int) < p.2)) := hab
  simp only [Int.toNat_natCast]
  omega
theorem ties_of {A : AH} (h : Bgs A) {i n : Nat} (hi : i < A.length) (hn : 1 ≤ n ∧ n ≤ 7) :
    ∃ (ts : List (Nat × Nat)) (A' : AH), m_law_ties [.ref i, .int n, .int 14] A = .ok (tiesD ts) A' ∧ Ties n ts ∧ Bgs A' ∧ A'.length = A.length := by
  obtain ⟨x, A1, e1, hx, B1, l1⟩ := one_of_of h [.lst []] hi [.int 0, .int 0, .int 6, .int 3] (by decide) (by decide)
  obtain ⟨lp, rfl, hlp⟩ : ∃ lp : Nat, x = .int lp ∧ lp ≤ 6 := by
    simp at hx
    rcases hx with rfl | rfl | rfl
    · exact ⟨0, rfl, by decide⟩
    · exact ⟨6, rfl, by decide⟩
    · exact ⟨3, rfl, by decide⟩
  obtain ⟨m, hm, hm1⟩ : ∃ m : Nat, (m : Int) = 15 ∧ m = 15 := ⟨15, by decide, rfl⟩
  obtain ⟨k, A2, e2, k2, B2, l2⟩ := draw_of B1 [.lst []] (by omega : i < A1.length) m (by omega) (by omega)
  rw [hm] at e2
  obtain ⟨A3, f, y5, y6, y7, e3, B3, l3, c3, t3⟩ := turns_of (i := i) hn hlp (some (.int 14)) k 0 A2 [] none none none B2 (by omega) (by simp; omega) (fun p hp => by cases hp)
  have el : A2.length = A.length := by omega
  have e33 : A3.length = A.length := by omega
  rw [el] at e3
  have T : Ties n (sortT f) := by
    refine ⟨hn, by rw [(sortT_perm f).length_eq]; exact c3, fun p hp => ?_, sortT_ord f⟩
    have := t3 p ((sortT_perm f).mem_iff.mp hp)
    exact ⟨this.le, this.lt⟩
  refine ⟨sortT f, A3, ?_, T, B3, e33⟩
  have gs : gSorted [.ref A.length] (A3 ++ [.lst (f.map tieD)]) = .ok (.lst ((sortT f).map tieD)) (A3 ++ [.lst (f.map tieD)]) := by
    unfold gSorted asQ
    rw [← e33]
    simp [sort_of]
  have gt : ∀ A', gTuple [.lst ((sortT f).map tieD)] A' = .ok (tiesD (sortT f)) A' := fun _ => rfl
  have cl := clean_app (B := [AO.lst (f.map tieD)]) B3.flat (by simp) (frz_ties _ _ 27 (sortT f))
  rw [e33] at cl
  rw [u_law_ties]
  unfold b_law_ties
  simp only [List.map_nil] at e3
  have it : iRange1 (sCons (sCall m_law_draw (sCons (sVar 0) (sCons (sBin gAdd (sVar 2) (sC (.int 1))) (sNil)))) (sNil)) [some (.ref i), some (.int n), some (.int 14), some (.ref A.length), some (.int lp), none, none, none] (A1 ++ [.lst []]) = .ok (rngL 0 1 k) (A2 ++ [.lst []]) :=
    range1_ok (by simp [gAdd, e2]) (by omega)
  simp [e1, it, e3, gs, gt, cl]
end Lw
namespace Lw
open PySem PySem.Spec
open PyProof.Rows L2 F3
theorem all2_map {α : Type} {Q : α → Prop} {g : α → D} {ds xs : List D} (h : All2 (fun _ x => ∃ b, Q b ∧ x = g b) ds xs) : ∃ bs : List α, xs = bs.map g ∧ bs.length = ds.length ∧ ∀ b ∈ bs, Q b := by
  induction h with
  | nil => exact ⟨[], rfl, rfl, fun _ h => nomatch h⟩
  | cons h t ih =>
    obtain ⟨b, hb, rfl⟩ := h
    obtain ⟨bs, rfl, hl, hq⟩ := ih
    exact ⟨b :: bs, rfl, by simp [hl], fun x hx => by
      rcases List.mem_cons.mp hx with e | e
      · subst e; exact hb
      · exact hq x e⟩
theorem ok_lines {ls : List Str} (h : ∀ l ∈ ls, PyData.strOk l = true) : PyData.strOk (linesT ls) = true := by
  unfold linesT
  rw [TL.join_eq]
  refine ok_join (by decide +kernel) _ fun x hx => ?_
  obtain ⟨l, hl, rfl⟩ := List.mem_map.mp hx
  exact ok_app (h l hl) (by decide +kernel)
theorem gAdd_str {x y z : Str} (e : x ++ y = z) (h : x.length + y.length ≤ sizeLine) (A : AH) : gAdd (.str x) (.str y) A = .ok (.str z) A := by
  subst e; unfold gAdd; exact if_pos h
/-- the law's own writing of a web -/
theorem own_web {n : Nat} {ts : List (Nat × Nat)} (T : Ties n ts) {env : Ev} {A : AH} (h1 : env[1]? = some (some (.int n))) (h2 : env[2]? = some (some (tiesD ts))) (hl : env.length = 13) :
    sBin gAdd (sBin gAdd (sBin gAdd (sC (.str ⟨#[112, 108, 97, 99, 101, 115, 32]⟩)) (sCall gStr (sCons (sVar 1) (sNil)))) (sC (.str ⟨#[10]⟩))) (sM1 mJoin (sC (.str ⟨#[]⟩)) (sLC [9, 10] (iOf (sVar 2)) (gTp (gMore (gNm 9) (gMore (gNm 10) (gEnd)))) (tTrue) (sBin gAdd (sBin gAdd (sBin gAdd (sCall gStr (sCons (sVar 9) (sNil))) (sC (.str ⟨#[45]⟩))) (sCall gStr (sCons (sVar 10) (sNil)))) (sC (.str ⟨#[10]⟩))))) env A = .ok (.str (linesT (webL n ts))) A := by
  have s := T.size
  have z : ts.length ≤ 16777216 := by have := T.few; omega
  have hm : ∀ e2 : Ev, e2.length = 13 → compL (gTp (gMore (gNm 9) (gMore (gNm 10) (gEnd)))) tTrue (sBin gAdd (sBin gAdd (sBin gAdd (sCall gStr (sCons (sVar 9) (sNil))) (sC (.str ⟨#[45]⟩))) (sCall gStr (sCons (sVar 10) (sNil)))) (sC (.str ⟨#[10]⟩))) (ts.map tieD) e2 A = .ok ((ts.map fun p => tieL p ++ nl).map D.str) A := fun e2 he => by
    have := compL_map (st := gTp (gMore (gNm 9) (gMore (gNm 10) (gEnd)))) (t := tTrue) (f := sBin gAdd (sBin gAdd (sBin gAdd (sCall gStr (sCons (sVar 9) (sNil))) (sC (.str ⟨#[45]⟩))) (sCall gStr (sCons (sVar 10) (sNil)))) (sC (.str ⟨#[10]⟩))) (A := A) (env := e2) (g := fun d => match d with | .tup [.int a, .int b] => .str (tieL (a.toNat, b.toNat) ++ nl) | d => d) (ts.map tieD) fun d hd => by
      obtain ⟨p, hp, rfl⟩ := List.mem_map.mp hd
      have r := T.rng p hp
      refine ⟨(e2.set 9 (some (.int p.1))).set 10 (some (.int p.2)), rfl, rfl, ?_⟩
      have s1 := str_dg p.1 (by omega) A
      have s2 := str_dg p.2 (by omega) A
      have e3 : (dg p.1 ++ ⟨#[45]⟩).length = 2 := by rw [strLen_append]; rfl
      have e4 : dg p.1 ++ ⟨#[45]⟩ ++ dg p.2 = tieL p := TL.ext_tl (by rw [TL.tl_append, TL.tl_append]; rfl)
      have e5 : (tieL p).length = 3 := rfl
      have g9 : ((e2.set 9 (some (.int p.1))).set 10 (some (.int p.2)))[9]? = some (some (.int p.1)) := by
        rw [List.getElem?_set_ne (by decide), List.getElem?_set_self (by omega)]
      have g10 : ((e2.set 9 (some (.int p.1))).set 10 (some (.int p.2)))[10]? = some (some (.int p.2)) := by
        rw [List.getElem?_set_self (by simp; omega)]
      have a1 := gAdd_str (x := dg p.1) (y := ⟨#[45]⟩) rfl (by show 1 + 1 ≤ _; decide) A
      have a2 := gAdd_str e4 (by rw [e3]; show 2 + 1 ≤ _; decide) A
      have a3 := gAdd_str (x := tieL p) (y := ⟨#[10]⟩) rfl (by rw [e5]; show 3 + 1 ≤ _; decide) A
      simp only [e_sBin, e_sCall, e_sCons, e_sNil, e_sVar, e_sC, g9, g10, bind_ok, s1, s2, a1, a2, a3]
      simp [tieD, nl]
    rw [this, List.map_map, List.map_map]
    rfl
  have hw : ((wip [9, 10] env) : Ev).length = 13 := by rw [wip_length]; exact hl
  have j := join_ok (y := emp) (ys := ts.map fun p => tieL p ++ nl) (by rw [List.length_map]; have := T.few; omega) (fun x hx => by
    obtain ⟨p, _, rfl⟩ := List.mem_map.mp hx; rw [strLen_append]; show 3 + 1 ≤ 101; decide) (by decide) A
  have sn := str_dg n (by omega) A
  have e1 : (⟨#[112, 108, 97, 99, 101, 115, 32]⟩ : Str) ++ dg n ++ ⟨#[10]⟩ ++ Txt.join emp (ts.map fun p => tieL p ++ nl) = linesT (webL n ts) := by
    refine TL.ext_tl ?_
    rw [TL.tl_append, TL.tl_append, TL.tl_append, tl_lines, TL.join_eq, TL.tl_join, tl_emp, joinL_nil, List.map_map]
    unfold webL cat10
    rw [List.flatMap_cons, List.flatMap_def, List.map_map]
    have : (ts.map (TL.tl ∘ fun p => tieL p ++ nl)) = ts.map ((fun l => TL.tl l ++ [10]) ∘ tieL) := List.map_congr_left fun p _ => by
      show TL.tl (tieL p ++ nl) = TL.tl (tieL p) ++ [10]
      rw [TL.tl_append, tl_nl]
    rw [this]; rfl
  have ll := lines_len (few_web T)
  have l1 : ((⟨#[112, 108, 97, 99, 101, 115, 32]⟩ : Str) ++ dg n).length = 8 := by rw [strLen_append]; rfl
  have l2 : ((⟨#[112, 108, 97, 99, 101, 115, 32]⟩ : Str) ++ dg n ++ ⟨#[10]⟩).length = 9 := by rw [strLen_append, l1]; rfl
  have l3 : 9 + (Txt.join emp (ts.map fun p => tieL p ++ nl)).length ≤ 16777216 := by
    have := congrArg Str.length e1
    rw [strLen_append, l2] at this; omega
  unfold tiesD at h2
  unfold emp at j
  simp [h1, h2, sn, gAdd, l1, l2, z, hm _ hw, j, -List.map_map]
  unfold emp at l3 e1
  simp [l3, e1]
end Lw
namespace Lw
open PySem PySem.Spec
open PyProof.Rows L2 F3
theorem own_signs {bs : List Bool} (hb : bs.length ≤ 14) {env : Ev} {A : AH} (h4 : env[4]? = some (some (.tup (bs.map sgD)))) (hl : env.length = 13) :
    sBin gAdd (sM1 mJoin (sC (.str ⟨#[]⟩)) (sLC [11] (iOf (sVar 4)) (gNm 11) (tTrue) (sIf (sTest (sBin gEq (sVar 11) (sC (.int 1)))) (sC (.str ⟨#[62]⟩)) (sC (.str ⟨#[60]⟩))))) (sC (.str ⟨#[10]⟩)) env A = .ok (.str (linesT [sgL bs])) A := by
  have z : bs.length ≤ 16777216 := by omega
  have hm : ∀ e2 : Ev, e2.length = 13 → compL (gNm 11) tTrue (sIf (sTest (sBin gEq (sVar 11) (sC (.int 1)))) (sC (.str ⟨#[62]⟩)) (sC (.str ⟨#[60]⟩))) (bs.map sgD) e2 A = .ok ((bs.map fun b => (⟨#[sgC b]⟩ : Str)).map D.str) A := fun e2 he => by
    have := compL_map (st := gNm 11) (t := tTrue) (f := sIf (sTest (sBin gEq (sVar 11) (sC (.int 1)))) (sC (.str ⟨#[62]⟩)) (sC (.str ⟨#[60]⟩))) (A := A) (env := e2) (g := fun d => match d with | .int i => .str ⟨#[if i = 1 then 62 else 60]⟩ | d => d) (bs.map sgD) fun d hd => by
      obtain ⟨b, hb, rfl⟩ := List.mem_map.mp hd
      refine ⟨_, rfl, rfl, ?_⟩
      cases b <;> simp [sgD, sgI, he]
    rw [this, List.map_map, List.map_map]
    congr 1
    refine List.map_congr_left fun b _ => ?_
    cases b <;> rfl
  have hw : ((wip [11] env) : Ev).length = 13 := by rw [wip_length]; exact hl
  have j := join_ok (y := emp) (ys := bs.map fun b => (⟨#[sgC b]⟩ : Str)) (by rw [List.length_map]; omega) (fun x hx => by
    obtain ⟨b, _, rfl⟩ := List.mem_map.mp hx; show 1 ≤ 101; decide) (by decide) A
  rw [join_chars] at j
  unfold emp at j
  have e : sgL bs ++ ⟨#[10]⟩ = linesT [sgL bs] := by
    refine TL.ext_tl ?_
    rw [TL.tl_append, tl_lines]
    unfold cat10; simp [tl_nl, TL.tl]
  have a := gAdd_str e (by rw [sgL_len]; show bs.length + 1 ≤ 16777216; omega) A
  simp [h4, z, hm _ hw, j, a, -List.map_map]
theorem own_hues {n : Nat} {hs : List Nat} (R : Row n hs) (hn : 1 ≤ n ∧ n ≤ 7) {env : Ev} {A : AH} (h5 : env[5]? = some (some (rowD hs))) (hl : env.length = 13) :
    sBin gAdd (sBin gAdd (sC (.str ⟨#[104, 117, 101, 115, 32]⟩)) (sM1 mJoin (sC (.str ⟨#[32]⟩)) (sLC [12] (iOf (sVar 5)) (gNm 12) (tTrue) (sCall gStr (sCons (sVar 12) (sNil)))))) (sC (.str ⟨#[10]⟩)) env A = .ok (.str (linesT [hueL hs])) A := by
  have hl5 := R.len
  have z : hs.length ≤ 16777216 := by omega
  have hm : ∀ e2 : Ev, e2.length = 13 → compL (gNm 12) tTrue (sCall gStr (sCons (sVar 12) (sNil))) (hs.map fun h : Nat => D.int h) e2 A = .ok ((hs.map dg).map D.str) A := fun e2 he => by
    have := compL_map (st := gNm 12) (t := tTrue) (f := sCall gStr (sCons (sVar 12) (sNil))) (A := A) (env := e2) (g := fun d => match d with | .int i => .str (dg i.toNat) | d => d) (hs.map fun h : Nat => D.int h) fun d hd => by
      obtain ⟨h, hh, rfl⟩ := List.mem_map.mp hd
      refine ⟨_, rfl, rfl, ?_⟩
      simp [str_dg h (R.rng h hh), he]
    rw [this, List.map_map, List.map_map]
    rfl
  have hw : ((wip [12] env) : Ev).length = 13 := by rw [wip_length]; exact hl
  have j := join_ok (y := sp) (ys := hs.map dg) (by rw [List.length_map]; omega) (fun x hx => by
    obtain ⟨b, _, rfl⟩ := List.mem_map.mp hx; show 1 ≤ 101; decide) (by decide) A
  obtain ⟨h0, hr, rfl⟩ : ∃ h0 hr, hs = h0 :: hr := by
    cases hs with
    | nil => simp at hl5; omega
    | cons h0 hr => exact ⟨h0, hr, rfl⟩
  have e1 : (⟨#[104, 117, 101, 115, 32]⟩ : Str) ++ Txt.join sp ((h0 :: hr).map dg) = hueL (h0 :: hr) := by
    refine TL.ext_tl ?_
    rw [TL.tl_append, tl_hues, TL.join_eq, TL.tl_join, List.map_map]
    show [104, 117, 101, 115, 32] ++ TL.joinL [32] ([48 + h0] :: hr.map fun h => [48 + h]) = _
    rw [joinL_sp]; simp
  have e2 : hueL (h0 :: hr) ++ ⟨#[10]⟩ = linesT [hueL (h0 :: hr)] := by
    refine TL.ext_tl ?_
    rw [TL.tl_append, tl_lines]
    unfold cat10; simp [tl_nl, TL.tl]
  have hln := hueL_len (h0 :: hr)
  have l1 := congrArg Str.length e1
  rw [strLen_append] at l1
  have a1 := gAdd_str e1 (by show _ ≤ 16777216; omega) A
  have a2 := gAdd_str e2 (by show _ + 1 ≤ 16777216; omega) A
  unfold rowD at h5
  unfold sp at j a1
  simp only [e_sBin, e_sC, bind_ok, e_sM1, e_sLC, e_iOf, e_sVar, h5, size_line, if_pos (show ((h0 :: hr).map fun h : Nat => D.int h).length ≤ 16777216 by rw [List.length_map]; exact z), hm _ hw, j, a1, a2]
/-! ### one turn of the law -/
theorem right_of {A : AH} (h : Bgs A) {i : Nat} (hi : i < A.length) : ∃ A', m_law_right [.ref i] A = .ok (.bl true) A' ∧ Bgs A' ∧ A'.length = A.length := by
  obtain ⟨r, A1, e1, r1, B1, l1⟩ := draw_of h [] hi 7 (by decide) (by decide)
  simp only [List.append_nil] at e1
  obtain ⟨n, hn0, hn⟩ : ∃ n : Nat, (1 : Int) + r = n ∧ (1 ≤ n ∧ n ≤ 7) := ⟨1 + r, by omega, by omega⟩
  obtain ⟨ts, A2, e2, T, B2, l2⟩ := ties_of B1 (by omega : i < A1.length) hn
  have mk := make_of T B2.flat
  -- the signs
  have z7 : (ts.map tieD).length ≤ 16777216 := by rw [List.length_map]; have := T.few; omega
  have signs : ∀ e : Ev, e[0]? = some (some (.ref i)) → e.length = 13 → ∃ (bs : List Bool) (A3 : AH), compL (gNm 7) tTrue (sCall m_law_one_of (sCons (sVar 0) (sCons (sLst (sCons (sC (.int 1)) (sCons (sUn gNeg (sC (.int 1))) (sNil)))) (sNil)))) (ts.map tieD) e A2 = .ok (bs.map sgD) A3 ∧ Bgs A3 ∧ A3.length = A.length ∧ bs.length = ts.length := by
    intro e he hl
    obtain ⟨xs, A3, k1, ⟨k2, k3⟩, k4⟩ := compL_inv (st := gNm 7) (t := tTrue) (f := sCall m_law_one_of (sCons (sVar 0) (sCons (sLst (sCons (sC (.int 1)) (sCons (sUn gNeg (sC (.int 1))) (sNil)))) (sNil)))) (env := e) (fun A => Bgs A ∧ A.length = A2.length) (fun _ x => ∃ b : Bool, True ∧ x = sgD b) (ts.map tieD) A2 ⟨B2, rfl⟩ fun d _ A ⟨hB, hL⟩ => by
      obtain ⟨x, A', q1, q2, q3, q4⟩ := one_of_of hB [] (by omega : i < A.length) [.int 1, .int (-1)] (by decide) (by decide)
      simp only [List.append_nil] at q1
      refine ⟨e.set 7 (some d), x, A', rfl, rfl, ?_, ⟨q3, by omega⟩, ?_⟩
      · have g0 : (e.set 7 (some d))[0]? = some (some (.ref i)) := by rw [List.getElem?_set_ne (by decide)]; exact he
        simp [g0, gNeg, q1]
      · simp at q2
        rcases q2 with rfl | rfl
        · exact ⟨true, trivial, rfl⟩
        · exact ⟨false, trivial, rfl⟩
    obtain ⟨bs, rfl, b1, _⟩ := all2_map k4
    exact ⟨bs, A3, k1, k2, by omega, by rw [b1, List.length_map]⟩
  -- the hues
  have hues : ∀ (e : Ev) (A3 : AH), e[0]? = some (some (.ref i)) → e.length = 13 → Bgs A3 → A3.length = A.length → ∃ (hs : List Nat) (A4 : AH), compL (gNm 8) tTrue (sCall m_law_draw (sCons (sVar 0) (sCons (sC (.int 10)) (sNil)))) (rngL 0 1 n) e A3 = .ok (hs.map fun h : Nat => D.int h) A4 ∧ Bgs A4 ∧ A4.length = A.length ∧ Row n hs := by
    intro e A3 he hl B3 l3
    obtain ⟨xs, A4, k1, ⟨k2, k3⟩, k4⟩ := compL_inv (st := gNm 8) (t := tTrue) (f := sCall m_law_draw (sCons (sVar 0) (sCons (sC (.int 10)) (sNil)))) (env := e) (fun A => Bgs A ∧ A.length = A3.length) (fun _ x => ∃ h : Nat, h < 10 ∧ x = .int h) (rngL 0 1 n) A3 ⟨B3, rfl⟩ fun d _ A ⟨hB, hL⟩ => by
      obtain ⟨x, A', q1, q2, q3, q4⟩ := draw_of hB [] (by omega : i < A.length) 10 (by decide) (by decide)
      simp only [List.append_nil] at q1
      have q1' : m_law_draw [.ref i, .int 10] A = .ok (.int x) A' := q1
      refine ⟨e.set 8 (some d), .int x, A', rfl, rfl, ?_, ⟨q3, by omega⟩, ⟨x, q2, rfl⟩⟩
      have g0 : (e.set 8 (some d))[0]? = some (some (.ref i)) := by rw [List.getElem?_set_ne (by decide)]; exact he
      simp [g0, q1']
    obtain ⟨hs, rfl, b1, b2⟩ := all2_map k4
    exact ⟨hs, A4, k1, k2, by omega, ⟨by rw [b1, rngL_length], b2⟩⟩
  obtain ⟨bs, A3, e3, B3, l3, hbl⟩ := signs [some (.ref i), some (.int n), some (tiesD ts), none, none, none, none, none, none, none, none, none, none] rfl rfl
  obtain ⟨hs, A4, e4, B4, l4, R⟩ := hues [some (.ref i), some (.int n), some (tiesD ts), some (webD n ts), some (.tup (bs.map sgD)), none, none, none, none, none, none, none, none] A3 rfl rfl B3 l3
  have hb14 : bs.length ≤ 14 := by have := T.few; omega
  have s := T.size
  -- what is written and read
  have ww := write_web_of T A4
  have rw_ := read_web_of T B4.flat
  have nw := ne_web_of n ts A4
  have pw := prop_of n ts A4
  obtain ⟨x1, r1', o1⟩ := repr_ties T A4
  have ws := write_signs_of T hbl A4
  have rs := read_signs_of T hbl A4
  obtain ⟨x2, r2', o2⟩ := repr_signs bs (by omega) A4
  have wh := write_hues_of T R A4
  have rh := read_hues_of T R A4
  obtain ⟨x3, r3', o3⟩ := repr_row R s.2 A4
  have n1 := gNe_str (ok_lines (ok_web T)) (ok_lines (ok_web T)) A4
  have n2 := gNe_str o1 o1 A4
  have n3 := gNe_str (ok_lines (ls := [sgL bs]) (by simpa using ok_sgL bs)) (ok_lines (ls := [sgL bs]) (by simpa using ok_sgL bs)) A4
  have n4 := gNe_str o2 o2 A4
  have n5 := gEq_str (ok_lines (ls := [hueL hs]) (by simpa using ok_hues R)) (ok_lines (ls := [hueL hs]) (by simpa using ok_hues R)) A4
  have n6 := gEq_str o3 o3 A4
  have cl := clean_same (A := A4) (.bl true)
  rw [l4] at cl
  have e1' : m_law_draw [.ref i, .int 7] A = .ok (.int r) A1 := e1
  have ow := own_web T (env := [some (.ref i), some (.int n), some (tiesD ts), some (webD n ts), some (.tup (bs.map sgD)), some (rowD hs), none, none, none, none, none, none, none]) (A := A4) rfl rfl rfl
  have os := own_signs hb14 (env := [some (.ref i), some (.int n), some (tiesD ts), some (webD n ts), some (.tup (bs.map sgD)), some (rowD hs), some (.str (linesT (webL n ts))), none, none, none, none, none, none]) (A := A4) rfl rfl
  have oh := own_hues R hn (env := [some (.ref i), some (.int n), some (tiesD ts), some (webD n ts), some (.tup (bs.map sgD)), some (rowD hs), some (.str (linesT [sgL bs])), none, none, none, none, none, none]) (A := A4) rfl rfl
  have io : ∀ e A', e[2]? = some (some (tiesD ts)) → iOf (sVar 2) e A' = .ok (ts.map tieD) A' := fun e A' q => by simp [q, tiesD]
  have ir : iRange1 (sCons (sVar 1) sNil) [some (.ref i), some (.int n), some (tiesD ts), some (webD n ts), some (.tup (bs.map sgD)), none, none, none, none, none, none, none, none] A3 = .ok (rngL 0 1 n) A3 := range1_ok (by simp) (by omega)
  have zr : (rngL 0 1 n).length ≤ 16777216 := by rw [rngL_length]; omega
  have z14 : ts.length ≤ 16777216 := by omega
  have rowe : (.tup (hs.map fun h : Nat => D.int h)) = rowD hs := rfl
  have gt1 : ∀ xs A', gTuple [.lst xs] A' = .ok (.tup xs) A' := fun _ _ => rfl
  refine ⟨A4, ?_, B4, l4⟩
  rw [u_law_right]
  unfold b_law_right
  simp [e1', gAdd, hn0, e2, mk, io, z14, wip, e3, gt1, ir, zr, e4, rowe, ↓ow, ↓os, ↓oh, ww, n1, rw_, nw, pw, r1', n2, ws, n3, rs, r2', n4, wh, n5, rh, r3', n6, cl, -e_iOf, -List.map_map]
end Lw
namespace Lw
open PySem PySem.Spec
open PyProof.Rows L2 F3
theorem bag_of (ns : List Int) (hn : ns.length ≤ 63) (at_ : Nat) (h : at_ < 3) (A : AH) : ∃ g b : Int, m_law_bag [.scr (ns.map .int), .int at_] A = .ok (.ref A.length) (A ++ [.lst [.int g, .int b]]) ∧ 0 ≤ b ∧ b < 2305843009213693951 := by
  -- the cell
  obtain ⟨cell, hc⟩ : ∃ cell : Int, sIf (sTest (sBin gLt (sVar 1) (sCall gLen (sCons (sVar 0) (sNil))))) (sCall gInt (sCons (sBin gIx (sVar 0) (sVar 1)) (sNil))) (sBin gAdd (sBin gMul (sC (.int 89)) (sVar 1)) (sC (.int 41))) [some (.scr (ns.map .int)), some (.int at_), none, none, none] A = .ok (.int cell) A := by
    by_cases q : at_ < ns.length
    · refine ⟨ns[at_], ?_⟩
      have q' : (at_ : Int) < ns.length := by omega
      have ix : atI (ns.map D.int) (at_ : Int) = some (.int ns[at_]) := by
        unfold atI ixN
        rw [if_pos (by omega), List.length_map, if_pos (by omega), Option.bind_some, Int.toNat_natCast, List.getElem?_map, List.getElem?_eq_getElem q]; rfl
      simp [gLt, gLen, asL, q', gIx, ix, gInt]
    · refine ⟨89 * at_ + 41, ?_⟩
      have q' : ¬ (at_ : Int) < ns.length := by omega
      have lg : (89 : Int).natAbs.log2 + (at_ : Int).natAbs.log2 < 1000000 := by
        have := log_dg at_ (by omega)
        have h2 : (89 : Int).natAbs.log2 < 100 := by decide +kernel
        omega
      have lg' : Nat.log2 89 + at_.log2 < 1000000 := lg
      simp [gLt, gLen, asL, q', gMul, lg', gAdd]
  have p18 : gPow (.int 10) (.int 18) A = .ok (.int 1000000000000000000) A := rfl
  have p60 : gPow (.int 10) (.int 60) A = .ok (.int 1000000000000000000000000000000000000000000000000000000000000) A := rfl
  have p12 : gPow (.int 10) (.int 12) A = .ok (.int 1000000000000) A := rfl
  have p61 : gPow (.int 2) (.int 61) A = .ok (.int 2305843009213693952) A := rfl
  have m60 : gMul (.int 1000000000000000000000000000000000000000000000000000000000000) (.int 1000000000000000000000000000000000000000000000000000000000000) A = .ok (.int (1000000000000000000000000000000000000000000000000000000000000 * 1000000000000000000000000000000000000000000000000000000000000)) A := by
    unfold gMul
    have : (1000000000000000000000000000000000000000000000000000000000000 : Int).natAbs.log2 + (1000000000000000000000000000000000000000000000000000000000000 : Int).natAbs.log2 < 1000000 := by decide +kernel
    simp only [this]; rfl
  have mm : ∀ x : Int, gMul (.int (x % 1000000000039)) (.int 10007) A = .ok (.int (x % 1000000000039 * 10007)) A := fun x => by
    have k1 := Int.emod_nonneg x (show (1000000000039 : Int) ≠ 0 by decide)
    have k2 := Int.emod_lt_of_pos x (show (0 : Int) < 1000000000039 by decide)
    have l1 : (x % 1000000000039).natAbs.log2 < 9000 := log_small k1 (by omega)
    have l2 : (10007 : Int).natAbs.log2 < 9000 := by decide +kernel
    unfold gMul; exact if_pos (by omega)
  have m5 : gMul (.int 509) (.int at_) A = .ok (.int (509 * at_)) A := by
    have l1 := log_dg at_ (by omega)
    have l2 : (509 : Int).natAbs.log2 < 9000 := by decide +kernel
    unfold gMul; exact if_pos (by omega)
  have m17 : ∀ b : Bool, gMul (.int 17) (.int (if b = true then 1 else 0)) A = .ok (.int (17 * (if b = true then 1 else 0))) A := fun b => by
    have l2 : (17 : Int).natAbs.log2 < 9000 := by decide +kernel
    have l3 : (if b = true then (1 : Int) else 0).natAbs.log2 < 9000 := by cases b <;> decide +kernel
    unfold gMul; exact if_pos (by omega)
  obtain ⟨c, ga⟩ : ∃ c, gAbs [.int cell] A = .ok (.int c) A := ⟨_, rfl⟩
  have s18 : ∀ x, F3.gSub (.int x) (.int 1000000000000000000) A = .ok (.int (x - 1000000000000000000)) A := fun _ => rfl
  have gm : ∀ x, gMax2 [.int 0, .int x] A = .ok (.int (if x > 0 then x else 0)) A := fun _ => rfl
  have md : ∀ x, gMod (.int x) (.int (1000000000000000000000000000000000000000000000000000000000000 * 1000000000000000000000000000000000000000000000000000000000000)) A = .ok (.int (x % (1000000000000000000000000000000000000000000000000000000000000 * 1000000000000000000000000000000000000000000000000000000000000))) A := fun x => by
    unfold gMod; exact if_pos (by decide +kernel)
  have a12 : gAdd (.int 1000000000000) (.int 39) A = .ok (.int 1000000000039) A := rfl
  have md2 : ∀ x, gMod (.int x) (.int 1000000000039) A = .ok (.int (x % 1000000000039)) A := fun x => by unfold gMod; exact if_pos (by decide +kernel)
  have gai : ∀ x y, gAdd (.int x) (.int y) A = .ok (.int (x + y)) A := fun _ _ => rfl
  have lt0 : gLt (.int cell) (.int 0) A = .ok (.bl (decide (cell < 0))) A := rfl
  have gi1 : ∀ x, gInt [.int x] A = .ok (.int x) A := fun _ => rfl
  have gi2 : ∀ b, gInt [.bl b] A = .ok (.int (if b = true then 1 else 0)) A := fun _ => rfl
  have s61 : F3.gSub (.int 2305843009213693952) (.int 1) A = .ok (.int 2305843009213693951) A := rfl
  have md3 : ∀ x, gMod (.int x) (.int 2305843009213693951) A = .ok (.int (x % 2305843009213693951)) A := fun x => by unfold gMod; exact if_pos (by decide +kernel)
  have ap : ∀ x y : Int, ([D.int x, D.int y]).length ≤ sizeLine := fun _ _ => by show 2 ≤ 16777216; decide
  refine ⟨(if c - 1000000000000000000 > 0 then c - 1000000000000000000 else 0) % (1000000000000000000000000000000000000000000000000000000000000 * 1000000000000000000000000000000000000000000000000000000000000),
    (c % 1000000000039 * 10007 + 509 * at_ + 17 * (if decide (cell < 0) = true then 1 else 0) + 1) % 2305843009213693951, ?_, Int.emod_nonneg _ (by decide), Int.emod_lt_of_pos _ (by decide)⟩
  rw [u_law_bag]
  unfold b_law_bag
  rw [e_bSeq, e_bSet, hc]
  simp only [lft_ok, e_gNm, stTo_some, List.set_cons_succ, List.set_cons_zero, seq_nx, e_bSeq, e_bSet, e_sBin, e_sCall, e_sCons, e_sNil, e_sC, e_sVar, List.getElem?_cons_succ, List.getElem?_cons_zero, bind_ok, p18, p60, p12, p61, m60, ga, s18, gm, md, a12, md2, mm, m5, lt0, gi1, gi2, m17, gai, s61, md3, e_bRet, e_sLstM, if_pos (ap _ _), finN_rt]
end Lw
namespace Lw
open PySem PySem.Spec
open PyProof.Rows L2 F3
theorem compL_none {st : Ev → D → Option Ev} {t : Ev → AH → Res Bool} {f : Ev → AH → Res D} {env : Ev} (I : AH → Prop) : ∀ (ds : List D) (A : AH), I A → (∀ d ∈ ds, ∀ A, I A → ∃ env1 A', st env d = some env1 ∧ t env1 A = .ok false A' ∧ I A') → ∃ A', compL st t f ds env A = .ok [] A' ∧ I A'
  | [], A, hA, _ => ⟨A, rfl, hA⟩
  | d :: ds, A, hA, h => by
    obtain ⟨env1, A1, h1, h2, h3⟩ := h d List.mem_cons_self A hA
    obtain ⟨A2, k1, k2⟩ := compL_none I ds A1 h3 fun e he => h e (List.mem_cons_of_mem _ he)
    refine ⟨A2, ?_, k2⟩
    unfold compL
    rw [h1]; simp only; rw [h2]; simp only; exact k1
abbrev bodyL : Ev → AH → SR := bSeq (bSet (gNm 2) (sCall m_law_bag (sCons (sVar 0) (sCons (sVar 1) (sNil))))) (bIf (sTest (sBin gNe (sLC [5] (iRange1 (sCons (sC (.int 5)) (sNil))) (gNm 5) (sNotT (sTest (sCall m_law_right (sCons (sVar 2) (sNil))))) (sC (.int 1))) (sLst (sNil)))) (bRet (sC (.bl false))) (bNil))
theorem cell_of (ns : List Int) (hn : ns.length ≤ 63) (at_ : Nat) (h : at_ < 3) {A : AH} (hA : Bgs A) (x2 x5 : Option D) :
    ∃ (A' : AH) (y2 : Option D), bodyL [some (.scr (ns.map .int)), some (.int at_), x2, none, none, x5] A = .nx [some (.scr (ns.map .int)), some (.int at_), y2, none, none, x5] A' ∧ Bgs A' := by
  obtain ⟨g, b, e1, b0, b1⟩ := bag_of ns hn at_ h A
  have B1 : Bgs (A ++ [.lst [.int g, .int b]]) := fun o ho => by
    rcases List.mem_append.mp ho with q | q
    · exact hA o q
    · rw [List.mem_singleton.mp q]; exact ⟨g, b, rfl, b0, b1⟩
  obtain ⟨A2, k1, B2, l2⟩ := compL_none (st := gNm 5) (t := sNotT (sTest (sCall m_law_right (sCons (sVar 2) (sNil))))) (f := sC (.int 1)) (env := [some (.scr (ns.map .int)), some (.int at_), some (.ref A.length), none, none, none]) (fun X => Bgs X ∧ X.length = A.length + 1) (rngL 0 1 5) (A ++ [.lst [.int g, .int b]]) ⟨B1, by simp⟩ fun d _ X ⟨hX, hL⟩ => by
    obtain ⟨X', q1, q2, q3⟩ := right_of hX (by omega : A.length < X.length)
    refine ⟨_, X', rfl, ?_, q2, by omega⟩
    simp [q1]
  have ir : ∀ e A', iRange1 (sCons (sC (.int 5)) sNil) e A' = .ok (rngL 0 1 5) A' := fun e A' => range1_ok (k := 5) rfl (by decide)
  have zr : (rngL 0 1 5).length ≤ 16777216 := by decide
  have en : gNe (.lst []) (.lst []) A2 = .ok (.bl false) A2 := by
    rw [gNe_of (d := .list []) (e := .list []) rfl rfl rfl rfl]; rfl
  refine ⟨A2, some (.ref A.length), ?_, B2⟩
  simp [e1, ir, wip, zr, k1, en]
theorem cells_of (ns : List Int) (hn : ns.length ≤ 63) : ∀ (k lo : Nat) (A : AH) (x1 x2 x5 : Option D), Bgs A → lo + k ≤ 3 → ∃ (A' : AH) (y1 y2 : Option D), forL (gNm 1) bodyL (rngL lo 1 k) [some (.scr (ns.map .int)), x1, x2, none, none, x5] A = .nx [some (.scr (ns.map .int)), y1, y2, none, none, x5] A' ∧ Bgs A'
  | 0, lo, A, x1, x2, x5, hA, _ => ⟨A, x1, x2, rfl, hA⟩
  | k + 1, lo, A, x1, x2, x5, hA, hl => by
    obtain ⟨A1, y2, e1, B1⟩ := cell_of ns hn lo (by omega) hA x2 x5
    obtain ⟨A2, z1, z2, e2, B2⟩ := cells_of ns hn k (lo + 1) A1 (some (.int lo)) y2 x5 B1 (by omega)
    refine ⟨A2, z1, z2, ?_, B2⟩
    show forL _ _ (D.int lo :: rngL ((lo : Int) + 1) 1 k) _ _ = _
    unfold forL
    simp only [e_gNm, List.set_cons_succ, List.set_cons_zero]
    rw [e1]
    exact e2
theorem three_ok : Ties 3 [(0, 1), (0, 2), (1, 2)] := ⟨by decide, by decide, by decide, by decide⟩
theorem two_ok : Ties 2 [(0, 0), (0, 1)] := ⟨by decide, by decide, by decide, by decide⟩
theorem none_ok (n : Nat) (h : 1 ≤ n ∧ n ≤ 7) : Ties n [] := ⟨h, by decide, (fun _ h => nomatch h), List.Pairwise.nil⟩
def toldD : List D := [.str ⟨#[112, 108, 97, 99, 101, 115, 32, 51, 10, 48, 45, 49, 10, 48, 45, 50, 10, 49, 45, 50, 10]⟩, .tup [.tup [.int 0, .int 0], .tup [.int 0, .int 1]], .str ⟨#[62, 60, 62, 10]⟩, .tup [.int (-1), .int (-1), .int 1], .str ⟨#[104, 117, 101, 115, 32, 48, 32, 49, 32, 50, 10]⟩, .str ⟨#[10]⟩, .tup [], .str ⟨#[112, 108, 97, 99, 101, 115, 32, 49, 10]⟩]
def told5 : List D := [.str ⟨#[112, 108, 97, 99, 101, 115, 32, 51, 10, 48, 45, 49, 10, 48, 45, 50, 10, 49, 45, 50, 10]⟩, .tup [.tup [.int 0, .int 0], .tup [.int 0, .int 1]], .str ⟨#[62, 60, 62, 10]⟩, .tup [.int (-1), .int (-1), .int 1], .str ⟨#[104, 117, 101, 115, 32, 48, 32, 49, 32, 50, 10]⟩]
def told3 : List D := [.str ⟨#[10]⟩, .tup [], .str ⟨#[112, 108, 97, 99, 101, 115, 32, 49, 10]⟩]
def toldP : List PyData := [.str ⟨#[112, 108, 97, 99, 101, 115, 32, 51, 10, 48, 45, 49, 10, 48, 45, 50, 10, 49, 45, 50, 10]⟩, .tuple [.tuple [.int 0, .int 0], .tuple [.int 0, .int 1]], .str ⟨#[62, 60, 62, 10]⟩, .tuple [.int (-1), .int (-1), .int 1], .str ⟨#[104, 117, 101, 115, 32, 48, 32, 49, 32, 50, 10]⟩, .str ⟨#[10]⟩, .tuple [], .str ⟨#[112, 108, 97, 99, 101, 115, 32, 49, 10]⟩]
theorem told_repr (A : AH) : gRepr [.lst toldD] A = .ok (.str (PyData.list toldP).shown) A :=
  repr_of (d := .list toldP) rfl (by decide +kernel) (by decide +kernel) (by decide +kernel) (by decide +kernel)
theorem told_eq (A : AH) : gEq (.str (PyData.list toldP).shown) (.str (PyData.list toldP).shown) A = .ok (.bl true) A := by
  rw [gEq_str (by decide +kernel) (by decide +kernel)]; simp
theorem plain (ns : List Int) (hn : ns.length ≤ 63) : ∃ A, m_law [.scr (ns.map .int)] [] = .ok (.bl true) A := by
  obtain ⟨A, y1, y2, e1, B⟩ := cells_of ns hn (max 1 (min 3 ns.length)) 0 [] none none none (fun o h => nomatch h) (by omega)
  have ir : iRange1 (sCons (sCall gMax2 (sCons (sC (.int 1)) (sCons (sCall gMin2 (sCons (sC (.int 3)) (sCons (sCall gLen (sCons (sVar 0) (sNil))) (sNil)))) (sNil)))) (sNil)) [some (.scr (ns.map .int)), none, none, none, none, none] [] = .ok (rngL 0 1 (max 1 (min 3 ns.length))) [] := by
    refine range1_ok ?_ (by omega)
    simp [gLen, asL, gMin2, gMax2]
    split <;> split <;> omega
  have e1' : forL (gNm 1) bodyL (rngL 0 1 (max 1 (min 3 ns.length))) [some (.scr (ns.map .int)), none, none, none, none, none] [] = .nx [some (.scr (ns.map .int)), y1, y2, none, none, none] A := e1
  have F := B.flat
  have m3 : mMake 0 m_Web_init [.int 3, .tup [.tup [.int 0, .int 1], .tup [.int 0, .int 2], .tup [.int 1, .int 2]]] A = .ok (webD 3 [(0, 1), (0, 2), (1, 2)]) A := make_of three_ok F
  have m2 : mMake 0 m_Web_init [.int 2, .tup []] A = .ok (webD 2 []) A := make_of (none_ok 2 (by decide)) F
  have m1 : mMake 0 m_Web_init [.int 1, .tup []] A = .ok (webD 1 []) A := make_of (none_ok 1 (by decide)) F
  have t1 : m_write_web [webD 3 [(0, 1), (0, 2), (1, 2)]] A = .ok (.str ⟨#[112, 108, 97, 99, 101, 115, 32, 51, 10, 48, 45, 49, 10, 48, 45, 50, 10, 49, 45, 50, 10]⟩) A := by
    rw [write_web_of three_ok]
    have : linesT (webL 3 [(0, 1), (0, 2), (1, 2)]) = ⟨#[112, 108, 97, 99, 101, 115, 32, 51, 10, 48, 45, 49, 10, 48, 45, 50, 10, 49, 45, 50, 10]⟩ := by decide +kernel
    rw [this]
  have t2 : m_read_web [.str ⟨#[112, 108, 97, 99, 101, 115, 32, 50, 10, 48, 45, 48, 10, 48, 45, 49, 10]⟩] A = .ok (webD 2 [(0, 0), (0, 1)]) A := by
    have : linesT (webL 2 [(0, 0), (0, 1)]) = ⟨#[112, 108, 97, 99, 101, 115, 32, 50, 10, 48, 45, 48, 10, 48, 45, 49, 10]⟩ := by decide +kernel
    rw [← this]; exact read_web_of two_ok F
  have t2' : gProp 0 m_Web_ties (webD 2 [(0, 0), (0, 1)]) A = .ok (.tup [.tup [.int 0, .int 0], .tup [.int 0, .int 1]]) A := prop_of 2 _ A
  have t3 : m_write_signs [webD 3 [(0, 1), (0, 2), (1, 2)], .tup [.int 1, .int (-1), .int 1]] A = .ok (.str ⟨#[62, 60, 62, 10]⟩) A := by
    have : linesT [sgL [true, false, true]] = ⟨#[62, 60, 62, 10]⟩ := by decide +kernel
    rw [← this]; exact write_signs_of (bs := [true, false, true]) three_ok rfl A
  have t4 : m_read_signs [webD 3 [(0, 1), (0, 2), (1, 2)], .str ⟨#[60, 60, 62, 10]⟩] A = .ok (.tup [.int (-1), .int (-1), .int 1]) A := by
    have : linesT [sgL [false, false, true]] = ⟨#[60, 60, 62, 10]⟩ := by decide +kernel
    rw [← this]; exact read_signs_of (bs := [false, false, true]) three_ok rfl A
  have t5 : m_write_hues [webD 3 [(0, 1), (0, 2), (1, 2)], .tup [.int 0, .int 1, .int 2]] A = .ok (.str ⟨#[104, 117, 101, 115, 32, 48, 32, 49, 32, 50, 10]⟩) A := by
    have : linesT [hueL [0, 1, 2]] = ⟨#[104, 117, 101, 115, 32, 48, 32, 49, 32, 50, 10]⟩ := by decide +kernel
    rw [← this]; exact write_hues_of (hs := [0, 1, 2]) three_ok ⟨rfl, by decide⟩ A
  have t6 : m_write_signs [webD 2 [], .tup []] A = .ok (.str ⟨#[10]⟩) A := by
    have : linesT [sgL []] = ⟨#[10]⟩ := by decide +kernel
    rw [← this]; exact write_signs_of (bs := []) (none_ok 2 (by decide)) rfl A
  have t7 : m_read_signs [webD 2 [], .str ⟨#[10]⟩] A = .ok (.tup []) A := by
    have : linesT [sgL []] = ⟨#[10]⟩ := by decide +kernel
    rw [← this]; exact read_signs_of (bs := []) (none_ok 2 (by decide)) rfl A
  have t8 : m_write_web [webD 1 []] A = .ok (.str ⟨#[112, 108, 97, 99, 101, 115, 32, 49, 10]⟩) A := by
    have : linesT (webL 1 []) = ⟨#[112, 108, 97, 99, 101, 115, 32, 49, 10]⟩ := by decide +kernel
    rw [← this]; exact write_web_of (none_ok 1 (by decide)) A
  have tr := told_repr A
  have te := told_eq A
  have al8 : gAdd (.lst told5) (.lst told3) A = .ok (.lst toldD) A := by unfold gAdd asM; exact if_pos (by show 5 + 3 ≤ 16777216; decide)
  unfold told5 told3 toldD at al8
  unfold toldD at tr
  have lawN : ∀ x : D, x = .bl true → ∃ A', clean 0 x A = .ok (.bl true) A' := fun x hx => by
    subst hx
    unfold clean
    split
    · exact ⟨_, rfl⟩
    · have : frz A 0 30 (.bl true) = some (.bl true) := rfl
      rw [this]
      simp only
      split <;> exact ⟨_, rfl⟩
  obtain ⟨A', hA'⟩ := lawN _ rfl
  refine ⟨A', ?_⟩
  rw [u_law]
  unfold b_law
  simp [ir, e1', m3, t1, t2, t2', gNeg, t3, t4, t5, m2, m1, t6, t7, t8, al8, tr, te, hA']
end Lw
namespace Lw
open PySem PySem.Spec
open PyProof.Rows L2 F3
def top (i : Nat) : Stmt := PySem.Challenge.pw_flowhues_k88_whole_texts_there_and_back.main.body.getD i (.Pass ⟨0, 0, 0, 0⟩)
abbrev st_law_bag : Stmt := top 48
abbrev st_law_draw : Stmt := top 49
abbrev st_law_one_of : Stmt := top 50
abbrev st_law_ties : Stmt := top 51
abbrev st_is_int : Stmt := top 10
abbrev st_is_whole : Stmt := top 11
abbrev st_is_within : Stmt := top 12
abbrev st_require_size : Stmt := top 18
abbrev st_are_ties : Stmt := top 16
abbrev st_Web_init : Stmt := inClass (top 17) 1
abbrev st_require_web : Stmt := top 19
abbrev st_lines_text : Stmt := top 34
abbrev st_write_web : Stmt := top 41
abbrev st_require_text : Stmt := top 40
abbrev st_whole_lines : Stmt := top 35
abbrev st_number_of : Stmt := top 32
abbrev st_size_from : Stmt := top 36
abbrev st_numbers_of : Stmt := top 33
abbrev st_tie_from : Stmt := top 37
abbrev st_read_web : Stmt := top 42
abbrev st_Web_eq : Stmt := inClass (top 17) 5
abbrev st_Web_ties : Stmt := inClass (top 17) 3
abbrev st_are_signs_in : Stmt := top 21
abbrev st_require_signs : Stmt := top 22
abbrev st_write_signs : Stmt := top 43
abbrev st_alone_line : Stmt := top 38
abbrev st_read_signs : Stmt := top 44
abbrev st_are_hues_in : Stmt := top 39
abbrev st_write_hues : Stmt := top 45
abbrev st_read_hues : Stmt := top 46
abbrev st_law_right : Stmt := top 52
abbrev st_law : Stmt := top 53
structure Ad where
  law_bag : Addr
  law_draw : Addr
  law_one_of : Addr
  law_ties : Addr
  is_int : Addr
  is_whole : Addr
  is_within : Addr
  require_size : Addr
  are_ties : Addr
  Web_init : Addr
  require_web : Addr
  lines_text : Addr
  write_web : Addr
  require_text : Addr
  whole_lines : Addr
  number_of : Addr
  size_from : Addr
  numbers_of : Addr
  tie_from : Addr
  read_web : Addr
  Web_eq : Addr
  Web_ties : Addr
  are_signs_in : Addr
  require_signs : Addr
  write_signs : Addr
  alone_line : Addr
  read_signs : Addr
  are_hues_in : Addr
  write_hues : Addr
  read_hues : Addr
  law_right : Addr
  law : Addr
  c_Web : Addr
  s_own_size : Addr
  s_own_ties : Addr
  p_ties : Addr
def clsOf (a : Ad) : Nat → Option Addr := fun c => if c = 0 then some a.c_Web else none
structure Tx (K : PySem.W.Frag) (mg : Str → Option Value) (a : Ad) (G : Gc) : Prop where
  gk : G.K = K
  f_law_bag : ∃ fd, Fun K "_law_bag" "_law_bag" st_law_bag a.law_bag fd
  g_law_bag : mg "_law_bag" = some (.ref a.law_bag)
  k_law_bag : PySem.W.keepIn K (.ref a.law_bag) = true
  f_law_draw : ∃ fd, Fun K "_law_draw" "_law_draw" st_law_draw a.law_draw fd
  g_law_draw : mg "_law_draw" = some (.ref a.law_draw)
  k_law_draw : PySem.W.keepIn K (.ref a.law_draw) = true
  f_law_one_of : ∃ fd, Fun K "_law_one_of" "_law_one_of" st_law_one_of a.law_one_of fd
  g_law_one_of : mg "_law_one_of" = some (.ref a.law_one_of)
  k_law_one_of : PySem.W.keepIn K (.ref a.law_one_of) = true
  f_law_ties : ∃ fd, Fun K "_law_ties" "_law_ties" st_law_ties a.law_ties fd
  g_law_ties : mg "_law_ties" = some (.ref a.law_ties)
  k_law_ties : PySem.W.keepIn K (.ref a.law_ties) = true
  f_is_int : ∃ fd, Fun K "is_int" "is_int" st_is_int a.is_int fd
  g_is_int : mg "is_int" = some (.ref a.is_int)
  k_is_int : PySem.W.keepIn K (.ref a.is_int) = true
  f_is_whole : ∃ fd, Fun K "is_whole" "is_whole" st_is_whole a.is_whole fd
  g_is_whole : mg "is_whole" = some (.ref a.is_whole)
  k_is_whole : PySem.W.keepIn K (.ref a.is_whole) = true
  f_is_within : ∃ fd, Fun K "is_within" "is_within" st_is_within a.is_within fd
  g_is_within : mg "is_within" = some (.ref a.is_within)
  k_is_within : PySem.W.keepIn K (.ref a.is_within) = true
  f_require_size : ∃ fd, Fun K "require_size" "require_size" st_require_size a.require_size fd
  g_require_size : mg "require_size" = some (.ref a.require_size)
  k_require_size : PySem.W.keepIn K (.ref a.require_size) = true
  f_are_ties : ∃ fd, Fun K "are_ties" "are_ties" st_are_ties a.are_ties fd
  g_are_ties : mg "are_ties" = some (.ref a.are_ties)
  k_are_ties : PySem.W.keepIn K (.ref a.are_ties) = true
  f_Web_init : ∃ fd, Fun K "__init__" "Web.__init__" st_Web_init a.Web_init fd
  f_require_web : ∃ fd, Fun K "require_web" "require_web" st_require_web a.require_web fd
  g_require_web : mg "require_web" = some (.ref a.require_web)
  k_require_web : PySem.W.keepIn K (.ref a.require_web) = true
  f_lines_text : ∃ fd, Fun K "lines_text" "lines_text" st_lines_text a.lines_text fd
  g_lines_text : mg "lines_text" = some (.ref a.lines_text)
  k_lines_text : PySem.W.keepIn K (.ref a.lines_text) = true
  f_write_web : ∃ fd, Fun K "write_web" "write_web" st_write_web a.write_web fd
  g_write_web : mg "write_web" = some (.ref a.write_web)
  k_write_web : PySem.W.keepIn K (.ref a.write_web) = true
  f_require_text : ∃ fd, Fun K "require_text" "require_text" st_require_text a.require_text fd
  g_require_text : mg "require_text" = some (.ref a.require_text)
  k_require_text : PySem.W.keepIn K (.ref a.require_text) = true
  f_whole_lines : ∃ fd, Fun K "whole_lines" "whole_lines" st_whole_lines a.whole_lines fd
  g_whole_lines : mg "whole_lines" = some (.ref a.whole_lines)
  k_whole_lines : PySem.W.keepIn K (.ref a.whole_lines) = true
  f_number_of : ∃ fd, Fun K "number_of" "number_of" st_number_of a.number_of fd
  g_number_of : mg "number_of" = some (.ref a.number_of)
  k_number_of : PySem.W.keepIn K (.ref a.number_of) = true
  f_size_from : ∃ fd, Fun K "size_from" "size_from" st_size_from a.size_from fd
  g_size_from : mg "size_from" = some (.ref a.size_from)
  k_size_from : PySem.W.keepIn K (.ref a.size_from) = true
  f_numbers_of : ∃ fd, Fun K "numbers_of" "numbers_of" st_numbers_of a.numbers_of fd
  g_numbers_of : mg "numbers_of" = some (.ref a.numbers_of)
  k_numbers_of : PySem.W.keepIn K (.ref a.numbers_of) = true
  f_tie_from : ∃ fd, Fun K "tie_from" "tie_from" st_tie_from a.tie_from fd
  g_tie_from : mg "tie_from" = some (.ref a.tie_from)
  k_tie_from : PySem.W.keepIn K (.ref a.tie_from) = true
  f_read_web : ∃ fd, Fun K "read_web" "read_web" st_read_web a.read_web fd
  g_read_web : mg "read_web" = some (.ref a.read_web)
  k_read_web : PySem.W.keepIn K (.ref a.read_web) = true
  f_Web_eq : ∃ fd, Fun K "__eq__" "Web.__eq__" st_Web_eq a.Web_eq fd
  f_Web_ties : ∃ fd, Fun K "ties" "Web.ties" st_Web_ties a.Web_ties fd
  f_are_signs_in : ∃ fd, Fun K "are_signs_in" "are_signs_in" st_are_signs_in a.are_signs_in fd
  g_are_signs_in : mg "are_signs_in" = some (.ref a.are_signs_in)
  k_are_signs_in : PySem.W.keepIn K (.ref a.are_signs_in) = true
  f_require_signs : ∃ fd, Fun K "require_signs" "require_signs" st_require_signs a.require_signs fd
  g_require_signs : mg "require_signs" = some (.ref a.require_signs)
  k_require_signs : PySem.W.keepIn K (.ref a.require_signs) = true
  f_write_signs : ∃ fd, Fun K "write_signs" "write_signs" st_write_signs a.write_signs fd
  g_write_signs : mg "write_signs" = some (.ref a.write_signs)
  k_write_signs : PySem.W.keepIn K (.ref a.write_signs) = true
  f_alone_line : ∃ fd, Fun K "alone_line" "alone_line" st_alone_line a.alone_line fd
  g_alone_line : mg "alone_line" = some (.ref a.alone_line)
  k_alone_line : PySem.W.keepIn K (.ref a.alone_line) = true
  f_read_signs : ∃ fd, Fun K "read_signs" "read_signs" st_read_signs a.read_signs fd
  g_read_signs : mg "read_signs" = some (.ref a.read_signs)
  k_read_signs : PySem.W.keepIn K (.ref a.read_signs) = true
  f_are_hues_in : ∃ fd, Fun K "are_hues_in" "are_hues_in" st_are_hues_in a.are_hues_in fd
  g_are_hues_in : mg "are_hues_in" = some (.ref a.are_hues_in)
  k_are_hues_in : PySem.W.keepIn K (.ref a.are_hues_in) = true
  f_write_hues : ∃ fd, Fun K "write_hues" "write_hues" st_write_hues a.write_hues fd
  g_write_hues : mg "write_hues" = some (.ref a.write_hues)
  k_write_hues : PySem.W.keepIn K (.ref a.write_hues) = true
  f_read_hues : ∃ fd, Fun K "read_hues" "read_hues" st_read_hues a.read_hues fd
  g_read_hues : mg "read_hues" = some (.ref a.read_hues)
  k_read_hues : PySem.W.keepIn K (.ref a.read_hues) = true
  f_law_right : ∃ fd, Fun K "_law_right" "_law_right" st_law_right a.law_right fd
  g_law_right : mg "_law_right" = some (.ref a.law_right)
  k_law_right : PySem.W.keepIn K (.ref a.law_right) = true
  f_law : ∃ fd, Fun K "law" "law" st_law a.law fd
  g_law : mg "law" = some (.ref a.law)
  k_law : PySem.W.keepIn K (.ref a.law) = true
  sc_Web : SC G K 0 a.c_Web
  g_Web : mg "Web" = some (.ref a.c_Web)
  mk_Web : Mk K a.c_Web a.Web_init
  eq_Web : EqAt K a.c_Web a.Web_eq
  io_Web : IsO G K 0 a.c_Web
  ib_bool : IsB G K "bool"
  ib_int : IsB G K "int"
  ib_str : IsB G K "str"
  ib_tuple : IsB G K "tuple"
  sl_own_size : SlX.Slot1 K a.c_Web "own_size" a.s_own_size 0
  sl_own_ties : SlX.Slot1 K a.c_Web "own_ties" a.s_own_ties 1
  pr_ties : PropAt K a.c_Web "ties" a.p_ties a.Web_ties
  n_abs : mg "abs" = none
  n_all : mg "all" = none
  n_bool : mg "bool" = none
  n_enumerate : mg "enumerate" = none
  n_int : mg "int" = none
  n_isinstance : mg "isinstance" = none
  n_len : mg "len" = none
  n_max : mg "max" = none
  n_min : mg "min" = none
  n_range : mg "range" = none
  n_repr : mg "repr" = none
  n_sorted : mg "sorted" = none
  n_str : mg "str" = none
  n_tuple : mg "tuple" = none
  n_zip : mg "zip" = none
  c_AGAINST : ∃ t, mg "AGAINST" = some (.str ⟨#[60]⟩ t)
  c_ALONG : ∃ t, mg "ALONG" = some (.str ⟨#[62]⟩ t)
  c_DIGITS : ∃ t, mg "DIGITS" = some (.str ⟨#[48, 49, 50, 51, 52, 53, 54, 55, 56, 57]⟩ t)
  c_GREAT : ∃ t, mg "GREAT" = some (.int 1000000000000000000000000000000000000000000000000000000000000 t)
  c_HUES : ∃ t, mg "HUES" = some (.str ⟨#[104, 117, 101, 115]⟩ t)
  c_MAX_HUE : ∃ t, mg "MAX_HUE" = some (.int 9 t)
  c_MAX_PLACES : ∃ t, mg "MAX_PLACES" = some (.int 7 t)
  c_MAX_SIGNS : ∃ t, mg "MAX_SIGNS" = some (.int 20000 t)
  c_MAX_TIES : ∃ t, mg "MAX_TIES" = some (.int 14 t)
  c_MOST_DIGITS : ∃ t, mg "MOST_DIGITS" = some (.int 9 t)
  c_PLACES : ∃ t, mg "PLACES" = some (.str ⟨#[112, 108, 97, 99, 101, 115]⟩ t)
theorem clsEach {a : Ad} {c : Nat} {C : Addr} {q : Prop} (h : clsOf a c = some C) (h0 : c = 0 → C = a.c_Web → q) : q := by
  unfold clsOf at h
  split at h
  · rename_i e; cases h; exact h0 e rfl
  cases h
section
variable {P : Program} {w : World} {K : PySem.W.Frag} {mg : Str → Option Value} {base : Heap} {G : Gc} {a : Ad}
theorem nd_law_bag : (["script", "at", "cell", "great", "blend"] : List Str).Nodup := by decide +kernel
theorem fs_law_bag : FnScope ["script", "at", "cell", "great", "blend"] ["script", "at"] (defScope st_law_bag) := ⟨rfl, rfl, rfl, nd_law_bag, rfl, by decide +kernel, by decide +kernel⟩
theorem g_law_bag (T : Tx K mg a G) : FnG P w K mg base G 1 a.law_bag m_law_bag := by
  obtain ⟨fd, F⟩ := T.f_law_bag
  refine fnN_of (k := 0) F fs_law_bag T.gk (fun _ _ _ _ _ _ us hl => match us, hl with | [_, _], _ => rfl) fun cdv A outer s H E o => ?_
  exact jb_cons (js_asg (je_if (jtc o.lt (by rfl) (je_var 1 rfl (vf (by decide +kernel)) (by decide +kernel) (by decide +kernel)) (je_callB o.len (gf (by decide +kernel)) T.n_len bt_len (ja_cons (je_var 0 rfl (vf (by decide +kernel)) (by decide +kernel) (by decide +kernel)) (ja_nil)) (by decide +kernel) (by decide +kernel))) (je_callTy cb_int (gf (by decide +kernel)) T.n_int bt_int (ja_cons (je_ix o (je_var 0 rfl (vf (by decide +kernel)) (by decide +kernel) (by decide +kernel)) (je_var 1 rfl (vf (by decide +kernel)) (by decide +kernel) (by decide +kernel)) (fun _ _ => rfl)) (ja_nil)) (by decide +kernel) (by decide +kernel)) (je_add o (je_mul o (je_int) (je_var 1 rfl (vf (by decide +kernel)) (by decide +kernel) (by decide +kernel))) (je_int))) (jg_name 2 nd_law_bag rfl (lf (by decide +kernel)) ff)) (jb_cons (js_asg (je_mod (je_callB o.max2 (gf (by decide +kernel)) T.n_max bt_max (ja_cons (je_int) (ja_cons (je_sub (je_callB cb_abs (gf (by decide +kernel)) T.n_abs bt_abs (ja_cons (je_var 2 rfl (vf (by decide +kernel)) (by decide +kernel) (by decide +kernel)) (ja_nil)) (by decide +kernel) (by decide +kernel)) (je_pow (je_int) (je_int))) (ja_nil))) (by decide +kernel) (by decide +kernel)) (je_mul o (je_pow (je_int) (je_int)) (je_pow (je_int) (je_int)))) (jg_name 3 nd_law_bag rfl (lf (by decide +kernel)) ff)) (jb_cons (js_asg (je_add o (je_add o (je_add o (je_mul o (je_mod (je_callTy cb_int (gf (by decide +kernel)) T.n_int bt_int (ja_cons (je_callB cb_abs (gf (by decide +kernel)) T.n_abs bt_abs (ja_cons (je_var 2 rfl (vf (by decide +kernel)) (by decide +kernel) (by decide +kernel)) (ja_nil)) (by decide +kernel) (by decide +kernel)) (ja_nil)) (by decide +kernel) (by decide +kernel)) (je_add o (je_pow (je_int) (je_int)) (je_int))) (je_int)) (je_mul o (je_int) (je_var 1 rfl (vf (by decide +kernel)) (by decide +kernel) (by decide +kernel)))) (je_mul o (je_int) (je_callTy cb_int (gf (by decide +kernel)) T.n_int bt_int (ja_cons (jec o.lt (by rfl) (je_var 2 rfl (vf (by decide +kernel)) (by decide +kernel) (by decide +kernel)) (je_int)) (ja_nil)) (by decide +kernel) (by decide +kernel)))) (je_int)) (jg_name 4 nd_law_bag rfl (lf (by decide +kernel)) ff)) (jb_one (js_ret (je_lstM (ja_cons (je_var 3 rfl (vf (by decide +kernel)) (by decide +kernel) (by decide +kernel)) (ja_cons (je_mod (je_callTy cb_int (gf (by decide +kernel)) T.n_int bt_int (ja_cons (je_var 4 rfl (vf (by decide +kernel)) (by decide +kernel) (by decide +kernel)) (ja_nil)) (by decide +kernel) (by decide +kernel)) (je_sub (je_pow (je_int) (je_int)) (je_int))) (ja_nil))))))))
theorem nd_law_draw : (["bag", "many", "found"] : List Str).Nodup := by decide +kernel
theorem fs_law_draw : FnScope ["bag", "many", "found"] ["bag", "many"] (defScope st_law_draw) := ⟨rfl, rfl, rfl, nd_law_draw, rfl, by decide +kernel, by decide +kernel⟩
theorem g_law_draw (T : Tx K mg a G) : FnG P w K mg base G 1 a.law_draw m_law_draw := by
  obtain ⟨fd, F⟩ := T.f_law_draw
  refine fnG_of (k := 0) F fs_law_draw T.gk (fun _ _ _ _ _ _ us hl => match us, hl with | [_, _], _ => rfl) fun cdv A outer s H E o => ?_
  exact jb_cons (js_if (jtc o.gt (by rfl) (je_ix o (je_var 0 rfl (vf (by decide +kernel)) (by decide +kernel) (by decide +kernel)) (je_int) (fun _ _ => rfl)) (je_int)) (jb_cons (js_asg (je_mod (je_callTy cb_int (gf (by decide +kernel)) T.n_int bt_int (ja_cons (je_ix o (je_var 0 rfl (vf (by decide +kernel)) (by decide +kernel) (by decide +kernel)) (je_int) (fun _ _ => rfl)) (ja_nil)) (by decide +kernel) (by decide +kernel)) (je_var 1 rfl (vf (by decide +kernel)) (by decide +kernel) (by decide +kernel))) (jg_name 2 nd_law_draw rfl (lf (by decide +kernel)) ff)) (jb_cons (js_store (je_var 0 rfl (vf (by decide +kernel)) (by decide +kernel) (by decide +kernel)) (je_int) (je_fdiv (je_ix o (je_var 0 rfl (vf (by decide +kernel)) (by decide +kernel) (by decide +kernel)) (je_int) (fun _ _ => rfl)) (je_var 1 rfl (vf (by decide +kernel)) (by decide +kernel) (by decide +kernel)))) (jb_one (js_ret (je_var 2 rfl (vf (by decide +kernel)) (by decide +kernel) (by decide +kernel)))))) (jb_nil)) (jb_cons (js_store (je_var 0 rfl (vf (by decide +kernel)) (by decide +kernel) (by decide +kernel)) (je_int) (je_mod (je_callTy cb_int (gf (by decide +kernel)) T.n_int bt_int (ja_cons (je_add o (je_mul o (je_ix o (je_var 0 rfl (vf (by decide +kernel)) (by decide +kernel) (by decide +kernel)) (je_int) (fun _ _ => rfl)) (je_int)) (je_int)) (ja_nil)) (by decide +kernel) (by decide +kernel)) (je_sub (je_pow (je_int) (je_int)) (je_int)))) (jb_one (js_ret (je_mod (je_callTy cb_int (gf (by decide +kernel)) T.n_int bt_int (ja_cons (je_fdiv (je_ix o (je_var 0 rfl (vf (by decide +kernel)) (by decide +kernel) (by decide +kernel)) (je_int) (fun _ _ => rfl)) (je_int)) (ja_nil)) (by decide +kernel) (by decide +kernel)) (je_var 1 rfl (vf (by decide +kernel)) (by decide +kernel) (by decide +kernel))))))
theorem nd_law_one_of : (["bag", "items"] : List Str).Nodup := by decide +kernel
theorem fs_law_one_of : FnScope ["bag", "items"] ["bag", "items"] (defScope st_law_one_of) := ⟨rfl, rfl, rfl, nd_law_one_of, rfl, by decide +kernel, by decide +kernel⟩
theorem g_law_one_of (T : Tx K mg a G) : FnG P w K mg base G 2 a.law_one_of m_law_one_of := by
  obtain ⟨fd, F⟩ := T.f_law_one_of
  refine fnG_of (k := 1) F fs_law_one_of T.gk (fun _ _ _ _ _ _ us hl => match us, hl with | [_, _], _ => rfl) fun cdv A outer s H E o => ?_
  exact jb_one (js_ret (je_ix o (je_var 1 rfl (vf (by decide +kernel)) (by decide +kernel) (by decide +kernel)) (je_call o (g_law_draw T) (by omega) (gf (by decide +kernel)) T.g_law_draw T.k_law_draw (ja_cons (je_var 0 rfl (vf (by decide +kernel)) (by decide +kernel) (by decide +kernel)) (ja_cons (je_callB o.len (gf (by decide +kernel)) T.n_len bt_len (ja_cons (je_var 1 rfl (vf (by decide +kernel)) (by decide +kernel) (by decide +kernel)) (ja_nil)) (by decide +kernel) (by decide +kernel)) (ja_nil))) (by decide +kernel)) (fun _ _ => rfl)))
theorem nd_law_ties : (["bag", "size", "most", "found", "loops", "turn", "one", "other"] : List Str).Nodup := by decide +kernel
theorem fs_law_ties : FnScope ["bag", "size", "most", "found", "loops", "turn", "one", "other"] ["bag", "size", "most"] (defScope st_law_ties) := ⟨rfl, rfl, rfl, nd_law_ties, rfl, by decide +kernel, by decide +kernel⟩
theorem g_law_ties (T : Tx K mg a G) : FnG P w K mg base G 3 a.law_ties m_law_ties := by
  obtain ⟨fd, F⟩ := T.f_law_ties
  refine fnG_of (k := 2) F fs_law_ties T.gk (fun _ _ _ _ _ _ us hl => match us, hl with | [_, _, _], _ => rfl) fun cdv A outer s H E o => ?_
  exact jb_cons (js_par o (i := 3) (j := 4) nd_law_ties rfl rfl (by decide) (qf (by decide +kernel)) (qf (by decide +kernel)) (ja_cons (je_lstM (ja_nil)) (ja_cons (je_call o (g_law_one_of T) (by omega) (gf (by decide +kernel)) T.g_law_one_of T.k_law_one_of (ja_cons (je_var 0 rfl (vf (by decide +kernel)) (by decide +kernel) (by decide +kernel)) (ja_cons (je_lst (ja_cons (je_int) (ja_cons (je_int) (ja_cons (je_int) (ja_cons (je_int) (ja_nil)))))) (ja_nil))) (by decide +kernel)) ja_nil)) (by rfl)) (jb_cons (js_for o (ji_range1 (gf (by decide +kernel)) T.n_range (ja_cons (je_call o (g_law_draw T) (by omega) (gf (by decide +kernel)) T.g_law_draw T.k_law_draw (ja_cons (je_var 0 rfl (vf (by decide +kernel)) (by decide +kernel) (by decide +kernel)) (ja_cons (je_add o (je_var 2 rfl (vf (by decide +kernel)) (by decide +kernel) (by decide +kernel)) (je_int)) (ja_nil))) (by decide +kernel)) (ja_nil))) (jg_name 5 nd_law_ties rfl (lf (by decide +kernel)) ff) (jb_cons (js_par o (i := 6) (j := 7) nd_law_ties rfl rfl (by decide) (qf (by decide +kernel)) (qf (by decide +kernel)) (ja_cons (je_call o (g_law_draw T) (by omega) (gf (by decide +kernel)) T.g_law_draw T.k_law_draw (ja_cons (je_var 0 rfl (vf (by decide +kernel)) (by decide +kernel) (by decide +kernel)) (ja_cons (je_var 1 rfl (vf (by decide +kernel)) (by decide +kernel) (by decide +kernel)) (ja_nil))) (by decide +kernel)) (ja_cons (je_call o (g_law_draw T) (by omega) (gf (by decide +kernel)) T.g_law_draw T.k_law_draw (ja_cons (je_var 0 rfl (vf (by decide +kernel)) (by decide +kernel) (by decide +kernel)) (ja_cons (je_var 1 rfl (vf (by decide +kernel)) (by decide +kernel) (by decide +kernel)) (ja_nil))) (by decide +kernel)) ja_nil)) (by rfl)) (jb_cons (js_if (jt_w (jw_and (jtc o.eq (by rfl) (je_var 6 rfl (vf (by decide +kernel)) (by decide +kernel) (by decide +kernel)) (je_var 7 rfl (vf (by decide +kernel)) (by decide +kernel) (by decide +kernel))) (jw_and (jtc o.gt (by rfl) (je_var 1 rfl (vf (by decide +kernel)) (by decide +kernel) (by decide +kernel)) (je_int)) (jw_and1 (jt_w (jw_or (jtc o.eq (by rfl) (je_var 4 rfl (vf (by decide +kernel)) (by decide +kernel) (by decide +kernel)) (je_int)) (jw_or1 (jtc o.gt (by rfl) (je_call o (g_law_draw T) (by omega) (gf (by decide +kernel)) T.g_law_draw T.k_law_draw (ja_cons (je_var 0 rfl (vf (by decide +kernel)) (by decide +kernel) (by decide +kernel)) (ja_cons (je_var 4 rfl (vf (by decide +kernel)) (by decide +kernel) (by decide +kernel)) (ja_nil))) (by decide +kernel)) (je_int))))))))) (jb_one (js_asg (je_mod (je_callTy cb_int (gf (by decide +kernel)) T.n_int bt_int (ja_cons (je_add o (je_add o (je_var 6 rfl (vf (by decide +kernel)) (by decide +kernel) (by decide +kernel)) (je_int)) (je_call o (g_law_draw T) (by omega) (gf (by decide +kernel)) T.g_law_draw T.k_law_draw (ja_cons (je_var 0 rfl (vf (by decide +kernel)) (by decide +kernel) (by decide +kernel)) (ja_cons (je_sub (je_var 1 rfl (vf (by decide +kernel)) (by decide +kernel) (by decide +kernel)) (je_int)) (ja_nil))) (by decide +kernel))) (ja_nil)) (by decide +kernel) (by decide +kernel)) (je_var 1 rfl (vf (by decide +kernel)) (by decide +kernel) (by decide +kernel))) (jg_name 7 nd_law_ties rfl (lf (by decide +kernel)) ff))) (jb_nil)) (jb_one (js_expr (je_append o (je_var 3 rfl (vf (by decide +kernel)) (by decide +kernel) (by decide +kernel)) (je_tup (ja_cons (je_callB o.min2 (gf (by decide +kernel)) T.n_min bt_min (ja_cons (je_var 6 rfl (vf (by decide +kernel)) (by decide +kernel) (by decide +kernel)) (ja_cons (je_var 7 rfl (vf (by decide +kernel)) (by decide +kernel) (by decide +kernel)) (ja_nil))) (by decide +kernel) (by decide +kernel)) (ja_cons (je_callB o.max2 (gf (by decide +kernel)) T.n_max bt_max (ja_cons (je_var 6 rfl (vf (by decide +kernel)) (by decide +kernel) (by decide +kernel)) (ja_cons (je_var 7 rfl (vf (by decide +kernel)) (by decide +kernel) (by decide +kernel)) (ja_nil))) (by decide +kernel) (by decide +kernel)) (ja_nil)))))))))) (jb_one (js_ret (je_callTy o.tuple (gf (by decide +kernel)) T.n_tuple bt_tuple (ja_cons (je_callB o.sorted (gf (by decide +kernel)) T.n_sorted bt_sorted (ja_cons (je_var 3 rfl (vf (by decide +kernel)) (by decide +kernel) (by decide +kernel)) (ja_nil)) (by decide +kernel) (by decide +kernel)) (ja_nil)) (by decide +kernel) (by decide +kernel)))))
theorem nd_is_int : (["value"] : List Str).Nodup := by decide +kernel
theorem fs_is_int : FnScope ["value"] ["value"] (defScope st_is_int) := ⟨rfl, rfl, rfl, nd_is_int, rfl, by decide +kernel, by decide +kernel⟩
theorem g_is_int (T : Tx K mg a G) : FnG P w K mg base G 1 a.is_int m_is_int := by
  obtain ⟨fd, F⟩ := T.f_is_int
  refine fnG_of (k := 0) F fs_is_int T.gk (fun _ _ _ _ _ _ us hl => match us, hl with | [_], _ => rfl) fun cdv A outer s H E o => ?_
  exact jb_one (js_ret (je_and (je_isiB o T.ib_int (je_var 0 rfl (vf (by decide +kernel)) (by decide +kernel) (by decide +kernel)) (gf (by decide +kernel)) T.n_isinstance bt_isinstance (by decide +kernel) (by decide +kernel) (gf (by decide +kernel)) T.n_int bt_int (by decide +kernel) (by decide +kernel)) (je_one (je_not (je_isiB o T.ib_bool (je_var 0 rfl (vf (by decide +kernel)) (by decide +kernel) (by decide +kernel)) (gf (by decide +kernel)) T.n_isinstance bt_isinstance (by decide +kernel) (by decide +kernel) (gf (by decide +kernel)) T.n_bool bt_bool (by decide +kernel) (by decide +kernel))))))
theorem nd_is_whole : (["value"] : List Str).Nodup := by decide +kernel
theorem fs_is_whole : FnScope ["value"] ["value"] (defScope st_is_whole) := ⟨rfl, rfl, rfl, nd_is_whole, rfl, by decide +kernel, by decide +kernel⟩
theorem g_is_whole (T : Tx K mg a G) : FnG P w K mg base G 2 a.is_whole m_is_whole := by
  obtain ⟨fd, F⟩ := T.f_is_whole
  refine fnG_of (k := 1) F fs_is_whole T.gk (fun _ _ _ _ _ _ us hl => match us, hl with | [_], _ => rfl) fun cdv A outer s H E o => ?_
  exact jb_one (js_ret (je_and (je_call o (g_is_int T) (by omega) (gf (by decide +kernel)) T.g_is_int T.k_is_int (ja_cons (je_var 0 rfl (vf (by decide +kernel)) (by decide +kernel) (by decide +kernel)) (ja_nil)) (by decide +kernel)) (je_one (jec2 o.lt o.lt (by rfl) (je_neg (je_gi (gf (by decide +kernel)) (by decide +kernel) T.c_GREAT)) (je_var 0 rfl (vf (by decide +kernel)) (by decide +kernel) (by decide +kernel)) (je_gi (gf (by decide +kernel)) (by decide +kernel) T.c_GREAT)))))
theorem nd_is_within : (["value", "low", "high"] : List Str).Nodup := by decide +kernel
theorem fs_is_within : FnScope ["value", "low", "high"] ["value", "low", "high"] (defScope st_is_within) := ⟨rfl, rfl, rfl, nd_is_within, rfl, by decide +kernel, by decide +kernel⟩
theorem g_is_within (T : Tx K mg a G) : FnG P w K mg base G 3 a.is_within m_is_within := by
  obtain ⟨fd, F⟩ := T.f_is_within
  refine fnG_of (k := 2) F fs_is_within T.gk (fun _ _ _ _ _ _ us hl => match us, hl with | [_, _, _], _ => rfl) fun cdv A outer s H E o => ?_
  exact jb_one (js_ret (je_and (je_call o (g_is_whole T) (by omega) (gf (by decide +kernel)) T.g_is_whole T.k_is_whole (ja_cons (je_var 0 rfl (vf (by decide +kernel)) (by decide +kernel) (by decide +kernel)) (ja_nil)) (by decide +kernel)) (je_one (jec2 o.le o.le (by rfl) (je_var 1 rfl (vf (by decide +kernel)) (by decide +kernel) (by decide +kernel)) (je_var 0 rfl (vf (by decide +kernel)) (by decide +kernel) (by decide +kernel)) (je_var 2 rfl (vf (by decide +kernel)) (by decide +kernel) (by decide +kernel))))))
theorem nd_require_size : (["size"] : List Str).Nodup := by decide +kernel
theorem fs_require_size : FnScope ["size"] ["size"] (defScope st_require_size) := ⟨rfl, rfl, rfl, nd_require_size, rfl, by decide +kernel, by decide +kernel⟩
theorem g_require_size (T : Tx K mg a G) : FnG P w K mg base G 4 a.require_size m_require_size := by
  obtain ⟨fd, F⟩ := T.f_require_size
  refine fnG_of (k := 3) F fs_require_size T.gk (fun _ _ _ _ _ _ us hl => match us, hl with | [_], _ => rfl) fun cdv A outer s H E o => ?_
  exact jb_one (js_if (jt_not (jt_val (je_call o (g_is_within T) (by omega) (gf (by decide +kernel)) T.g_is_within T.k_is_within (ja_cons (je_var 0 rfl (vf (by decide +kernel)) (by decide +kernel) (by decide +kernel)) (ja_cons (je_int) (ja_cons (je_gi (gf (by decide +kernel)) (by decide +kernel) T.c_MAX_PLACES) (ja_nil)))) (by decide +kernel)) (fun _ => rfl))) (jb_one (js_never)) (jb_nil))
theorem nd_are_ties : (["size", "value", "tie", "one", "other"] : List Str).Nodup := by decide +kernel
theorem fs_are_ties : FnScope ["size", "value", "tie", "one", "other"] ["size", "value"] (defScope st_are_ties) := ⟨rfl, rfl, rfl, nd_are_ties, rfl, by decide +kernel, by decide +kernel⟩
theorem g_are_ties (T : Tx K mg a G) : FnG P w K mg base G 4 a.are_ties m_are_ties := by
  obtain ⟨fd, F⟩ := T.f_are_ties
  refine fnG_of (k := 3) F fs_are_ties T.gk (fun _ _ _ _ _ _ us hl => match us, hl with | [_, _], _ => rfl) fun cdv A outer s H E o => ?_
  exact jb_cons (js_if (jt_w (jw_or (jt_not (jt_val (je_isiB o T.ib_tuple (je_var 1 rfl (vf (by decide +kernel)) (by decide +kernel) (by decide +kernel)) (gf (by decide +kernel)) T.n_isinstance bt_isinstance (by decide +kernel) (by decide +kernel) (gf (by decide +kernel)) T.n_tuple bt_tuple (by decide +kernel) (by decide +kernel)) (fun _ => rfl))) (jw_or1 (jtc o.gt (by rfl) (je_callB o.len (gf (by decide +kernel)) T.n_len bt_len (ja_cons (je_var 1 rfl (vf (by decide +kernel)) (by decide +kernel) (by decide +kernel)) (ja_nil)) (by decide +kernel) (by decide +kernel)) (je_gi (gf (by decide +kernel)) (by decide +kernel) T.c_MAX_TIES))))) (jb_one (js_ret (je_bl))) (jb_nil)) (jb_cons (js_if (jt_not (jt_val (je_callB o.all (gf (by decide +kernel)) T.n_all bt_all (ja_cons (je_comp o (own := [("tie", 2)]) (js := [2]) nd_are_ties (ji_of o (je_var 1 rfl (vf (by decide +kernel)) (by decide +kernel) (by decide +kernel))) (bf (by decide +kernel)) (fun _ _ _ _ _ => jg_name 2 nd_are_ties rfl (lb (by decide +kernel)) (fb (by decide +kernel))) (fun _ _ _ _ _ => jts_nil) (fun _ _ _ _ _ => je_and (je_isiB o.blk T.ib_tuple (je_var 2 rfl (vb (by decide +kernel)) (by decide +kernel) (by decide +kernel)) (gb (by decide +kernel)) T.n_isinstance bt_isinstance (by decide +kernel) (by decide +kernel) (gb (by decide +kernel)) T.n_tuple bt_tuple (by decide +kernel) (by decide +kernel)) (je_one (jec o.blk.eq (by rfl) (je_callB o.blk.len (gb (by decide +kernel)) T.n_len bt_len (ja_cons (je_var 2 rfl (vb (by decide +kernel)) (by decide +kernel) (by decide +kernel)) (ja_nil)) (by decide +kernel) (by decide +kernel)) (je_int)))) (by decide)) (ja_nil)) (by decide +kernel) (by decide +kernel)) (fun _ => rfl))) (jb_one (js_ret (je_bl))) (jb_nil)) (jb_cons (js_if (jt_not (jt_val (je_callB o.all (gf (by decide +kernel)) T.n_all bt_all (ja_cons (je_comp o (own := [("one", 3), ("other", 4)]) (js := [3, 4]) nd_are_ties (ji_of o (je_var 1 rfl (vf (by decide +kernel)) (by decide +kernel) (by decide +kernel))) (bf (by decide +kernel)) (fun _ _ _ _ _ => jg_tup o.blk.calm o.blk.gk 2 (jgs_cons (jg_name 3 nd_are_ties rfl (lb (by decide +kernel)) (fb (by decide +kernel))) (jgs_cons (jg_name 4 nd_are_ties rfl (lb (by decide +kernel)) (fb (by decide +kernel))) (jgs_nil))) (gMore_len (gMore_len (gEnd_len)))) (fun _ _ _ _ _ => jts_nil) (fun _ _ _ _ _ => je_and (je_call o.blk (g_is_within T) (by omega) (gb (by decide +kernel)) T.g_is_within T.k_is_within (ja_cons (je_var 3 rfl (vb (by decide +kernel)) (by decide +kernel) (by decide +kernel)) (ja_cons (je_int) (ja_cons (je_sub (je_var 0 rfl (vbf (by decide +kernel)) (by decide +kernel) (by decide +kernel)) (je_int)) (ja_nil)))) (by decide +kernel)) (je_one (je_call o.blk (g_is_within T) (by omega) (gb (by decide +kernel)) T.g_is_within T.k_is_within (ja_cons (je_var 4 rfl (vb (by decide +kernel)) (by decide +kernel) (by decide +kernel)) (ja_cons (je_var 3 rfl (vb (by decide +kernel)) (by decide +kernel) (by decide +kernel)) (ja_cons (je_sub (je_var 0 rfl (vbf (by decide +kernel)) (by decide +kernel) (by decide +kernel)) (je_int)) (ja_nil)))) (by decide +kernel)))) (by decide)) (ja_nil)) (by decide +kernel) (by decide +kernel)) (fun _ => rfl))) (jb_one (js_ret (je_bl))) (jb_nil)) (jb_one (js_ret (je_callB o.all (gf (by decide +kernel)) T.n_all bt_all (ja_cons (je_comp o (own := [("one", 3), ("other", 4)]) (js := [3, 4]) nd_are_ties (ji_zip o (gf (by decide +kernel)) T.n_zip (ja_cons (je_var 1 rfl (vf (by decide +kernel)) (by decide +kernel) (by decide +kernel)) (ja_cons (je_slice o (je_var 1 rfl (vf (by decide +kernel)) (by decide +kernel) (by decide +kernel)) (jo_some (je_int)) (jo_none)) (ja_nil)))) (bf (by decide +kernel)) (fun _ _ _ _ _ => jg_tup o.blk.calm o.blk.gk 2 (jgs_cons (jg_name 3 nd_are_ties rfl (lb (by decide +kernel)) (fb (by decide +kernel))) (jgs_cons (jg_name 4 nd_are_ties rfl (lb (by decide +kernel)) (fb (by decide +kernel))) (jgs_nil))) (gMore_len (gMore_len (gEnd_len)))) (fun _ _ _ _ _ => jts_nil) (fun _ _ _ _ _ => jec o.blk.le (by rfl) (je_var 3 rfl (vb (by decide +kernel)) (by decide +kernel) (by decide +kernel)) (je_var 4 rfl (vb (by decide +kernel)) (by decide +kernel) (by decide +kernel))) (by decide)) (ja_nil)) (by decide +kernel) (by decide +kernel))))))
theorem nd_Web_init : (["self", "size", "ties"] : List Str).Nodup := by decide +kernel
theorem fs_Web_init : FnScope ["self", "size", "ties"] ["self", "size", "ties"] (defScope st_Web_init) := ⟨rfl, rfl, rfl, nd_Web_init, rfl, by decide +kernel, by decide +kernel⟩
theorem g_Web_init (T : Tx K mg a G) : FnG P w K mg base G 5 a.Web_init m_Web_init := by
  obtain ⟨fd, F⟩ := T.f_Web_init
  refine fnG_of (k := 4) F fs_Web_init T.gk (fun _ _ _ _ _ _ us hl => match us, hl with | [_, _, _], _ => rfl) fun cdv A outer s H E o => ?_
  exact jb_cons (js_expr (je_call o (g_require_size T) (by omega) (gf (by decide +kernel)) T.g_require_size T.k_require_size (ja_cons (je_var 1 rfl (vf (by decide +kernel)) (by decide +kernel) (by decide +kernel)) (ja_nil)) (by decide +kernel))) (jb_cons (js_if (jt_not (jt_val (je_call o (g_are_ties T) (by omega) (gf (by decide +kernel)) T.g_are_ties T.k_are_ties (ja_cons (je_var 1 rfl (vf (by decide +kernel)) (by decide +kernel) (by decide +kernel)) (ja_cons (je_var 2 rfl (vf (by decide +kernel)) (by decide +kernel) (by decide +kernel)) (ja_nil))) (by decide +kernel)) (fun _ => rfl))) (jb_one (js_never)) (jb_nil)) (jb_one (js_flds o 2 (jgas_cons (jga_fld T.sc_Web T.sl_own_size (je_var 0 rfl (vf (by decide +kernel)) (by decide +kernel) (by decide +kernel))) (jgas_cons (jga_fld T.sc_Web T.sl_own_ties (je_var 0 rfl (vf (by decide +kernel)) (by decide +kernel) (by decide +kernel))) (jgas_nil))) (aMore_len (aMore_len (aEnd_len))) (je_tup (ja_cons (je_var 1 rfl (vf (by decide +kernel)) (by decide +kernel) (by decide +kernel)) (ja_cons (je_var 2 rfl (vf (by decide +kernel)) (by decide +kernel) (by decide +kernel)) (ja_nil)))))))
theorem nd_require_web : (["web"] : List Str).Nodup := by decide +kernel
theorem fs_require_web : FnScope ["web"] ["web"] (defScope st_require_web) := ⟨rfl, rfl, rfl, nd_require_web, rfl, by decide +kernel, by decide +kernel⟩
theorem g_require_web (T : Tx K mg a G) : FnG P w K mg base G 1 a.require_web m_require_web := by
  obtain ⟨fd, F⟩ := T.f_require_web
  refine fnG_of (k := 0) F fs_require_web T.gk (fun _ _ _ _ _ _ us hl => match us, hl with | [_], _ => rfl) fun cdv A outer s H E o => ?_
  exact jb_one (js_if (jt_not (jt_val (je_isiO o T.io_Web (je_var 0 rfl (vf (by decide +kernel)) (by decide +kernel) (by decide +kernel)) (gf (by decide +kernel)) T.n_isinstance bt_isinstance (by decide +kernel) (by decide +kernel) (gf (by decide +kernel)) T.g_Web (by decide +kernel)) (fun _ => rfl))) (jb_one (js_never)) (jb_nil))
theorem nd_lines_text : (["lines", "line"] : List Str).Nodup := by decide +kernel
theorem fs_lines_text : FnScope ["lines", "line"] ["lines"] (defScope st_lines_text) := ⟨rfl, rfl, rfl, nd_lines_text, rfl, by decide +kernel, by decide +kernel⟩
theorem g_lines_text (T : Tx K mg a G) : FnG P w K mg base G 1 a.lines_text m_lines_text := by
  obtain ⟨fd, F⟩ := T.f_lines_text
  refine fnG_of (k := 0) F fs_lines_text T.gk (fun _ _ _ _ _ _ us hl => match us, hl with | [_], _ => rfl) fun cdv A outer s H E o => ?_
  exact jb_one (js_ret (je_join o (je_str ⟨#[]⟩ (by decide +kernel)) (je_comp o (own := [("line", 1)]) (js := [1]) nd_lines_text (ji_of o (je_var 0 rfl (vf (by decide +kernel)) (by decide +kernel) (by decide +kernel))) (bf (by decide +kernel)) (fun _ _ _ _ _ => jg_name 1 nd_lines_text rfl (lb (by decide +kernel)) (fb (by decide +kernel))) (fun _ _ _ _ _ => jts_nil) (fun _ _ _ _ _ => je_joined (JJ.cons (je_fmt (je_var 1 rfl (vb (by decide +kernel)) (by decide +kernel) (by decide +kernel))) (JJ.cons (je_str ⟨#[10]⟩ (by decide +kernel)) (JJ.nil)))) (by decide))))
theorem nd_write_web : (["web", "one", "other"] : List Str).Nodup := by decide +kernel
theorem fs_write_web : FnScope ["web", "one", "other"] ["web"] (defScope st_write_web) := ⟨rfl, rfl, rfl, nd_write_web, rfl, by decide +kernel, by decide +kernel⟩
theorem g_write_web (T : Tx K mg a G) : FnG P w K mg base G 2 a.write_web m_write_web := by
  obtain ⟨fd, F⟩ := T.f_write_web
  refine fnG_of (k := 1) F fs_write_web T.gk (fun _ _ _ _ _ _ us hl => match us, hl with | [_], _ => rfl) fun cdv A outer s H E o => ?_
  exact jb_cons (js_expr (je_call o (g_require_web T) (by omega) (gf (by decide +kernel)) T.g_require_web T.k_require_web (ja_cons (je_var 0 rfl (vf (by decide +kernel)) (by decide +kernel) (by decide +kernel)) (ja_nil)) (by decide +kernel))) (jb_one (js_ret (je_call o (g_lines_text T) (by omega) (gf (by decide +kernel)) T.g_lines_text T.k_lines_text (ja_cons (je_lst (ja_cons (je_joined (JJ.cons (je_fmt (je_gs (gf (by decide +kernel)) (by decide +kernel) T.c_PLACES)) (JJ.cons (je_str ⟨#[32]⟩ (by decide +kernel)) (JJ.cons (je_fmt (je_fld o T.sc_Web T.sl_own_size (je_var 0 rfl (vf (by decide +kernel)) (by decide +kernel) (by decide +kernel)))) (JJ.nil))))) (ja_star o (je_comp o (own := [("one", 1), ("other", 2)]) (js := [1, 2]) nd_write_web (ji_of o (je_fld o T.sc_Web T.sl_own_ties (je_var 0 rfl (vf (by decide +kernel)) (by decide +kernel) (by decide +kernel)))) (bf (by decide +kernel)) (fun _ _ _ _ _ => jg_tup o.blk.calm o.blk.gk 2 (jgs_cons (jg_name 1 nd_write_web rfl (lb (by decide +kernel)) (fb (by decide +kernel))) (jgs_cons (jg_name 2 nd_write_web rfl (lb (by decide +kernel)) (fb (by decide +kernel))) (jgs_nil))) (gMore_len (gMore_len (gEnd_len)))) (fun _ _ _ _ _ => jts_nil) (fun _ _ _ _ _ => je_joined (JJ.cons (je_fmt (je_var 1 rfl (vb (by decide +kernel)) (by decide +kernel) (by decide +kernel))) (JJ.cons (je_str ⟨#[45]⟩ (by decide +kernel)) (JJ.cons (je_fmt (je_var 2 rfl (vb (by decide +kernel)) (by decide +kernel) (by decide +kernel))) (JJ.nil))))) (by decide)) (ja_nil)))) (ja_nil)) (by decide +kernel))))
theorem nd_require_text : (["text"] : List Str).Nodup := by decide +kernel
theorem fs_require_text : FnScope ["text"] ["text"] (defScope st_require_text) := ⟨rfl, rfl, rfl, nd_require_text, rfl, by decide +kernel, by decide +kernel⟩
theorem g_require_text (T : Tx K mg a G) : FnG P w K mg base G 1 a.require_text m_require_text := by
  obtain ⟨fd, F⟩ := T.f_require_text
  refine fnG_of (k := 0) F fs_require_text T.gk (fun _ _ _ _ _ _ us hl => match us, hl with | [_], _ => rfl) fun cdv A outer s H E o => ?_
  exact jb_one (js_if (jt_w (jw_or (jt_not (jt_val (je_isiB o T.ib_str (je_var 0 rfl (vf (by decide +kernel)) (by decide +kernel) (by decide +kernel)) (gf (by decide +kernel)) T.n_isinstance bt_isinstance (by decide +kernel) (by decide +kernel) (gf (by decide +kernel)) T.n_str bt_str (by decide +kernel) (by decide +kernel)) (fun _ => rfl))) (jw_or1 (jtc o.gt (by rfl) (je_callB o.len (gf (by decide +kernel)) T.n_len bt_len (ja_cons (je_var 0 rfl (vf (by decide +kernel)) (by decide +kernel) (by decide +kernel)) (ja_nil)) (by decide +kernel) (by decide +kernel)) (je_gi (gf (by decide +kernel)) (by decide +kernel) T.c_MAX_SIGNS))))) (jb_one (js_never)) (jb_nil))
theorem nd_whole_lines : (["text", "lines"] : List Str).Nodup := by decide +kernel
theorem fs_whole_lines : FnScope ["text", "lines"] ["text"] (defScope st_whole_lines) := ⟨rfl, rfl, rfl, nd_whole_lines, rfl, by decide +kernel, by decide +kernel⟩
theorem g_whole_lines (T : Tx K mg a G) : FnG P w K mg base G 1 a.whole_lines m_whole_lines := by
  obtain ⟨fd, F⟩ := T.f_whole_lines
  refine fnG_of (k := 0) F fs_whole_lines T.gk (fun _ _ _ _ _ _ us hl => match us, hl with | [_], _ => rfl) fun cdv A outer s H E o => ?_
  exact jb_cons (js_asg (je_split (je_var 0 rfl (vf (by decide +kernel)) (by decide +kernel) (by decide +kernel)) (je_str ⟨#[10]⟩ (by decide +kernel))) (jg_name 1 nd_whole_lines rfl (lf (by decide +kernel)) ff)) (jb_one (js_ret (je_tup (ja_cons (je_slice o (je_var 1 rfl (vf (by decide +kernel)) (by decide +kernel) (by decide +kernel)) (jo_none) (jo_some (je_neg (je_int)))) (ja_cons (je_ix o (je_var 1 rfl (vf (by decide +kernel)) (by decide +kernel) (by decide +kernel)) (je_neg (je_int)) (fun _ _ => rfl)) (ja_nil))))))
theorem nd_number_of : (["part", "sign"] : List Str).Nodup := by decide +kernel
theorem fs_number_of : FnScope ["part", "sign"] ["part"] (defScope st_number_of) := ⟨rfl, rfl, rfl, nd_number_of, rfl, by decide +kernel, by decide +kernel⟩
theorem g_number_of (T : Tx K mg a G) : FnG P w K mg base G 1 a.number_of m_number_of := by
  obtain ⟨fd, F⟩ := T.f_number_of
  refine fnG_of (k := 0) F fs_number_of T.gk (fun _ _ _ _ _ _ us hl => match us, hl with | [_], _ => rfl) fun cdv A outer s H E o => ?_
  exact jb_cons (js_if (jt_w (jw_or (jt_not (jtc2 o.le o.le (by rfl) (je_int) (je_callB o.len (gf (by decide +kernel)) T.n_len bt_len (ja_cons (je_var 0 rfl (vf (by decide +kernel)) (by decide +kernel) (by decide +kernel)) (ja_nil)) (by decide +kernel) (by decide +kernel)) (je_gi (gf (by decide +kernel)) (by decide +kernel) T.c_MOST_DIGITS))) (jw_or1 (jt_not (jt_val (je_callB o.all (gf (by decide +kernel)) T.n_all bt_all (ja_cons (je_comp o (own := [("sign", 1)]) (js := [1]) nd_number_of (ji_of o (je_var 0 rfl (vf (by decide +kernel)) (by decide +kernel) (by decide +kernel))) (bf (by decide +kernel)) (fun _ _ _ _ _ => jg_name 1 nd_number_of rfl (lb (by decide +kernel)) (fb (by decide +kernel))) (fun _ _ _ _ _ => jts_nil) (fun _ _ _ _ _ => jec o.blk.in_ (by rfl) (je_var 1 rfl (vb (by decide +kernel)) (by decide +kernel) (by decide +kernel)) (je_gs (gb (by decide +kernel)) (by decide +kernel) T.c_DIGITS)) (by decide)) (ja_nil)) (by decide +kernel) (by decide +kernel)) (fun _ => rfl)))))) (jb_one (js_ret (je_non))) (jb_nil)) (jb_one (js_ret (je_if (jt_w (jw_and (jtc o.eq (by rfl) (je_ix o (je_var 0 rfl (vf (by decide +kernel)) (by decide +kernel) (by decide +kernel)) (je_int) (fun _ _ => rfl)) (je_str ⟨#[48]⟩ (by decide +kernel))) (jw_and1 (jtc o.gt (by rfl) (je_callB o.len (gf (by decide +kernel)) T.n_len bt_len (ja_cons (je_var 0 rfl (vf (by decide +kernel)) (by decide +kernel) (by decide +kernel)) (ja_nil)) (by decide +kernel) (by decide +kernel)) (je_int))))) (je_non) (je_callTy cb_int (gf (by decide +kernel)) T.n_int bt_int (ja_cons (je_var 0 rfl (vf (by decide +kernel)) (by decide +kernel) (by decide +kernel)) (ja_nil)) (by decide +kernel) (by decide +kernel)))))
theorem nd_size_from : (["line", "parts", "size"] : List Str).Nodup := by decide +kernel
theorem fs_size_from : FnScope ["line", "parts", "size"] ["line"] (defScope st_size_from) := ⟨rfl, rfl, rfl, nd_size_from, rfl, by decide +kernel, by decide +kernel⟩
theorem g_size_from (T : Tx K mg a G) : FnG P w K mg base G 4 a.size_from m_size_from := by
  obtain ⟨fd, F⟩ := T.f_size_from
  refine fnG_of (k := 3) F fs_size_from T.gk (fun _ _ _ _ _ _ us hl => match us, hl with | [_], _ => rfl) fun cdv A outer s H E o => ?_
  exact jb_cons (js_asg (je_split (je_var 0 rfl (vf (by decide +kernel)) (by decide +kernel) (by decide +kernel)) (je_str ⟨#[32]⟩ (by decide +kernel))) (jg_name 1 nd_size_from rfl (lf (by decide +kernel)) ff)) (jb_cons (js_asg (je_if (jt_w (jw_and (jtc o.eq (by rfl) (je_callB o.len (gf (by decide +kernel)) T.n_len bt_len (ja_cons (je_var 1 rfl (vf (by decide +kernel)) (by decide +kernel) (by decide +kernel)) (ja_nil)) (by decide +kernel) (by decide +kernel)) (je_int)) (jw_and1 (jtc o.eq (by rfl) (je_ix o (je_var 1 rfl (vf (by decide +kernel)) (by decide +kernel) (by decide +kernel)) (je_int) (fun _ _ => rfl)) (je_gs (gf (by decide +kernel)) (by decide +kernel) T.c_PLACES))))) (je_call o (g_number_of T) (by omega) (gf (by decide +kernel)) T.g_number_of T.k_number_of (ja_cons (je_ix o (je_var 1 rfl (vf (by decide +kernel)) (by decide +kernel) (by decide +kernel)) (je_int) (fun _ _ => rfl)) (ja_nil)) (by decide +kernel)) (je_non)) (jg_name 2 nd_size_from rfl (lf (by decide +kernel)) ff)) (jb_one (js_ret (je_if (jt_w (jw_and (jtc o.isNot (by rfl) (je_var 2 rfl (vf (by decide +kernel)) (by decide +kernel) (by decide +kernel)) (je_non)) (jw_and1 (jt_val (je_call o (g_is_within T) (by omega) (gf (by decide +kernel)) T.g_is_within T.k_is_within (ja_cons (je_var 2 rfl (vf (by decide +kernel)) (by decide +kernel) (by decide +kernel)) (ja_cons (je_int) (ja_cons (je_gi (gf (by decide +kernel)) (by decide +kernel) T.c_MAX_PLACES) (ja_nil)))) (by decide +kernel)) (fun _ => rfl))))) (je_var 2 rfl (vf (by decide +kernel)) (by decide +kernel) (by decide +kernel)) (je_non)))))
theorem nd_numbers_of : (["parts", "found", "part"] : List Str).Nodup := by decide +kernel
theorem fs_numbers_of : FnScope ["parts", "found", "part"] ["parts"] (defScope st_numbers_of) := ⟨rfl, rfl, rfl, nd_numbers_of, rfl, by decide +kernel, by decide +kernel⟩
theorem g_numbers_of (T : Tx K mg a G) : FnG P w K mg base G 2 a.numbers_of m_numbers_of := by
  obtain ⟨fd, F⟩ := T.f_numbers_of
  refine fnG_of (k := 1) F fs_numbers_of T.gk (fun _ _ _ _ _ _ us hl => match us, hl with | [_], _ => rfl) fun cdv A outer s H E o => ?_
  exact jb_cons (js_asg (je_callTy o.tuple (gf (by decide +kernel)) T.n_tuple bt_tuple (ja_cons (je_comp o (own := [("part", 2)]) (js := [2]) nd_numbers_of (ji_of o (je_var 0 rfl (vf (by decide +kernel)) (by decide +kernel) (by decide +kernel))) (bf (by decide +kernel)) (fun _ _ _ _ _ => jg_name 2 nd_numbers_of rfl (lb (by decide +kernel)) (fb (by decide +kernel))) (fun _ _ _ _ _ => jts_nil) (fun _ _ _ _ _ => je_call o.blk (g_number_of T) (by omega) (gb (by decide +kernel)) T.g_number_of T.k_number_of (ja_cons (je_var 2 rfl (vb (by decide +kernel)) (by decide +kernel) (by decide +kernel)) (ja_nil)) (by decide +kernel)) (by decide)) (ja_nil)) (by decide +kernel) (by decide +kernel)) (jg_name 1 nd_numbers_of rfl (lf (by decide +kernel)) ff)) (jb_one (js_ret (je_if (jtc o.in_ (by rfl) (je_non) (je_var 1 rfl (vf (by decide +kernel)) (by decide +kernel) (by decide +kernel))) (je_non) (je_var 1 rfl (vf (by decide +kernel)) (by decide +kernel) (by decide +kernel)))))
theorem nd_tie_from : (["size", "line", "tie"] : List Str).Nodup := by decide +kernel
theorem fs_tie_from : FnScope ["size", "line", "tie"] ["size", "line"] (defScope st_tie_from) := ⟨rfl, rfl, rfl, nd_tie_from, rfl, by decide +kernel, by decide +kernel⟩
theorem g_tie_from (T : Tx K mg a G) : FnG P w K mg base G 3 a.tie_from m_tie_from := by
  obtain ⟨fd, F⟩ := T.f_tie_from
  refine fnG_of (k := 2) F fs_tie_from T.gk (fun _ _ _ _ _ _ us hl => match us, hl with | [_, _], _ => rfl) fun cdv A outer s H E o => ?_
  exact jb_cons (js_asg (je_call o (g_numbers_of T) (by omega) (gf (by decide +kernel)) T.g_numbers_of T.k_numbers_of (ja_cons (je_split (je_var 1 rfl (vf (by decide +kernel)) (by decide +kernel) (by decide +kernel)) (je_str ⟨#[45]⟩ (by decide +kernel))) (ja_nil)) (by decide +kernel)) (jg_name 2 nd_tie_from rfl (lf (by decide +kernel)) ff)) (jb_cons (js_if (jt_w (jw_or (jtc o.is (by rfl) (je_var 2 rfl (vf (by decide +kernel)) (by decide +kernel) (by decide +kernel)) (je_non)) (jw_or1 (jtc o.ne (by rfl) (je_callB o.len (gf (by decide +kernel)) T.n_len bt_len (ja_cons (je_var 2 rfl (vf (by decide +kernel)) (by decide +kernel) (by decide +kernel)) (ja_nil)) (by decide +kernel) (by decide +kernel)) (je_int))))) (jb_one (js_ret (je_non))) (jb_nil)) (jb_one (js_ret (je_if (jtc2 o.le o.lt (by rfl) (je_ix o (je_var 2 rfl (vf (by decide +kernel)) (by decide +kernel) (by decide +kernel)) (je_int) (fun _ _ => rfl)) (je_ix o (je_var 2 rfl (vf (by decide +kernel)) (by decide +kernel) (by decide +kernel)) (je_int) (fun _ _ => rfl)) (je_var 0 rfl (vf (by decide +kernel)) (by decide +kernel) (by decide +kernel))) (je_var 2 rfl (vf (by decide +kernel)) (by decide +kernel) (by decide +kernel)) (je_non)))))
theorem nd_read_web : (["text", "lines", "rest", "size", "found", "number", "line", "tie"] : List Str).Nodup := by decide +kernel
theorem fs_read_web : FnScope ["text", "lines", "rest", "size", "found", "number", "line", "tie"] ["text"] (defScope st_read_web) := ⟨rfl, rfl, rfl, nd_read_web, rfl, by decide +kernel, by decide +kernel⟩
theorem g_read_web (T : Tx K mg a G) : FnG P w K mg base G 7 a.read_web m_read_web := by
  obtain ⟨fd, F⟩ := T.f_read_web
  refine fnG_of (k := 6) F fs_read_web T.gk (fun _ _ _ _ _ _ us hl => match us, hl with | [_], _ => rfl) fun cdv A outer s H E o => ?_
  exact jb_cons (js_expr (je_call o (g_require_text T) (by omega) (gf (by decide +kernel)) T.g_require_text T.k_require_text (ja_cons (je_var 0 rfl (vf (by decide +kernel)) (by decide +kernel) (by decide +kernel)) (ja_nil)) (by decide +kernel))) (jb_cons (js_asg (je_call o (g_whole_lines T) (by omega) (gf (by decide +kernel)) T.g_whole_lines T.k_whole_lines (ja_cons (je_var 0 rfl (vf (by decide +kernel)) (by decide +kernel) (by decide +kernel)) (ja_nil)) (by decide +kernel)) (jg_tup o.calm o.gk 2 (jgs_cons (jg_name 1 nd_read_web rfl (lf (by decide +kernel)) ff) (jgs_cons (jg_name 2 nd_read_web rfl (lf (by decide +kernel)) ff) (jgs_nil))) (gMore_len (gMore_len (gEnd_len))))) (jb_cons (js_asg (je_if (jtc o.ne (by rfl) (je_var 1 rfl (vf (by decide +kernel)) (by decide +kernel) (by decide +kernel)) (je_lst (ja_nil))) (je_call o (g_size_from T) (by omega) (gf (by decide +kernel)) T.g_size_from T.k_size_from (ja_cons (je_ix o (je_var 1 rfl (vf (by decide +kernel)) (by decide +kernel) (by decide +kernel)) (je_int) (fun _ _ => rfl)) (ja_nil)) (by decide +kernel)) (je_non)) (jg_name 3 nd_read_web rfl (lf (by decide +kernel)) ff)) (jb_cons (js_if (jtc o.is (by rfl) (je_var 3 rfl (vf (by decide +kernel)) (by decide +kernel) (by decide +kernel)) (je_non)) (jb_one (js_never)) (jb_nil)) (jb_cons (js_asg (je_lstM (ja_nil)) (jg_name 4 nd_read_web rfl (lf (by decide +kernel)) ff)) (jb_cons (js_for o (ji_enum (gf (by decide +kernel)) T.n_enumerate (ja_cons (je_slice o (je_var 1 rfl (vf (by decide +kernel)) (by decide +kernel) (by decide +kernel)) (jo_some (je_int)) (jo_none)) (ja_nil))) (jg_tup o.calm o.gk 2 (jgs_cons (jg_name 5 nd_read_web rfl (lf (by decide +kernel)) ff) (jgs_cons (jg_name 6 nd_read_web rfl (lf (by decide +kernel)) ff) (jgs_nil))) (gMore_len (gMore_len (gEnd_len)))) (jb_cons (js_asg (je_call o (g_tie_from T) (by omega) (gf (by decide +kernel)) T.g_tie_from T.k_tie_from (ja_cons (je_var 3 rfl (vf (by decide +kernel)) (by decide +kernel) (by decide +kernel)) (ja_cons (je_var 6 rfl (vf (by decide +kernel)) (by decide +kernel) (by decide +kernel)) (ja_nil))) (by decide +kernel)) (jg_name 7 nd_read_web rfl (lf (by decide +kernel)) ff)) (jb_cons (js_if (jt_w (jw_or (jtc o.is (by rfl) (je_var 7 rfl (vf (by decide +kernel)) (by decide +kernel) (by decide +kernel)) (je_non)) (jw_or (jtc o.eq (by rfl) (je_callB o.len (gf (by decide +kernel)) T.n_len bt_len (ja_cons (je_var 4 rfl (vf (by decide +kernel)) (by decide +kernel) (by decide +kernel)) (ja_nil)) (by decide +kernel) (by decide +kernel)) (je_gi (gf (by decide +kernel)) (by decide +kernel) T.c_MAX_TIES)) (jw_or1 (jt_w (jw_and (jtc o.ne (by rfl) (je_var 4 rfl (vf (by decide +kernel)) (by decide +kernel) (by decide +kernel)) (je_lst (ja_nil))) (jw_and1 (jtc o.lt (by rfl) (je_var 7 rfl (vf (by decide +kernel)) (by decide +kernel) (by decide +kernel)) (je_ix o (je_var 4 rfl (vf (by decide +kernel)) (by decide +kernel) (by decide +kernel)) (je_neg (je_int)) (fun _ _ => rfl)))))))))) (jb_one (js_never)) (jb_nil)) (jb_one (js_expr (je_append o (je_var 4 rfl (vf (by decide +kernel)) (by decide +kernel) (by decide +kernel)) (je_var 7 rfl (vf (by decide +kernel)) (by decide +kernel) (by decide +kernel)))))))) (jb_cons (js_if (jtc o.ne (by rfl) (je_var 2 rfl (vf (by decide +kernel)) (by decide +kernel) (by decide +kernel)) (je_str ⟨#[]⟩ (by decide +kernel))) (jb_one (js_never)) (jb_nil)) (jb_one (js_ret (je_mk o T.mk_Web T.sc_Web.cls (g_Web_init T) (by omega) (gf (by decide +kernel)) T.g_Web (ja_cons (je_var 3 rfl (vf (by decide +kernel)) (by decide +kernel) (by decide +kernel)) (ja_cons (je_callTy o.tuple (gf (by decide +kernel)) T.n_tuple bt_tuple (ja_cons (je_var 4 rfl (vf (by decide +kernel)) (by decide +kernel) (by decide +kernel)) (ja_nil)) (by decide +kernel) (by decide +kernel)) (ja_nil))) (by decide +kernel))))))))))
theorem nd_Web_eq : (["self", "other"] : List Str).Nodup := by decide +kernel
theorem fs_Web_eq : FnScope ["self", "other"] ["self", "other"] (defScope st_Web_eq) := ⟨rfl, rfl, rfl, nd_Web_eq, rfl, by decide +kernel, by decide +kernel⟩
theorem g_Web_eq (T : Tx K mg a G) : FnG P w K mg base G 1 a.Web_eq m_Web_eq := by
  obtain ⟨fd, F⟩ := T.f_Web_eq
  refine fnG_of (k := 0) F fs_Web_eq T.gk (fun _ _ _ _ _ _ us hl => match us, hl with | [_, _], _ => rfl) fun cdv A outer s H E o => ?_
  exact jb_one (js_ret (je_and (je_isiO o T.io_Web (je_var 1 rfl (vf (by decide +kernel)) (by decide +kernel) (by decide +kernel)) (gf (by decide +kernel)) T.n_isinstance bt_isinstance (by decide +kernel) (by decide +kernel) (gf (by decide +kernel)) T.g_Web (by decide +kernel)) (je_one (jec o.eq (by rfl) (je_tup (ja_cons (je_fld o T.sc_Web T.sl_own_size (je_var 0 rfl (vf (by decide +kernel)) (by decide +kernel) (by decide +kernel))) (ja_cons (je_fld o T.sc_Web T.sl_own_ties (je_var 0 rfl (vf (by decide +kernel)) (by decide +kernel) (by decide +kernel))) (ja_nil)))) (je_tup (ja_cons (je_fld o T.sc_Web T.sl_own_size (je_var 1 rfl (vf (by decide +kernel)) (by decide +kernel) (by decide +kernel))) (ja_cons (je_fld o T.sc_Web T.sl_own_ties (je_var 1 rfl (vf (by decide +kernel)) (by decide +kernel) (by decide +kernel))) (ja_nil))))))))
theorem nd_Web_ties : (["self"] : List Str).Nodup := by decide +kernel
theorem fs_Web_ties : FnScope ["self"] ["self"] (defScope st_Web_ties) := ⟨rfl, rfl, rfl, nd_Web_ties, rfl, by decide +kernel, by decide +kernel⟩
theorem g_Web_ties (T : Tx K mg a G) : FnG P w K mg base G 1 a.Web_ties m_Web_ties := by
  obtain ⟨fd, F⟩ := T.f_Web_ties
  refine fnG_of (k := 0) F fs_Web_ties T.gk (fun _ _ _ _ _ _ us hl => match us, hl with | [_], _ => rfl) fun cdv A outer s H E o => ?_
  exact jb_one (js_ret (je_fld o T.sc_Web T.sl_own_ties (je_var 0 rfl (vf (by decide +kernel)) (by decide +kernel) (by decide +kernel))))
theorem nd_are_signs_in : (["web", "value", "one"] : List Str).Nodup := by decide +kernel
theorem fs_are_signs_in : FnScope ["web", "value", "one"] ["web", "value"] (defScope st_are_signs_in) := ⟨rfl, rfl, rfl, nd_are_signs_in, rfl, by decide +kernel, by decide +kernel⟩
theorem g_are_signs_in (T : Tx K mg a G) : FnG P w K mg base G 4 a.are_signs_in m_are_signs_in := by
  obtain ⟨fd, F⟩ := T.f_are_signs_in
  refine fnG_of (k := 3) F fs_are_signs_in T.gk (fun _ _ _ _ _ _ us hl => match us, hl with | [_, _], _ => rfl) fun cdv A outer s H E o => ?_
  exact jb_cons (js_if (jt_w (jw_or (jt_not (jt_val (je_isiB o T.ib_tuple (je_var 1 rfl (vf (by decide +kernel)) (by decide +kernel) (by decide +kernel)) (gf (by decide +kernel)) T.n_isinstance bt_isinstance (by decide +kernel) (by decide +kernel) (gf (by decide +kernel)) T.n_tuple bt_tuple (by decide +kernel) (by decide +kernel)) (fun _ => rfl))) (jw_or1 (jtc o.ne (by rfl) (je_callB o.len (gf (by decide +kernel)) T.n_len bt_len (ja_cons (je_var 1 rfl (vf (by decide +kernel)) (by decide +kernel) (by decide +kernel)) (ja_nil)) (by decide +kernel) (by decide +kernel)) (je_callB o.len (gf (by decide +kernel)) T.n_len bt_len (ja_cons (je_fld o T.sc_Web T.sl_own_ties (je_var 0 rfl (vf (by decide +kernel)) (by decide +kernel) (by decide +kernel))) (ja_nil)) (by decide +kernel) (by decide +kernel)))))) (jb_one (js_ret (je_bl))) (jb_nil)) (jb_one (js_ret (je_callB o.all (gf (by decide +kernel)) T.n_all bt_all (ja_cons (je_comp o (own := [("one", 2)]) (js := [2]) nd_are_signs_in (ji_of o (je_var 1 rfl (vf (by decide +kernel)) (by decide +kernel) (by decide +kernel))) (bf (by decide +kernel)) (fun _ _ _ _ _ => jg_name 2 nd_are_signs_in rfl (lb (by decide +kernel)) (fb (by decide +kernel))) (fun _ _ _ _ _ => jts_nil) (fun _ _ _ _ _ => je_and (je_call o.blk (g_is_within T) (by omega) (gb (by decide +kernel)) T.g_is_within T.k_is_within (ja_cons (je_var 2 rfl (vb (by decide +kernel)) (by decide +kernel) (by decide +kernel)) (ja_cons (je_neg (je_int)) (ja_cons (je_int) (ja_nil)))) (by decide +kernel)) (je_one (jec o.blk.ne (by rfl) (je_var 2 rfl (vb (by decide +kernel)) (by decide +kernel) (by decide +kernel)) (je_int)))) (by decide)) (ja_nil)) (by decide +kernel) (by decide +kernel))))
theorem nd_require_signs : (["web", "signs"] : List Str).Nodup := by decide +kernel
theorem fs_require_signs : FnScope ["web", "signs"] ["web", "signs"] (defScope st_require_signs) := ⟨rfl, rfl, rfl, nd_require_signs, rfl, by decide +kernel, by decide +kernel⟩
theorem g_require_signs (T : Tx K mg a G) : FnG P w K mg base G 5 a.require_signs m_require_signs := by
  obtain ⟨fd, F⟩ := T.f_require_signs
  refine fnG_of (k := 4) F fs_require_signs T.gk (fun _ _ _ _ _ _ us hl => match us, hl with | [_, _], _ => rfl) fun cdv A outer s H E o => ?_
  exact jb_cons (js_expr (je_call o (g_require_web T) (by omega) (gf (by decide +kernel)) T.g_require_web T.k_require_web (ja_cons (je_var 0 rfl (vf (by decide +kernel)) (by decide +kernel) (by decide +kernel)) (ja_nil)) (by decide +kernel))) (jb_one (js_if (jt_not (jt_val (je_call o (g_are_signs_in T) (by omega) (gf (by decide +kernel)) T.g_are_signs_in T.k_are_signs_in (ja_cons (je_var 0 rfl (vf (by decide +kernel)) (by decide +kernel) (by decide +kernel)) (ja_cons (je_var 1 rfl (vf (by decide +kernel)) (by decide +kernel) (by decide +kernel)) (ja_nil))) (by decide +kernel)) (fun _ => rfl))) (jb_one (js_never)) (jb_nil)))
theorem nd_write_signs : (["web", "signs", "sign"] : List Str).Nodup := by decide +kernel
theorem fs_write_signs : FnScope ["web", "signs", "sign"] ["web", "signs"] (defScope st_write_signs) := ⟨rfl, rfl, rfl, nd_write_signs, rfl, by decide +kernel, by decide +kernel⟩
theorem g_write_signs (T : Tx K mg a G) : FnG P w K mg base G 6 a.write_signs m_write_signs := by
  obtain ⟨fd, F⟩ := T.f_write_signs
  refine fnG_of (k := 5) F fs_write_signs T.gk (fun _ _ _ _ _ _ us hl => match us, hl with | [_, _], _ => rfl) fun cdv A outer s H E o => ?_
  exact jb_cons (js_expr (je_call o (g_require_signs T) (by omega) (gf (by decide +kernel)) T.g_require_signs T.k_require_signs (ja_cons (je_var 0 rfl (vf (by decide +kernel)) (by decide +kernel) (by decide +kernel)) (ja_cons (je_var 1 rfl (vf (by decide +kernel)) (by decide +kernel) (by decide +kernel)) (ja_nil))) (by decide +kernel))) (jb_one (js_ret (je_call o (g_lines_text T) (by omega) (gf (by decide +kernel)) T.g_lines_text T.k_lines_text (ja_cons (je_lst (ja_cons (je_join o (je_str ⟨#[]⟩ (by decide +kernel)) (je_comp o (own := [("sign", 2)]) (js := [2]) nd_write_signs (ji_of o (je_var 1 rfl (vf (by decide +kernel)) (by decide +kernel) (by decide +kernel))) (bf (by decide +kernel)) (fun _ _ _ _ _ => jg_name 2 nd_write_signs rfl (lb (by decide +kernel)) (fb (by decide +kernel))) (fun _ _ _ _ _ => jts_nil) (fun _ _ _ _ _ => je_if (jtc o.blk.eq (by rfl) (je_var 2 rfl (vb (by decide +kernel)) (by decide +kernel) (by decide +kernel)) (je_int)) (je_gs (gb (by decide +kernel)) (by decide +kernel) T.c_ALONG) (je_gs (gb (by decide +kernel)) (by decide +kernel) T.c_AGAINST)) (by decide))) (ja_nil))) (ja_nil)) (by decide +kernel))))
theorem nd_alone_line : (["text", "lines", "rest"] : List Str).Nodup := by decide +kernel
theorem fs_alone_line : FnScope ["text", "lines", "rest"] ["text"] (defScope st_alone_line) := ⟨rfl, rfl, rfl, nd_alone_line, rfl, by decide +kernel, by decide +kernel⟩
theorem g_alone_line (T : Tx K mg a G) : FnG P w K mg base G 2 a.alone_line m_alone_line := by
  obtain ⟨fd, F⟩ := T.f_alone_line
  refine fnG_of (k := 1) F fs_alone_line T.gk (fun _ _ _ _ _ _ us hl => match us, hl with | [_], _ => rfl) fun cdv A outer s H E o => ?_
  exact jb_cons (js_asg (je_call o (g_whole_lines T) (by omega) (gf (by decide +kernel)) T.g_whole_lines T.k_whole_lines (ja_cons (je_var 0 rfl (vf (by decide +kernel)) (by decide +kernel) (by decide +kernel)) (ja_nil)) (by decide +kernel)) (jg_tup o.calm o.gk 2 (jgs_cons (jg_name 1 nd_alone_line rfl (lf (by decide +kernel)) ff) (jgs_cons (jg_name 2 nd_alone_line rfl (lf (by decide +kernel)) ff) (jgs_nil))) (gMore_len (gMore_len (gEnd_len))))) (jb_cons (js_if (jtc o.eq (by rfl) (je_var 1 rfl (vf (by decide +kernel)) (by decide +kernel) (by decide +kernel)) (je_lst (ja_nil))) (jb_one (js_never)) (jb_nil)) (jb_cons (js_if (jt_w (jw_or (jtc o.gt (by rfl) (je_callB o.len (gf (by decide +kernel)) T.n_len bt_len (ja_cons (je_var 1 rfl (vf (by decide +kernel)) (by decide +kernel) (by decide +kernel)) (ja_nil)) (by decide +kernel) (by decide +kernel)) (je_int)) (jw_or1 (jtc o.ne (by rfl) (je_var 2 rfl (vf (by decide +kernel)) (by decide +kernel) (by decide +kernel)) (je_str ⟨#[]⟩ (by decide +kernel)))))) (jb_one (js_ret (je_tup (ja_cons (je_ix o (je_var 1 rfl (vf (by decide +kernel)) (by decide +kernel) (by decide +kernel)) (je_int) (fun _ _ => rfl)) (ja_cons (je_int) (ja_nil)))))) (jb_nil)) (jb_one (js_ret (je_tup (ja_cons (je_ix o (je_var 1 rfl (vf (by decide +kernel)) (by decide +kernel) (by decide +kernel)) (je_int) (fun _ _ => rfl)) (ja_cons (je_non) (ja_nil))))))))
theorem nd_read_signs : (["web", "text", "line", "spot", "sign"] : List Str).Nodup := by decide +kernel
theorem fs_read_signs : FnScope ["web", "text", "line", "spot", "sign"] ["web", "text"] (defScope st_read_signs) := ⟨rfl, rfl, rfl, nd_read_signs, rfl, by decide +kernel, by decide +kernel⟩
theorem g_read_signs (T : Tx K mg a G) : FnG P w K mg base G 3 a.read_signs m_read_signs := by
  obtain ⟨fd, F⟩ := T.f_read_signs
  refine fnG_of (k := 2) F fs_read_signs T.gk (fun _ _ _ _ _ _ us hl => match us, hl with | [_, _], _ => rfl) fun cdv A outer s H E o => ?_
  exact jb_cons (js_expr (je_call o (g_require_web T) (by omega) (gf (by decide +kernel)) T.g_require_web T.k_require_web (ja_cons (je_var 0 rfl (vf (by decide +kernel)) (by decide +kernel) (by decide +kernel)) (ja_nil)) (by decide +kernel))) (jb_cons (js_expr (je_call o (g_require_text T) (by omega) (gf (by decide +kernel)) T.g_require_text T.k_require_text (ja_cons (je_var 1 rfl (vf (by decide +kernel)) (by decide +kernel) (by decide +kernel)) (ja_nil)) (by decide +kernel))) (jb_cons (js_asg (je_call o (g_alone_line T) (by omega) (gf (by decide +kernel)) T.g_alone_line T.k_alone_line (ja_cons (je_var 1 rfl (vf (by decide +kernel)) (by decide +kernel) (by decide +kernel)) (ja_nil)) (by decide +kernel)) (jg_tup o.calm o.gk 2 (jgs_cons (jg_name 2 nd_read_signs rfl (lf (by decide +kernel)) ff) (jgs_cons (jg_name 3 nd_read_signs rfl (lf (by decide +kernel)) ff) (jgs_nil))) (gMore_len (gMore_len (gEnd_len))))) (jb_cons (js_if (jt_w (jw_or (jtc o.ne (by rfl) (je_callB o.len (gf (by decide +kernel)) T.n_len bt_len (ja_cons (je_var 2 rfl (vf (by decide +kernel)) (by decide +kernel) (by decide +kernel)) (ja_nil)) (by decide +kernel) (by decide +kernel)) (je_callB o.len (gf (by decide +kernel)) T.n_len bt_len (ja_cons (je_fld o T.sc_Web T.sl_own_ties (je_var 0 rfl (vf (by decide +kernel)) (by decide +kernel) (by decide +kernel))) (ja_nil)) (by decide +kernel) (by decide +kernel))) (jw_or1 (jt_not (jt_val (je_callB o.all (gf (by decide +kernel)) T.n_all bt_all (ja_cons (je_comp o (own := [("sign", 4)]) (js := [4]) nd_read_signs (ji_of o (je_var 2 rfl (vf (by decide +kernel)) (by decide +kernel) (by decide +kernel))) (bf (by decide +kernel)) (fun _ _ _ _ _ => jg_name 4 nd_read_signs rfl (lb (by decide +kernel)) (fb (by decide +kernel))) (fun _ _ _ _ _ => jts_nil) (fun _ _ _ _ _ => jec o.blk.in_ (by rfl) (je_var 4 rfl (vb (by decide +kernel)) (by decide +kernel) (by decide +kernel)) (je_tup (ja_cons (je_gs (gb (by decide +kernel)) (by decide +kernel) T.c_ALONG) (ja_cons (je_gs (gb (by decide +kernel)) (by decide +kernel) T.c_AGAINST) (ja_nil))))) (by decide)) (ja_nil)) (by decide +kernel) (by decide +kernel)) (fun _ => rfl)))))) (jb_one (js_never)) (jb_nil)) (jb_cons (js_if (jtc o.isNot (by rfl) (je_var 3 rfl (vf (by decide +kernel)) (by decide +kernel) (by decide +kernel)) (je_non)) (jb_one (js_never)) (jb_nil)) (jb_one (js_ret (je_callTy o.tuple (gf (by decide +kernel)) T.n_tuple bt_tuple (ja_cons (je_comp o (own := [("sign", 4)]) (js := [4]) nd_read_signs (ji_of o (je_var 2 rfl (vf (by decide +kernel)) (by decide +kernel) (by decide +kernel))) (bf (by decide +kernel)) (fun _ _ _ _ _ => jg_name 4 nd_read_signs rfl (lb (by decide +kernel)) (fb (by decide +kernel))) (fun _ _ _ _ _ => jts_nil) (fun _ _ _ _ _ => je_if (jtc o.blk.eq (by rfl) (je_var 4 rfl (vb (by decide +kernel)) (by decide +kernel) (by decide +kernel)) (je_gs (gb (by decide +kernel)) (by decide +kernel) T.c_ALONG)) (je_int) (je_neg (je_int))) (by decide)) (ja_nil)) (by decide +kernel) (by decide +kernel))))))))
theorem nd_are_hues_in : (["web", "value", "one"] : List Str).Nodup := by decide +kernel
theorem fs_are_hues_in : FnScope ["web", "value", "one"] ["web", "value"] (defScope st_are_hues_in) := ⟨rfl, rfl, rfl, nd_are_hues_in, rfl, by decide +kernel, by decide +kernel⟩
theorem g_are_hues_in (T : Tx K mg a G) : FnG P w K mg base G 4 a.are_hues_in m_are_hues_in := by
  obtain ⟨fd, F⟩ := T.f_are_hues_in
  refine fnG_of (k := 3) F fs_are_hues_in T.gk (fun _ _ _ _ _ _ us hl => match us, hl with | [_, _], _ => rfl) fun cdv A outer s H E o => ?_
  exact jb_cons (js_if (jt_w (jw_or (jt_not (jt_val (je_isiB o T.ib_tuple (je_var 1 rfl (vf (by decide +kernel)) (by decide +kernel) (by decide +kernel)) (gf (by decide +kernel)) T.n_isinstance bt_isinstance (by decide +kernel) (by decide +kernel) (gf (by decide +kernel)) T.n_tuple bt_tuple (by decide +kernel) (by decide +kernel)) (fun _ => rfl))) (jw_or1 (jtc o.ne (by rfl) (je_callB o.len (gf (by decide +kernel)) T.n_len bt_len (ja_cons (je_var 1 rfl (vf (by decide +kernel)) (by decide +kernel) (by decide +kernel)) (ja_nil)) (by decide +kernel) (by decide +kernel)) (je_fld o T.sc_Web T.sl_own_size (je_var 0 rfl (vf (by decide +kernel)) (by decide +kernel) (by decide +kernel))))))) (jb_one (js_ret (je_bl))) (jb_nil)) (jb_one (js_ret (je_callB o.all (gf (by decide +kernel)) T.n_all bt_all (ja_cons (je_comp o (own := [("one", 2)]) (js := [2]) nd_are_hues_in (ji_of o (je_var 1 rfl (vf (by decide +kernel)) (by decide +kernel) (by decide +kernel))) (bf (by decide +kernel)) (fun _ _ _ _ _ => jg_name 2 nd_are_hues_in rfl (lb (by decide +kernel)) (fb (by decide +kernel))) (fun _ _ _ _ _ => jts_nil) (fun _ _ _ _ _ => je_call o.blk (g_is_within T) (by omega) (gb (by decide +kernel)) T.g_is_within T.k_is_within (ja_cons (je_var 2 rfl (vb (by decide +kernel)) (by decide +kernel) (by decide +kernel)) (ja_cons (je_int) (ja_cons (je_gi (gb (by decide +kernel)) (by decide +kernel) T.c_MAX_HUE) (ja_nil)))) (by decide +kernel)) (by decide)) (ja_nil)) (by decide +kernel) (by decide +kernel))))
theorem nd_write_hues : (["web", "row", "hue"] : List Str).Nodup := by decide +kernel
theorem fs_write_hues : FnScope ["web", "row", "hue"] ["web", "row"] (defScope st_write_hues) := ⟨rfl, rfl, rfl, nd_write_hues, rfl, by decide +kernel, by decide +kernel⟩
theorem g_write_hues (T : Tx K mg a G) : FnG P w K mg base G 5 a.write_hues m_write_hues := by
  obtain ⟨fd, F⟩ := T.f_write_hues
  refine fnG_of (k := 4) F fs_write_hues T.gk (fun _ _ _ _ _ _ us hl => match us, hl with | [_, _], _ => rfl) fun cdv A outer s H E o => ?_
  exact jb_cons (js_expr (je_call o (g_require_web T) (by omega) (gf (by decide +kernel)) T.g_require_web T.k_require_web (ja_cons (je_var 0 rfl (vf (by decide +kernel)) (by decide +kernel) (by decide +kernel)) (ja_nil)) (by decide +kernel))) (jb_cons (js_if (jt_not (jt_val (je_call o (g_are_hues_in T) (by omega) (gf (by decide +kernel)) T.g_are_hues_in T.k_are_hues_in (ja_cons (je_var 0 rfl (vf (by decide +kernel)) (by decide +kernel) (by decide +kernel)) (ja_cons (je_var 1 rfl (vf (by decide +kernel)) (by decide +kernel) (by decide +kernel)) (ja_nil))) (by decide +kernel)) (fun _ => rfl))) (jb_one (js_never)) (jb_nil)) (jb_one (js_ret (je_call o (g_lines_text T) (by omega) (gf (by decide +kernel)) T.g_lines_text T.k_lines_text (ja_cons (je_lst (ja_cons (je_join o (je_str ⟨#[32]⟩ (by decide +kernel)) (je_lst (ja_cons (je_gs (gf (by decide +kernel)) (by decide +kernel) T.c_HUES) (ja_star o (je_comp o (own := [("hue", 2)]) (js := [2]) nd_write_hues (ji_of o (je_var 1 rfl (vf (by decide +kernel)) (by decide +kernel) (by decide +kernel))) (bf (by decide +kernel)) (fun _ _ _ _ _ => jg_name 2 nd_write_hues rfl (lb (by decide +kernel)) (fb (by decide +kernel))) (fun _ _ _ _ _ => jts_nil) (fun _ _ _ _ _ => je_callTy cb_str (gb (by decide +kernel)) T.n_str bt_str (ja_cons (je_var 2 rfl (vb (by decide +kernel)) (by decide +kernel) (by decide +kernel)) (ja_nil)) (by decide +kernel) (by decide +kernel)) (by decide)) (ja_nil))))) (ja_nil))) (ja_nil)) (by decide +kernel)))))
theorem nd_read_hues : (["web", "text", "line", "spot", "parts", "row"] : List Str).Nodup := by decide +kernel
theorem fs_read_hues : FnScope ["web", "text", "line", "spot", "parts", "row"] ["web", "text"] (defScope st_read_hues) := ⟨rfl, rfl, rfl, nd_read_hues, rfl, by decide +kernel, by decide +kernel⟩
theorem g_read_hues (T : Tx K mg a G) : FnG P w K mg base G 5 a.read_hues m_read_hues := by
  obtain ⟨fd, F⟩ := T.f_read_hues
  refine fnG_of (k := 4) F fs_read_hues T.gk (fun _ _ _ _ _ _ us hl => match us, hl with | [_, _], _ => rfl) fun cdv A outer s H E o => ?_
  exact jb_cons (js_expr (je_call o (g_require_web T) (by omega) (gf (by decide +kernel)) T.g_require_web T.k_require_web (ja_cons (je_var 0 rfl (vf (by decide +kernel)) (by decide +kernel) (by decide +kernel)) (ja_nil)) (by decide +kernel))) (jb_cons (js_expr (je_call o (g_require_text T) (by omega) (gf (by decide +kernel)) T.g_require_text T.k_require_text (ja_cons (je_var 1 rfl (vf (by decide +kernel)) (by decide +kernel) (by decide +kernel)) (ja_nil)) (by decide +kernel))) (jb_cons (js_asg (je_call o (g_alone_line T) (by omega) (gf (by decide +kernel)) T.g_alone_line T.k_alone_line (ja_cons (je_var 1 rfl (vf (by decide +kernel)) (by decide +kernel) (by decide +kernel)) (ja_nil)) (by decide +kernel)) (jg_tup o.calm o.gk 2 (jgs_cons (jg_name 2 nd_read_hues rfl (lf (by decide +kernel)) ff) (jgs_cons (jg_name 3 nd_read_hues rfl (lf (by decide +kernel)) ff) (jgs_nil))) (gMore_len (gMore_len (gEnd_len))))) (jb_cons (js_asg (je_split (je_var 2 rfl (vf (by decide +kernel)) (by decide +kernel) (by decide +kernel)) (je_str ⟨#[32]⟩ (by decide +kernel))) (jg_name 4 nd_read_hues rfl (lf (by decide +kernel)) ff)) (jb_cons (js_asg (je_if (jtc o.eq (by rfl) (je_ix o (je_var 4 rfl (vf (by decide +kernel)) (by decide +kernel) (by decide +kernel)) (je_int) (fun _ _ => rfl)) (je_gs (gf (by decide +kernel)) (by decide +kernel) T.c_HUES)) (je_call o (g_numbers_of T) (by omega) (gf (by decide +kernel)) T.g_numbers_of T.k_numbers_of (ja_cons (je_slice o (je_var 4 rfl (vf (by decide +kernel)) (by decide +kernel) (by decide +kernel)) (jo_some (je_int)) (jo_none)) (ja_nil)) (by decide +kernel)) (je_non)) (jg_name 5 nd_read_hues rfl (lf (by decide +kernel)) ff)) (jb_cons (js_if (jt_w (jw_or (jtc o.is (by rfl) (je_var 5 rfl (vf (by decide +kernel)) (by decide +kernel) (by decide +kernel)) (je_non)) (jw_or1 (jt_not (jt_val (je_call o (g_are_hues_in T) (by omega) (gf (by decide +kernel)) T.g_are_hues_in T.k_are_hues_in (ja_cons (je_var 0 rfl (vf (by decide +kernel)) (by decide +kernel) (by decide +kernel)) (ja_cons (je_var 5 rfl (vf (by decide +kernel)) (by decide +kernel) (by decide +kernel)) (ja_nil))) (by decide +kernel)) (fun _ => rfl)))))) (jb_one (js_never)) (jb_nil)) (jb_cons (js_if (jtc o.isNot (by rfl) (je_var 3 rfl (vf (by decide +kernel)) (by decide +kernel) (by decide +kernel)) (je_non)) (jb_one (js_never)) (jb_nil)) (jb_one (js_ret (je_var 5 rfl (vf (by decide +kernel)) (by decide +kernel) (by decide +kernel))))))))))
theorem nd_law_right : (["bag", "size", "ties", "web", "signs", "row", "text", "tie", "place", "one", "other", "sign", "hue"] : List Str).Nodup := by decide +kernel
theorem fs_law_right : FnScope ["bag", "size", "ties", "web", "signs", "row", "text", "tie", "place", "one", "other", "sign", "hue"] ["bag"] (defScope st_law_right) := ⟨rfl, rfl, rfl, nd_law_right, rfl, by decide +kernel, by decide +kernel⟩
theorem g_law_right (T : Tx K mg a G) : FnG P w K mg base G 8 a.law_right m_law_right := by
  obtain ⟨fd, F⟩ := T.f_law_right
  refine fnG_of (k := 7) F fs_law_right T.gk (fun _ _ _ _ _ _ us hl => match us, hl with | [_], _ => rfl) fun cdv A outer s H E o => ?_
  exact jb_cons (js_asg (je_add o (je_int) (je_call o (g_law_draw T) (by omega) (gf (by decide +kernel)) T.g_law_draw T.k_law_draw (ja_cons (je_var 0 rfl (vfc (by decide +kernel)) (by decide +kernel) (by decide +kernel)) (ja_cons (je_int) (ja_nil))) (by decide +kernel))) (jg_name 1 nd_law_right rfl (lf (by decide +kernel)) ff)) (jb_cons (js_asg (je_call o (g_law_ties T) (by omega) (gf (by decide +kernel)) T.g_law_ties T.k_law_ties (ja_cons (je_var 0 rfl (vfc (by decide +kernel)) (by decide +kernel) (by decide +kernel)) (ja_cons (je_var 1 rfl (vf (by decide +kernel)) (by decide +kernel) (by decide +kernel)) (ja_cons (je_int) (ja_nil)))) (by decide +kernel)) (jg_name 2 nd_law_right rfl (lf (by decide +kernel)) ff)) (jb_cons (js_par o (i := 3) (j := 4) nd_law_right rfl rfl (by decide) (qf (by decide +kernel)) (qf (by decide +kernel)) (ja_cons (je_mk o T.mk_Web T.sc_Web.cls (g_Web_init T) (by omega) (gf (by decide +kernel)) T.g_Web (ja_cons (je_var 1 rfl (vf (by decide +kernel)) (by decide +kernel) (by decide +kernel)) (ja_cons (je_var 2 rfl (vf (by decide +kernel)) (by decide +kernel) (by decide +kernel)) (ja_nil))) (by decide +kernel)) (ja_cons (je_callTy o.tuple (gf (by decide +kernel)) T.n_tuple bt_tuple (ja_cons (je_comp o (own := [("tie", 7)]) (js := [7]) nd_law_right (ji_of o (je_var 2 rfl (vf (by decide +kernel)) (by decide +kernel) (by decide +kernel))) (bf (by decide +kernel)) (fun _ _ _ _ _ => jg_name 7 nd_law_right rfl (lb (by decide +kernel)) (fb (by decide +kernel))) (fun _ _ _ _ _ => jts_nil) (fun _ _ _ _ _ => je_call o.blk (g_law_one_of T) (by omega) (gb (by decide +kernel)) T.g_law_one_of T.k_law_one_of (ja_cons (je_var 0 rfl (vbf (by decide +kernel)) (by decide +kernel) (by decide +kernel)) (ja_cons (je_lst (ja_cons (je_int) (ja_cons (je_neg (je_int)) (ja_nil)))) (ja_nil))) (by decide +kernel)) (by decide)) (ja_nil)) (by decide +kernel) (by decide +kernel)) ja_nil)) (by rfl)) (jb_cons (js_asg (je_callTy o.tuple (gf (by decide +kernel)) T.n_tuple bt_tuple (ja_cons (je_comp o (own := [("place", 8)]) (js := [8]) nd_law_right (ji_range1 (gf (by decide +kernel)) T.n_range (ja_cons (je_var 1 rfl (vf (by decide +kernel)) (by decide +kernel) (by decide +kernel)) (ja_nil))) (bf (by decide +kernel)) (fun _ _ _ _ _ => jg_name 8 nd_law_right rfl (lb (by decide +kernel)) (fb (by decide +kernel))) (fun _ _ _ _ _ => jts_nil) (fun _ _ _ _ _ => je_call o.blk (g_law_draw T) (by omega) (gb (by decide +kernel)) T.g_law_draw T.k_law_draw (ja_cons (je_var 0 rfl (vbf (by decide +kernel)) (by decide +kernel) (by decide +kernel)) (ja_cons (je_int) (ja_nil))) (by decide +kernel)) (by decide)) (ja_nil)) (by decide +kernel) (by decide +kernel)) (jg_name 5 nd_law_right rfl (lf (by decide +kernel)) ff)) (jb_cons (js_asg (je_add o (je_add o (je_add o (je_str ⟨#[112, 108, 97, 99, 101, 115, 32]⟩ (by decide +kernel)) (je_callTy cb_str (gf (by decide +kernel)) T.n_str bt_str (ja_cons (je_var 1 rfl (vf (by decide +kernel)) (by decide +kernel) (by decide +kernel)) (ja_nil)) (by decide +kernel) (by decide +kernel))) (je_str ⟨#[10]⟩ (by decide +kernel))) (je_join o (je_str ⟨#[]⟩ (by decide +kernel)) (je_comp o (own := [("one", 9), ("other", 10)]) (js := [9, 10]) nd_law_right (ji_of o (je_var 2 rfl (vf (by decide +kernel)) (by decide +kernel) (by decide +kernel))) (bf (by decide +kernel)) (fun _ _ _ _ _ => jg_tup o.blk.calm o.blk.gk 2 (jgs_cons (jg_name 9 nd_law_right rfl (lb (by decide +kernel)) (fb (by decide +kernel))) (jgs_cons (jg_name 10 nd_law_right rfl (lb (by decide +kernel)) (fb (by decide +kernel))) (jgs_nil))) (gMore_len (gMore_len (gEnd_len)))) (fun _ _ _ _ _ => jts_nil) (fun _ _ _ _ _ => je_add o.blk (je_add o.blk (je_add o.blk (je_callTy cb_str (gb (by decide +kernel)) T.n_str bt_str (ja_cons (je_var 9 rfl (vb (by decide +kernel)) (by decide +kernel) (by decide +kernel)) (ja_nil)) (by decide +kernel) (by decide +kernel)) (je_str ⟨#[45]⟩ (by decide +kernel))) (je_callTy cb_str (gb (by decide +kernel)) T.n_str bt_str (ja_cons (je_var 10 rfl (vb (by decide +kernel)) (by decide +kernel) (by decide +kernel)) (ja_nil)) (by decide +kernel) (by decide +kernel))) (je_str ⟨#[10]⟩ (by decide +kernel))) (by decide)))) (jg_name 6 nd_law_right rfl (lf (by decide +kernel)) ff)) (jb_cons (js_if (jt_w (jw_or (jtc o.ne (by rfl) (je_call o (g_write_web T) (by omega) (gf (by decide +kernel)) T.g_write_web T.k_write_web (ja_cons (je_var 3 rfl (vf (by decide +kernel)) (by decide +kernel) (by decide +kernel)) (ja_nil)) (by decide +kernel)) (je_var 6 rfl (vf (by decide +kernel)) (by decide +kernel) (by decide +kernel))) (jw_or (jtc (o.neO T.eq_Web T.sc_Web.cls (g_Web_eq T) (by omega)) (by rfl) (je_call o (g_read_web T) (by omega) (gf (by decide +kernel)) T.g_read_web T.k_read_web (ja_cons (je_var 6 rfl (vf (by decide +kernel)) (by decide +kernel) (by decide +kernel)) (ja_nil)) (by decide +kernel)) (je_var 3 rfl (vf (by decide +kernel)) (by decide +kernel) (by decide +kernel))) (jw_or1 (jtc o.ne (by rfl) (je_callB o.repr (gf (by decide +kernel)) T.n_repr bt_repr (ja_cons (je_prop o T.pr_ties T.sc_Web.cls (g_Web_ties T) (by omega) (je_call o (g_read_web T) (by omega) (gf (by decide +kernel)) T.g_read_web T.k_read_web (ja_cons (je_var 6 rfl (vf (by decide +kernel)) (by decide +kernel) (by decide +kernel)) (ja_nil)) (by decide +kernel))) (ja_nil)) (by decide +kernel) (by decide +kernel)) (je_callB o.repr (gf (by decide +kernel)) T.n_repr bt_repr (ja_cons (je_var 2 rfl (vf (by decide +kernel)) (by decide +kernel) (by decide +kernel)) (ja_nil)) (by decide +kernel) (by decide +kernel))))))) (jb_one (js_ret (je_bl))) (jb_nil)) (jb_cons (js_asg (je_add o (je_join o (je_str ⟨#[]⟩ (by decide +kernel)) (je_comp o (own := [("sign", 11)]) (js := [11]) nd_law_right (ji_of o (je_var 4 rfl (vf (by decide +kernel)) (by decide +kernel) (by decide +kernel))) (bf (by decide +kernel)) (fun _ _ _ _ _ => jg_name 11 nd_law_right rfl (lb (by decide +kernel)) (fb (by decide +kernel))) (fun _ _ _ _ _ => jts_nil) (fun _ _ _ _ _ => je_if (jtc o.blk.eq (by rfl) (je_var 11 rfl (vb (by decide +kernel)) (by decide +kernel) (by decide +kernel)) (je_int)) (je_str ⟨#[62]⟩ (by decide +kernel)) (je_str ⟨#[60]⟩ (by decide +kernel))) (by decide))) (je_str ⟨#[10]⟩ (by decide +kernel))) (jg_name 6 nd_law_right rfl (lf (by decide +kernel)) ff)) (jb_cons (js_if (jt_w (jw_or (jtc o.ne (by rfl) (je_call o (g_write_signs T) (by omega) (gf (by decide +kernel)) T.g_write_signs T.k_write_signs (ja_cons (je_var 3 rfl (vf (by decide +kernel)) (by decide +kernel) (by decide +kernel)) (ja_cons (je_var 4 rfl (vf (by decide +kernel)) (by decide +kernel) (by decide +kernel)) (ja_nil))) (by decide +kernel)) (je_var 6 rfl (vf (by decide +kernel)) (by decide +kernel) (by decide +kernel))) (jw_or1 (jtc o.ne (by rfl) (je_callB o.repr (gf (by decide +kernel)) T.n_repr bt_repr (ja_cons (je_call o (g_read_signs T) (by omega) (gf (by decide +kernel)) T.g_read_signs T.k_read_signs (ja_cons (je_var 3 rfl (vf (by decide +kernel)) (by decide +kernel) (by decide +kernel)) (ja_cons (je_var 6 rfl (vf (by decide +kernel)) (by decide +kernel) (by decide +kernel)) (ja_nil))) (by decide +kernel)) (ja_nil)) (by decide +kernel) (by decide +kernel)) (je_callB o.repr (gf (by decide +kernel)) T.n_repr bt_repr (ja_cons (je_var 4 rfl (vf (by decide +kernel)) (by decide +kernel) (by decide +kernel)) (ja_nil)) (by decide +kernel) (by decide +kernel)))))) (jb_one (js_ret (je_bl))) (jb_nil)) (jb_cons (js_asg (je_add o (je_add o (je_str ⟨#[104, 117, 101, 115, 32]⟩ (by decide +kernel)) (je_join o (je_str ⟨#[32]⟩ (by decide +kernel)) (je_comp o (own := [("hue", 12)]) (js := [12]) nd_law_right (ji_of o (je_var 5 rfl (vf (by decide +kernel)) (by decide +kernel) (by decide +kernel))) (bf (by decide +kernel)) (fun _ _ _ _ _ => jg_name 12 nd_law_right rfl (lb (by decide +kernel)) (fb (by decide +kernel))) (fun _ _ _ _ _ => jts_nil) (fun _ _ _ _ _ => je_callTy cb_str (gb (by decide +kernel)) T.n_str bt_str (ja_cons (je_var 12 rfl (vb (by decide +kernel)) (by decide +kernel) (by decide +kernel)) (ja_nil)) (by decide +kernel) (by decide +kernel)) (by decide)))) (je_str ⟨#[10]⟩ (by decide +kernel))) (jg_name 6 nd_law_right rfl (lf (by decide +kernel)) ff)) (jb_one (js_ret (je_and (jec o.eq (by rfl) (je_call o (g_write_hues T) (by omega) (gf (by decide +kernel)) T.g_write_hues T.k_write_hues (ja_cons (je_var 3 rfl (vf (by decide +kernel)) (by decide +kernel) (by decide +kernel)) (ja_cons (je_var 5 rfl (vf (by decide +kernel)) (by decide +kernel) (by decide +kernel)) (ja_nil))) (by decide +kernel)) (je_var 6 rfl (vf (by decide +kernel)) (by decide +kernel) (by decide +kernel))) (je_one (jec o.eq (by rfl) (je_callB o.repr (gf (by decide +kernel)) T.n_repr bt_repr (ja_cons (je_call o (g_read_hues T) (by omega) (gf (by decide +kernel)) T.g_read_hues T.k_read_hues (ja_cons (je_var 3 rfl (vf (by decide +kernel)) (by decide +kernel) (by decide +kernel)) (ja_cons (je_var 6 rfl (vf (by decide +kernel)) (by decide +kernel) (by decide +kernel)) (ja_nil))) (by decide +kernel)) (ja_nil)) (by decide +kernel) (by decide +kernel)) (je_callB o.repr (gf (by decide +kernel)) T.n_repr bt_repr (ja_cons (je_var 5 rfl (vf (by decide +kernel)) (by decide +kernel) (by decide +kernel)) (ja_nil)) (by decide +kernel) (by decide +kernel)))))))))))))))
theorem nd_law : (["script", "at", "bag", "three", "told", "turn"] : List Str).Nodup := by decide +kernel
theorem fs_law : FnScope ["script", "at", "bag", "three", "told", "turn"] ["script"] (defScope st_law) := ⟨rfl, rfl, rfl, nd_law, rfl, by decide +kernel, by decide +kernel⟩
theorem g_law (T : Tx K mg a G) : FnG P w K mg base G 9 a.law m_law := by
  obtain ⟨fd, F⟩ := T.f_law
  refine fnG_of (k := 8) F fs_law T.gk (fun _ _ _ _ _ _ us hl => match us, hl with | [_], _ => rfl) fun cdv A outer s H E o => ?_
  exact jb_cons (js_for o (ji_range1 (gf (by decide +kernel)) T.n_range (ja_cons (je_callB o.max2 (gf (by decide +kernel)) T.n_max bt_max (ja_cons (je_int) (ja_cons (je_callB o.min2 (gf (by decide +kernel)) T.n_min bt_min (ja_cons (je_int) (ja_cons (je_callB o.len (gf (by decide +kernel)) T.n_len bt_len (ja_cons (je_var 0 rfl (vf (by decide +kernel)) (by decide +kernel) (by decide +kernel)) (ja_nil)) (by decide +kernel) (by decide +kernel)) (ja_nil))) (by decide +kernel) (by decide +kernel)) (ja_nil))) (by decide +kernel) (by decide +kernel)) (ja_nil))) (jg_name 1 nd_law rfl (lf (by decide +kernel)) ff) (jb_cons (js_asg (je_call o (g_law_bag T) (by omega) (gf (by decide +kernel)) T.g_law_bag T.k_law_bag (ja_cons (je_var 0 rfl (vf (by decide +kernel)) (by decide +kernel) (by decide +kernel)) (ja_cons (je_var 1 rfl (vf (by decide +kernel)) (by decide +kernel) (by decide +kernel)) (ja_nil))) (by decide +kernel)) (jg_name 2 nd_law rfl (lfc (by decide +kernel)) ff)) (jb_one (js_if (jtc o.ne (by rfl) (je_comp o (own := [("turn", 5)]) (js := [5]) nd_law (ji_range1 (gf (by decide +kernel)) T.n_range (ja_cons (je_int) (ja_nil))) (bf (by decide +kernel)) (fun _ _ _ _ _ => jg_name 5 nd_law rfl (lb (by decide +kernel)) (fb (by decide +kernel))) (fun _ _ _ _ _ => jts_one (jt_not (jt_val (je_call o.blk (g_law_right T) (by omega) (gb (by decide +kernel)) T.g_law_right T.k_law_right (ja_cons (je_var 2 rfl (vbf (by decide +kernel)) (by decide +kernel) (by decide +kernel)) (ja_nil)) (by decide +kernel)) (fun _ => rfl)))) (fun _ _ _ _ _ => je_int) (by decide)) (je_lst (ja_nil))) (jb_one (js_ret (je_bl))) (jb_nil))))) (jb_cons (js_asg (je_mk o T.mk_Web T.sc_Web.cls (g_Web_init T) (by omega) (gf (by decide +kernel)) T.g_Web (ja_cons (je_int) (ja_cons (je_tup (ja_cons (je_tup (ja_cons (je_int) (ja_cons (je_int) (ja_nil)))) (ja_cons (je_tup (ja_cons (je_int) (ja_cons (je_int) (ja_nil)))) (ja_cons (je_tup (ja_cons (je_int) (ja_cons (je_int) (ja_nil)))) (ja_nil))))) (ja_nil))) (by decide +kernel)) (jg_name 3 nd_law rfl (lf (by decide +kernel)) ff)) (jb_cons (js_asg (je_lst (ja_cons (je_call o (g_write_web T) (by omega) (gf (by decide +kernel)) T.g_write_web T.k_write_web (ja_cons (je_var 3 rfl (vf (by decide +kernel)) (by decide +kernel) (by decide +kernel)) (ja_nil)) (by decide +kernel)) (ja_cons (je_prop o T.pr_ties T.sc_Web.cls (g_Web_ties T) (by omega) (je_call o (g_read_web T) (by omega) (gf (by decide +kernel)) T.g_read_web T.k_read_web (ja_cons (je_str ⟨#[112, 108, 97, 99, 101, 115, 32, 50, 10, 48, 45, 48, 10, 48, 45, 49, 10]⟩ (by decide +kernel)) (ja_nil)) (by decide +kernel))) (ja_cons (je_call o (g_write_signs T) (by omega) (gf (by decide +kernel)) T.g_write_signs T.k_write_signs (ja_cons (je_var 3 rfl (vf (by decide +kernel)) (by decide +kernel) (by decide +kernel)) (ja_cons (je_tup (ja_cons (je_int) (ja_cons (je_neg (je_int)) (ja_cons (je_int) (ja_nil))))) (ja_nil))) (by decide +kernel)) (ja_cons (je_call o (g_read_signs T) (by omega) (gf (by decide +kernel)) T.g_read_signs T.k_read_signs (ja_cons (je_var 3 rfl (vf (by decide +kernel)) (by decide +kernel) (by decide +kernel)) (ja_cons (je_str ⟨#[60, 60, 62, 10]⟩ (by decide +kernel)) (ja_nil))) (by decide +kernel)) (ja_cons (je_call o (g_write_hues T) (by omega) (gf (by decide +kernel)) T.g_write_hues T.k_write_hues (ja_cons (je_var 3 rfl (vf (by decide +kernel)) (by decide +kernel) (by decide +kernel)) (ja_cons (je_tup (ja_cons (je_int) (ja_cons (je_int) (ja_cons (je_int) (ja_nil))))) (ja_nil))) (by decide +kernel)) (ja_nil))))))) (jg_name 4 nd_law rfl (lf (by decide +kernel)) ff)) (jb_cons (js_asg (je_add o (je_var 4 rfl (vf (by decide +kernel)) (by decide +kernel) (by decide +kernel)) (je_lst (ja_cons (je_call o (g_write_signs T) (by omega) (gf (by decide +kernel)) T.g_write_signs T.k_write_signs (ja_cons (je_mk o T.mk_Web T.sc_Web.cls (g_Web_init T) (by omega) (gf (by decide +kernel)) T.g_Web (ja_cons (je_int) (ja_cons (je_tup (ja_nil)) (ja_nil))) (by decide +kernel)) (ja_cons (je_tup (ja_nil)) (ja_nil))) (by decide +kernel)) (ja_cons (je_call o (g_read_signs T) (by omega) (gf (by decide +kernel)) T.g_read_signs T.k_read_signs (ja_cons (je_mk o T.mk_Web T.sc_Web.cls (g_Web_init T) (by omega) (gf (by decide +kernel)) T.g_Web (ja_cons (je_int) (ja_cons (je_tup (ja_nil)) (ja_nil))) (by decide +kernel)) (ja_cons (je_str ⟨#[10]⟩ (by decide +kernel)) (ja_nil))) (by decide +kernel)) (ja_cons (je_call o (g_write_web T) (by omega) (gf (by decide +kernel)) T.g_write_web T.k_write_web (ja_cons (je_mk o T.mk_Web T.sc_Web.cls (g_Web_init T) (by omega) (gf (by decide +kernel)) T.g_Web (ja_cons (je_int) (ja_cons (je_tup (ja_nil)) (ja_nil))) (by decide +kernel)) (ja_nil)) (by decide +kernel)) (ja_nil)))))) (jg_name 4 nd_law rfl (lf (by decide +kernel)) ff)) (jb_one (js_ret (jec o.eq (by rfl) (je_callB o.repr (gf (by decide +kernel)) T.n_repr bt_repr (ja_cons (je_var 4 rfl (vf (by decide +kernel)) (by decide +kernel) (by decide +kernel)) (ja_nil)) (by decide +kernel) (by decide +kernel)) (je_callB o.repr (gf (by decide +kernel)) T.n_repr bt_repr (ja_cons (je_lst (ja_cons (je_str ⟨#[112, 108, 97, 99, 101, 115, 32, 51, 10, 48, 45, 49, 10, 48, 45, 50, 10, 49, 45, 50, 10]⟩ (by decide +kernel)) (ja_cons (je_tup (ja_cons (je_tup (ja_cons (je_int) (ja_cons (je_int) (ja_nil)))) (ja_cons (je_tup (ja_cons (je_int) (ja_cons (je_int) (ja_nil)))) (ja_nil)))) (ja_cons (je_str ⟨#[62, 60, 62, 10]⟩ (by decide +kernel)) (ja_cons (je_tup (ja_cons (je_neg (je_int)) (ja_cons (je_neg (je_int)) (ja_cons (je_int) (ja_nil))))) (ja_cons (je_str ⟨#[104, 117, 101, 115, 32, 48, 32, 49, 32, 50, 10]⟩ (by decide +kernel)) (ja_cons (je_str ⟨#[10]⟩ (by decide +kernel)) (ja_cons (je_tup (ja_nil)) (ja_cons (je_str ⟨#[112, 108, 97, 99, 101, 115, 32, 49, 10]⟩ (by decide +kernel)) (ja_nil)))))))))) (ja_nil)) (by decide +kernel) (by decide +kernel))))))))
end
end Lw
namespace Lw
open PySem PySem.Spec
open PyProof.Rows L2 F3
theorem all_mk {l : PySem.W.OpenLaw} {w : World} {K : PySem.W.Frag} {h : Heap} {mg : Str → Option Value} {fa : Addr} (X : K.In h) (G : h.Ns mainGlobals mg) (hfa : mg "law" = some (.ref fa)) (plain : ∀ ns : List Int, ns.length ≤ 63 → ∃ A, m_law [.scr (ns.map .int)] [] = .ok (.bl true) A)
    {f_law_bag f_law_draw f_law_one_of f_law_ties f_is_int f_is_whole f_is_within f_require_size f_are_ties f_Web_init f_require_web f_lines_text f_write_web f_require_text f_whole_lines f_number_of f_size_from f_numbers_of f_tie_from f_read_web f_Web_eq f_Web_ties f_are_signs_in f_require_signs f_write_signs f_alone_line f_read_signs f_are_hues_in f_write_hues f_read_hues f_law_right f_law c_Web s_own_size s_own_ties p_ties : Addr} {od_law_bag an_law_bag : Option Addr} {sl_law_bag : Array (Option Value)} {oc_law_bag kV_law_bag dc_law_bag pm_law_bag cd_law_bag ct_law_bag : Value} {od_law_draw an_law_draw : Option Addr} {sl_law_draw : Array (Option Value)} {oc_law_draw kV_law_draw dc_law_draw pm_law_draw cd_law_draw ct_law_draw : Value} {od_law_one_of an_law_one_of : Option Addr} {sl_law_one_of : Array (Option Value)} {oc_law_one_of kV_law_one_of dc_law_one_of pm_law_one_of cd_law_one_of ct_law_one_of : Value} {od_law_ties an_law_ties : Option Addr} {sl_law_ties : Array (Option Value)} {oc_law_ties kV_law_ties dc_law_ties pm_law_ties cd_law_ties ct_law_ties : Value} {od_is_int an_is_int : Option Addr} {sl_is_int : Array (Option Value)} {oc_is_int kV_is_int dc_is_int pm_is_int cd_is_int ct_is_int : Value} {od_is_whole an_is_whole : Option Addr} {sl_is_whole : Array (Option Value)} {oc_is_whole kV_is_whole dc_is_whole pm_is_whole cd_is_whole ct_is_whole : Value} {od_is_within an_is_within : Option Addr} {sl_is_within : Array (Option Value)} {oc_is_within kV_is_within dc_is_within pm_is_within cd_is_within ct_is_within : Value} {od_require_size an_require_size : Option Addr} {sl_require_size : Array (Option Value)} {oc_require_size kV_require_size dc_require_size pm_require_size cd_require_size ct_require_size : Value} {od_are_ties an_are_ties : Option Addr} {sl_are_ties : Array (Option Value)} {oc_are_ties kV_are_ties dc_are_ties pm_are_ties cd_are_ties ct_are_ties : Value} {od_Web_init an_Web_init : Option Addr} {sl_Web_init : Array (Option Value)} {oc_Web_init kV_Web_init dc_Web_init pm_Web_init cd_Web_init ct_Web_init : Value} {od_require_web an_require_web : Option Addr} {sl_require_web : Array (Option Value)} {oc_require_web kV_require_web dc_require_web pm_require_web cd_require_web ct_require_web : Value} {od_lines_text an_lines_text : Option Addr} {sl_lines_text : Array (Option Value)} {oc_lines_text kV_lines_text dc_lines_text pm_lines_text cd_lines_text ct_lines_text : Value} {od_write_web an_write_web : Option Addr} {sl_write_web : Array (Option Value)} {oc_write_web kV_write_web dc_write_web pm_write_web cd_write_web ct_write_web : Value} {od_require_text an_require_text : Option Addr} {sl_require_text : Array (Option Value)} {oc_require_text kV_require_text dc_require_text pm_require_text cd_require_text ct_require_text : Value} {od_whole_lines an_whole_lines : Option Addr} {sl_whole_lines : Array (Option Value)} {oc_whole_lines kV_whole_lines dc_whole_lines pm_whole_lines cd_whole_lines ct_whole_lines : Value} {od_number_of an_number_of : Option Addr} {sl_number_of : Array (Option Value)} {oc_number_of kV_number_of dc_number_of pm_number_of cd_number_of ct_number_of : Value} {od_size_from an_size_from : Option Addr} {sl_size_from : Array (Option Value)} {oc_size_from kV_size_from dc_size_from pm_size_from cd_size_from ct_size_from : Value} {od_numbers_of an_numbers_of : Option Addr} {sl_numbers_of : Array (Option Value)} {oc_numbers_of kV_numbers_of dc_numbers_of pm_numbers_of cd_numbers_of ct_numbers_of : Value} {od_tie_from an_tie_from : Option Addr} {sl_tie_from : Array (Option Value)} {oc_tie_from kV_tie_from dc_tie_from pm_tie_from cd_tie_from ct_tie_from : Value} {od_read_web an_read_web : Option Addr} {sl_read_web : Array (Option Value)} {oc_read_web kV_read_web dc_read_web pm_read_web cd_read_web ct_read_web : Value} {od_Web_eq an_Web_eq : Option Addr} {sl_Web_eq : Array (Option Value)} {oc_Web_eq kV_Web_eq dc_Web_eq pm_Web_eq cd_Web_eq ct_Web_eq : Value} {od_Web_ties an_Web_ties : Option Addr} {sl_Web_ties : Array (Option Value)} {oc_Web_ties kV_Web_ties dc_Web_ties pm_Web_ties cd_Web_ties ct_Web_ties : Value} {rest_ties : List Value} {od_are_signs_in an_are_signs_in : Option Addr} {sl_are_signs_in : Array (Option Value)} {oc_are_signs_in kV_are_signs_in dc_are_signs_in pm_are_signs_in cd_are_signs_in ct_are_signs_in : Value} {od_require_signs an_require_signs : Option Addr} {sl_require_signs : Array (Option Value)} {oc_require_signs kV_require_signs dc_require_signs pm_require_signs cd_require_signs ct_require_signs : Value} {od_write_signs an_write_signs : Option Addr} {sl_write_signs : Array (Option Value)} {oc_write_signs kV_write_signs dc_write_signs pm_write_signs cd_write_signs ct_write_signs : Value} {od_alone_line an_alone_line : Option Addr} {sl_alone_line : Array (Option Value)} {oc_alone_line kV_alone_line dc_alone_line pm_alone_line cd_alone_line ct_alone_line : Value} {od_read_signs an_read_signs : Option Addr} {sl_read_signs : Array (Option Value)} {oc_read_signs kV_read_signs dc_read_signs pm_read_signs cd_read_signs ct_read_signs : Value} {od_are_hues_in an_are_hues_in : Option Addr} {sl_are_hues_in : Array (Option Value)} {oc_are_hues_in kV_are_hues_in dc_are_hues_in pm_are_hues_in cd_are_hues_in ct_are_hues_in : Value} {od_write_hues an_write_hues : Option Addr} {sl_write_hues : Array (Option Value)} {oc_write_hues kV_write_hues dc_write_hues pm_write_hues cd_write_hues ct_write_hues : Value} {od_read_hues an_read_hues : Option Addr} {sl_read_hues : Array (Option Value)} {oc_read_hues kV_read_hues dc_read_hues pm_read_hues cd_read_hues ct_read_hues : Value} {od_law_right an_law_right : Option Addr} {sl_law_right : Array (Option Value)} {oc_law_right kV_law_right dc_law_right pm_law_right cd_law_right ct_law_right : Value} {od_law an_law : Option Addr} {sl_law : Array (Option Value)} {oc_law kV_law dc_law pm_law cd_law ct_law : Value} {ct_AGAINST : Tok} {ct_ALONG : Tok} {ct_DIGITS : Tok} {ct_GREAT : Tok} {ct_HUES : Tok} {ct_MAX_HUE : Tok} {ct_MAX_PLACES : Tok} {ct_MAX_SIGNS : Tok} {ct_MAX_TIES : Tok} {ct_MOST_DIGITS : Tok} {ct_PLACES : Tok}
    (a_Web : PySem.W.nsIn K mainGlobals "Web" = some (some (.ref c_Web)))
    (pg_Web : PySem.W.plainGet K c_Web Str.empty = true)
    (ic_Web : PySem.W.isClsIn K c_Web = true)
    (po_Web : PySem.W.plainOver K c_Web = true)
    (sa_Web : PySem.W.findIn K (.ref c_Web) "__setattr__" = some (some (.builtin "object.__setattr__")))
    (ca_Web : PySem.W.findIn K (.ref c_Web) "__class__" = some (some (.builtin "object.__class__")))
    (cm_Web : PySem.W.mroIn K c_Web (.type "object") = some true)
    (mk_Web : PySem.W.makesIn K c_Web = true)
    (kc_Web : PySem.W.keepIn K (.ref c_Web) = true)
    (gcn : PySem.W.specialIn K (.builtin "object.__class__") "__get__" = some (some (.builtin "getset_descriptor.__get__")))
    (gct : PySem.W.takesIn K (.builtin "object.__class__") = some true)
    (a_law_bag : PySem.W.nsIn K mainGlobals "_law_bag" = some (some (.ref f_law_bag)))
    (l_law_bag : K.lookup f_law_bag = some ⟨oc_law_bag, od_law_bag, .func (PySem.W.fnOf "_law_bag" "_law_bag" (defArgs st_law_bag) (defBody st_law_bag) (defScope st_law_bag) .none kV_law_bag dc_law_bag pm_law_bag an_law_bag cd_law_bag ct_law_bag), sl_law_bag⟩)
    (q_law_bag : PySem.W.codeIn K cd_law_bag "_law_bag" = true)
    (k_law_bag : PySem.W.keepIn K (.ref f_law_bag) = true)
    (a_law_draw : PySem.W.nsIn K mainGlobals "_law_draw" = some (some (.ref f_law_draw)))
    (l_law_draw : K.lookup f_law_draw = some ⟨oc_law_draw, od_law_draw, .func (PySem.W.fnOf "_law_draw" "_law_draw" (defArgs st_law_draw) (defBody st_law_draw) (defScope st_law_draw) .none kV_law_draw dc_law_draw pm_law_draw an_law_draw cd_law_draw ct_law_draw), sl_law_draw⟩)
    (q_law_draw : PySem.W.codeIn K cd_law_draw "_law_draw" = true)
    (k_law_draw : PySem.W.keepIn K (.ref f_law_draw) = true)
    (a_law_one_of : PySem.W.nsIn K mainGlobals "_law_one_of" = some (some (.ref f_law_one_of)))
    (l_law_one_of : K.lookup f_law_one_of = some ⟨oc_law_one_of, od_law_one_of, .func (PySem.W.fnOf "_law_one_of" "_law_one_of" (defArgs st_law_one_of) (defBody st_law_one_of) (defScope st_law_one_of) .none kV_law_one_of dc_law_one_of pm_law_one_of an_law_one_of cd_law_one_of ct_law_one_of), sl_law_one_of⟩)
    (q_law_one_of : PySem.W.codeIn K cd_law_one_of "_law_one_of" = true)
    (k_law_one_of : PySem.W.keepIn K (.ref f_law_one_of) = true)
    (a_law_ties : PySem.W.nsIn K mainGlobals "_law_ties" = some (some (.ref f_law_ties)))
    (l_law_ties : K.lookup f_law_ties = some ⟨oc_law_ties, od_law_ties, .func (PySem.W.fnOf "_law_ties" "_law_ties" (defArgs st_law_ties) (defBody st_law_ties) (defScope st_law_ties) .none kV_law_ties dc_law_ties pm_law_ties an_law_ties cd_law_ties ct_law_ties), sl_law_ties⟩)
    (q_law_ties : PySem.W.codeIn K cd_law_ties "_law_ties" = true)
    (k_law_ties : PySem.W.keepIn K (.ref f_law_ties) = true)
    (a_is_int : PySem.W.nsIn K mainGlobals "is_int" = some (some (.ref f_is_int)))
    (l_is_int : K.lookup f_is_int = some ⟨oc_is_int, od_is_int, .func (PySem.W.fnOf "is_int" "is_int" (defArgs st_is_int) (defBody st_is_int) (defScope st_is_int) .none kV_is_int dc_is_int pm_is_int an_is_int cd_is_int ct_is_int), sl_is_int⟩)
    (q_is_int : PySem.W.codeIn K cd_is_int "is_int" = true)
    (k_is_int : PySem.W.keepIn K (.ref f_is_int) = true)
    (a_is_whole : PySem.W.nsIn K mainGlobals "is_whole" = some (some (.ref f_is_whole)))
    (l_is_whole : K.lookup f_is_whole = some ⟨oc_is_whole, od_is_whole, .func (PySem.W.fnOf "is_whole" "is_whole" (defArgs st_is_whole) (defBody st_is_whole) (defScope st_is_whole) .none kV_is_whole dc_is_whole pm_is_whole an_is_whole cd_is_whole ct_is_whole), sl_is_whole⟩)
    (q_is_whole : PySem.W.codeIn K cd_is_whole "is_whole" = true)
    (k_is_whole : PySem.W.keepIn K (.ref f_is_whole) = true)
    (a_is_within : PySem.W.nsIn K mainGlobals "is_within" = some (some (.ref f_is_within)))
    (l_is_within : K.lookup f_is_within = some ⟨oc_is_within, od_is_within, .func (PySem.W.fnOf "is_within" "is_within" (defArgs st_is_within) (defBody st_is_within) (defScope st_is_within) .none kV_is_within dc_is_within pm_is_within an_is_within cd_is_within ct_is_within), sl_is_within⟩)
    (q_is_within : PySem.W.codeIn K cd_is_within "is_within" = true)
    (k_is_within : PySem.W.keepIn K (.ref f_is_within) = true)
    (a_require_size : PySem.W.nsIn K mainGlobals "require_size" = some (some (.ref f_require_size)))
    (l_require_size : K.lookup f_require_size = some ⟨oc_require_size, od_require_size, .func (PySem.W.fnOf "require_size" "require_size" (defArgs st_require_size) (defBody st_require_size) (defScope st_require_size) .none kV_require_size dc_require_size pm_require_size an_require_size cd_require_size ct_require_size), sl_require_size⟩)
    (q_require_size : PySem.W.codeIn K cd_require_size "require_size" = true)
    (k_require_size : PySem.W.keepIn K (.ref f_require_size) = true)
    (a_are_ties : PySem.W.nsIn K mainGlobals "are_ties" = some (some (.ref f_are_ties)))
    (l_are_ties : K.lookup f_are_ties = some ⟨oc_are_ties, od_are_ties, .func (PySem.W.fnOf "are_ties" "are_ties" (defArgs st_are_ties) (defBody st_are_ties) (defScope st_are_ties) .none kV_are_ties dc_are_ties pm_are_ties an_are_ties cd_are_ties ct_are_ties), sl_are_ties⟩)
    (q_are_ties : PySem.W.codeIn K cd_are_ties "are_ties" = true)
    (k_are_ties : PySem.W.keepIn K (.ref f_are_ties) = true)
    (a_Web_init : PySem.W.findIn K (.ref c_Web) "__init__" = some (some (.ref f_Web_init)))
    (i_Web_init : PySem.W.isFn K (.ref f_Web_init) = true)
    (l_Web_init : K.lookup f_Web_init = some ⟨oc_Web_init, od_Web_init, .func (PySem.W.fnOf "__init__" "Web.__init__" (defArgs st_Web_init) (defBody st_Web_init) (defScope st_Web_init) .none kV_Web_init dc_Web_init pm_Web_init an_Web_init cd_Web_init ct_Web_init), sl_Web_init⟩)
    (q_Web_init : PySem.W.codeIn K cd_Web_init "Web.__init__" = true)
    (k_Web_init : PySem.W.keepIn K (.ref f_Web_init) = true)
    (a_require_web : PySem.W.nsIn K mainGlobals "require_web" = some (some (.ref f_require_web)))
    (l_require_web : K.lookup f_require_web = some ⟨oc_require_web, od_require_web, .func (PySem.W.fnOf "require_web" "require_web" (defArgs st_require_web) (defBody st_require_web) (defScope st_require_web) .none kV_require_web dc_require_web pm_require_web an_require_web cd_require_web ct_require_web), sl_require_web⟩)
    (q_require_web : PySem.W.codeIn K cd_require_web "require_web" = true)
    (k_require_web : PySem.W.keepIn K (.ref f_require_web) = true)
    (a_lines_text : PySem.W.nsIn K mainGlobals "lines_text" = some (some (.ref f_lines_text)))
    (l_lines_text : K.lookup f_lines_text = some ⟨oc_lines_text, od_lines_text, .func (PySem.W.fnOf "lines_text" "lines_text" (defArgs st_lines_text) (defBody st_lines_text) (defScope st_lines_text) .none kV_lines_text dc_lines_text pm_lines_text an_lines_text cd_lines_text ct_lines_text), sl_lines_text⟩)
    (q_lines_text : PySem.W.codeIn K cd_lines_text "lines_text" = true)
    (k_lines_text : PySem.W.keepIn K (.ref f_lines_text) = true)
    (a_write_web : PySem.W.nsIn K mainGlobals "write_web" = some (some (.ref f_write_web)))
    (l_write_web : K.lookup f_write_web = some ⟨oc_write_web, od_write_web, .func (PySem.W.fnOf "write_web" "write_web" (defArgs st_write_web) (defBody st_write_web) (defScope st_write_web) .none kV_write_web dc_write_web pm_write_web an_write_web cd_write_web ct_write_web), sl_write_web⟩)
    (q_write_web : PySem.W.codeIn K cd_write_web "write_web" = true)
    (k_write_web : PySem.W.keepIn K (.ref f_write_web) = true)
    (a_require_text : PySem.W.nsIn K mainGlobals "require_text" = some (some (.ref f_require_text)))
    (l_require_text : K.lookup f_require_text = some ⟨oc_require_text, od_require_text, .func (PySem.W.fnOf "require_text" "require_text" (defArgs st_require_text) (defBody st_require_text) (defScope st_require_text) .none kV_require_text dc_require_text pm_require_text an_require_text cd_require_text ct_require_text), sl_require_text⟩)
    (q_require_text : PySem.W.codeIn K cd_require_text "require_text" = true)
    (k_require_text : PySem.W.keepIn K (.ref f_require_text) = true)
    (a_whole_lines : PySem.W.nsIn K mainGlobals "whole_lines" = some (some (.ref f_whole_lines)))
    (l_whole_lines : K.lookup f_whole_lines = some ⟨oc_whole_lines, od_whole_lines, .func (PySem.W.fnOf "whole_lines" "whole_lines" (defArgs st_whole_lines) (defBody st_whole_lines) (defScope st_whole_lines) .none kV_whole_lines dc_whole_lines pm_whole_lines an_whole_lines cd_whole_lines ct_whole_lines), sl_whole_lines⟩)
    (q_whole_lines : PySem.W.codeIn K cd_whole_lines "whole_lines" = true)
    (k_whole_lines : PySem.W.keepIn K (.ref f_whole_lines) = true)
    (a_number_of : PySem.W.nsIn K mainGlobals "number_of" = some (some (.ref f_number_of)))
    (l_number_of : K.lookup f_number_of = some ⟨oc_number_of, od_number_of, .func (PySem.W.fnOf "number_of" "number_of" (defArgs st_number_of) (defBody st_number_of) (defScope st_number_of) .none kV_number_of dc_number_of pm_number_of an_number_of cd_number_of ct_number_of), sl_number_of⟩)
    (q_number_of : PySem.W.codeIn K cd_number_of "number_of" = true)
    (k_number_of : PySem.W.keepIn K (.ref f_number_of) = true)
    (a_size_from : PySem.W.nsIn K mainGlobals "size_from" = some (some (.ref f_size_from)))
    (l_size_from : K.lookup f_size_from = some ⟨oc_size_from, od_size_from, .func (PySem.W.fnOf "size_from" "size_from" (defArgs st_size_from) (defBody st_size_from) (defScope st_size_from) .none kV_size_from dc_size_from pm_size_from an_size_from cd_size_from ct_size_from), sl_size_from⟩)
    (q_size_from : PySem.W.codeIn K cd_size_from "size_from" = true)
    (k_size_from : PySem.W.keepIn K (.ref f_size_from) = true)
    (a_numbers_of : PySem.W.nsIn K mainGlobals "numbers_of" = some (some (.ref f_numbers_of)))
    (l_numbers_of : K.lookup f_numbers_of = some ⟨oc_numbers_of, od_numbers_of, .func (PySem.W.fnOf "numbers_of" "numbers_of" (defArgs st_numbers_of) (defBody st_numbers_of) (defScope st_numbers_of) .none kV_numbers_of dc_numbers_of pm_numbers_of an_numbers_of cd_numbers_of ct_numbers_of), sl_numbers_of⟩)
    (q_numbers_of : PySem.W.codeIn K cd_numbers_of "numbers_of" = true)
    (k_numbers_of : PySem.W.keepIn K (.ref f_numbers_of) = true)
    (a_tie_from : PySem.W.nsIn K mainGlobals "tie_from" = some (some (.ref f_tie_from)))
    (l_tie_from : K.lookup f_tie_from = some ⟨oc_tie_from, od_tie_from, .func (PySem.W.fnOf "tie_from" "tie_from" (defArgs st_tie_from) (defBody st_tie_from) (defScope st_tie_from) .none kV_tie_from dc_tie_from pm_tie_from an_tie_from cd_tie_from ct_tie_from), sl_tie_from⟩)
    (q_tie_from : PySem.W.codeIn K cd_tie_from "tie_from" = true)
    (k_tie_from : PySem.W.keepIn K (.ref f_tie_from) = true)
    (a_read_web : PySem.W.nsIn K mainGlobals "read_web" = some (some (.ref f_read_web)))
    (l_read_web : K.lookup f_read_web = some ⟨oc_read_web, od_read_web, .func (PySem.W.fnOf "read_web" "read_web" (defArgs st_read_web) (defBody st_read_web) (defScope st_read_web) .none kV_read_web dc_read_web pm_read_web an_read_web cd_read_web ct_read_web), sl_read_web⟩)
    (q_read_web : PySem.W.codeIn K cd_read_web "read_web" = true)
    (k_read_web : PySem.W.keepIn K (.ref f_read_web) = true)
    (a_Web_eq : PySem.W.findIn K (.ref c_Web) "__eq__" = some (some (.ref f_Web_eq)))
    (i_Web_eq : PySem.W.isFn K (.ref f_Web_eq) = true)
    (l_Web_eq : K.lookup f_Web_eq = some ⟨oc_Web_eq, od_Web_eq, .func (PySem.W.fnOf "__eq__" "Web.__eq__" (defArgs st_Web_eq) (defBody st_Web_eq) (defScope st_Web_eq) .none kV_Web_eq dc_Web_eq pm_Web_eq an_Web_eq cd_Web_eq ct_Web_eq), sl_Web_eq⟩)
    (q_Web_eq : PySem.W.codeIn K cd_Web_eq "Web.__eq__" = true)
    (k_Web_eq : PySem.W.keepIn K (.ref f_Web_eq) = true)
    (pa_ties : PySem.W.findIn K (.ref c_Web) "ties" = some (some (.ref p_ties)))
    (pr_ties : PySem.W.recIn K p_ties "property" = some (.ref f_Web_ties :: rest_ties))
    (pg_ties : PySem.W.specialIn K (.ref p_ties) "__get__" = some (some (.builtin "property.__get__")))
    (pt_ties : PySem.W.takesIn K (.ref p_ties) = some true)
    (l_Web_ties : K.lookup f_Web_ties = some ⟨oc_Web_ties, od_Web_ties, .func (PySem.W.fnOf "ties" "Web.ties" (defArgs st_Web_ties) (defBody st_Web_ties) (defScope st_Web_ties) .none kV_Web_ties dc_Web_ties pm_Web_ties an_Web_ties cd_Web_ties ct_Web_ties), sl_Web_ties⟩)
    (q_Web_ties : PySem.W.codeIn K cd_Web_ties "Web.ties" = true)
    (k_Web_ties : PySem.W.keepIn K (.ref f_Web_ties) = true)
    (a_are_signs_in : PySem.W.nsIn K mainGlobals "are_signs_in" = some (some (.ref f_are_signs_in)))
    (l_are_signs_in : K.lookup f_are_signs_in = some ⟨oc_are_signs_in, od_are_signs_in, .func (PySem.W.fnOf "are_signs_in" "are_signs_in" (defArgs st_are_signs_in) (defBody st_are_signs_in) (defScope st_are_signs_in) .none kV_are_signs_in dc_are_signs_in pm_are_signs_in an_are_signs_in cd_are_signs_in ct_are_signs_in), sl_are_signs_in⟩)
    (q_are_signs_in : PySem.W.codeIn K cd_are_signs_in "are_signs_in" = true)
    (k_are_signs_in : PySem.W.keepIn K (.ref f_are_signs_in) = true)
    (a_require_signs : PySem.W.nsIn K mainGlobals "require_signs" = some (some (.ref f_require_signs)))
    (l_require_signs : K.lookup f_require_signs = some ⟨oc_require_signs, od_require_signs, .func (PySem.W.fnOf "require_signs" "require_signs" (defArgs st_require_signs) (defBody st_require_signs) (defScope st_require_signs) .none kV_require_signs dc_require_signs pm_require_signs an_require_signs cd_require_signs ct_require_signs), sl_require_signs⟩)
    (q_require_signs : PySem.W.codeIn K cd_require_signs "require_signs" = true)
    (k_require_signs : PySem.W.keepIn K (.ref f_require_signs) = true)
    (a_write_signs : PySem.W.nsIn K mainGlobals "write_signs" = some (some (.ref f_write_signs)))
    (l_write_signs : K.lookup f_write_signs = some ⟨oc_write_signs, od_write_signs, .func (PySem.W.fnOf "write_signs" "write_signs" (defArgs st_write_signs) (defBody st_write_signs) (defScope st_write_signs) .none kV_write_signs dc_write_signs pm_write_signs an_write_signs cd_write_signs ct_write_signs), sl_write_signs⟩)
    (q_write_signs : PySem.W.codeIn K cd_write_signs "write_signs" = true)
    (k_write_signs : PySem.W.keepIn K (.ref f_write_signs) = true)
    (a_alone_line : PySem.W.nsIn K mainGlobals "alone_line" = some (some (.ref f_alone_line)))
    (l_alone_line : K.lookup f_alone_line = some ⟨oc_alone_line, od_alone_line, .func (PySem.W.fnOf "alone_line" "alone_line" (defArgs st_alone_line) (defBody st_alone_line) (defScope st_alone_line) .none kV_alone_line dc_alone_line pm_alone_line an_alone_line cd_alone_line ct_alone_line), sl_alone_line⟩)
    (q_alone_line : PySem.W.codeIn K cd_alone_line "alone_line" = true)
    (k_alone_line : PySem.W.keepIn K (.ref f_alone_line) = true)
    (a_read_signs : PySem.W.nsIn K mainGlobals "read_signs" = some (some (.ref f_read_signs)))
    (l_read_signs : K.lookup f_read_signs = some ⟨oc_read_signs, od_read_signs, .func (PySem.W.fnOf "read_signs" "read_signs" (defArgs st_read_signs) (defBody st_read_signs) (defScope st_read_signs) .none kV_read_signs dc_read_signs pm_read_signs an_read_signs cd_read_signs ct_read_signs), sl_read_signs⟩)
    (q_read_signs : PySem.W.codeIn K cd_read_signs "read_signs" = true)
    (k_read_signs : PySem.W.keepIn K (.ref f_read_signs) = true)
    (a_are_hues_in : PySem.W.nsIn K mainGlobals "are_hues_in" = some (some (.ref f_are_hues_in)))
    (l_are_hues_in : K.lookup f_are_hues_in = some ⟨oc_are_hues_in, od_are_hues_in, .func (PySem.W.fnOf "are_hues_in" "are_hues_in" (defArgs st_are_hues_in) (defBody st_are_hues_in) (defScope st_are_hues_in) .none kV_are_hues_in dc_are_hues_in pm_are_hues_in an_are_hues_in cd_are_hues_in ct_are_hues_in), sl_are_hues_in⟩)
    (q_are_hues_in : PySem.W.codeIn K cd_are_hues_in "are_hues_in" = true)
    (k_are_hues_in : PySem.W.keepIn K (.ref f_are_hues_in) = true)
    (a_write_hues : PySem.W.nsIn K mainGlobals "write_hues" = some (some (.ref f_write_hues)))
    (l_write_hues : K.lookup f_write_hues = some ⟨oc_write_hues, od_write_hues, .func (PySem.W.fnOf "write_hues" "write_hues" (defArgs st_write_hues) (defBody st_write_hues) (defScope st_write_hues) .none kV_write_hues dc_write_hues pm_write_hues an_write_hues cd_write_hues ct_write_hues), sl_write_hues⟩)
    (q_write_hues : PySem.W.codeIn K cd_write_hues "write_hues" = true)
    (k_write_hues : PySem.W.keepIn K (.ref f_write_hues) = true)
    (a_read_hues : PySem.W.nsIn K mainGlobals "read_hues" = some (some (.ref f_read_hues)))
    (l_read_hues : K.lookup f_read_hues = some ⟨oc_read_hues, od_read_hues, .func (PySem.W.fnOf "read_hues" "read_hues" (defArgs st_read_hues) (defBody st_read_hues) (defScope st_read_hues) .none kV_read_hues dc_read_hues pm_read_hues an_read_hues cd_read_hues ct_read_hues), sl_read_hues⟩)
    (q_read_hues : PySem.W.codeIn K cd_read_hues "read_hues" = true)
    (k_read_hues : PySem.W.keepIn K (.ref f_read_hues) = true)
    (a_law_right : PySem.W.nsIn K mainGlobals "_law_right" = some (some (.ref f_law_right)))
    (l_law_right : K.lookup f_law_right = some ⟨oc_law_right, od_law_right, .func (PySem.W.fnOf "_law_right" "_law_right" (defArgs st_law_right) (defBody st_law_right) (defScope st_law_right) .none kV_law_right dc_law_right pm_law_right an_law_right cd_law_right ct_law_right), sl_law_right⟩)
    (q_law_right : PySem.W.codeIn K cd_law_right "_law_right" = true)
    (k_law_right : PySem.W.keepIn K (.ref f_law_right) = true)
    (a_law : PySem.W.nsIn K mainGlobals "law" = some (some (.ref f_law)))
    (l_law : K.lookup f_law = some ⟨oc_law, od_law, .func (PySem.W.fnOf "law" "law" (defArgs st_law) (defBody st_law) (defScope st_law) .none kV_law dc_law pm_law an_law cd_law ct_law), sl_law⟩)
    (q_law : PySem.W.codeIn K cd_law "law" = true)
    (k_law : PySem.W.keepIn K (.ref f_law) = true)
    (sa_own_size : PySem.W.findIn K (.ref c_Web) "own_size" = some (some (.ref s_own_size)))
    (sg_own_size : PySem.W.specialIn K (.ref s_own_size) "__get__" = some (some (.builtin "member_descriptor.__get__")))
    (st_own_size : PySem.W.takesIn K (.ref s_own_size) = some true)
    (sy_own_size : PySem.W.typeIn K (.ref s_own_size) = some (.type "member_descriptor"))
    (si_own_size : PySem.W.slotIn K s_own_size c_Web = some 0)
    (sa_own_ties : PySem.W.findIn K (.ref c_Web) "own_ties" = some (some (.ref s_own_ties)))
    (sg_own_ties : PySem.W.specialIn K (.ref s_own_ties) "__get__" = some (some (.builtin "member_descriptor.__get__")))
    (st_own_ties : PySem.W.takesIn K (.ref s_own_ties) = some true)
    (sy_own_ties : PySem.W.typeIn K (.ref s_own_ties) = some (.type "member_descriptor"))
    (si_own_ties : PySem.W.slotIn K s_own_ties c_Web = some 1)
    (io_Web_NoneType : PySem.W.kitOne K (.type "NoneType") (.ref c_Web) = some false)
    (io_Web_bool : PySem.W.kitOne K (.type "bool") (.ref c_Web) = some false)
    (io_Web_int : PySem.W.kitOne K (.type "int") (.ref c_Web) = some false)
    (io_Web_str : PySem.W.kitOne K (.type "str") (.ref c_Web) = some false)
    (io_Web_tuple : PySem.W.kitOne K (.type "tuple") (.ref c_Web) = some false)
    (io_Web_list : PySem.W.kitOne K (.type "list") (.ref c_Web) = some false)
    (io_Web_dict : PySem.W.kitOne K (.type "dict") (.ref c_Web) = some false)
    (io_Web_cWeb : PySem.W.kitOne K (.ref c_Web) (.ref c_Web) = some true)
    (ib_bool_Web : PySem.W.kitOne K (.ref c_Web) (.type "bool") = some false)
    (ib_int_Web : PySem.W.kitOne K (.ref c_Web) (.type "int") = some false)
    (ib_str_Web : PySem.W.kitOne K (.ref c_Web) (.type "str") = some false)
    (ib_tuple_Web : PySem.W.kitOne K (.ref c_Web) (.type "tuple") = some false)
    (ne_Web : PySem.W.findIn K (.ref c_Web) "__ne__" = some (some (.builtin "object.__ne__")))
    (ob_Web : PySem.W.subIn K (.ref c_Web) (.type "object") = some true)
    (n_abs : PySem.W.nsIn K mainGlobals "abs" = some none)
    (n_all : PySem.W.nsIn K mainGlobals "all" = some none)
    (n_bool : PySem.W.nsIn K mainGlobals "bool" = some none)
    (n_enumerate : PySem.W.nsIn K mainGlobals "enumerate" = some none)
    (n_int : PySem.W.nsIn K mainGlobals "int" = some none)
    (n_isinstance : PySem.W.nsIn K mainGlobals "isinstance" = some none)
    (n_len : PySem.W.nsIn K mainGlobals "len" = some none)
    (n_max : PySem.W.nsIn K mainGlobals "max" = some none)
    (n_min : PySem.W.nsIn K mainGlobals "min" = some none)
    (n_range : PySem.W.nsIn K mainGlobals "range" = some none)
    (n_repr : PySem.W.nsIn K mainGlobals "repr" = some none)
    (n_sorted : PySem.W.nsIn K mainGlobals "sorted" = some none)
    (n_str : PySem.W.nsIn K mainGlobals "str" = some none)
    (n_tuple : PySem.W.nsIn K mainGlobals "tuple" = some none)
    (n_zip : PySem.W.nsIn K mainGlobals "zip" = some none)
    (c_AGAINST : PySem.W.nsIn K mainGlobals "AGAINST" = some (some (.str "<" ct_AGAINST)))
    (c_ALONG : PySem.W.nsIn K mainGlobals "ALONG" = some (some (.str ">" ct_ALONG)))
    (c_DIGITS : PySem.W.nsIn K mainGlobals "DIGITS" = some (some (.str "0123456789" ct_DIGITS)))
    (c_GREAT : PySem.W.nsIn K mainGlobals "GREAT" = some (some (.int 1000000000000000000000000000000000000000000000000000000000000 ct_GREAT)))
    (c_HUES : PySem.W.nsIn K mainGlobals "HUES" = some (some (.str "hues" ct_HUES)))
    (c_MAX_HUE : PySem.W.nsIn K mainGlobals "MAX_HUE" = some (some (.int 9 ct_MAX_HUE)))
    (c_MAX_PLACES : PySem.W.nsIn K mainGlobals "MAX_PLACES" = some (some (.int 7 ct_MAX_PLACES)))
    (c_MAX_SIGNS : PySem.W.nsIn K mainGlobals "MAX_SIGNS" = some (some (.int 20000 ct_MAX_SIGNS)))
    (c_MAX_TIES : PySem.W.nsIn K mainGlobals "MAX_TIES" = some (some (.int 14 ct_MAX_TIES)))
    (c_MOST_DIGITS : PySem.W.nsIn K mainGlobals "MOST_DIGITS" = some (some (.int 9 ct_MOST_DIGITS)))
    (c_PLACES : PySem.W.nsIn K mainGlobals "PLACES" = some (some (.str "places" ct_PLACES)))
    : ∃ (G : Gc) (m : List D → AH → Res D), G.T = [] ∧ G.K = K ∧ (∀ ns : List Int, ns.length ≤ 63 → ∃ A, m [.scr (ns.map .int)] [] = .ok (.bl true) A) ∧ ∀ base : Heap, K.In base → base.Ns mainGlobals mg → FnG l.prog w K mg base G 9 fa m := by
  have e := hfa.symm.trans (PySem.W.mg_of X G a_law)
  cases e
  have SC_Web : SlX.SCls K c_Web := ⟨pg_Web, ic_Web, po_Web, sa_Web⟩
  have SI_Web : SlX.SIsi K c_Web := ⟨ca_Web, gcn, gct, cm_Web⟩
  have T : Tx K mg ⟨f_law_bag, f_law_draw, f_law_one_of, f_law_ties, f_is_int, f_is_whole, f_is_within, f_require_size, f_are_ties, f_Web_init, f_require_web, f_lines_text, f_write_web, f_require_text, f_whole_lines, f_number_of, f_size_from, f_numbers_of, f_tie_from, f_read_web, f_Web_eq, f_Web_ties, f_are_signs_in, f_require_signs, f_write_signs, f_alone_line, f_read_signs, f_are_hues_in, f_write_hues, f_read_hues, f_law_right, fa, c_Web, s_own_size, s_own_ties, p_ties⟩ ⟨K, clsOf ⟨f_law_bag, f_law_draw, f_law_one_of, f_law_ties, f_is_int, f_is_whole, f_is_within, f_require_size, f_are_ties, f_Web_init, f_require_web, f_lines_text, f_write_web, f_require_text, f_whole_lines, f_number_of, f_size_from, f_numbers_of, f_tie_from, f_read_web, f_Web_eq, f_Web_ties, f_are_signs_in, f_require_signs, f_write_signs, f_alone_line, f_read_signs, f_are_hues_in, f_write_hues, f_read_hues, f_law_right, fa, c_Web, s_own_size, s_own_ties, p_ties⟩, fun _ => none, []⟩ := ⟨rfl,
    ⟨_, fun_mk l_law_bag q_law_bag k_law_bag⟩,
    PySem.W.mg_of X G a_law_bag,
    k_law_bag,
    ⟨_, fun_mk l_law_draw q_law_draw k_law_draw⟩,
    PySem.W.mg_of X G a_law_draw,
    k_law_draw,
    ⟨_, fun_mk l_law_one_of q_law_one_of k_law_one_of⟩,
    PySem.W.mg_of X G a_law_one_of,
    k_law_one_of,
    ⟨_, fun_mk l_law_ties q_law_ties k_law_ties⟩,
    PySem.W.mg_of X G a_law_ties,
    k_law_ties,
    ⟨_, fun_mk l_is_int q_is_int k_is_int⟩,
    PySem.W.mg_of X G a_is_int,
    k_is_int,
    ⟨_, fun_mk l_is_whole q_is_whole k_is_whole⟩,
    PySem.W.mg_of X G a_is_whole,
    k_is_whole,
    ⟨_, fun_mk l_is_within q_is_within k_is_within⟩,
    PySem.W.mg_of X G a_is_within,
    k_is_within,
    ⟨_, fun_mk l_require_size q_require_size k_require_size⟩,
    PySem.W.mg_of X G a_require_size,
    k_require_size,
    ⟨_, fun_mk l_are_ties q_are_ties k_are_ties⟩,
    PySem.W.mg_of X G a_are_ties,
    k_are_ties,
    ⟨_, fun_mk l_Web_init q_Web_init k_Web_init⟩,
    ⟨_, fun_mk l_require_web q_require_web k_require_web⟩,
    PySem.W.mg_of X G a_require_web,
    k_require_web,
    ⟨_, fun_mk l_lines_text q_lines_text k_lines_text⟩,
    PySem.W.mg_of X G a_lines_text,
    k_lines_text,
    ⟨_, fun_mk l_write_web q_write_web k_write_web⟩,
    PySem.W.mg_of X G a_write_web,
    k_write_web,
    ⟨_, fun_mk l_require_text q_require_text k_require_text⟩,
    PySem.W.mg_of X G a_require_text,
    k_require_text,
    ⟨_, fun_mk l_whole_lines q_whole_lines k_whole_lines⟩,
    PySem.W.mg_of X G a_whole_lines,
    k_whole_lines,
    ⟨_, fun_mk l_number_of q_number_of k_number_of⟩,
    PySem.W.mg_of X G a_number_of,
    k_number_of,
    ⟨_, fun_mk l_size_from q_size_from k_size_from⟩,
    PySem.W.mg_of X G a_size_from,
    k_size_from,
    ⟨_, fun_mk l_numbers_of q_numbers_of k_numbers_of⟩,
    PySem.W.mg_of X G a_numbers_of,
    k_numbers_of,
    ⟨_, fun_mk l_tie_from q_tie_from k_tie_from⟩,
    PySem.W.mg_of X G a_tie_from,
    k_tie_from,
    ⟨_, fun_mk l_read_web q_read_web k_read_web⟩,
    PySem.W.mg_of X G a_read_web,
    k_read_web,
    ⟨_, fun_mk l_Web_eq q_Web_eq k_Web_eq⟩,
    ⟨_, fun_mk l_Web_ties q_Web_ties k_Web_ties⟩,
    ⟨_, fun_mk l_are_signs_in q_are_signs_in k_are_signs_in⟩,
    PySem.W.mg_of X G a_are_signs_in,
    k_are_signs_in,
    ⟨_, fun_mk l_require_signs q_require_signs k_require_signs⟩,
    PySem.W.mg_of X G a_require_signs,
    k_require_signs,
    ⟨_, fun_mk l_write_signs q_write_signs k_write_signs⟩,
    PySem.W.mg_of X G a_write_signs,
    k_write_signs,
    ⟨_, fun_mk l_alone_line q_alone_line k_alone_line⟩,
    PySem.W.mg_of X G a_alone_line,
    k_alone_line,
    ⟨_, fun_mk l_read_signs q_read_signs k_read_signs⟩,
    PySem.W.mg_of X G a_read_signs,
    k_read_signs,
    ⟨_, fun_mk l_are_hues_in q_are_hues_in k_are_hues_in⟩,
    PySem.W.mg_of X G a_are_hues_in,
    k_are_hues_in,
    ⟨_, fun_mk l_write_hues q_write_hues k_write_hues⟩,
    PySem.W.mg_of X G a_write_hues,
    k_write_hues,
    ⟨_, fun_mk l_read_hues q_read_hues k_read_hues⟩,
    PySem.W.mg_of X G a_read_hues,
    k_read_hues,
    ⟨_, fun_mk l_law_right q_law_right k_law_right⟩,
    PySem.W.mg_of X G a_law_right,
    k_law_right,
    ⟨_, fun_mk l_law q_law k_law⟩,
    PySem.W.mg_of X G a_law,
    k_law,
    ⟨rfl, SC_Web⟩,
    PySem.W.mg_of X G a_Web,
    ⟨mk_Web, a_Web_init, i_Web_init, kc_Web⟩,
    ⟨a_Web_eq, ne_Web, i_Web_eq, ob_Web⟩,
    ⟨kits io_Web_NoneType io_Web_bool io_Web_int io_Web_str io_Web_tuple io_Web_list io_Web_dict, fun c C h => clsEach h (fun e1 e2 => by subst e1; subst e2; exact ⟨SC_Web, SI_Web, io_Web_cWeb⟩)⟩,
    ⟨isB_bool K, fun c C h => clsEach h (fun e1 e2 => by subst e1; subst e2; exact ⟨SC_Web, SI_Web, ib_bool_Web⟩)⟩,
    ⟨isB_int K, fun c C h => clsEach h (fun e1 e2 => by subst e1; subst e2; exact ⟨SC_Web, SI_Web, ib_int_Web⟩)⟩,
    ⟨isB_str K, fun c C h => clsEach h (fun e1 e2 => by subst e1; subst e2; exact ⟨SC_Web, SI_Web, ib_str_Web⟩)⟩,
    ⟨isB_tuple K, fun c C h => clsEach h (fun e1 e2 => by subst e1; subst e2; exact ⟨SC_Web, SI_Web, ib_tuple_Web⟩)⟩,
    ⟨sa_own_size, sg_own_size, st_own_size, sy_own_size, si_own_size, by decide⟩,
    ⟨sa_own_ties, sg_own_ties, st_own_ties, sy_own_ties, si_own_ties, by decide⟩,
    ⟨SC_Web, pa_ties, pg_ties, pt_ties, ⟨_, pr_ties⟩⟩,
    PySem.W.mg_none_of X G n_abs,
    PySem.W.mg_none_of X G n_all,
    PySem.W.mg_none_of X G n_bool,
    PySem.W.mg_none_of X G n_enumerate,
    PySem.W.mg_none_of X G n_int,
    PySem.W.mg_none_of X G n_isinstance,
    PySem.W.mg_none_of X G n_len,
    PySem.W.mg_none_of X G n_max,
    PySem.W.mg_none_of X G n_min,
    PySem.W.mg_none_of X G n_range,
    PySem.W.mg_none_of X G n_repr,
    PySem.W.mg_none_of X G n_sorted,
    PySem.W.mg_none_of X G n_str,
    PySem.W.mg_none_of X G n_tuple,
    PySem.W.mg_none_of X G n_zip,
    ⟨ct_AGAINST, strEq (PySem.W.mg_of X G c_AGAINST) (by decide +kernel)⟩,
    ⟨ct_ALONG, strEq (PySem.W.mg_of X G c_ALONG) (by decide +kernel)⟩,
    ⟨ct_DIGITS, strEq (PySem.W.mg_of X G c_DIGITS) (by decide +kernel)⟩,
    ⟨_, PySem.W.mg_of X G c_GREAT⟩,
    ⟨ct_HUES, strEq (PySem.W.mg_of X G c_HUES) (by decide +kernel)⟩,
    ⟨_, PySem.W.mg_of X G c_MAX_HUE⟩,
    ⟨_, PySem.W.mg_of X G c_MAX_PLACES⟩,
    ⟨_, PySem.W.mg_of X G c_MAX_SIGNS⟩,
    ⟨_, PySem.W.mg_of X G c_MAX_TIES⟩,
    ⟨_, PySem.W.mg_of X G c_MOST_DIGITS⟩,
    ⟨ct_PLACES, strEq (PySem.W.mg_of X G c_PLACES) (by decide +kernel)⟩⟩
  exact ⟨⟨K, clsOf ⟨f_law_bag, f_law_draw, f_law_one_of, f_law_ties, f_is_int, f_is_whole, f_is_within, f_require_size, f_are_ties, f_Web_init, f_require_web, f_lines_text, f_write_web, f_require_text, f_whole_lines, f_number_of, f_size_from, f_numbers_of, f_tie_from, f_read_web, f_Web_eq, f_Web_ties, f_are_signs_in, f_require_signs, f_write_signs, f_alone_line, f_read_signs, f_are_hues_in, f_write_hues, f_read_hues, f_law_right, fa, c_Web, s_own_size, s_own_ties, p_ties⟩, fun _ => none, []⟩, m_law, rfl, rfl, plain, fun base _ _ => g_law T⟩
end Lw
open PySem PySem.W PyProof.Rows
set_option maxRecDepth 100000 in
set_option maxHeartbeats 0 in
theorem PySem.Challenge.cw_flowhues_k88_whole_texts_there_and_back_holds : PySem.Challenge.rw_flowhues_k88_whole_texts_there_and_back.Holds := by
  w_on; o_law; k_head; (case hw => w_witness2)
  k_fill
  refine F3.walkG (l := PySem.Challenge.rw_flowhues_k88_whole_texts_there_and_back) (n := 63) (k := 9) rfl (by decide) rfl (F3.room_caller (by decide) (by decide)) (fun w h Y => PySem.W.kIn_of Y) ?F
  case F =>
    intro w mg fa h KX G hmg
    refine' Lw.all_mk KX G hmg Lw.plain ?a_Web ?pg_Web ?ic_Web ?po_Web ?sa_Web ?ca_Web ?cm_Web ?mk_Web ?kc_Web ?gcn ?gct ?a_law_bag ?l_law_bag ?q_law_bag ?k_law_bag ?a_law_draw ?l_law_draw ?q_law_draw ?k_law_draw ?a_law_one_of ?l_law_one_of ?q_law_one_of ?k_law_one_of ?a_law_ties ?l_law_ties ?q_law_ties ?k_law_ties ?a_is_int ?l_is_int ?q_is_int ?k_is_int ?a_is_whole ?l_is_whole ?q_is_whole ?k_is_whole ?a_is_within ?l_is_within ?q_is_within ?k_is_within ?a_require_size ?l_require_size ?q_require_size ?k_require_size ?a_are_ties ?l_are_ties ?q_are_ties ?k_are_ties ?a_Web_init ?i_Web_init ?l_Web_init ?q_Web_init ?k_Web_init ?a_require_web ?l_require_web ?q_require_web ?k_require_web ?a_lines_text ?l_lines_text ?q_lines_text ?k_lines_text ?a_write_web ?l_write_web ?q_write_web ?k_write_web ?a_require_text ?l_require_text ?q_require_text ?k_require_text ?a_whole_lines ?l_whole_lines ?q_whole_lines ?k_whole_lines ?a_number_of ?l_number_of ?q_number_of ?k_number_of ?a_size_from ?l_size_from ?q_size_from ?k_size_from ?a_numbers_of ?l_numbers_of ?q_numbers_of ?k_numbers_of ?a_tie_from ?l_tie_from ?q_tie_from ?k_tie_from ?a_read_web ?l_read_web ?q_read_web ?k_read_web ?a_Web_eq ?i_Web_eq ?l_Web_eq ?q_Web_eq ?k_Web_eq ?pa_ties ?pr_ties ?pg_ties ?pt_ties ?l_Web_ties ?q_Web_ties ?k_Web_ties ?a_are_signs_in ?l_are_signs_in ?q_are_signs_in ?k_are_signs_in ?a_require_signs ?l_require_signs ?q_require_signs ?k_require_signs ?a_write_signs ?l_write_signs ?q_write_signs ?k_write_signs ?a_alone_line ?l_alone_line ?q_alone_line ?k_alone_line ?a_read_signs ?l_read_signs ?q_read_signs ?k_read_signs ?a_are_hues_in ?l_are_hues_in ?q_are_hues_in ?k_are_hues_in ?a_write_hues ?l_write_hues ?q_write_hues ?k_write_hues ?a_read_hues ?l_read_hues ?q_read_hues ?k_read_hues ?a_law_right ?l_law_right ?q_law_right ?k_law_right ?a_law ?l_law ?q_law ?k_law ?sa_own_size ?sg_own_size ?st_own_size ?sy_own_size ?si_own_size ?sa_own_ties ?sg_own_ties ?st_own_ties ?sy_own_ties ?si_own_ties ?io_Web_NoneType ?io_Web_bool ?io_Web_int ?io_Web_str ?io_Web_tuple ?io_Web_list ?io_Web_dict ?io_Web_cWeb ?ib_bool_Web ?ib_int_Web ?ib_str_Web ?ib_tuple_Web ?ne_Web ?ob_Web ?n_abs ?n_all ?n_bool ?n_enumerate ?n_int ?n_isinstance ?n_len ?n_max ?n_min ?n_range ?n_repr ?n_sorted ?n_str ?n_tuple ?n_zip ?c_AGAINST ?c_ALONG ?c_DIGITS ?c_GREAT ?c_HUES ?c_MAX_HUE ?c_MAX_PLACES ?c_MAX_SIGNS ?c_MAX_TIES ?c_MOST_DIGITS ?c_PLACES
    (case a_Web => k_is)
    (case pg_Web => k_is)
    (case ic_Web => k_is)
    (case po_Web => k_is)
    (case sa_Web => k_is)
    (case ca_Web => k_is)
    (case cm_Web => k_is)
    (case mk_Web => k_is)
    (case kc_Web => k_is)
    (case gcn => k_is)
    (case gct => k_is)
    (case a_law_bag => k_is)
    (case l_law_bag => k_is)
    (case q_law_bag => k_is)
    (case k_law_bag => k_is)
    (case a_law_draw => k_is)
    (case l_law_draw => k_is)
    (case q_law_draw => k_is)
    (case k_law_draw => k_is)
    (case a_law_one_of => k_is)
    (case l_law_one_of => k_is)
    (case q_law_one_of => k_is)
    (case k_law_one_of => k_is)
    (case a_law_ties => k_is)
    (case l_law_ties => k_is)
    (case q_law_ties => k_is)
    (case k_law_ties => k_is)
    (case a_is_int => k_is)
    (case l_is_int => k_is)
    (case q_is_int => k_is)
    (case k_is_int => k_is)
    (case a_is_whole => k_is)
    (case l_is_whole => k_is)
    (case q_is_whole => k_is)
    (case k_is_whole => k_is)
    (case a_is_within => k_is)
    (case l_is_within => k_is)
    (case q_is_within => k_is)
    (case k_is_within => k_is)
    (case a_require_size => k_is)
    (case l_require_size => k_is)
    (case q_require_size => k_is)
    (case k_require_size => k_is)
    (case a_are_ties => k_is)
    (case l_are_ties => k_is)
    (case q_are_ties => k_is)
    (case k_are_ties => k_is)
    (case a_Web_init => k_is)
    (case i_Web_init => k_is)
    (case l_Web_init => k_is)
    (case q_Web_init => k_is)
    (case k_Web_init => k_is)
    (case a_require_web => k_is)
    (case l_require_web => k_is)
    (case q_require_web => k_is)
    (case k_require_web => k_is)
    (case a_lines_text => k_is)
    (case l_lines_text => k_is)
    (case q_lines_text => k_is)
    (case k_lines_text => k_is)
    (case a_write_web => k_is)
    (case l_write_web => k_is)
    (case q_write_web => k_is)
    (case k_write_web => k_is)
    (case a_require_text => k_is)
    (case l_require_text => k_is)
    (case q_require_text => k_is)
    (case k_require_text => k_is)
    (case a_whole_lines => k_is)
    (case l_whole_lines => k_is)
    (case q_whole_lines => k_is)
    (case k_whole_lines => k_is)
    (case a_number_of => k_is)
    (case l_number_of => k_is)
    (case q_number_of => k_is)
    (case k_number_of => k_is)
    (case a_size_from => k_is)
    (case l_size_from => k_is)
    (case q_size_from => k_is)
    (case k_size_from => k_is)
    (case a_numbers_of => k_is)
    (case l_numbers_of => k_is)
    (case q_numbers_of => k_is)
    (case k_numbers_of => k_is)
    (case a_tie_from => k_is)
    (case l_tie_from => k_is)
    (case q_tie_from => k_is)
    (case k_tie_from => k_is)
    (case a_read_web => k_is)
    (case l_read_web => k_is)
    (case q_read_web => k_is)
    (case k_read_web => k_is)
    (case a_Web_eq => k_is)
    (case i_Web_eq => k_is)
    (case l_Web_eq => k_is)
    (case q_Web_eq => k_is)
    (case k_Web_eq => k_is)
    (case pa_ties => k_is)
    (case pr_ties => k_is)
    (case pg_ties => k_is)
    (case pt_ties => k_is)
    (case l_Web_ties => k_is)
    (case q_Web_ties => k_is)
    (case k_Web_ties => k_is)
    (case a_are_signs_in => k_is)
    (case l_are_signs_in => k_is)
    (case q_are_signs_in => k_is)
    (case k_are_signs_in => k_is)
    (case a_require_signs => k_is)
    (case l_require_signs => k_is)
    (case q_require_signs => k_is)
    (case k_require_signs => k_is)
    (case a_write_signs => k_is)
    (case l_write_signs => k_is)
    (case q_write_signs => k_is)
    (case k_write_signs => k_is)
    (case a_alone_line => k_is)
    (case l_alone_line => k_is)
    (case q_alone_line => k_is)
    (case k_alone_line => k_is)
    (case a_read_signs => k_is)
    (case l_read_signs => k_is)
    (case q_read_signs => k_is)
    (case k_read_signs => k_is)
    (case a_are_hues_in => k_is)
    (case l_are_hues_in => k_is)
    (case q_are_hues_in => k_is)
    (case k_are_hues_in => k_is)
    (case a_write_hues => k_is)
    (case l_write_hues => k_is)
    (case q_write_hues => k_is)
    (case k_write_hues => k_is)
    (case a_read_hues => k_is)
    (case l_read_hues => k_is)
    (case q_read_hues => k_is)
    (case k_read_hues => k_is)
    (case a_law_right => k_is)
    (case l_law_right => k_is)
    (case q_law_right => k_is)
    (case k_law_right => k_is)
    (case a_law => k_is)
    (case l_law => k_is)
    (case q_law => k_is)
    (case k_law => k_is)
    (case sa_own_size => k_is)
    (case sg_own_size => k_is)
    (case st_own_size => k_is)
    (case sy_own_size => k_is)
    (case si_own_size => k_is)
    (case sa_own_ties => k_is)
    (case sg_own_ties => k_is)
    (case st_own_ties => k_is)
    (case sy_own_ties => k_is)
    (case si_own_ties => k_is)
    (case io_Web_NoneType => kit_is)
    (case io_Web_bool => kit_is)
    (case io_Web_int => kit_is)
    (case io_Web_str => kit_is)
    (case io_Web_tuple => kit_is)
    (case io_Web_list => kit_is)
    (case io_Web_dict => kit_is)
    (case io_Web_cWeb => kit_is)
    (case ib_bool_Web => kit_is)
    (case ib_int_Web => kit_is)
    (case ib_str_Web => kit_is)
    (case ib_tuple_Web => kit_is)
    (case ne_Web => k_is)
    (case ob_Web => k_is)
    (case n_abs => k_is)
    (case n_all => k_is)
    (case n_bool => k_is)
    (case n_enumerate => k_is)
    (case n_int => k_is)
    (case n_isinstance => k_is)
    (case n_len => k_is)
    (case n_max => k_is)
    (case n_min => k_is)
    (case n_range => k_is)
    (case n_repr => k_is)
    (case n_sorted => k_is)
    (case n_str => k_is)
    (case n_tuple => k_is)
    (case n_zip => k_is)
    (case c_AGAINST => k_is)
    (case c_ALONG => k_is)
    (case c_DIGITS => k_is)
    (case c_GREAT => k_is)
    (case c_HUES => k_is)
    (case c_MAX_HUE => k_is)
    (case c_MAX_PLACES => k_is)
    (case c_MAX_SIGNS => k_is)
    (case c_MAX_TIES => k_is)
    (case c_MOST_DIGITS => k_is)
    (case c_PLACES => k_is)
#print axioms PySem.Challenge.cw_flowhues_k88_whole_texts_there_and_back_holds

