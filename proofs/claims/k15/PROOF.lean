import PyProof.Rows.All
import Wide.All
import OpenK.AllK
import Wide.FinOn
import HandS.ForMost
import HandS.ForExc
import HandS.CallSlots
import HandS.IsInst
import HandS.Deep
import HandS.TupAny
import HandS.TupMul
import HandS.Style
import HandS.Zip
import HandS.Rev
import HandS.Conv
import HandS.ExcIs
import HandS.Small
import HandS.Dict
import HandS.Defaults
import HandS.HeadHook2
import HandS.TryMany
import KE.SortData
import HandS.SortInts
import HandS.ListItems
import KE.KStateDown
import HandS.Base
import HandS.Call
import HandS.List
import HandS.More
import HandS.Exc
import HandS.Head0
import HandS.Head1
import HandS.Head2
import HandS.HeadEnd
import HandS.HeadHook1
import KE.GoesEnum
import KE.GoesMore
import HandS.Iter
import HandS.DictComp
import HandS.SetFor
import HandS.Strs
import KE.DataMinMax
import PySem.Challenge.RW_archivewright_k15_whole_cheapest_rows
set_option Elab.async false
set_option linter.all false
set_option maxRecDepth 100000
set_option maxHeartbeats 4000000
namespace L2.Pv
open PySem PySem.Spec PyProof.Rows

/-! ## data -/
inductive IV where
  | non | bl (b : Bool) | int (i : Int) | str (x : Str) | tup (xs : List IV)
inductive DV where
  | i (x : IV) | l (xs : List IV) | m (xs : List DV) | f (xs : List IV)
  | t (xs : List DV)
  | k (kvs : List (Key × IV)) | h (kvs : List (List Key × IV))
/-- who may change the list at the top: the slot that owns it; loc: made here, frozen; bor: from outside; tmp: an owned one looked at -/
inductive Md where
  | own | loc | bor | tmp
  deriving DecidableEq
abbrev Env := List (Option (DV × Md))
inductive R (α : Type) where
  | ok (a : α) | ex (c : Str) (p : Option (Str × IV)) | bad
def R.bind {α β : Type} (x : R α) (f : α → R β) : R β := match x with
  | .ok a => f a
  | .ex c p => .ex c p
  | .bad => .bad
inductive RS where
  | nx (ρ : Env) | rt (d : DV) | bk (ρ : Env) | ct (ρ : Env) | ex (c : Str) (p : Option (Str × IV)) (ρ : Env) | bad

/-! ## how data lie in the heap -/
mutual
inductive RpI (K : PySem.W.Frag) (H : Hp) : V → IV → Prop
  | non : RpI K H .non .non
  | bl (b : Bool) : RpI K H (.bl b) (.bl b)
  | int (i : Int) : RpI K H (.int i) (.int i)
  | str (x : Str) : RpI K H (.str x) (.str x)
  | tup {a : Addr} {vs : List V} {xs : List IV} : H a = some (.tup vs) → RpIs K H vs xs → RpI K H (.ref a) (.tup xs)
inductive RpIs (K : PySem.W.Frag) (H : Hp) : List V → List IV → Prop
  | nil : RpIs K H [] []
  | cons {v : V} {vs : List V} {x : IV} {xs : List IV} : RpI K H v x → RpIs K H vs xs → RpIs K H (v :: vs) (x :: xs)
end
/-- a list that is read only: the script, a written one -/
def FzL (K : PySem.W.Frag) (H : Hp) (a : Addr) (xs : List V) : Prop := (∃ o, H a = some (.frz o (.lst xs))) ∨
    ∃ (o : Obj) (its : Array Value) (n : Nat), K.lookup a = some o ∧ o.cls = .type "list" ∧ o.dict = none ∧ o.data = .seq its n ∧ its.size ≤ sizeLine ∧ Vals xs its.toList
theorem FzL.sq {K : PySem.W.Frag} {H : Hp} {a : Addr} {xs : List V} (h : FzL K H a xs) : SqL K H a xs := by
  rcases h with h | h
  · exact .inl (.inr h)
  · exact .inr h
/-- a dict's pairs -/
inductive RpK (K : PySem.W.Frag) (H : Hp) {κ : Type} : List (κ × V) → List (κ × IV) → Prop
  | nil : RpK K H [] []
  | cons {c : κ} {v : V} {vs : List (κ × V)} {x : IV} {xs : List (κ × IV)} : RpI K H v x → RpK K H vs xs → RpK K H ((c, v) :: vs) ((c, x) :: xs)
/-- what may be changed: a list, a dict -/
def MbO : HO → Prop
  | .lst _ => True
  | .dK _ => True
  | .dT _ => True
  | _ => False
def Mb (H : Hp) (a : Addr) : Prop := ∃ o, H a = some o ∧ MbO o
theorem mb_l {H : Hp} {a : Addr} {vs : List V} (h : H a = some (.lst vs)) : Mb H a := ⟨_, h, trivial⟩
theorem mb_k {H : Hp} {a : Addr} {vs : List (Key × V)} (h : H a = some (.dK vs)) : Mb H a := ⟨_, h, trivial⟩
theorem mb_h {H : Hp} {a : Addr} {vs : List (List Key × V)} (h : H a = some (.dT vs)) : Mb H a := ⟨_, h, trivial⟩
theorem Mb.eq {H H' : Hp} {a : Addr} (h : Mb H a) (e : H' a = H a) : Mb H' a := by
  obtain ⟨o, h1, h2⟩ := h
  exact ⟨o, by rw [e]; exact h1, h2⟩
theorem Mb.same {H H' : Hp} {a : Addr} (h : Mb H a) (e : Same H H') : Mb H' a := by
  obtain ⟨o, h1, h2⟩ := h
  exact ⟨o, e _ _ h1, h2⟩
theorem Mb.some {H : Hp} {a : Addr} (h : Mb H a) : ∃ o, H a = Option.some o := let ⟨o, q, _⟩ := h; ⟨o, q⟩
mutual
inductive RpD (K : PySem.W.Frag) (H : Hp) : V → DV → List Addr → Prop
  | i {v : V} {x : IV} : RpI K H v x → RpD K H v (.i x) []
  | l {a : Addr} {vs : List V} {xs : List IV} : H a = some (.lst vs) → RpIs K H vs xs → RpD K H (.ref a) (.l xs) [a]
  | f {a : Addr} {vs : List V} {xs : List IV} : FzL K H a vs → RpIs K H vs xs → RpD K H (.ref a) (.f xs) []
  | m {a : Addr} {vs : List V} {xs : List DV} {F : List Addr} : H a = some (.lst vs) → RpDs K H vs xs F → RpD K H (.ref a) (.m xs) (a :: F)
  | t {a : Addr} {vs : List V} {xs : List DV} {F : List Addr} : H a = some (.tup vs) → RpDs K H vs xs F → RpD K H (.ref a) (.t xs) F
  | k {a : Addr} {vs : List (Key × V)} {xs : List (Key × IV)} : H a = some (.dK vs) → RpK K H vs xs → RpD K H (.ref a) (.k xs) [a]
  | h {a : Addr} {vs : List (List Key × V)} {xs : List (List Key × IV)} : H a = some (.dT vs) → RpK K H vs xs → RpD K H (.ref a) (.h xs) [a]
inductive RpDs (K : PySem.W.Frag) (H : Hp) : List V → List DV → List Addr → Prop
  | nil : RpDs K H [] [] []
  | cons {v : V} {vs : List V} {x : DV} {xs : List DV} {F G : List Addr} : RpD K H v x F → RpDs K H vs xs G → RpDs K H (v :: vs) (x :: xs) (F ++ G)
end

/-! ### tuples stay -/
structure TKeep (H H' : Hp) : Prop where
  t : ∀ a xs, H a = some (.tup xs) → H' a = some (.tup xs)
  f : ∀ a o u, H a = some (.frz o u) → H' a = some (.frz o u)
theorem TKeep.refl (H : Hp) : TKeep H H := ⟨fun _ _ h => h, fun _ _ _ h => h⟩
theorem TKeep.trans {H H1 H2 : Hp} (a : TKeep H H1) (b : TKeep H1 H2) : TKeep H H2 := ⟨fun c o h => b.t c o (a.t c o h), fun c o u h => b.f c o u (a.f c o u h)⟩
theorem TKeep.sq {K : PySem.W.Frag} {H H' : Hp} {a : Addr} {xs : List V} (k : TKeep H H') (h : SqT K H a xs) : SqT K H' a xs := by
  rcases h with (h | ⟨o, h⟩) | h
  · exact .inl (.inl (k.t _ _ h))
  · exact .inl (.inr ⟨o, k.f _ _ _ h⟩)
  · exact .inr h
theorem TKeep.fz {K : PySem.W.Frag} {H H' : Hp} {a : Addr} {xs : List V} (k : TKeep H H') (h : FzL K H a xs) : FzL K H' a xs := by
  rcases h with ⟨o, h⟩ | h
  · exact .inl ⟨o, k.f _ _ _ h⟩
  · exact .inr h
theorem same_tkeep {H H' : Hp} (e : Same H H') : TKeep H H' := ⟨fun a xs h => e _ _ h, fun a o u h => e _ _ h⟩
/-- a thing that may be changed is changed -/
theorem upd_tkeep' {H : Hp} {a : Addr} {o : HO} (h : Mb H a) : TKeep H (upd H a o) := by
  obtain ⟨q, h, h2⟩ := h
  exact ⟨fun b xs r => by rw [upd_ne (ne_of r h (by intro z; subst z; cases h2))]; exact r, fun b ob u r => by rw [upd_ne (ne_of r h (by intro z; subst z; cases h2))]; exact r⟩
theorem upd_tkeep {H : Hp} {a : Addr} {vs : List V} {o : HO} (h : H a = some (.lst vs)) : TKeep H (upd H a o) := upd_tkeep' (mb_l h)
theorem same_upd {H : Hp} {p : Addr} {o : HO} (h : H p = none) : Same H (upd H p o) := fun b x e => by
  rw [upd_ne (ne_of_none e h)]
  exact e

mutual
theorem RpI.mono {K : PySem.W.Frag} {H H' : Hp} (k : TKeep H H') : ∀ {v : V} {x : IV}, RpI K H v x → RpI K H' v x
  | _, .non, h => by cases h; exact .non
  | _, .bl b, h => by cases h; exact .bl b
  | _, .int i, h => by cases h; exact .int i
  | _, .str x, h => by cases h; exact .str x
  | _, .tup xs, h => by
    cases h with
    | tup s r => exact .tup (k.t _ _ s) (RpIs.mono k r)
theorem RpIs.mono {K : PySem.W.Frag} {H H' : Hp} (k : TKeep H H') : ∀ {vs : List V} {xs : List IV}, RpIs K H vs xs → RpIs K H' vs xs
  | _, [], h => by cases h; exact .nil
  | _, x :: xs, h => by
    cases h with
    | cons a b => exact .cons (RpI.mono k a) (RpIs.mono k b)
end
theorem RpK.mono {K : PySem.W.Frag} {H H' : Hp} {κ : Type} (k : TKeep H H') : ∀ {vs : List (κ × V)} {xs : List (κ × IV)}, RpK K H vs xs → RpK K H' vs xs
  | _, [], h => by cases h; exact .nil
  | _, x :: xs, h => by
    cases h with
    | cons a b => exact .cons (RpI.mono k a) (RpK.mono k b)
theorem RpK.length {K : PySem.W.Frag} {H : Hp} {κ : Type} : ∀ {vs : List (κ × V)} {xs : List (κ × IV)}, RpK K H vs xs → vs.length = xs.length
  | _, [], h => by cases h; rfl
  | _, x :: xs, h => by cases h with | cons a b => exact congrArg (· + 1) (RpK.length b)
/-- what a footprint leans on -/
def FKeep (H H' : Hp) (F : List Addr) : Prop := ∀ a ∈ F, H' a = H a
mutual
theorem RpD.mono {K : PySem.W.Frag} {H H' : Hp} (k : TKeep H H') : ∀ {v : V} {x : DV} {F : List Addr}, FKeep H H' F → RpD K H v x F → RpD K H' v x F
  | _, .i x, _, f, h => by
    cases h with
    | i r => exact .i (RpI.mono k r)
  | _, .l xs, _, f, h => by
    cases h with
    | l s r =>
      exact .l (by rw [f _ List.mem_cons_self]; exact s) (RpIs.mono k r)
  | _, .f xs, _, f, h => by
    cases h with
    | f s r => exact .f (k.fz s) (RpIs.mono k r)
  | _, .m xs, _, f, h => by
    cases h with
    | m s r =>
      exact .m (by rw [f _ List.mem_cons_self]; exact s) (RpDs.mono k (fun a ha => f a (List.mem_cons_of_mem _ ha)) r)
  | _, .t xs, _, f, h => by
    cases h with
    | t s r => exact .t (k.t _ _ s) (RpDs.mono k f r)
  | _, .k xs, _, f, h => by
    cases h with
    | k s r => exact .k (by rw [f _ List.mem_cons_self]; exact s) (RpK.mono k r)
  | _, .h xs, _, f, h => by
    cases h with
    | h s r => exact .h (by rw [f _ List.mem_cons_self]; exact s) (RpK.mono k r)
theorem RpDs.mono {K : PySem.W.Frag} {H H' : Hp} (k : TKeep H H') : ∀ {vs : List V} {xs : List DV} {F : List Addr}, FKeep H H' F → RpDs K H vs xs F → RpDs K H' vs xs F
  | _, [], _, f, h => by cases h; exact .nil
  | _, x :: xs, _, f, h => by
    cases h with
    | cons a b => exact .cons (RpD.mono k (fun c hc => f c (List.mem_append_left _ hc)) a) (RpDs.mono k (fun c hc => f c (List.mem_append_right _ hc)) b)
end
mutual
/-- every address of a footprint is tracked -/
theorem RpD.dom {K : PySem.W.Frag} {H : Hp} : ∀ {v : V} {x : DV} {F : List Addr}, RpD K H v x F → ∀ a ∈ F, ∃ o, H a = some o
  | _, .i x, _, h, a, ha => by cases h; cases ha
  | _, .l xs, _, h, a, ha => by
    cases h with
    | l s r =>
      have e : a = _ := List.mem_singleton.mp ha
      subst e
      exact ⟨_, s⟩
  | _, .f xs, _, h, a, ha => by cases h; cases ha
  | _, .m xs, _, h, a, ha => by
    cases h with
    | m s r =>
      rcases List.mem_cons.mp ha with e | ha
      · subst e
        exact ⟨_, s⟩
      · exact RpDs.dom r a ha
  | _, .t xs, _, h, a, ha => by
    cases h with
    | t s r => exact RpDs.dom r a ha
  | _, .k xs, _, h, a, ha => by
    cases h with
    | k s r =>
      have e : a = _ := List.mem_singleton.mp ha
      subst e
      exact ⟨_, s⟩
  | _, .h xs, _, h, a, ha => by
    cases h with
    | h s r =>
      have e : a = _ := List.mem_singleton.mp ha
      subst e
      exact ⟨_, s⟩
theorem RpDs.dom {K : PySem.W.Frag} {H : Hp} : ∀ {vs : List V} {xs : List DV} {F : List Addr}, RpDs K H vs xs F → ∀ a ∈ F, ∃ o, H a = some o
  | _, [], _, h, a, ha => by cases h; cases ha
  | _, x :: xs, _, h, a, ha => by
    cases h with
    | cons p q =>
      rcases List.mem_append.mp ha with ha | ha
      · exact RpD.dom p a ha
      · exact RpDs.dom q a ha
end
theorem FKeep.of_same {K : PySem.W.Frag} {H H' : Hp} {v : V} {x : DV} {F : List Addr} (e : Same H H') (h : RpD K H v x F) : FKeep H H' F := fun a ha => by
  obtain ⟨o, q⟩ := h.dom a ha
  rw [q, e _ _ q]
theorem FKeep.of_sames {K : PySem.W.Frag} {H H' : Hp} {v : List V} {x : List DV} {F : List Addr} (e : Same H H') (h : RpDs K H v x F) : FKeep H H' F := fun a ha => by
  obtain ⟨o, q⟩ := h.dom a ha
  rw [q, e _ _ q]
theorem RpD.same {K : PySem.W.Frag} {H H' : Hp} {v : V} {x : DV} {F : List Addr} (e : Same H H') (h : RpD K H v x F) : RpD K H' v x F := h.mono (same_tkeep e) (.of_same e h)
theorem RpDs.same {K : PySem.W.Frag} {H H' : Hp} {v : List V} {x : List DV} {F : List Addr} (e : Same H H') (h : RpDs K H v x F) : RpDs K H' v x F := h.mono (same_tkeep e) (.of_sames e h)
theorem RpI.same {K : PySem.W.Frag} {H H' : Hp} {v : V} {x : IV} (e : Same H H') (h : RpI K H v x) : RpI K H' v x := h.mono (same_tkeep e)
theorem RpIs.same {K : PySem.W.Frag} {H H' : Hp} {v : List V} {x : List IV} (e : Same H H') (h : RpIs K H v x) : RpIs K H' v x := h.mono (same_tkeep e)
theorem RpIs.length {K : PySem.W.Frag} {H : Hp} : ∀ {vs : List V} {xs : List IV}, RpIs K H vs xs → vs.length = xs.length
  | _, [], h => by cases h; rfl
  | _, x :: xs, h => by cases h with | cons a b => exact congrArg (· + 1) (RpIs.length b)
theorem RpDs.length {K : PySem.W.Frag} {H : Hp} : ∀ {vs : List V} {xs : List DV} {F : List Addr}, RpDs K H vs xs F → vs.length = xs.length
  | _, [], _, h => by cases h; rfl
  | _, x :: xs, _, h => by cases h with | cons a b => exact congrArg (· + 1) (RpDs.length b)
theorem RpIs.get {K : PySem.W.Frag} {H : Hp} : ∀ {vs : List V} {xs : List IV}, RpIs K H vs xs → ∀ {i : Nat} {x : IV}, xs[i]? = some x → ∃ v, vs[i]? = some v ∧ RpI K H v x
  | _, [], h, i, x, e => by simp at e
  | _, y :: xs, h, 0, x, e => by
    cases h with
    | cons a b =>
      have e' : y = x := by simpa using e
      subst e'
      exact ⟨_, rfl, a⟩
  | _, y :: xs, h, i + 1, x, e => by
    cases h with
    | cons a b =>
      obtain ⟨v, h1, h2⟩ := RpIs.get b (i := i) (x := x) (by simpa using e)
      exact ⟨v, by simpa using h1, h2⟩
theorem RpDs.get {K : PySem.W.Frag} {H : Hp} : ∀ {vs : List V} {xs : List DV} {F : List Addr}, RpDs K H vs xs F → ∀ {i : Nat} {x : DV}, xs[i]? = some x → ∃ v G, vs[i]? = some v ∧ RpD K H v x G ∧ ∀ a ∈ G, a ∈ F
  | _, [], _, h, i, x, e => by simp at e
  | _, y :: xs, _, h, 0, x, e => by
    cases h with
    | cons a b =>
      have e' : y = x := by simpa using e
      subst e'
      exact ⟨_, _, rfl, a, fun c hc => List.mem_append_left _ hc⟩
  | _, y :: xs, _, h, i + 1, x, e => by
    cases h with
    | cons a b =>
      obtain ⟨v, G, h1, h2, h3⟩ := RpDs.get b (i := i) (x := x) (by simpa using e)
      exact ⟨v, G, by simpa using h1, h2, fun c hc => List.mem_append_right _ (h3 c hc)⟩

/-! ## the state -/
/-- the environment as it lies: H0 the heap at the def's entry, Pz what may not be changed meanwhile, T further lists that nobody may name, Fs the slots' footprints -/
structure EnvR (K : PySem.W.Frag) (H0 Pz : Hp) (T : Addr → Prop) (H : Hp) (σ : St) (ρ : Env) (Fs : Nat → List Addr) : Prop where
  h0 : Same H0 Pz
  pz : Same Pz H
  tn : ∀ a, T a → Pz a = none
  th : ∀ a, T a → Mb H a
  len : ρ.length = σ.length
  at_ : ∀ i d m, ρ[i]? = some (some (d, m)) → ∃ v, σ[i]? = some (some v) ∧ RpD K H v d (Fs i)
  fresh : ∀ i d m, ρ[i]? = some (some (d, m)) → m ≠ .bor → ∀ a ∈ Fs i, H0 a = none ∧ Mb H a
  top : ∀ i d, ρ[i]? = some (some (d, .own)) → ∀ a F, Fs i = a :: F → Pz a = none ∧ a ∉ F ∧ (∀ j, j ≠ i → a ∉ Fs j)
  tt : ∀ a, T a → ∀ j, a ∉ Fs j
  nil : ∀ j, (∀ d m, ρ[j]? ≠ some (some (d, m))) → Fs j = []

/-- no list that somebody else may change is named -/
def NoTops (T : Addr → Prop) (ρ : Env) (Fs : Nat → List Addr) (F : List Addr) : Prop :=
  (∀ k d, ρ[k]? = some (some (d, .own)) → ∀ a G, Fs k = a :: G → a ∉ F) ∧ ∀ a, T a → a ∉ F
/-- what is known of a result's footprint -/
structure ResOk (H0 Pz : Hp) (T : Addr → Prop) (ρ : Env) (Fs : Nat → List Addr) (H' : Hp) (F : List Addr) (m : Md) : Prop where
  fresh : m = .own ∨ m = .loc → ∀ a ∈ F, H0 a = none ∧ Mb H' a
  top : m = .own → ∀ a G, F = a :: G → Pz a = none ∧ a ∉ G ∧ ∀ j, a ∉ Fs j
  notops : m ≠ .tmp → NoTops T ρ Fs F
  tmp : m = .tmp → F = [] ∨ ∃ k d, ρ[k]? = some (some (d, .own)) ∧ F = Fs k
theorem ResOk.nil {H0 Pz : Hp} {T : Addr → Prop} {ρ : Env} {Fs : Nat → List Addr} {H' : Hp} {m : Md} : ResOk H0 Pz T ρ Fs H' [] m :=
  ⟨fun _ _ h => (nomatch h), fun _ _ _ h => (nomatch h), fun _ => ⟨fun _ _ _ _ _ _ h => (nomatch h), fun _ _ h => (nomatch h)⟩, fun _ => .inl rfl⟩

section
variable {K : PySem.W.Frag} {H0 Pz H H' : Hp} {T : Addr → Prop} {σ : St} {ρ : Env} {Fs : Nat → List Addr}
theorem EnvR.dom (E : EnvR K H0 Pz T H σ ρ Fs) (j : Nat) : ∀ a ∈ Fs j, ∃ o, H a = some o := fun a ha => by
  cases q : ρ[j]? with
  | none =>
    have e := E.nil j (fun d m z => by rw [q] at z; cases z)
    rw [e] at ha; cases ha
  | some o =>
    cases o with
    | none =>
      have e := E.nil j (fun d m z => by rw [q] at z; cases z)
      rw [e] at ha; cases ha
    | some dm =>
      obtain ⟨d, m⟩ := dm
      obtain ⟨v, _, r⟩ := E.at_ j d m q
      exact r.dom a ha
theorem EnvR.same (E : EnvR K H0 Pz T H σ ρ Fs) (e : Same H H') : EnvR K H0 Pz T H' σ ρ Fs where
  h0 := E.h0
  pz := E.pz.trans e
  tn := E.tn
  th := fun a ha => by
    exact (E.th a ha).same e
  len := E.len
  at_ := fun i d m h => by
    obtain ⟨v, h1, h2⟩ := E.at_ i d m h
    exact ⟨v, h1, h2.same e⟩
  fresh := fun i d m h hm a ha => by
    obtain ⟨h1, h2⟩ := E.fresh i d m h hm a ha
    exact ⟨h1, h2.same e⟩
  top := E.top
  tt := E.tt
  nil := E.nil
theorem ResOk.same {F : List Addr} {m : Md} (r : ResOk H0 Pz T ρ Fs H F m) (e : Same H H') : ResOk H0 Pz T ρ Fs H' F m :=
  ⟨fun hm a ha => by obtain ⟨h1, h2⟩ := r.fresh hm a ha; exact ⟨h1, h2.same e⟩, r.top, r.notops, r.tmp⟩
/-- a wholly new footprint, of a frozen thing -/
theorem ResOk.newL {F : List Addr} (E : EnvR K H0 Pz T H σ ρ Fs) (hF : ∀ a ∈ F, H a = none ∧ Mb H' a) : ResOk H0 Pz T ρ Fs H' F .loc := by
  have no0 : ∀ a, H a = none → H0 a = none := fun a h => by
    cases q : H0 a with
    | none => rfl
    | some o => rw [E.pz _ _ (E.h0 _ _ q)] at h; cases h
  refine ⟨fun _ a ha => ⟨no0 a (hF a ha).1, (hF a ha).2⟩, fun z => (nomatch z), fun _ => ⟨fun k d hk a G e ha => ?_, fun a ha hb => ?_⟩, fun z => (nomatch z)⟩
  · obtain ⟨o, q⟩ := E.dom k a (by rw [e]; exact List.mem_cons_self)
    rw [(hF a ha).1] at q; cases q
  · obtain ⟨o, q⟩ := (E.th a ha).some
    rw [(hF a hb).1] at q; cases q
/-- a wholly new footprint -/
theorem ResOk.new {F : List Addr} (E : EnvR K H0 Pz T H σ ρ Fs) (hF : ∀ a ∈ F, H a = none ∧ Mb H' a) (hT : ∀ a G, F = a :: G → a ∉ G) : ResOk H0 Pz T ρ Fs H' F .own := by
  have no : ∀ a, H a = none → Pz a = none := fun a h => by
    cases q : Pz a with
    | none => rfl
    | some o => rw [E.pz _ _ q] at h; cases h
  have no0 : ∀ a, H a = none → H0 a = none := fun a h => by
    cases q : H0 a with
    | none => rfl
    | some o => rw [E.pz _ _ (E.h0 _ _ q)] at h; cases h
  refine ⟨fun _ a ha => ⟨no0 a (hF a ha).1, (hF a ha).2⟩, fun _ a G e => ⟨no a (hF a (by rw [e]; exact List.mem_cons_self)).1, hT a G e, fun j hj => ?_⟩, fun _ => ⟨fun k d hk a G e ha => ?_, fun a ha hb => ?_⟩, fun z => (nomatch z)⟩
  · obtain ⟨o, q⟩ := E.dom j a hj
    rw [(hF a (by rw [e]; exact List.mem_cons_self)).1] at q; cases q
  · obtain ⟨o, q⟩ := E.dom k a (by rw [e]; exact List.mem_cons_self)
    rw [(hF a ha).1] at q; cases q
  · obtain ⟨o, q⟩ := (E.th a ha).some
    rw [(hF a hb).1] at q; cases q
end
end L2.Pv

namespace L2.Pv
open PySem PySem.Spec PyProof.Rows

/-! ## readings by semantic functions -/
def ExD (K : PySem.W.Frag) (H' : Hp) (d : Option Addr) (p : Option (Str × IV)) : Prop := match p with
  | none => d = none
  | some (f, x) => ∃ dd v, d = some dd ∧ H' dd = some (.xd [(f, v)]) ∧ RpI K H' v x
theorem ExD.same {K : PySem.W.Frag} {H H' : Hp} {d : Option Addr} {p : Option (Str × IV)} (e : Same H H') (h : ExD K H d p) : ExD K H' d p := by
  cases p with
  | none => exact h
  | some q =>
    obtain ⟨dd, v, h1, h2, h3⟩ := h
    exact ⟨dd, v, h1, e _ _ h2, h3.same e⟩
abbrev Exn := Option (Str × IV)
abbrev MG := Str → Option Value
/-- what is wanted of an exception that leaves an expression -/
def ExOk (K : PySem.W.Frag) (mg : MG) (W : WX) (σ : St) (H : Hp) (c : Str) (p : Exn) : Prop := ∀ C H' d, mg c = some (.ref C) → Same H H' → ExD K H' d p → W (.ref C) d σ H'
theorem ExOk.of {K : PySem.W.Frag} {mg : MG} {W : WX} {σ : St} {H H1 : Hp} {c : Str} {p : Exn} (h : ExOk K mg W σ H c p) (e : Same H H1) : ExOk K mg W σ H1 c p := fun C H' d a b c => h C H' d a (e.trans b) c

abbrev FE := Env → R (DV × Md)
def tev (K : PySem.W.Frag) (mg : MG) (W : WX) (f : FE) : TE := fun σ H Q => ∃ H0 Pz T ρ Fs, EnvR K H0 Pz T H σ ρ Fs ∧ match f ρ with
  | .ok x => ∀ v H' F, Same H H' → RpD K H' v x.1 F → ResOk H0 Pz T ρ Fs H' F x.2 → Q v H'
  | .ex c p => ExOk K mg W σ H c p
  | .bad => False
def PEv (X : Cx) (e : Expr) (f : FE) : Prop := ∀ W, Takes X W → PE X e (tev X.K X.mg W f)
abbrev FT := Env → R Bool
def ttv (K : PySem.W.Frag) (mg : MG) (W : WX) (f : FT) : TT := fun σ H Q => ∃ H0 Pz T ρ Fs, EnvR K H0 Pz T H σ ρ Fs ∧ match f ρ with
  | .ok b => ∀ H', Same H H' → Q b H'
  | .ex c p => ExOk K mg W σ H c p
  | .bad => False
def PTv (X : Cx) (e : Expr) (f : FT) : Prop := ∀ W, Takes X W → PT X e (ttv X.K X.mg W f)
def PWv (X : Cx) (e : Expr) (f : FT) : Prop := ∀ W, Takes X W → PW X e (ttv X.K X.mg W f)
inductive ArgsOk (K : PySem.W.Frag) (H0 Pz : Hp) (T : Addr → Prop) (ρ : Env) (Fs : Nat → List Addr) (H' : Hp) : List V → List (DV × Md) → Prop
  | nil : ArgsOk K H0 Pz T ρ Fs H' [] []
  | cons {v : V} {vs : List V} {x : DV × Md} {xs : List (DV × Md)} {F : List Addr} : RpD K H' v x.1 F → ResOk H0 Pz T ρ Fs H' F x.2 → ArgsOk K H0 Pz T ρ Fs H' vs xs → ArgsOk K H0 Pz T ρ Fs H' (v :: vs) (x :: xs)
theorem ArgsOk.same {K : PySem.W.Frag} {H0 Pz : Hp} {T : Addr → Prop} {ρ : Env} {Fs : Nat → List Addr} {H H' : Hp} (e : Same H H') : ∀ {vs : List V} {xs : List (DV × Md)}, ArgsOk K H0 Pz T ρ Fs H vs xs → ArgsOk K H0 Pz T ρ Fs H' vs xs
  | _, [], h => by cases h; exact .nil
  | _, _ :: _, h => by
    cases h with
    | cons a b c => exact .cons (a.same e) (b.same e) (ArgsOk.same e c)
theorem ArgsOk.length {K : PySem.W.Frag} {H0 Pz : Hp} {T : Addr → Prop} {ρ : Env} {Fs : Nat → List Addr} {H : Hp} : ∀ {vs : List V} {xs : List (DV × Md)}, ArgsOk K H0 Pz T ρ Fs H vs xs → vs.length = xs.length
  | _, [], h => by cases h; rfl
  | _, _ :: _, h => by
    cases h with
    | cons a b c => exact congrArg (· + 1) (ArgsOk.length c)
abbrev FA := Env → R (List (DV × Md))
def tav (K : PySem.W.Frag) (mg : MG) (W : WX) (f : FA) : TA := fun σ H Q => ∃ H0 Pz T ρ Fs, EnvR K H0 Pz T H σ ρ Fs ∧ match f ρ with
  | .ok xs => ∀ vs H', Same H H' → ArgsOk K H0 Pz T ρ Fs H' vs xs → Q vs H'
  | .ex c p => ExOk K mg W σ H c p
  | .bad => False
def PAv (X : Cx) (es : List Expr) (f : FA) : Prop := ∀ W, Takes X W → PA X es (tav X.K X.mg W f)

/-! ### changing the reading -/
theorem PE.imp {X : Cx} {e : Expr} {t t' : TE} (h : PE X e t) (k : ∀ σ H Q, t' σ H Q → t σ H Q) : PE X e t' := ⟨fun pins s σ H Q I q => h.run pins s σ H Q I (k σ H Q q)⟩
theorem PT.imp {X : Cx} {e : Expr} {t t' : TT} (h : PT X e t) (k : ∀ σ H Q, t' σ H Q → t σ H Q) : PT X e t' := ⟨fun pins s σ H Q I q => h.run pins s σ H Q I (k σ H Q q)⟩
theorem PW.imp {X : Cx} {e : Expr} {t t' : TT} (h : PW X e t) (k : ∀ σ H Q, t' σ H Q → t σ H Q) : PW X e t' := ⟨fun wh pins s σ H Q I q => h.run wh pins s σ H Q I (k σ H Q q)⟩
theorem PA.imp {X : Cx} {e : List Expr} {t t' : TA} (h : PA X e t) (k : ∀ σ H Q, t' σ H Q → t σ H Q) : PA X e t' := ⟨fun po pins s σ H Q I q => h.run po pins s σ H Q I (k σ H Q q)⟩

/-! ### chains of readings -/
section
variable {K : PySem.W.Frag} {mg : MG} {W : WX} {σ : St} {H H0 Pz : Hp} {T : Addr → Prop} {ρ : Env} {Fs : Nat → List Addr}
/-- the first of several: f's own value is at hand -/
theorem tev_ok {f : FE} {x : DV × Md} {Q : VK} (E : EnvR K H0 Pz T H σ ρ Fs) (e : f ρ = .ok x) (h : ∀ v H' F, Same H H' → EnvR K H0 Pz T H' σ ρ Fs → RpD K H' v x.1 F → ResOk H0 Pz T ρ Fs H' F x.2 → Q v H') : tev K mg W f σ H Q :=
  ⟨H0, Pz, T, ρ, Fs, E, by rw [e]; exact fun v H' F a b c => h v H' F a (E.same a) b c⟩
theorem tev_ex {f : FE} {c : Str} {p : Exn} {Q : VK} (E : EnvR K H0 Pz T H σ ρ Fs) (e : f ρ = .ex c p) (h : ExOk K mg W σ H c p) : tev K mg W f σ H Q :=
  ⟨H0, Pz, T, ρ, Fs, E, by rw [e]; exact h⟩
theorem ttv_ok {f : FT} {x : Bool} {Q : Bool → Hp → Prop} (E : EnvR K H0 Pz T H σ ρ Fs) (e : f ρ = .ok x) (h : ∀ H', Same H H' → EnvR K H0 Pz T H' σ ρ Fs → Q x H') : ttv K mg W f σ H Q :=
  ⟨H0, Pz, T, ρ, Fs, E, by rw [e]; exact fun H' a => h H' a (E.same a)⟩
theorem ttv_ex {f : FT} {c : Str} {p : Exn} {Q : Bool → Hp → Prop} (E : EnvR K H0 Pz T H σ ρ Fs) (e : f ρ = .ex c p) (h : ExOk K mg W σ H c p) : ttv K mg W f σ H Q :=
  ⟨H0, Pz, T, ρ, Fs, E, by rw [e]; exact h⟩
theorem tav_ok {f : FA} {x : List (DV × Md)} {Q : List V → Hp → Prop} (E : EnvR K H0 Pz T H σ ρ Fs) (e : f ρ = .ok x) (h : ∀ vs H', Same H H' → EnvR K H0 Pz T H' σ ρ Fs → ArgsOk K H0 Pz T ρ Fs H' vs x → Q vs H') : tav K mg W f σ H Q :=
  ⟨H0, Pz, T, ρ, Fs, E, by rw [e]; exact fun v H' a b => h v H' a (E.same a) b⟩
theorem tav_ex {f : FA} {c : Str} {p : Exn} {Q : List V → Hp → Prop} (E : EnvR K H0 Pz T H σ ρ Fs) (e : f ρ = .ex c p) (h : ExOk K mg W σ H c p) : tav K mg W f σ H Q :=
  ⟨H0, Pz, T, ρ, Fs, E, by rw [e]; exact h⟩
end

/-- a rule on two values, by its data function -/
def BOk (K : PySem.W.Frag) (r : R2) (op : DV × Md → DV × Md → R (DV × Md)) : Prop :=
  ∀ (H0 Pz H : Hp) (T : Addr → Prop) (σ : St) (ρ : Env) (Fs : Nat → List Addr) (x y z : DV × Md) (v u : V) (F G : List Addr) (Q : VK), EnvR K H0 Pz T H σ ρ Fs → RpD K H v x.1 F → ResOk H0 Pz T ρ Fs H F x.2 → RpD K H u y.1 G → ResOk H0 Pz T ρ Fs H G y.2 →
    op x y = .ok z → (∀ v H' F, Same H H' → RpD K H' v z.1 F → ResOk H0 Pz T ρ Fs H' F z.2 → Q v H') → r v u H Q
def NoEx (op : DV × Md → DV × Md → R (DV × Md)) : Prop := ∀ x y c p, op x y ≠ .ex c p
def eBin (op : DV × Md → DV × Md → R (DV × Md)) (f g : FE) : FE := fun ρ => (f ρ).bind fun x => (g ρ).bind fun y => op x y
section
variable {X : Cx} {a b : Expr} {f g : FE} {pos : Pos}
/-- two readings, then a rule -/
theorem bin_imp {K : PySem.W.Frag} {mg : MG} {W : WX} {r : R2} {op : DV × Md → DV × Md → R (DV × Md)} (hb : BOk K r op) (hn : NoEx op) (σ : St) (H : Hp) (Q : VK) (h : tev K mg W (eBin op f g) σ H Q) : tOp r (tev K mg W f) (tev K mg W g) σ H Q := by
  obtain ⟨H0, Pz, T, ρ, Fs, E, h⟩ := h
  unfold eBin at h
  show tev K mg W f σ H _
  cases e1 : f ρ with
  | bad => rw [e1] at h; exact h.elim
  | ex c p => rw [e1] at h; exact tev_ex E e1 h
  | ok x =>
    rw [e1] at h
    refine tev_ok E e1 fun v H1 F s1 E1 r1 o1 => ?_
    cases e2 : g ρ with
    | bad => simp only [R.bind, e2] at h
    | ex c p =>
      simp only [R.bind, e2] at h
      exact tev_ex E1 e2 (h.of s1)
    | ok y =>
      simp only [R.bind, e2] at h
      refine tev_ok E1 e2 fun u H2 G s2 E2 r2 o2 => ?_
      cases e3 : op x y with
      | bad => rw [e3] at h; exact h.elim
      | ex c p => exact absurd e3 (hn _ _ _ _)
      | ok z =>
        rw [e3] at h
        exact hb H0 Pz H2 T σ ρ Fs x y z v u F G Q E2 (r1.same s2) (o1.same s2) r2 o2 e3 fun v' H' F' s' r' o' => h v' H' F' (s1.trans (s2.trans s')) r' o'
theorem ev_bin {o : Operator} {r : R2} {op : DV × Md → DV × Md → R (DV × Md)} (ho : OpR X (binaryOp o) r) (hb : BOk X.K r op) (hn : NoEx op) (ha : PEv X a f) (hg : PEv X b g) : PEv X (.BinOp a o b pos) (eBin op f g) := fun W tk =>
  PE.imp (pe_op ho (ha W tk) (hg W tk)) fun σ H Q h => bin_imp hb hn σ H Q h
theorem ev_cmp {o : CmpOp} {r : R2} {op : DV × Md → DV × Md → R (DV × Md)} (ho : OpR X (compareOp o) r) (hb : BOk X.K r op) (hn : NoEx op) (ha : PEv X a f) (hg : PEv X b g) (hm : behindInMarks o b = false) : PEv X (.Compare a [o] [b] pos) (eBin op f g) := fun W tk =>
  PE.imp (pe_cmpR ho (ha W tk) (hg W tk) hm) fun σ H Q h => bin_imp hb hn σ H Q h
end
/-- a value that must be True or False -/
def asB (x : DV × Md) : R Bool := match x.1 with
  | .i (.bl b) => .ok b
  | _ => .bad
def tB (f : FE) : FT := fun ρ => (f ρ).bind asB
theorem asB_ok {x : DV × Md} {b : Bool} (h : asB x = .ok b) : x.1 = .i (.bl b) := by
  unfold asB at h
  split at h
  · rename_i e; rw [e]; cases h; rfl
  · cases h
theorem asB_noex {x : DV × Md} {c : Str} {p : Exn} : asB x ≠ .ex c p := by
  unfold asB
  split <;> intro h <;> cases h
section
variable {X : Cx} {a b : Expr} {f g : FE} {pos : Pos} {K : PySem.W.Frag} {mg : MG} {W : WX}
/-- from a value's reading to a test's -/
theorem tB_imp {t : TE} (k : ∀ σ H Q, tev K mg W f σ H Q → t σ H Q) (σ : St) (H : Hp) (Q : Bool → Hp → Prop) (h : ttv K mg W (tB f) σ H Q) : t σ H fun x H1 => ∃ c, x = .bl c ∧ Q c H1 := by
  obtain ⟨H0, Pz, T, ρ, Fs, E, h⟩ := h
  refine k σ H _ ?_
  cases e1 : f ρ with
  | bad => simp only [tB, e1, R.bind] at h
  | ex c p => simp only [tB, e1, R.bind] at h; exact tev_ex E e1 h
  | ok x =>
    simp only [tB, e1, R.bind] at h
    cases e2 : asB x with
    | bad => rw [e2] at h; exact h.elim
    | ex c p => exact absurd e2 asB_noex
    | ok b =>
      rw [e2] at h
      refine tev_ok E e1 fun v H1 F s1 E1 r1 o1 => ?_
      rw [asB_ok e2] at r1
      cases r1 with
      | i r => cases r; exact ⟨b, rfl, h H1 s1⟩
theorem tv_val (ha : PEv X a f) (he : ∀ whole, isTrue a X.env whole = (do let v ← whole; standAt a.pos; holding [v] (truthy v)) := by intro _; rfl) : PTv X a (tB f) := fun W tk =>
  PT.imp (pt_val (ha W tk) he) fun σ H Q h => tB_imp (fun _ _ _ z => z) σ H Q h
theorem tv_cmp {o : CmpOp} {r : R2} {op : DV × Md → DV × Md → R (DV × Md)} (ho : OpR X (compareOp o) r) (hb : BOk X.K r op) (hn : NoEx op) (ha : PEv X a f) (hg : PEv X b g) (hm : behindInMarks o b = false) : PTv X (.Compare a [o] [b] pos) (tB (eBin op f g)) := fun W tk =>
  PT.imp (pt_cmpR ho (ha W tk) (hg W tk) hm) fun σ H Q h => tB_imp (fun σ H Q z => bin_imp hb hn σ H Q z) σ H Q h
end

/-! ### and, or, not, if, as tests -/
def tAndF (f g : FT) : FT := fun ρ => (f ρ).bind fun b => if b then g ρ else .ok false
def tOrF (f g : FT) : FT := fun ρ => (f ρ).bind fun b => if b then .ok true else g ρ
def tNotF (f : FT) : FT := fun ρ => (f ρ).bind fun b => .ok (!b)
def eIfF (c : FT) (f g : FE) : FE := fun ρ => (c ρ).bind fun b => if b then f ρ else g ρ
section
variable {X : Cx} {a b c : Expr} {rest : List Expr} {f g : FT} {pos : Pos}
theorem wv_pt (h : PWv X a f) : PTv X a f := fun W tk => (h W tk).pt
theorem wv_and1 (h : PTv X a f) : PWv X (.BoolOp .And [a] pos) f := fun W tk => pw_and1 (h W tk)
theorem wv_or1 (h : PTv X a f) : PWv X (.BoolOp .Or [a] pos) f := fun W tk => pw_or1 (h W tk)
theorem wv_and (h1 : PTv X a f) (h2 : PWv X (.BoolOp .And (b :: rest) pos) g) : PWv X (.BoolOp .And (a :: b :: rest) pos) (tAndF f g) := fun W tk =>
  PW.imp (pw_and (h1 W tk) (h2 W tk)) fun σ H Q h => by
    obtain ⟨H0, Pz, T, ρ, Fs, E, h⟩ := h
    show ttv X.K X.mg W f σ H _
    cases e1 : f ρ with
    | bad => simp only [tAndF, e1, R.bind] at h
    | ex c p => simp only [tAndF, e1, R.bind] at h; exact ttv_ex E e1 h
    | ok x =>
      refine ttv_ok E e1 fun H1 s1 E1 => ?_
      cases x with
      | false =>
        simp only [tAndF, e1, R.bind, Bool.false_eq_true, if_false] at h ⊢
        exact h H1 s1
      | true =>
        simp only [tAndF, e1, R.bind, if_true] at h ⊢
        cases e2 : g ρ with
        | bad => rw [e2] at h; exact h.elim
        | ex c p => rw [e2] at h; exact ttv_ex E1 e2 (h.of s1)
        | ok y => rw [e2] at h; exact ttv_ok E1 e2 fun H2 s2 _ => h H2 (s1.trans s2)
theorem wv_or (h1 : PTv X a f) (h2 : PWv X (.BoolOp .Or (b :: rest) pos) g) : PWv X (.BoolOp .Or (a :: b :: rest) pos) (tOrF f g) := fun W tk =>
  PW.imp (pw_or (h1 W tk) (h2 W tk)) fun σ H Q h => by
    obtain ⟨H0, Pz, T, ρ, Fs, E, h⟩ := h
    show ttv X.K X.mg W f σ H _
    cases e1 : f ρ with
    | bad => simp only [tOrF, e1, R.bind] at h
    | ex c p => simp only [tOrF, e1, R.bind] at h; exact ttv_ex E e1 h
    | ok x =>
      refine ttv_ok E e1 fun H1 s1 E1 => ?_
      cases x with
      | true =>
        simp only [tOrF, e1, R.bind, if_true] at h ⊢
        exact h H1 s1
      | false =>
        simp only [tOrF, e1, R.bind, Bool.false_eq_true, if_false] at h ⊢
        cases e2 : g ρ with
        | bad => rw [e2] at h; exact h.elim
        | ex c p => rw [e2] at h; exact ttv_ex E1 e2 (h.of s1)
        | ok y => rw [e2] at h; exact ttv_ok E1 e2 fun H2 s2 _ => h H2 (s1.trans s2)
theorem tv_not (h1 : PTv X a f) : PTv X (.UnaryOp .Not a pos) (tNotF f) := fun W tk =>
  PT.imp (pt_not (h1 W tk)) fun σ H Q h => by
    obtain ⟨H0, Pz, T, ρ, Fs, E, h⟩ := h
    show ttv X.K X.mg W f σ H _
    cases e1 : f ρ with
    | bad => simp only [tNotF, e1, R.bind] at h
    | ex c p => simp only [tNotF, e1, R.bind] at h; exact ttv_ex E e1 h
    | ok x =>
      simp only [tNotF, e1, R.bind] at h
      exact ttv_ok E e1 fun H1 s1 E1 => h H1 s1
theorem ev_if {f g : FE} {t : FT} (hc : PTv X c t) (ha : PEv X a f) (hb : PEv X b g) : PEv X (.IfExp c a b pos) (eIfF t f g) := fun W tk =>
  PE.imp (pe_ifExp (hc W tk) (ha W tk) (hb W tk)) fun σ H Q h => by
    obtain ⟨H0, Pz, T, ρ, Fs, E, h⟩ := h
    show ttv X.K X.mg W t σ H _
    cases e1 : t ρ with
    | bad => simp only [eIfF, e1, R.bind] at h
    | ex c p => simp only [eIfF, e1, R.bind] at h; exact ttv_ex E e1 h
    | ok x =>
      refine ttv_ok E e1 fun H1 s1 E1 => ?_
      cases x with
      | true =>
        simp only [eIfF, e1, R.bind, if_true] at h ⊢
        exact ⟨H0, Pz, T, ρ, Fs, E1, by
          cases e2 : f ρ with
          | bad => rw [e2] at h; exact h
          | ex c p => rw [e2] at h; exact h.of s1
          | ok y => rw [e2] at h; exact fun v H' F s2 r o => h v H' F (s1.trans s2) r o⟩
      | false =>
        simp only [eIfF, e1, R.bind, Bool.false_eq_true, if_false] at h ⊢
        exact ⟨H0, Pz, T, ρ, Fs, E1, by
          cases e2 : g ρ with
          | bad => rw [e2] at h; exact h
          | ex c p => rw [e2] at h; exact h.of s1
          | ok y => rw [e2] at h; exact fun v H' F s2 r o => h v H' F (s1.trans s2) r o⟩
end
/-! ### and, or, not as values (True, False ahead) -/
def eAndF (f g : FE) : FE := fun ρ => (f ρ).bind fun x => (asB x).bind fun b => if b then g ρ else .ok (.i (.bl false), .own)
def eOrF (f g : FE) : FE := fun ρ => (f ρ).bind fun x => (asB x).bind fun b => if b then .ok (.i (.bl true), .own) else g ρ
def eNotF (f : FE) : FE := fun ρ => (f ρ).bind fun x => (asB x).bind fun b => .ok (.i (.bl (!b)), .own)
section
variable {X : Cx} {a b : Expr} {rest : List Expr} {f g : FE} {pos : Pos} {op : BoolOp}
theorem ev_one (h : PEv X a f) : PEv X (.BoolOp op [a] pos) f := fun W tk => pe_one (h W tk)
theorem ev_and (h1 : PEv X a f) (h2 : PEv X (.BoolOp .And (b :: rest) pos) g) : PEv X (.BoolOp .And (a :: b :: rest) pos) (eAndF f g) := fun W tk =>
  PE.imp (pe_and (h1 W tk) (h2 W tk)) fun σ H Q h => by
    obtain ⟨H0, Pz, T, ρ, Fs, E, h⟩ := h
    show tev X.K X.mg W f σ H _
    cases e1 : f ρ with
    | bad => simp only [eAndF, e1, R.bind] at h
    | ex c p => simp only [eAndF, e1, R.bind] at h; exact tev_ex E e1 h
    | ok x =>
      refine tev_ok E e1 fun v H1 F s1 E1 r1 o1 => ?_
      cases e2 : asB x with
      | bad => simp only [eAndF, e1, e2, R.bind] at h
      | ex c p => exact absurd e2 asB_noex
      | ok b =>
        rw [asB_ok e2] at r1
        cases r1 with
        | i r =>
          cases r
          refine ⟨b, rfl, ?_⟩
          cases b with
          | false =>
            simp only [eAndF, e1, e2, R.bind, Bool.false_eq_true, if_false] at h ⊢
            exact h _ H1 [] s1 (.i (.bl _)) .nil
          | true =>
            simp only [eAndF, e1, e2, R.bind, if_true] at h ⊢
            exact ⟨H0, Pz, T, ρ, Fs, E1, by
              cases e2 : g ρ with
              | bad => rw [e2] at h; exact h
              | ex c p => rw [e2] at h; exact h.of s1
              | ok y => rw [e2] at h; exact fun v H' F s2 r o => h v H' F (s1.trans s2) r o⟩
theorem ev_or (h1 : PEv X a f) (h2 : PEv X (.BoolOp .Or (b :: rest) pos) g) : PEv X (.BoolOp .Or (a :: b :: rest) pos) (eOrF f g) := fun W tk =>
  PE.imp (pe_or (h1 W tk) (h2 W tk)) fun σ H Q h => by
    obtain ⟨H0, Pz, T, ρ, Fs, E, h⟩ := h
    show tev X.K X.mg W f σ H _
    cases e1 : f ρ with
    | bad => simp only [eOrF, e1, R.bind] at h
    | ex c p => simp only [eOrF, e1, R.bind] at h; exact tev_ex E e1 h
    | ok x =>
      refine tev_ok E e1 fun v H1 F s1 E1 r1 o1 => ?_
      cases e2 : asB x with
      | bad => simp only [eOrF, e1, e2, R.bind] at h
      | ex c p => exact absurd e2 asB_noex
      | ok b =>
        rw [asB_ok e2] at r1
        cases r1 with
        | i r =>
          cases r
          refine ⟨b, rfl, ?_⟩
          cases b with
          | true =>
            simp only [eOrF, e1, e2, R.bind, if_true] at h ⊢
            exact h _ H1 [] s1 (.i (.bl _)) .nil
          | false =>
            simp only [eOrF, e1, e2, R.bind, Bool.false_eq_true, if_false] at h ⊢
            exact ⟨H0, Pz, T, ρ, Fs, E1, by
              cases e2 : g ρ with
              | bad => rw [e2] at h; exact h
              | ex c p => rw [e2] at h; exact h.of s1
              | ok y => rw [e2] at h; exact fun v H' F s2 r o => h v H' F (s1.trans s2) r o⟩
theorem ev_not (h1 : PEv X a f) : PEv X (.UnaryOp .Not a pos) (eNotF f) := fun W tk =>
  PE.imp (pe_not (h1 W tk)) fun σ H Q h => by
    obtain ⟨H0, Pz, T, ρ, Fs, E, h⟩ := h
    show tev X.K X.mg W f σ H _
    cases e1 : f ρ with
    | bad => simp only [eNotF, e1, R.bind] at h
    | ex c p => simp only [eNotF, e1, R.bind] at h; exact tev_ex E e1 h
    | ok x =>
      refine tev_ok E e1 fun v H1 F s1 E1 r1 o1 => ?_
      cases e2 : asB x with
      | bad => simp only [eNotF, e1, e2, R.bind] at h
      | ex c p => exact absurd e2 asB_noex
      | ok b =>
        rw [asB_ok e2] at r1
        cases r1 with
        | i r =>
          cases r
          simp only [eNotF, e1, e2, R.bind] at h
          exact ⟨b, rfl, h _ H1 [] s1 (.i (.bl _)) .nil⟩
end

/-! ### constants, names -/
def eC (x : IV) : FE := fun _ => .ok (.i x, .own)
/-- a slot's value as it may be looked at -/
def eVar (i : Nat) : FE := fun ρ => match ρ[i]? with
  | some (some (.i x, _)) => .ok (.i x, .own)
  | some (some (d, .own)) => .ok (d, .tmp)
  | some (some (_, .tmp)) => .bad
  | some (some (d, m)) => .ok (d, m)
  | _ => .bad
section
variable {X : Cx} {pos : Pos}
theorem c_imp {x : IV} {v : V} {K : PySem.W.Frag} {mg : MG} {W : WX} (hv : ∀ H, RpI K H v x) (σ : St) (H : Hp) (Q : VK) (h : tev K mg W (eC x) σ H Q) : Q v H := by
  obtain ⟨H0, Pz, T, ρ, Fs, E, h⟩ := h
  exact h v H [] (fun _ _ z => z) (.i (hv H)) .nil
theorem ev_int {i : Int} {j : Nat} : PEv X (.Constant (.int i) j pos) (eC (.int i)) := fun W tk => PE.imp pe_int fun σ H Q h => c_imp (fun _ => .int i) σ H Q h
theorem ev_str {i : Str} {j : Nat} : PEv X (.Constant (.str i) j pos) (eC (.str i)) := fun W tk => PE.imp pe_str fun σ H Q h => c_imp (fun _ => .str i) σ H Q h
theorem ev_bl {i : Bool} {j : Nat} : PEv X (.Constant (.bool i) j pos) (eC (.bl i)) := fun W tk => PE.imp pe_bl fun σ H Q h => c_imp (fun _ => .bl i) σ H Q h
theorem ev_non {j : Nat} : PEv X (.Constant .none j pos) (eC .non) := fun W tk => PE.imp pe_non fun σ H Q h => c_imp (fun _ => .non) σ H Q h
/-- what a slot gives -/
theorem EnvR.look {K : PySem.W.Frag} {H0 Pz H : Hp} {T : Addr → Prop} {σ : St} {ρ : Env} {Fs : Nat → List Addr} (E : EnvR K H0 Pz T H σ ρ Fs) {i : Nat} {x : DV × Md} (h : eVar i ρ = .ok x) : ∃ v F, σ[i]? = some (some v) ∧ RpD K H v x.1 F ∧ ResOk H0 Pz T ρ Fs H F x.2 := by
  unfold eVar at h
  split at h
  · rename_i x m e
    cases h
    obtain ⟨v, h1, h2⟩ := E.at_ i _ _ e
    generalize Fs i = G at h2
    cases h2 with
    | i r => exact ⟨v, [], h1, .i r, .nil⟩
  · rename_i d hni e
    cases h
    obtain ⟨v, h1, h2⟩ := E.at_ i _ _ e
    exact ⟨v, Fs i, h1, h2, ⟨fun z => (by rcases z with z | z <;> cases z), fun z => (nomatch (show Md.tmp = Md.own from z)), fun z => absurd rfl z, fun _ => .inr ⟨i, _, e, rfl⟩⟩⟩
  · cases h
  · rename_i d m hni hno hnt e
    cases h
    obtain ⟨v, h1, h2⟩ := E.at_ i _ _ e
    have hm : m ≠ .own := hno
    have ne : ∀ k dk, ρ[k]? = some (some (dk, Md.own)) → k ≠ i := fun k dk hk z => by
      subst z
      rw [e] at hk
      cases hk
      exact hm rfl
    refine ⟨v, Fs i, h1, h2, ⟨fun z a ha => E.fresh i d m e (by rcases (show m = .own ∨ m = .loc from z) with z | z <;> (rw [z]; intro q; cases q)) a ha, fun z => absurd z hm, fun _ => ⟨fun k dk hk a G eG ha => ?_, fun a ta => E.tt a ta i⟩, fun z => ?_⟩⟩
    obtain ⟨_, _, h3⟩ := E.top k dk hk a G eG
    exact h3 i (fun z => ne k dk hk z.symm) ha
    exact absurd z hnt
  · cases h
theorem eVar_noex {i : Nat} {ρ : Env} {c : Str} {p : Exn} : eVar i ρ ≠ .ex c p := by
  unfold eVar
  split <;> intro h <;> cases h
theorem ev_var (i : Nat) {x : Str} (hN : X.N[i]? = some x := by rfl) (hv : Vis X.env.scope x := by first | exact Or.inl rfl | exact Or.inr (Or.inl rfl) | exact Or.inr (Or.inr rfl)) (hd : (x == ("__debug__" : Str)) = false := by decide)
    (hcd : (x == ("__classdict__" : Str)) = false := by decide) : PEv X (.Name x pos) (eVar i) := fun W tk =>
  PE.imp (pe_var hN hv hd hcd) fun σ H Q h => by
    obtain ⟨H0, Pz, T, ρ, Fs, E, h⟩ := h
    cases e1 : eVar i ρ with
    | bad => rw [e1] at h; exact h.elim
    | ex c p => exact absurd e1 eVar_noex
    | ok x =>
      rw [e1] at h
      obtain ⟨v, F, h1, h2, h3⟩ := E.look e1
      exact ⟨v, h1, h v H F (fun _ _ z => z) h2 h3⟩
/-- a module's number -/
theorem ev_gint {x : Str} {i : Int} (hg : Gl X x) (hm : ∃ t, X.mg x = some (.int i t)) (hd : (x == ("__debug__" : Str)) = false := by decide) : PEv X (.Name x pos) (eC (.int i)) := fun W tk => by
  obtain ⟨t, hm⟩ := hm
  exact PE.imp (pe_glob (v := .int i) hg hm ⟨t, rfl⟩ hd) fun σ H Q h => c_imp (fun _ => .int i) σ H Q h
theorem ev_gstr {x : Str} {i : Str} (hg : Gl X x) (hm : ∃ t, X.mg x = some (.str i t)) (hd : (x == ("__debug__" : Str)) = false := by decide) : PEv X (.Name x pos) (eC (.str i)) := fun W tk => by
  obtain ⟨t, hm⟩ := hm
  exact PE.imp (pe_glob (v := .str i) hg hm ⟨t, rfl⟩ hd) fun σ H Q h => c_imp (fun _ => .str i) σ H Q h
end

/-! ### argument lists -/
def aNil : FA := fun _ => .ok []
def aCons (f : FE) (g : FA) : FA := fun ρ => (f ρ).bind fun x => (g ρ).bind fun xs => .ok (x :: xs)
section
variable {X : Cx} {e : Expr} {es : List Expr} {f : FE} {g : FA}
theorem av_nil : PAv X [] aNil := fun W tk => PA.imp pa_nil fun σ H Q h => by
  obtain ⟨H0, Pz, T, ρ, Fs, E, h⟩ := h
  exact h [] H (fun _ _ z => z) .nil
theorem av_cons (h1 : PEv X e f) (h2 : PAv X es g) (hs : starEach (e :: es) X.env = (false, eval e X.env) :: starEach es X.env := by rfl) : PAv X (e :: es) (aCons f g) := fun W tk =>
  PA.imp (pa_cons (h1 W tk) (h2 W tk) hs) fun σ H Q h => by
    obtain ⟨H0, Pz, T, ρ, Fs, E, h⟩ := h
    show tev X.K X.mg W f σ H _
    cases e1 : f ρ with
    | bad => simp only [aCons, e1, R.bind] at h
    | ex c p => simp only [aCons, e1, R.bind] at h; exact tev_ex E e1 h
    | ok x =>
      refine tev_ok E e1 fun v H1 F s1 E1 r1 o1 => ?_
      cases e2 : g ρ with
      | bad => simp only [aCons, e1, e2, R.bind] at h
      | ex c p => simp only [aCons, e1, e2, R.bind] at h; exact tav_ex E1 e2 (h.of s1)
      | ok y =>
        simp only [aCons, e1, e2, R.bind] at h
        exact tav_ok E1 e2 fun vs H2 s2 _ r2 => h _ H2 (s1.trans s2) (.cons (r1.same s2) (o1.same s2) r2)
end

/-! ### calls -/
/-- what a def promises: its data function; n arguments -/
inductive ArgsIn (K : PySem.W.Frag) (H : Hp) : List V → List DV → Prop
  | nil : ArgsIn K H [] []
  | cons {v : V} {vs : List V} {x : DV} {xs : List DV} {F : List Addr} : RpD K H v x F → ArgsIn K H vs xs → ArgsIn K H (v :: vs) (x :: xs)
theorem ArgsOk.in_ {K : PySem.W.Frag} {H0 Pz : Hp} {T : Addr → Prop} {ρ : Env} {Fs : Nat → List Addr} {H : Hp} : ∀ {vs : List V} {xs : List (DV × Md)}, ArgsOk K H0 Pz T ρ Fs H vs xs → ArgsIn K H vs (xs.map (·.1))
  | _, [], h => by cases h; exact .nil
  | _, _ :: _, h => by
    cases h with
    | cons a b c => exact .cons a (ArgsOk.in_ c)
theorem ArgsIn.length {K : PySem.W.Frag} {H : Hp} : ∀ {vs : List V} {xs : List DV}, ArgsIn K H vs xs → vs.length = xs.length
  | _, [], h => by cases h; rfl
  | _, _ :: _, h => by
    cases h with
    | cons a b => exact congrArg (· + 1) (ArgsIn.length b)
abbrev FF := List DV → R DV
/-- the result of a call: all its lists are new -/
def cmd : DV → Md
  | .t _ => .loc
  | _ => .own
def RetOk (H H' : Hp) (d : DV) (F : List Addr) : Prop := (∀ a ∈ F, H a = none ∧ Mb H' a) ∧ (cmd d = .own → ∀ a G, F = a :: G → a ∉ G)
theorem cmd_or (d : DV) : cmd d = .own ∨ cmd d = .loc := by cases d <;> first | exact .inl rfl | exact .inr rfl
def spF (K : PySem.W.Frag) (mg : MG) (n : Nat) (Fn : FF) : Sp := fun vs H Q E => vs.length = n ∧ ∃ ds, ArgsIn K H vs ds ∧ match Fn ds with
  | .ok d => ∀ v H' F, Same H H' → RpD K H' v d F → RetOk H H' d F → Q v H'
  | .ex c p => ∀ C H' d, mg c = some (.ref C) → Same H H' → ExD K H' d p → E (.ref C) d H'
  | .bad => False
def eCall (Fn : FF) (g : FA) : FE := fun ρ => (g ρ).bind fun xs => (Fn (xs.map (·.1))).bind fun d => .ok (d, cmd d)
section
variable {X : Cx} {k : Nat} {fa : Addr} {fd : FuncData} {ps : List Str} {Fn : FF} {x : Str} {p pos : Pos} {e : Expr} {es : List Expr} {g : FA} {n : Nat}
theorem ev_call (F : FnOk X.prog X.w X.K X.mg X.base (L2.CX X.prog X.w) k fa fd ps (spF X.K X.mg n Fn)) (hr : Room k X.A) (hg : Gl X x) (hm : X.mg x = some (.ref fa)) (hk : PySem.W.keepIn X.K (.ref fa) = true) (hb : Binds X.K fd ps [])
    (hn : (e :: es).length = n) (ha : PAv X (e :: es) g) (hdb : (x == ("__debug__" : Str)) = false := by decide) (he : starEach (e :: es) X.env = (false, eval e X.env) :: starEach es X.env := by rfl) (hpl : (backTo pos (starEach es X.env)).any (·.1) = false := by rfl)
    (hl : ∀ ρ xs, g ρ = .ok xs → xs.length = n) :
    PEv X (.Call (.Name x p) (e :: es) [] pos) (eCall Fn g) := fun W tk =>
  PE.imp (pe_callS F hr hg hm hk hb (fun σ => passAt tk σ) (ha W tk) hdb he hpl) fun σ H Q h => by
    obtain ⟨H0, Pz, T, ρ, Fs, E, h⟩ := h
    show tav X.K X.mg W g σ H _
    cases e1 : g ρ with
    | bad => simp only [eCall, e1, R.bind] at h
    | ex c p => simp only [eCall, e1, R.bind] at h; exact tav_ex E e1 h
    | ok xs =>
      refine tav_ok E e1 fun vs H1 s1 E1 r1 => ?_
      refine ⟨by rw [r1.length, hl ρ xs e1], _, r1.in_, ?_⟩
      cases e2 : Fn (xs.map (·.1)) with
      | bad => simp only [eCall, e1, e2, R.bind] at h
      | ex c p =>
        simp only [eCall, e1, e2, R.bind] at h
        exact fun C H' d hC sH xd => h C H' d hC (s1.trans sH) xd
      | ok d =>
        simp only [eCall, e1, e2, R.bind] at h
        refine fun v H' F sH r o => h v H' F (s1.trans sH) r ?_
        rcases cmd_or d with z | z
        · rw [z]; exact .new E1 o.1 (o.2 z)
        · rw [z]; exact .newL E1 o.1
theorem aCons_len {f : FE} {g : FA} {m : Nat} (h : ∀ ρ xs, g ρ = .ok xs → xs.length = m) : ∀ ρ xs, aCons f g ρ = .ok xs → xs.length = m + 1 := fun ρ xs e => by
  unfold aCons at e
  cases e1 : f ρ with
  | bad => simp only [e1, R.bind] at e; cases e
  | ex c p => simp only [e1, R.bind] at e; cases e
  | ok x =>
    cases e2 : g ρ with
    | bad => simp only [e1, e2, R.bind] at e; cases e
    | ex c p => simp only [e1, e2, R.bind] at e; cases e
    | ok y =>
      simp only [e1, e2, R.bind] at e
      cases e
      exact congrArg (· + 1) (h ρ y e2)
theorem aNil_len : ∀ ρ xs, aNil ρ = .ok xs → xs.length = 0 := fun ρ xs e => by
  cases e; rfl
end
end L2.Pv

namespace L2.Pv
open PySem PySem.Spec PyProof.Rows

/-! ## lists of values -/
section
variable {K : PySem.W.Frag} {H : Hp}
theorem RpIs.append : ∀ {vs : List V} {xs : List IV} {us : List V} {ys : List IV}, RpIs K H vs xs → RpIs K H us ys → RpIs K H (vs ++ us) (xs ++ ys)
  | _, [], _, _, h, k => by cases h; exact k
  | _, _ :: _, _, _, h, k => by
    cases h with
    | cons a b => exact .cons a (RpIs.append b k)
theorem RpIs.take : ∀ (n : Nat) {vs : List V} {xs : List IV}, RpIs K H vs xs → RpIs K H (vs.take n) (xs.take n)
  | 0, _, _, _ => .nil
  | _ + 1, _, [], h => by cases h; exact .nil
  | n + 1, _, _ :: _, h => by
    cases h with
    | cons a b => exact .cons a (RpIs.take n b)
theorem RpIs.drop : ∀ (n : Nat) {vs : List V} {xs : List IV}, RpIs K H vs xs → RpIs K H (vs.drop n) (xs.drop n)
  | 0, _, _, h => h
  | _ + 1, _, [], h => by cases h; exact .nil
  | n + 1, _, _ :: _, h => by
    cases h with
    | cons a b => exact RpIs.drop n b
theorem RpIs.set : ∀ (n : Nat) {vs : List V} {xs : List IV} {v : V} {x : IV}, RpIs K H vs xs → RpI K H v x → RpIs K H (vs.set n v) (xs.set n x)
  | _, _, [], _, _, h, _ => by cases h; exact .nil
  | 0, _, _ :: _, _, _, h, k => by
    cases h with
    | cons a b => exact .cons k b
  | n + 1, _, _ :: _, _, _, h, k => by
    cases h with
    | cons a b => exact .cons a (RpIs.set n b k)
theorem RpIs.reverse : ∀ {vs : List V} {xs : List IV}, RpIs K H vs xs → RpIs K H vs.reverse xs.reverse
  | _, [], h => by cases h; exact .nil
  | _, _ :: _, h => by
    cases h with
    | cons a b =>
      rw [List.reverse_cons, List.reverse_cons]
      exact RpIs.append (RpIs.reverse b) (.cons a .nil)
theorem RpIs.one {v : V} {x : IV} (h : RpI K H v x) : RpIs K H [v] [x] := .cons h .nil
end
/-- a new tuple -/
theorem new_tup {K : PySem.W.Frag} {H : Hp} {p : Addr} {vs : List V} {xs : List IV} (hp : H p = none) (r : RpIs K H vs xs) : RpD K (upd H p (.tup vs)) (.ref p) (.i (.tup xs)) [] := .i (.tup upd_same (r.same (same_upd hp)))
theorem new_lst {K : PySem.W.Frag} {H : Hp} {p : Addr} {vs : List V} {xs : List IV} (hp : H p = none) (r : RpIs K H vs xs) : RpD K (upd H p (.lst vs)) (.ref p) (.l xs) [p] := .l upd_same (r.same (same_upd hp))
theorem new_ok {K : PySem.W.Frag} {H0 Pz H : Hp} {T : Addr → Prop} {σ : St} {ρ : Env} {Fs : Nat → List Addr} (E : EnvR K H0 Pz T H σ ρ Fs) {p : Addr} {vs : List V} (hp : H p = none) : ResOk H0 Pz T ρ Fs (upd H p (.lst vs)) [p] .own :=
  .new E (fun a ha => by
    have e : a = p := List.mem_singleton.mp ha
    subst e
    exact ⟨hp, mb_l upd_same⟩) fun a G e => by
      cases e
      intro z; cases z

/-! ## numbers, texts, tuples: operators -/
abbrev ok1 (x : IV) : R (DV × Md) := .ok (.i x, .own)
/-- a list's items, and how a new list of them may be held -/
def mixL : DV × Md → Option (List DV × Md)
  | (.l xs, _) => some (xs.map .i, .own)
  | (.m xs, m) => some (xs, if m = .bor then .bor else .own)
  | _ => none
def addM (x y : DV × Md) : R (DV × Md) := match mixL x, mixL y with
  | some a, some b => if a.1.length + b.1.length ≤ 16777216 then .ok (.m (a.1 ++ b.1), if a.2 = .bor ∨ b.2 = .bor then .bor else .own) else .bad
  | _, _ => .bad
def opAdd : DV × Md → DV × Md → R (DV × Md)
  | (.i (.int a), _), (.i (.int b), _) => ok1 (.int (a + b))
  | (.i (.str a), _), (.i (.str b), _) => if a.length + b.length ≤ 16777216 then ok1 (.str (a ++ b)) else .bad
  | (.i (.tup a), _), (.i (.tup b), _) => if a.length + b.length ≤ 16777216 then ok1 (.tup (a ++ b)) else .bad
  | (.l a, _), (.l b, _) => if a.length + b.length ≤ 16777216 then .ok (.l (a ++ b), .own) else .bad
  | x, y => addM x y
def opSub : DV × Md → DV × Md → R (DV × Md)
  | (.i (.int a), _), (.i (.int b), _) => ok1 (.int (a - b))
  | _, _ => .bad
def opMul : DV × Md → DV × Md → R (DV × Md)
  | (.i (.int a), _), (.i (.int b), _) => if a.natAbs < 2 ^ 64 ∨ b.natAbs < 2 ^ 64 then ok1 (.int (a * b)) else .bad
  | (.l a, _), (.i (.int k), _) => if k.natAbs < 2 ^ 63 ∧ a.length * k.toNat ≤ 16777216 then .ok (.l (List.replicate k.toNat a).flatten, .own) else .bad
  | (.i (.tup a), _), (.i (.int k), _) => if a ≠ [] ∧ 2 ≤ k ∧ k.natAbs ≤ 1000 ∧ a.length ≤ 1000 then ok1 (.tup (List.replicate k.toNat a).flatten) else .bad
  | _, _ => .bad
def opMod : DV × Md → DV × Md → R (DV × Md)
  | (.i (.int a), _), (.i (.int b), _) => if 0 < b then ok1 (.int (a % b)) else .bad
  | _, _ => .bad
def opDiv : DV × Md → DV × Md → R (DV × Md)
  | (.i (.int a), _), (.i (.int b), _) => if 0 < b ∧ b.natAbs < 1073741824 then ok1 (.int (a / b)) else .bad
  | _, _ => .bad
def opPow : DV × Md → DV × Md → R (DV × Md)
  | (.i (.int a), _), (.i (.int b), _) => if 0 ≤ b ∧ b.natAbs ≤ 1000000 ∧ a.natAbs < 2 ^ 64 then ok1 (.int (a ^ b.toNat)) else .bad
  | _, _ => .bad
def opXor : DV × Md → DV × Md → R (DV × Md)
  | (.i (.int a), _), (.i (.int b), _) => ok1 (.int (Builtin.bitXor a b))
  | _, _ => .bad
theorem noex_of {op : DV × Md → DV × Md → R (DV × Md)} (h : ∀ x y, (∃ z, op x y = .ok z) ∨ op x y = .bad) : NoEx op := fun x y c p e => by
  rcases h x y with ⟨z, q⟩ | q <;> (rw [q] at e; cases e)
section
variable {K : PySem.W.Frag} {H0 Pz H : Hp} {T : Addr → Prop} {σ : St} {ρ : Env} {Fs : Nat → List Addr}
/-- a new list of items that lie already -/
theorem newM_ok (E : EnvR K H0 Pz T H σ ρ Fs) {p : Addr} {vs : List V} {xs : List DV} {F : List Addr} {m : Md} (hp : H p = none) (r : RpDs K H vs xs F) (hn : NoTops T ρ Fs F) (hm : m = .own ∨ m = .bor) (hf : m = .own → ∀ a ∈ F, H0 a = none ∧ Mb H a) :
    RpD K (upd H p (.lst vs)) (.ref p) (.m xs) (p :: F) ∧ ResOk H0 Pz T ρ Fs (upd H p (.lst vs)) (p :: F) m := by
  have no : ∀ {G : Hp}, Same G H → G p = none := fun {G} e => by
    cases q : G p with
    | none => rfl
    | some o => rw [e _ _ q] at hp; cases hp
  have npF : p ∉ F := fun h => by
    obtain ⟨o, q⟩ := r.dom p h
    rw [hp] at q; cases q
  have nofs : ∀ j, p ∉ Fs j := fun j h => by
    obtain ⟨o, q⟩ := E.dom j p h
    rw [hp] at q; cases q
  refine ⟨.m upd_same (r.same (same_upd hp)), ⟨fun z a ha => ?_, fun z a G e => ?_, fun z => ⟨fun k d hk a G e ha => ?_, fun a ta ha => ?_⟩, fun z => ?_⟩⟩
  · have z : m = .own := by
      rcases z with z | z
      · exact z
      · rcases hm with q | q <;> (rw [q] at z; cases z)
    rcases List.mem_cons.mp ha with e | ha
    · subst e
      exact ⟨no (E.h0.trans E.pz), mb_l upd_same⟩
    · obtain ⟨h1, h2⟩ := hf z a ha
      exact ⟨h1, h2.same (same_upd hp)⟩
  · cases e
    exact ⟨no E.pz, npF, nofs⟩
  · rcases List.mem_cons.mp ha with e' | ha
    · subst e'
      exact nofs k (by rw [e]; exact List.mem_cons_self)
    · exact hn.1 k d hk a G e ha
  · rcases List.mem_cons.mp ha with e' | ha
    · subst e'
      obtain ⟨o, q⟩ := (E.th a ta).some
      rw [hp] at q; cases q
    · exact hn.2 a ta ha
  · rcases hm with q | q <;> (rw [q] at z; cases z)
theorem RpDs.append : ∀ {vs : List V} {xs : List DV} {F : List Addr} {us : List V} {ys : List DV} {G : List Addr}, RpDs K H vs xs F → RpDs K H us ys G → RpDs K H (vs ++ us) (xs ++ ys) (F ++ G)
  | _, [], _, _, _, _, h, k => by cases h; exact k
  | _, _ :: _, _, _, _, _, h, k => by
    cases h with
    | cons a b => rw [List.append_assoc]; exact .cons a (RpDs.append b k)
theorem RpIs.ds : ∀ {vs : List V} {xs : List IV}, RpIs K H vs xs → RpDs K H vs (xs.map .i) []
  | _, [], h => by cases h; exact .nil
  | _, _ :: _, h => by
    cases h with
    | cons a b => exact .cons (F := []) (.i a) (RpIs.ds b)
/-- a list whose inner footprint is told -/
theorem mixL_ok (E : EnvR K H0 Pz T H σ ρ Fs) {v : V} {d : DV} {m m' : Md} {F : List Addr} {xs : List DV} (r : RpD K H v d F) (o : ResOk H0 Pz T ρ Fs H F m) (e : mixL (d, m) = some (xs, m')) :
    ∃ a vs G, v = .ref a ∧ H a = some (.lst vs) ∧ RpDs K H vs xs G ∧ NoTops T ρ Fs G ∧ (m' = .own → ∀ c ∈ G, H0 c = none ∧ Mb H c) ∧ (m' = .own ∨ m' = .bor) := by
  cases r with
  | l s t =>
    cases e
    exact ⟨_, _, [], rfl, s, t.ds, ⟨fun _ _ _ _ _ _ z => (nomatch z), fun _ _ z => (nomatch z)⟩, fun _ _ z => (nomatch z), .inl rfl⟩
  | @m a vs _ G s t =>
    cases e
    refine ⟨a, vs, G, rfl, s, t, ?_, fun z c hc => ?_, ?_⟩
    · by_cases ht : m = .tmp
      · rcases o.tmp ht with z | ⟨k0, d0, hk0, eF⟩
        · cases z
        · have top := E.top k0 d0 hk0 a G eF.symm
          refine ⟨fun k d hk a' G' e ha => ?_, fun a' ta ha => E.tt a' ta k0 (by rw [← eF]; exact List.mem_cons_of_mem _ ha)⟩
          by_cases hkk : k = k0
          · subst hkk
            rw [← eF] at e
            cases e
            exact top.2.1 ha
          · have := (E.top k d hk a' G' e).2.2 k0 (fun z => hkk z.symm)
            exact this (by rw [← eF]; exact List.mem_cons_of_mem _ ha)
      · have n := o.notops ht
        exact ⟨fun k d hk a' G' e ha => n.1 k d hk a' G' e (List.mem_cons_of_mem _ ha), fun a' ta ha => n.2 a' ta (List.mem_cons_of_mem _ ha)⟩
    · by_cases ht : m = .tmp
      · rcases o.tmp ht with z | ⟨k0, d0, hk0, eF⟩
        · cases z
        · exact E.fresh k0 d0 .own hk0 (by intro z; cases z) c (by rw [← eF]; exact List.mem_cons_of_mem _ hc)
      · have ho : m = .own ∨ m = .loc := by
          cases m
          · exact .inl rfl
          · exact .inr rfl
          · cases z
          · exact absurd rfl ht
        exact o.fresh ho c (List.mem_cons_of_mem _ hc)
    · by_cases hb : m = .bor
      · rw [if_pos hb]; exact .inr rfl
      · rw [if_neg hb]; exact .inl rfl
  | _ => cases e
end
theorem opAdd_nx : NoEx opAdd := noex_of fun x y => by
  unfold opAdd; split <;> first | exact .inr rfl | exact .inl ⟨_, rfl⟩ | (split <;> first | exact .inr rfl | exact .inl ⟨_, rfl⟩) | (unfold addM; split <;> first | exact .inr rfl | (split <;> first | exact .inr rfl | exact .inl ⟨_, rfl⟩))
theorem opSub_nx : NoEx opSub := noex_of fun x y => by
  unfold opSub; split <;> first | exact .inr rfl | exact .inl ⟨_, rfl⟩
theorem opMul_nx : NoEx opMul := noex_of fun x y => by
  unfold opMul; split <;> first | exact .inr rfl | exact .inl ⟨_, rfl⟩ | (split <;> first | exact .inr rfl | exact .inl ⟨_, rfl⟩)
theorem opMod_nx : NoEx opMod := noex_of fun x y => by
  unfold opMod; split <;> first | exact .inr rfl | exact .inl ⟨_, rfl⟩ | (split <;> first | exact .inr rfl | exact .inl ⟨_, rfl⟩)
theorem opDiv_nx : NoEx opDiv := noex_of fun x y => by
  unfold opDiv; split <;> first | exact .inr rfl | exact .inl ⟨_, rfl⟩ | (split <;> first | exact .inr rfl | exact .inl ⟨_, rfl⟩)
theorem opPow_nx : NoEx opPow := noex_of fun x y => by
  unfold opPow; split <;> first | exact .inr rfl | exact .inl ⟨_, rfl⟩ | (split <;> first | exact .inr rfl | exact .inl ⟨_, rfl⟩)
theorem opXor_nx : NoEx opXor := noex_of fun x y => by
  unfold opXor; split <;> first | exact .inr rfl | exact .inl ⟨_, rfl⟩

theorem slEq : sizeLine = 16777216 := sizeLine_eq
/-- a plain value at once -/
theorem fin1 {K : PySem.W.Frag} {H0 Pz H : Hp} {T : Addr → Prop} {ρ : Env} {Fs : Nat → List Addr} {x : IV} {v : V} {Q : VK} (h : ∀ v H' F, Same H H' → RpD K H' v (.i x) F → ResOk H0 Pz T ρ Fs H' F .own → Q v H') (r : RpI K H v x) : Q v H :=
  h v H [] (fun _ _ z => z) (.i r) .nil
abbrev strAddR : R2 := fun x y H Q => ∃ i j, x = .str i ∧ y = .str j ∧ i.length + j.length ≤ sizeLine ∧ Q (.str (i ++ j)) H
abbrev rAddAll (K : PySem.W.Frag) : R2 := fun x y H Q => rI0 (fun i j => .int (i + j)) x y H Q ∨ (strAddR x y H Q ∨ (rCatA K x y H Q ∨ rCat x y H Q))
theorem or_addAll {X : Cx} : OpR X (binaryOp .Add) (rAddAll X.K) := op_add.or (op_add_str.or (op_catA.or op_cat))
theorem RpIs.nil_iff {K : PySem.W.Frag} {H : Hp} {vs : List V} {xs : List IV} (h : RpIs K H vs xs) : vs = [] ↔ xs = [] := by
  have := h.length
  constructor
  · intro e; subst e; exact List.eq_nil_of_length_eq_zero this.symm
  · intro e; subst e; exact List.eq_nil_of_length_eq_zero this
theorem bAdd {K : PySem.W.Frag} : BOk K (rAddAll K) opAdd := by
  intro H0 Pz H T σ ρ Fs x y z v u F G Q E r1 o1 r2 o2 e h
  obtain ⟨x, mx⟩ := x
  obtain ⟨y, my⟩ := y
  simp only at r1 r2
  unfold opAdd at e
  split at e
  · rename_i q1 q2; cases q1; cases q2; cases e
    cases r1 with | i r1 => cases r1; cases r2 with | i r2 => cases r2; exact .inl ⟨_, _, rfl, rfl, fin1 h (.int _)⟩
  · rename_i q1 q2; cases q1; cases q2
    split at e
    · rename_i hl; cases e
      cases r1 with | i r1 => cases r1; cases r2 with | i r2 => cases r2; exact .inr (.inl ⟨_, _, rfl, rfl, by rw [slEq]; exact hl, fin1 h (.str _)⟩)
    · cases e
  · rename_i q1 q2; cases q1; cases q2
    split at e
    · rename_i hl; cases e
      cases r1 with
      | i r1 =>
        cases r1 with
        | tup s1 t1 =>
          cases r2 with
          | i r2 =>
            cases r2 with
            | tup s2 t2 =>
              refine .inr (.inr (.inl ⟨_, _, _, _, rfl, rfl, SqT.of s1, SqT.of s2, by rw [slEq, t1.length, t2.length]; exact hl, fun e0 => ?_, fun _ e0 => ?_, fun _ _ p hp => ?_⟩))
              · have e1 := t1.nil_iff.mp e0
                subst e1
                exact fin1 h (.tup s2 t2)
              · have e1 := t2.nil_iff.mp e0
                subst e1
                rw [List.append_nil] at h
                exact fin1 h (.tup s1 t1)
              · exact h _ _ _ (same_upd hp) (new_tup hp (t1.append t2)) .nil
    · cases e
  · rename_i q1 q2; cases q1; cases q2
    split at e
    · rename_i hl; cases e
      cases r1 with
      | l s1 t1 =>
        cases r2 with
        | l s2 t2 => exact .inr (.inr (.inr ⟨_, _, _, _, rfl, rfl, s1, s2, by rw [slEq, t1.length, t2.length]; exact hl, fun p hp => h _ _ _ (same_upd hp) (new_lst hp (t1.append t2)) (new_ok E hp)⟩))
    · cases e
  · unfold addM at e
    split at e
    · rename_i a b ea eb
      obtain ⟨xs, m1⟩ := a
      obtain ⟨ys, m2⟩ := b
      simp only at e
      split at e
      · rename_i hl
        cases e
        obtain ⟨a, vs, FA, rfl, s1, t1, n1, f1, k1⟩ := mixL_ok E r1 o1 ea
        obtain ⟨b, us, FB, rfl, s2, t2, n2, f2, k2⟩ := mixL_ok E r2 o2 eb
        refine .inr (.inr (.inr ⟨_, _, _, _, rfl, rfl, s1, s2, by rw [slEq, t1.length, t2.length]; exact hl, fun p hp => ?_⟩))
        have nn : NoTops T ρ Fs (FA ++ FB) := ⟨fun k d hk a' G' e ha => (List.mem_append.mp ha).elim (n1.1 k d hk a' G' e) (n2.1 k d hk a' G' e), fun a' ta ha => (List.mem_append.mp ha).elim (n1.2 a' ta) (n2.2 a' ta)⟩
        by_cases hb : m1 = .bor ∨ m2 = .bor
        · obtain ⟨q1, q2⟩ := newM_ok E (m := .bor) hp (t1.append t2) nn (.inr rfl) fun q => (nomatch q)
          refine h _ _ _ (same_upd hp) q1 ?_
          show ResOk _ _ _ _ _ _ _ (if m1 = .bor ∨ m2 = .bor then Md.bor else Md.own)
          rw [if_pos hb]; exact q2
        · have e1 : m1 = .own := k1.resolve_right fun z => hb (.inl z)
          have e2 : m2 = .own := k2.resolve_right fun z => hb (.inr z)
          obtain ⟨q1, q2⟩ := newM_ok E (m := .own) hp (t1.append t2) nn (.inl rfl) fun _ c hc => (List.mem_append.mp hc).elim (f1 e1 c) (f2 e2 c)
          refine h _ _ _ (same_upd hp) q1 ?_
          show ResOk _ _ _ _ _ _ _ (if m1 = .bor ∨ m2 = .bor then Md.bor else Md.own)
          rw [if_neg hb]; exact q2
      · cases e
    · cases e
theorem bSub {K : PySem.W.Frag} : BOk K (rI0 fun i j => .int (i - j)) opSub := by
  intro H0 Pz H T σ ρ Fs x y z v u F G Q E r1 o1 r2 o2 e h
  obtain ⟨x, mx⟩ := x
  obtain ⟨y, my⟩ := y
  simp only at r1 r2
  unfold opSub at e
  split at e
  · rename_i q1 q2; cases q1; cases q2; cases e
    cases r1 with | i r1 => cases r1; cases r2 with | i r2 => cases r2; exact ⟨_, _, rfl, rfl, fin1 h (.int _)⟩
  · cases e
theorem bXor {K : PySem.W.Frag} : BOk K (rI0 fun i j => .int (Builtin.bitXor i j)) opXor := by
  intro H0 Pz H T σ ρ Fs x y z v u F G Q E r1 o1 r2 o2 e h
  obtain ⟨x, mx⟩ := x
  obtain ⟨y, my⟩ := y
  simp only at r1 r2
  unfold opXor at e
  split at e
  · rename_i q1 q2; cases q1; cases q2; cases e
    cases r1 with | i r1 => cases r1; cases r2 with | i r2 => cases r2; exact ⟨_, _, rfl, rfl, fin1 h (.int _)⟩
  · cases e
theorem bMod {K : PySem.W.Frag} : BOk K (rI (fun _ j => 0 < j) fun i j => .int (i % j)) opMod := by
  intro H0 Pz H T σ ρ Fs x y z v u F G Q E r1 o1 r2 o2 e h
  obtain ⟨x, mx⟩ := x
  obtain ⟨y, my⟩ := y
  simp only at r1 r2
  unfold opMod at e
  split at e
  · rename_i q1 q2; cases q1; cases q2
    split at e
    · rename_i hl; cases e
      cases r1 with | i r1 => cases r1; cases r2 with | i r2 => cases r2; exact ⟨_, _, rfl, rfl, hl, fin1 h (.int _)⟩
    · cases e
  · cases e
theorem bDiv {K : PySem.W.Frag} : BOk K (rI CDiv fun i j => .int (i / j)) opDiv := by
  intro H0 Pz H T σ ρ Fs x y z v u F G Q E r1 o1 r2 o2 e h
  obtain ⟨x, mx⟩ := x
  obtain ⟨y, my⟩ := y
  simp only at r1 r2
  unfold opDiv at e
  split at e
  · rename_i q1 q2; cases q1; cases q2
    split at e
    · rename_i hl; cases e
      cases r1 with | i r1 => cases r1; cases r2 with | i r2 => cases r2; exact ⟨_, _, rfl, rfl, ⟨hl.1, by omega⟩, fin1 h (.int _)⟩
    · cases e
  · cases e
theorem bPow {K : PySem.W.Frag} : BOk K (rI CPow fun i j => .int (i ^ j.toNat)) opPow := by
  intro H0 Pz H T σ ρ Fs x y z v u F G Q E r1 o1 r2 o2 e h
  obtain ⟨x, mx⟩ := x
  obtain ⟨y, my⟩ := y
  simp only at r1 r2
  unfold opPow at e
  split at e
  · rename_i q1 q2; cases q1; cases q2
    split at e
    · rename_i hl; cases e
      cases r1 with | i r1 => cases r1; cases r2 with | i r2 => cases r2; exact ⟨_, _, rfl, rfl, ⟨hl.1, by omega, hl.2.2⟩, fin1 h (.int _)⟩
    · cases e
  · cases e
abbrev rMulAll (K : PySem.W.Frag) : R2 := fun x y H Q => rI CMul (fun i j => .int (i * j)) x y H Q ∨ (rRep x y H Q ∨ rRepT K x y H Q)

theorem RpIs.rep {K : PySem.W.Frag} {H : Hp} {vs : List V} {xs : List IV} (h : RpIs K H vs xs) : ∀ k : Nat, RpIs K H (List.replicate k vs).flatten (List.replicate k xs).flatten
  | 0 => .nil
  | k + 1 => by
    rw [List.replicate_succ, List.replicate_succ, List.flatten_cons, List.flatten_cons]
    exact h.append (RpIs.rep h k)
theorem bMul {K : PySem.W.Frag} : BOk K (rMulAll K) opMul := by
  intro H0 Pz H T σ ρ Fs x y z v u F G Q E r1 o1 r2 o2 e h
  obtain ⟨x, mx⟩ := x
  obtain ⟨y, my⟩ := y
  simp only at r1 r2
  unfold opMul at e
  split at e
  · rename_i q1 q2; cases q1; cases q2
    split at e
    · rename_i hl; cases e
      cases r1 with | i r1 => cases r1; cases r2 with | i r2 => cases r2; exact .inl ⟨_, _, rfl, rfl, hl.elim (fun z => .inl ⟨by omega, by omega⟩) (fun z => .inr ⟨by omega, by omega⟩), fin1 h (.int _)⟩
    · cases e
  · rename_i q1 q2; cases q1; cases q2
    split at e
    · rename_i hl; cases e
      cases r1 with
      | l s1 t1 =>
        cases r2 with
        | i r2 =>
          cases r2
          exact .inr (.inl ⟨_, _, _, rfl, rfl, s1, by omega, by omega, by rw [slEq, t1.length]; exact hl.2, fun p hp => h _ _ _ (same_upd hp) (new_lst hp (t1.rep _)) (new_ok E hp)⟩)
    · cases e
  · rename_i q1 q2; cases q1; cases q2
    split at e
    · rename_i hl; cases e
      cases r1 with
      | i r1 =>
        cases r1 with
        | tup s1 t1 =>
          cases r2 with
          | i r2 =>
            cases r2
            exact .inr (.inr ⟨_, _, _, rfl, rfl, SqT.of s1, fun z => hl.1 (t1.nil_iff.mp z), hl.2.1, by omega, by rw [t1.length]; exact hl.2.2.2, fun p hp => h _ _ _ (same_upd hp) (new_tup hp (t1.rep _)) .nil⟩)
    · cases e
  · cases e
theorem or_mulAll {X : Cx} : OpR X (binaryOp .Mult) (rMulAll X.K) := op_mul.or (op_rep.or op_repT)

/-! ### comparisons -/
def cInt (p : Int → Int → Bool) : DV × Md → DV × Md → R (DV × Md)
  | (.i (.int a), _), (.i (.int b), _) => ok1 (.bl (p a b))
  | _, _ => .bad
theorem cInt_nx {p : Int → Int → Bool} : NoEx (cInt p) := noex_of fun x y => by
  unfold cInt; split <;> first | exact .inr rfl | exact .inl ⟨_, rfl⟩
theorem bCInt {K : PySem.W.Frag} {p : Int → Int → Bool} : BOk K (rI0 fun i j => .bl (p i j)) (cInt p) := by
  intro H0 Pz H T σ ρ Fs x y z v u F G Q E r1 o1 r2 o2 e h
  obtain ⟨x, mx⟩ := x
  obtain ⟨y, my⟩ := y
  simp only at r1 r2
  unfold cInt at e
  split at e
  · rename_i q1 q2; cases q1; cases q2; cases e
    cases r1 with | i r1 => cases r1; cases r2 with | i r2 => cases r2; exact ⟨_, _, rfl, rfl, fin1 h (.bl _)⟩
  · cases e
/-! ### data as the library's -/
mutual
def IV.py : IV → PyData
  | .non => .none
  | .bl b => .bool b
  | .int i => .int i
  | .str x => .str x
  | .tup xs => .tuple (IV.pys xs)
def IV.pys : List IV → List PyData
  | [] => []
  | x :: xs => IV.py x :: IV.pys xs
end
mutual
def DV.py : DV → PyData
  | .i x => x.py
  | .l xs => .list (IV.pys xs)
  | .f xs => .list (IV.pys xs)
  | .m xs => .list (DV.pys xs)
  | .t xs => .tuple (DV.pys xs)
  | .k _ => .none
  | .h _ => .none
def DV.pys : List DV → List PyData
  | [] => []
  | x :: xs => DV.py x :: DV.pys xs
end
mutual
theorem RpI.dp {K : PySem.W.Frag} {H : Hp} : ∀ {v : V} {x : IV}, RpI K H v x → Dp K H v x.py
  | _, .non, h => by cases h; exact .non
  | _, .bl b, h => by cases h; exact .bl b
  | _, .int i, h => by cases h; exact .int i
  | _, .str x, h => by cases h; exact .str x
  | _, .tup xs, h => by
    cases h with
    | tup s r => exact .tup (SqT.of s) (RpIs.dp r)
theorem RpIs.dp {K : PySem.W.Frag} {H : Hp} : ∀ {vs : List V} {xs : List IV}, RpIs K H vs xs → DpAll K H vs (IV.pys xs)
  | _, [], h => by cases h; exact .nil
  | _, x :: xs, h => by
    cases h with
    | cons a b => exact .cons (RpI.dp a) (RpIs.dp b)
end
mutual
/-- no dict inside -/
def DV.nd : DV → Bool
  | .i _ => true
  | .l _ => true
  | .f _ => true
  | .m xs => DV.nds xs
  | .t xs => DV.nds xs
  | .k _ => false
  | .h _ => false
def DV.nds : List DV → Bool
  | [] => true
  | x :: xs => DV.nd x && DV.nds xs
end
mutual
theorem RpD.dp {K : PySem.W.Frag} {H : Hp} : ∀ {v : V} {x : DV} {F : List Addr}, RpD K H v x F → x.nd = true → Dp K H v x.py
  | _, .i x, _, h, _ => by cases h with | i r => exact r.dp
  | _, .l xs, _, h, _ => by cases h with | l s r => exact .lst (SqL.of s) r.dp
  | _, .f xs, _, h, _ => by cases h with | f s r => exact .lst s.sq r.dp
  | _, .m xs, _, h, n => by cases h with | m s r => exact .lst (SqL.of s) (RpDs.dp r n)
  | _, .t xs, _, h, n => by cases h with | t s r => exact .tup (SqT.of s) (RpDs.dp r n)
  | _, .k xs, _, h, n => nomatch n
  | _, .h xs, _, h, n => nomatch n
theorem RpDs.dp {K : PySem.W.Frag} {H : Hp} : ∀ {vs : List V} {xs : List DV} {F : List Addr}, RpDs K H vs xs F → DV.nds xs = true → DpAll K H vs (DV.pys xs)
  | _, [], _, h, _ => by cases h; exact .nil
  | _, x :: xs, _, h, n => by
    have n' := Bool.and_eq_true_iff.mp n
    cases h with
    | cons a b => exact .cons (RpD.dp a n'.1) (RpDs.dp b n'.2)
end
/-- == -/
def eqD (x y : DV) : Bool := PyData.eqv x.py y.py
def shp (x : DV) : Bool := x.nd && SeqAt.shaped x.py
theorem shp_and {x : DV} (h : shp x = true) : x.nd = true ∧ SeqAt.shaped x.py = true := Bool.and_eq_true_iff.mp h
def cEq : DV × Md → DV × Md → R (DV × Md) := fun x y => if shp x.1 && shp y.1 then ok1 (.bl (eqD x.1 y.1)) else .bad
def cNe : DV × Md → DV × Md → R (DV × Md) := fun x y => if shp x.1 && shp y.1 then ok1 (.bl (!eqD x.1 y.1)) else .bad
theorem cEq_nx : NoEx cEq := noex_of fun x y => by
  unfold cEq; split <;> first | exact .inr rfl | exact .inl ⟨_, rfl⟩
theorem cNe_nx : NoEx cNe := noex_of fun x y => by
  unfold cNe; split <;> first | exact .inr rfl | exact .inl ⟨_, rfl⟩
theorem bEq {K : PySem.W.Frag} : BOk K (rEqD K) cEq := by
  intro H0 Pz H T σ ρ Fs x y z v u F G Q E r1 o1 r2 o2 e h
  unfold cEq at e
  split at e
  · rename_i hs
    cases e
    obtain ⟨h1, h2⟩ := Bool.and_eq_true_iff.mp hs
    exact ⟨_, _, r1.dp (shp_and h1).1, r2.dp (shp_and h2).1, (shp_and h1).2, (shp_and h2).2, fin1 h (.bl _)⟩
  · cases e
theorem bNe {K : PySem.W.Frag} : BOk K (rNeD K) cNe := by
  intro H0 Pz H T σ ρ Fs x y z v u F G Q E r1 o1 r2 o2 e h
  unfold cNe at e
  split at e
  · rename_i hs
    cases e
    obtain ⟨h1, h2⟩ := Bool.and_eq_true_iff.mp hs
    exact ⟨_, _, r1.dp (shp_and h1).1, r2.dp (shp_and h2).1, (shp_and h1).2, (shp_and h2).2, fin1 h (.bl _)⟩
  · cases e
/-! is None -/
def isN : DV → Bool
  | .i .non => true
  | _ => false
def cIsN : DV × Md → DV × Md → R (DV × Md)
  | x, (.i .non, _) => ok1 (.bl (isN x.1))
  | _, _ => .bad
def cNotN : DV × Md → DV × Md → R (DV × Md)
  | x, (.i .non, _) => ok1 (.bl (!isN x.1))
  | _, _ => .bad
theorem cIsN_nx : NoEx cIsN := noex_of fun x y => by
  unfold cIsN; split <;> first | exact .inr rfl | exact .inl ⟨_, rfl⟩
theorem cNotN_nx : NoEx cNotN := noex_of fun x y => by
  unfold cNotN; split <;> first | exact .inr rfl | exact .inl ⟨_, rfl⟩
theorem isN_iff {K : PySem.W.Frag} {H : Hp} {v : V} {x : DV} {F : List Addr} (r : RpD K H v x F) : decide (v = .non) = isN x := by
  cases r with
  | i r => cases r <;> rfl
  | l => rfl
  | f => rfl
  | m => rfl
  | t => rfl
  | k => rfl
  | h => rfl
theorem bIsN {K : PySem.W.Frag} : BOk K (fun x y H Q => y = .non ∧ Q (.bl (decide (x = .non))) H) cIsN := by
  intro H0 Pz H T σ ρ Fs x y z v u F G Q E r1 o1 r2 o2 e h
  obtain ⟨y, my⟩ := y
  simp only at r2
  unfold cIsN at e
  split at e
  · rename_i q2; cases q2; cases e
    cases r2 with
    | i r2 => cases r2; exact ⟨rfl, by rw [isN_iff r1]; exact fin1 h (.bl _)⟩
  · cases e
theorem bNotN {K : PySem.W.Frag} : BOk K (fun x y H Q => y = .non ∧ Q (.bl (!decide (x = .non))) H) cNotN := by
  intro H0 Pz H T σ ρ Fs x y z v u F G Q E r1 o1 r2 o2 e h
  obtain ⟨y, my⟩ := y
  simp only at r2
  unfold cNotN at e
  split at e
  · rename_i q2; cases q2; cases e
    cases r2 with
    | i r2 => cases r2; exact ⟨rfl, by rw [isN_iff r1]; exact fin1 h (.bl _)⟩
  · cases e
/-! in -/
def inD (x : DV) (ys : List PyData) : Bool := ys.any fun z => PyData.eqv z x.py
/-- a dict's keys -/
def keyI : IV → Option Key
  | .int i => some (.inl i)
  | .str x => some (.inr x)
  | _ => none
def keysI : List IV → Option (List Key)
  | [] => some []
  | x :: r => match keyI x, keysI r with
    | some k, some ks => some (k :: ks)
    | _, _ => none
def keyT : IV → Option (List Key)
  | .tup xs => keysI xs
  | _ => none
section
variable {κ : Type} [DecidableEq κ]
def kGet (kvs : List (κ × IV)) (k : κ) : Option IV := (kvs.find? fun p => decide (p.1 = k)).map (·.2)
def kPut (kvs : List (κ × IV)) (k : κ) (x : IV) : List (κ × IV) := if (kvs.any fun p => decide (p.1 = k)) = true then kvs.map (fun p => if p.1 = k then (p.1, x) else p) else kvs ++ [(k, x)]
def kDrop (kvs : List (κ × IV)) (k : κ) : List (κ × IV) := kvs.filter fun p => decide (p.1 ≠ k)
theorem kGet_nil {k : κ} : kGet ([] : List (κ × IV)) k = none := rfl
theorem kGet_pos {p : κ × IV} {r : List (κ × IV)} {k : κ} (e : p.1 = k) : kGet (p :: r) k = some p.2 := by simp [kGet, List.find?_cons, e]
theorem kGet_neg {p : κ × IV} {r : List (κ × IV)} {k : κ} (e : ¬ p.1 = k) : kGet (p :: r) k = kGet r k := by simp [kGet, List.find?_cons, e]
theorem RpK.get {K : PySem.W.Frag} {H : Hp} : ∀ {vs : List (κ × V)} {xs : List (κ × IV)}, RpK K H vs xs → ∀ k, (valV vs k = none ∧ kGet xs k = none) ∨ ∃ v x, valV vs k = some v ∧ kGet xs k = some x ∧ RpI K H v x
  | _, [], h, k => by cases h; exact .inl ⟨rfl, rfl⟩
  | _, (c, x) :: xs, h, k => by
    cases h with
    | @cons _ v vs _ _ a b =>
      by_cases e : c = k
      · exact .inr ⟨v, x, valV_pos (p := (c, v)) e, kGet_pos (p := (c, x)) e, a⟩
      · rw [valV_neg (p := (c, v)) e, kGet_neg (p := (c, x)) e]
        exact RpK.get b k
theorem RpK.any {K : PySem.W.Frag} {H : Hp} (k : κ) : ∀ {vs : List (κ × V)} {xs : List (κ × IV)}, RpK K H vs xs → (vs.any fun p => decide (p.1 = k)) = xs.any fun p => decide (p.1 = k)
  | _, [], h => by cases h; rfl
  | _, x :: xs, h => by
    cases h with
    | cons a b => rw [List.any_cons, List.any_cons, RpK.any k b]
theorem RpK.put {K : PySem.W.Frag} {H : Hp} {v : V} {x : IV} (r : RpI K H v x) (k : κ) {vs : List (κ × V)} {xs : List (κ × IV)} (h : RpK K H vs xs) : RpK K H (putK vs k v) (kPut xs k x) := by
  have rep : ∀ {vs : List (κ × V)} {xs : List (κ × IV)}, RpK K H vs xs → RpK K H (vs.map fun p => if p.1 = k then (p.1, v) else p) (xs.map fun p => if p.1 = k then (p.1, x) else p) := by
    intro vs xs h
    induction h with
    | nil => exact .nil
    | @cons c w vs y xs a b ih =>
      rw [List.map_cons, List.map_cons]
      by_cases e : c = k
      · rw [if_pos (show (c, w).1 = k from e), if_pos (show (c, y).1 = k from e)]; exact .cons r ih
      · rw [if_neg (show ¬ (c, w).1 = k from e), if_neg (show ¬ (c, y).1 = k from e)]; exact .cons a ih
  have snoc : ∀ {vs : List (κ × V)} {xs : List (κ × IV)}, RpK K H vs xs → RpK K H (vs ++ [(k, v)]) (xs ++ [(k, x)]) := by
    intro vs xs h
    induction h with
    | nil => exact .cons r .nil
    | cons a b ih => exact .cons a ih
  unfold putK kPut
  rw [h.any k]
  by_cases e : (xs.any fun p => decide (p.1 = k)) = true
  · rw [if_pos e, if_pos e]; exact rep h
  · rw [if_neg e, if_neg e]; exact snoc h
theorem RpK.drop {K : PySem.W.Frag} {H : Hp} (k : κ) {vs : List (κ × V)} {xs : List (κ × IV)} (h : RpK K H vs xs) : RpK K H (dropK vs k) (kDrop xs k) := by
  induction h with
  | nil => exact .nil
  | @cons c w vs y xs a b ih =>
    unfold dropK kDrop at *
    rw [List.filter_cons, List.filter_cons]
    by_cases e : c = k
    · simp only [e, ne_eq, not_true, decide_false, Bool.false_eq_true, if_false]; exact ih
    · simp only [e, ne_eq, not_false_iff, decide_true, if_true]; exact .cons a ih
end
theorem RpI.key {K : PySem.W.Frag} {H : Hp} {v : V} {x : IV} {k : Key} (r : RpI K H v x) (e : keyI x = some k) : v = kV k := by
  cases r <;> (unfold keyI at e; first | (cases e; rfl) | cases e)
theorem RpIs.keys {K : PySem.W.Frag} {H : Hp} : ∀ {vs : List V} {xs : List IV} {ks : List Key}, RpIs K H vs xs → keysI xs = some ks → vs = ks.map kV
  | _, [], ks, h, e => by cases h; cases e; rfl
  | _, x :: xs, ks, h, e => by
    cases h with
    | cons a b =>
      unfold keysI at e
      cases e1 : keyI x with
      | none => rw [e1] at e; cases e
      | some k =>
        cases e2 : keysI xs with
        | none => rw [e1, e2] at e; cases e
        | some ks' =>
          rw [e1, e2] at e
          cases e
          rw [List.map_cons, a.key e1, RpIs.keys b e2]
theorem RpI.keyT {K : PySem.W.Frag} {H : Hp} {v : V} {x : IV} {ks : List Key} (r : RpI K H v x) (e : keyT x = some ks) : ∃ b, v = .ref b ∧ H b = some (.tup (ks.map kV)) := by
  cases r with
  | @tup b vs xs s r => exact ⟨b, rfl, by rw [s, r.keys e]⟩
  | _ => cases e
def cIn (neg : Bool) : DV × Md → DV × Md → R (DV × Md) := fun x y => match y.1 with
  | .k kvs => (match x.1 with
    | .i x => (match keyI x with
      | some k => ok1 (.bl (if neg then !(kGet kvs k).isSome else (kGet kvs k).isSome))
      | none => .bad)
    | _ => .bad)
  | .h kvs => (match x.1 with
    | .i x => (match keyT x with
      | some k => ok1 (.bl (if neg then !(kGet kvs k).isSome else (kGet kvs k).isSome))
      | none => .bad)
    | _ => .bad)
  | .t ys => if shp x.1 && shp y.1 then ok1 (.bl (if neg then !inD x.1 (DV.pys ys) else inD x.1 (DV.pys ys))) else .bad
  | .l ys => if shp x.1 && shp y.1 then ok1 (.bl (if neg then !inD x.1 (IV.pys ys) else inD x.1 (IV.pys ys))) else .bad
  | .f ys => if shp x.1 && shp y.1 then ok1 (.bl (if neg then !inD x.1 (IV.pys ys) else inD x.1 (IV.pys ys))) else .bad
  | .m ys => if shp x.1 && shp y.1 then ok1 (.bl (if neg then !inD x.1 (DV.pys ys) else inD x.1 (DV.pys ys))) else .bad
  | .i (.tup ys) => if shp x.1 && shp y.1 then ok1 (.bl (if neg then !inD x.1 (IV.pys ys) else inD x.1 (IV.pys ys))) else .bad
  | _ => .bad
theorem cIn_nx {neg : Bool} : NoEx (cIn neg) := noex_of fun x y => by
  unfold cIn; split <;> first | exact .inr rfl | (split <;> first | exact .inr rfl | exact .inl ⟨_, rfl⟩ | (split <;> first | exact .inr rfl | exact .inl ⟨_, rfl⟩))
/-- a key in a dict, read -/
theorem in_key {K : PySem.W.Frag} {H : Hp} {x y : DV} {v u : V} {F G : List Addr} {neg : Bool} {z : DV × Md} (r1 : RpD K H v x F) (r2 : RpD K H u y G) (e : cIn neg (x, .own) (y, .own) = .ok z) (hy : (∃ kvs, y = .k kvs) ∨ ∃ kvs, y = .h kvs) :
    ∃ a o, u = .ref a ∧ DGet H a v o ∧ z = (.i (.bl (if neg then !o.isSome else o.isSome)), .own) := by
  rcases hy with ⟨kvs, rfl⟩ | ⟨kvs, rfl⟩
  · cases r2 with
    | @k a vs _ s r =>
      cases x with
      | i x =>
        cases r1 with
        | i r1 =>
          unfold cIn at e
          simp only at e
          cases q : keyI x with
          | none => rw [q] at e; cases e
          | some k =>
            rw [q] at e
            cases e
            rw [r1.key q]
            refine ⟨a, _, rfl, DGet.k s, ?_⟩
            rcases r.get k with ⟨h1, h2⟩ | ⟨w, y, h1, h2, _⟩ <;> (rw [h1, h2]; rfl)
      | _ => cases e
  · cases r2 with
    | @h a vs _ s r =>
      cases x with
      | i x =>
        cases r1 with
        | i r1 =>
          unfold cIn at e
          simp only at e
          cases q : keyT x with
          | none => rw [q] at e; cases e
          | some k =>
            rw [q] at e
            cases e
            obtain ⟨b, rfl, hb⟩ := r1.keyT q
            refine ⟨a, _, rfl, DGet.t s hb, ?_⟩
            rcases r.get k with ⟨h1, h2⟩ | ⟨w, y, h1, h2, _⟩ <;> (rw [h1, h2]; rfl)
      | _ => cases e
def rInT (K : PySem.W.Frag) (neg : Bool) : R2 := fun x y H Q => ∃ d ds, Dp K H x d ∧ Dp K H y (.tuple ds) ∧ SeqAt.shaped d = true ∧ SeqAt.shaped (.tuple ds) = true ∧ Q (.bl (if neg then !(ds.any fun z => PyData.eqv z d) else ds.any fun z => PyData.eqv z d)) H
/-- a key in a dict -/
def rInK (neg : Bool) : R2 := fun y x H Q => ∃ a o, x = .ref a ∧ DGet H a y o ∧ Q (.bl (if neg then !o.isSome else o.isSome)) H
abbrev rInAll (K : PySem.W.Frag) : R2 := fun x y H Q => (rInD K x y H Q ∨ rInT K false x y H Q) ∨ rInK false x y H Q
abbrev rNotInAll (K : PySem.W.Frag) : R2 := fun x y H Q => (rNotInD K x y H Q ∨ rInT K true x y H Q) ∨ rInK true x y H Q
theorem bIn {K : PySem.W.Frag} : BOk K (rInAll K) (cIn false) := by
  intro H0 Pz H T σ ρ Fs x y z v u F G Q E r1 o1 r2 o2 e h
  obtain ⟨y, my⟩ := y
  by_cases hy : (∃ kvs, y = .k kvs) ∨ ∃ kvs, y = .h kvs
  · obtain ⟨a, o, q1, q2, q3⟩ := in_key (neg := false) r1 r2 e hy
    subst q3
    exact .inr ⟨a, o, q1, q2, fin1 h (.bl _)⟩
  unfold cIn at e
  split at e <;> first
    | (split at e <;> first
        | (rename_i q hs
           cases e
           obtain ⟨h1, h2⟩ := Bool.and_eq_true_iff.mp hs
           simp only at q
           subst q
           first
             | exact .inl (.inl ⟨_, _, r1.dp (shp_and h1).1, r2.dp (shp_and h2).1, (shp_and h1).2, (shp_and h2).2, fin1 h (.bl _)⟩)
             | exact .inl (.inr ⟨_, _, r1.dp (shp_and h1).1, r2.dp (shp_and h2).1, (shp_and h1).2, (shp_and h2).2, fin1 h (.bl _)⟩))
        | cases e)
    | cases e
    | (rename_i q; exact absurd (by first | exact Or.inl ⟨_, q⟩ | exact Or.inr ⟨_, q⟩) hy)
theorem bNotIn {K : PySem.W.Frag} : BOk K (rNotInAll K) (cIn true) := by
  intro H0 Pz H T σ ρ Fs x y z v u F G Q E r1 o1 r2 o2 e h
  obtain ⟨y, my⟩ := y
  by_cases hy : (∃ kvs, y = .k kvs) ∨ ∃ kvs, y = .h kvs
  · obtain ⟨a, o, q1, q2, q3⟩ := in_key (neg := true) r1 r2 e hy
    subst q3
    exact .inr ⟨a, o, q1, q2, fin1 h (.bl _)⟩
  unfold cIn at e
  split at e <;> first
    | (split at e <;> first
        | (rename_i q hs
           cases e
           obtain ⟨h1, h2⟩ := Bool.and_eq_true_iff.mp hs
           simp only at q
           subst q
           first
             | exact .inl (.inl ⟨_, _, r1.dp (shp_and h1).1, r2.dp (shp_and h2).1, (shp_and h1).2, (shp_and h2).2, fin1 h (.bl _)⟩)
             | exact .inl (.inr ⟨_, _, r1.dp (shp_and h1).1, r2.dp (shp_and h2).1, (shp_and h1).2, (shp_and h2).2, fin1 h (.bl _)⟩))
        | cases e)
    | cases e
    | (rename_i q; exact absurd (by first | exact Or.inl ⟨_, q⟩ | exact Or.inr ⟨_, q⟩) hy)
section
variable {X : Cx}
theorem op_inT (hu : X.A.units + 65 < cLine) : OpR X (compareOp .In) (rInT X.K false) := by
  intro pins s σ H x y v u Q I rx ry h
  obtain ⟨d, ds, hd, he, sd, se, q⟩ := h
  obtain ⟨as, r1⟩ := Dp.reads I d x v hd rx
  obtain ⟨bs, r2⟩ := Dp.reads I (.tuple ds) y u he ry
  exact SeqAt.in_tuple_reads r2 r1 (SeqAt.canLay_of_shaped se) (SeqAt.canLay_of_shaped sd) (room_in_shaped sd hu) ⟨.bl _, H, I, rfl, q⟩
theorem op_notInT (hu : X.A.units + 65 < cLine) : OpR X (compareOp .NotIn) (rInT X.K true) := by
  intro pins s σ H x y v u Q I rx ry h
  obtain ⟨d, ds, hd, he, sd, se, q⟩ := h
  obtain ⟨as, r1⟩ := Dp.reads I d x v hd rx
  obtain ⟨bs, r2⟩ := Dp.reads I (.tuple ds) y u he ry
  exact SeqAt.notIn_tuple_reads r2 r1 (SeqAt.canLay_of_shaped se) (SeqAt.canLay_of_shaped sd) (room_in_shaped sd hu) ⟨.bl _, H, I, rfl, q⟩
theorem op_inK (hu : X.A.units + 1 < cLine) : OpR X (compareOp .In) (rInK false) := by
  intro pins s σ H x y v u Q I rx ry h
  obtain ⟨a, o, rfl, g, q⟩ := h
  obtain rfl : u = Value.ref a := ry
  exact d_in hu I g rx fun s3 I3 => ⟨.bl o.isSome, H, I3, rfl, q⟩
theorem op_notInK (hu : X.A.units + 1 < cLine) : OpR X (compareOp .NotIn) (rInK true) := by
  intro pins s σ H x y v u Q I rx ry h
  obtain ⟨a, o, rfl, g, q⟩ := h
  obtain rfl : u = Value.ref a := ry
  exact d_notIn hu I g rx fun s3 I3 => ⟨.bl (!o.isSome), H, I3, rfl, q⟩
theorem op_inAll {k : Nat} (hr : Room k X.A) : OpR X (compareOp .In) (rInAll X.K) := (op_inD (by have := hr.un; omega)).or (op_inT (by have := hr.un; omega)) |>.or (op_inK (by have := hr.un; omega))
theorem op_notInAll {k : Nat} (hr : Room k X.A) : OpR X (compareOp .NotIn) (rNotInAll X.K) := (op_notInD (by have := hr.un; omega)).or (op_notInT (by have := hr.un; omega)) |>.or (op_notInK (by have := hr.un; omega))
end
end L2.Pv

namespace L2.Pv
open PySem PySem.Spec PyProof.Rows

/-! ## one value in -/
def UOk (K : PySem.W.Frag) (r : V → Hp → VK → Prop) (op : DV × Md → R (DV × Md)) : Prop :=
  ∀ (H0 Pz H : Hp) (T : Addr → Prop) (σ : St) (ρ : Env) (Fs : Nat → List Addr) (x z : DV × Md) (v : V) (F : List Addr) (Q : VK), EnvR K H0 Pz T H σ ρ Fs → RpD K H v x.1 F → ResOk H0 Pz T ρ Fs H F x.2 →
    op x = .ok z → (∀ v H' F, Same H H' → RpD K H' v z.1 F → ResOk H0 Pz T ρ Fs H' F z.2 → Q v H') → r v H Q
def NoEx1 (op : DV × Md → R (DV × Md)) : Prop := ∀ x c p, op x ≠ .ex c p
theorem noex1_of {op : DV × Md → R (DV × Md)} (h : ∀ x, (∃ z, op x = .ok z) ∨ op x = .bad) : NoEx1 op := fun x c p e => by
  rcases h x with ⟨z, q⟩ | q <;> (rw [q] at e; cases e)
def eUn (op : DV × Md → R (DV × Md)) (f : FE) : FE := fun ρ => (f ρ).bind op
theorem un_imp {K : PySem.W.Frag} {mg : MG} {W : WX} {r : V → Hp → VK → Prop} {f : FE} {op : DV × Md → R (DV × Md)} (hb : UOk K r op) (hn : NoEx1 op) (σ : St) (H : Hp) (Q : VK) (h : tev K mg W (eUn op f) σ H Q) : tev K mg W f σ H fun v H1 => r v H1 Q := by
  obtain ⟨H0, Pz, T, ρ, Fs, E, h⟩ := h
  unfold eUn at h
  cases e1 : f ρ with
  | bad => rw [e1] at h; exact h.elim
  | ex c p => rw [e1] at h; exact tev_ex E e1 h
  | ok x =>
    rw [e1] at h
    refine tev_ok E e1 fun v H1 F s1 E1 r1 o1 => ?_
    simp only [R.bind] at h
    cases e3 : op x with
    | bad => rw [e3] at h; exact h.elim
    | ex c p => exact absurd e3 (hn _ _ _)
    | ok z =>
      rw [e3] at h
      exact hb H0 Pz H1 T σ ρ Fs x z v F Q E1 r1 o1 e3 fun v' H' F' s' r' o' => h v' H' F' (s1.trans s') r' o'
theorem ev_un {X : Cx} {a : Expr} {f : FE} {pos : Pos} {o : UnaryOp} {r : V → Hp → VK → Prop} {op : DV × Md → R (DV × Md)} (ho : UnR X (unaryOp o) r) (hb : UOk X.K r op) (hn : NoEx1 op) (ha : PEv X a f) : PEv X (.UnaryOp o a pos) (eUn op f) := fun W tk =>
  PE.imp (pe_un ho (ha W tk)) fun σ H Q h => un_imp hb hn σ H Q h
def opNeg : DV × Md → R (DV × Md)
  | (.i (.int a), _) => ok1 (.int (-a))
  | _ => .bad
theorem opNeg_nx : NoEx1 opNeg := noex1_of fun x => by
  unfold opNeg; split <;> first | exact .inr rfl | exact .inl ⟨_, rfl⟩
theorem uNeg {K : PySem.W.Frag} : UOk K (rU fun i => .int (-i)) opNeg := by
  intro H0 Pz H T σ ρ Fs x z v F Q E r1 o1 e h
  obtain ⟨x, mx⟩ := x
  simp only at r1
  unfold opNeg at e
  split at e
  · rename_i q; cases q; cases e
    cases r1 with | i r1 => cases r1; exact ⟨_, rfl, fin1 h (.int _)⟩
  · cases e

/-! ## calls of built-ins with one argument: by a rule on a list of one -/
def UOk1 (K : PySem.W.Frag) (r : List V → Hp → VK → Prop) (op : DV × Md → R (DV × Md)) : Prop := UOk K (fun v H Q => r [v] H Q) op
section
variable {X : Cx} {a b : Expr} {f g : FE} {x : Str} {p pos : Pos} {r : List V → Hp → VK → Prop} {op : DV × Md → R (DV × Md)} {id T : String}
theorem args1_imp {K : PySem.W.Frag} {mg : MG} {W : WX} (hb : UOk1 K r op) (hn : NoEx1 op) (σ : St) (H : Hp) (Q : VK) (h : tev K mg W (eUn op f) σ H Q) : tCB r (tCons (tev K mg W f) tNil) σ H Q :=
  un_imp hb hn σ H Q h
theorem ev_b1 (hc : CallR X (.builtin id) r) (hb : UOk1 X.K r op) (hn : NoEx1 op) (hg : Gl X x) (hm : X.mg x = none) (hv : bootBuiltins x = some (.builtin id)) (ha : PEv X a f) (hnn : x ≠ "__name__" := by decide) (hdb : (x == ("__debug__" : Str)) = false := by decide)
    (he : starEach (a :: []) X.env = (false, eval a X.env) :: starEach [] X.env := by rfl) (hpl : (backTo pos (starEach [] X.env)).any (·.1) = false := by rfl) : PEv X (.Call (.Name x p) [a] [] pos) (eUn op f) := fun W tk =>
  PE.imp (pe_callB hc hg hm hv (pa_cons (ha W tk) pa_nil he) hnn hdb he hpl) fun σ H Q h => args1_imp hb hn σ H Q h
theorem ev_t1 (hc : CallR X (.type T) r) (hb : UOk1 X.K r op) (hn : NoEx1 op) (hg : Gl X x) (hm : X.mg x = none) (hv : bootBuiltins x = some (.type T)) (ha : PEv X a f) (hnn : x ≠ "__name__" := by decide) (hdb : (x == ("__debug__" : Str)) = false := by decide)
    (he : starEach (a :: []) X.env = (false, eval a X.env) :: starEach [] X.env := by rfl) (hpl : (backTo pos (starEach [] X.env)).any (·.1) = false := by rfl) : PEv X (.Call (.Name x p) [a] [] pos) (eUn op f) := fun W tk =>
  PE.imp (pe_callTy hc hg hm hv (pa_cons (ha W tk) pa_nil he) hnn hdb he hpl) fun σ H Q h => args1_imp hb hn σ H Q h
/-- two arguments -/
def BOk2 (K : PySem.W.Frag) (r : List V → Hp → VK → Prop) (op : DV × Md → DV × Md → R (DV × Md)) : Prop := BOk K (fun v u H Q => r [v, u] H Q) op
theorem ev_b2 {op : DV × Md → DV × Md → R (DV × Md)} (hc : CallR X (.builtin id) r) (hb : BOk2 X.K r op) (hn : NoEx op) (hg : Gl X x) (hm : X.mg x = none) (hv : bootBuiltins x = some (.builtin id)) (ha : PEv X a f) (hb2 : PEv X b g) (hnn : x ≠ "__name__" := by decide) (hdb : (x == ("__debug__" : Str)) = false := by decide)
    (he : starEach (a :: [b]) X.env = (false, eval a X.env) :: starEach [b] X.env := by rfl) (he2 : starEach (b :: []) X.env = (false, eval b X.env) :: starEach [] X.env := by rfl) (hpl : (backTo pos (starEach [b] X.env)).any (·.1) = false := by rfl) : PEv X (.Call (.Name x p) [a, b] [] pos) (eBin op f g) := fun W tk =>
  PE.imp (pe_callB hc hg hm hv (pa_cons (ha W tk) (pa_cons (hb2 W tk) pa_nil he2) he) hnn hdb he hpl) fun σ H Q h => bin_imp (r := fun v u H Q => r [v, u] H Q) hb hn σ H Q h
end
/-! ### len, abs, int, min, max, tuple, list -/
def opLen : DV × Md → R (DV × Md)
  | (.l xs, _) => ok1 (.int xs.length)
  | (.f xs, _) => ok1 (.int xs.length)
  | (.m xs, _) => ok1 (.int xs.length)
  | (.t xs, _) => ok1 (.int xs.length)
  | (.k xs, _) => ok1 (.int xs.length)
  | (.i (.tup xs), _) => ok1 (.int xs.length)
  | (.i (.str x), _) => if x.length ≤ 16777216 then ok1 (.int x.length) else .bad
  | _ => .bad
theorem opLen_nx : NoEx1 opLen := noex1_of fun x => by
  unfold opLen; split <;> first | exact .inr rfl | exact .inl ⟨_, rfl⟩ | (split <;> first | exact .inr rfl | exact .inl ⟨_, rfl⟩)
def rLenA (K : PySem.W.Frag) : List V → Hp → VK → Prop := fun xs H Q => (∃ x n, xs = [x] ∧ LenV K x H n ∧ Q (.int n) H) ∨ ∃ a kvs, xs = [.ref a] ∧ H a = some (.dK kvs) ∧ Q (.int kvs.length) H
theorem call_lenA {X : Cx} : CallR X (.builtin "len") (rLenA X.K) := by
  intro pins s σ H xs us Q I r h
  rcases h with h | ⟨a, kvs, rfl, e, q⟩
  · exact call_len pins s σ H xs us Q I r h
  · obtain ⟨u, rfl, rx⟩ := vals1 r
    obtain rfl : u = Value.ref a := rx
    exact d_len I (.inl e) fun t s' I' => ⟨.int _, H, I', ⟨t, rfl⟩, q⟩
theorem uLen {K : PySem.W.Frag} : UOk1 K (rLenA K) opLen := by
  intro H0 Pz H T σ ρ Fs x z v F Q E r1 o1 e h
  obtain ⟨x, mx⟩ := x
  simp only at r1
  unfold opLen at e
  split at e
  · rename_i q; cases q; cases e
    cases r1 with | l s t => exact .inl ⟨_, _, rfl, .inl ⟨_, SqL.of s, rfl⟩, by rw [t.length]; exact fin1 h (.int _)⟩
  · rename_i q; cases q; cases e
    cases r1 with | f s t => exact .inl ⟨_, _, rfl, .inl ⟨_, s.sq, rfl⟩, by rw [t.length]; exact fin1 h (.int _)⟩
  · rename_i q; cases q; cases e
    cases r1 with | m s t => exact .inl ⟨_, _, rfl, .inl ⟨_, SqL.of s, rfl⟩, by rw [t.length]; exact fin1 h (.int _)⟩
  · rename_i q; cases q; cases e
    cases r1 with | t s t => exact .inl ⟨_, _, rfl, .inr ⟨_, SqT.of s, rfl⟩, by rw [t.length]; exact fin1 h (.int _)⟩
  · rename_i q; cases q; cases e
    cases r1 with | k s t => exact .inr ⟨_, _, rfl, s, by rw [t.length]; exact fin1 h (.int _)⟩
  · rename_i q; cases q; cases e
    cases r1 with | i r => cases r with | tup s t => exact .inl ⟨_, _, rfl, .inr ⟨_, SqT.of s, rfl⟩, by rw [t.length]; exact fin1 h (.int _)⟩
  · rename_i q; cases q
    split at e
    · rename_i hl; cases e
      cases r1 with | i r => cases r; exact .inl ⟨_, _, rfl, ⟨by rw [slEq]; exact hl, rfl⟩, fin1 h (.int _)⟩
    · cases e
  · cases e
def opAbs : DV × Md → R (DV × Md)
  | (.i (.int a), _) => ok1 (.int (if a < 0 then -a else a))
  | _ => .bad
theorem opAbs_nx : NoEx1 opAbs := noex1_of fun x => by
  unfold opAbs; split <;> first | exact .inr rfl | exact .inl ⟨_, rfl⟩
theorem uAbs {K : PySem.W.Frag} : UOk1 K (fun xs H Q => ∃ i, xs = [.int i] ∧ Q (.int (if i < 0 then -i else i)) H) opAbs := by
  intro H0 Pz H T σ ρ Fs x z v F Q E r1 o1 e h
  obtain ⟨x, mx⟩ := x
  simp only at r1
  unfold opAbs at e
  split at e
  · rename_i q; cases q; cases e
    cases r1 with | i r1 => cases r1; exact ⟨_, rfl, fin1 h (.int _)⟩
  · cases e
def opInt : DV × Md → R (DV × Md)
  | (.i (.int a), _) => ok1 (.int a)
  | (.i (.bl b), _) => ok1 (.int (if b then 1 else 0))
  | _ => .bad
theorem opInt_nx : NoEx1 opInt := noex1_of fun x => by
  unfold opInt; split <;> first | exact .inr rfl | exact .inl ⟨_, rfl⟩
theorem uInt {K : PySem.W.Frag} : UOk1 K (fun xs H Q => (∃ i, xs = [.int i] ∧ Q (.int i) H) ∨ ∃ k, xs = [.bl k] ∧ Q (.int (if k then 1 else 0)) H) opInt := by
  intro H0 Pz H T σ ρ Fs x z v F Q E r1 o1 e h
  obtain ⟨x, mx⟩ := x
  simp only at r1
  unfold opInt at e
  split at e
  · rename_i q; cases q; cases e
    cases r1 with | i r1 => cases r1; exact .inl ⟨_, rfl, fin1 h (.int _)⟩
  · rename_i q; cases q; cases e
    cases r1 with | i r1 => cases r1; exact .inr ⟨_, rfl, fin1 h (.int _)⟩
  · cases e
def opMin2 : DV × Md → DV × Md → R (DV × Md)
  | (.i (.int a), _), (.i (.int b), _) => ok1 (.int (if b < a then b else a))
  | _, _ => .bad
def opMax2 : DV × Md → DV × Md → R (DV × Md)
  | (.i (.int a), _), (.i (.int b), _) => ok1 (.int (if b > a then b else a))
  | _, _ => .bad
theorem opMin2_nx : NoEx opMin2 := noex_of fun x y => by
  unfold opMin2; split <;> first | exact .inr rfl | exact .inl ⟨_, rfl⟩
theorem opMax2_nx : NoEx opMax2 := noex_of fun x y => by
  unfold opMax2; split <;> first | exact .inr rfl | exact .inl ⟨_, rfl⟩
theorem bMin2 {K : PySem.W.Frag} : BOk2 K (fun xs H Q => ∃ i j, xs = [.int i, .int j] ∧ Q (.int (if j < i then j else i)) H) opMin2 := by
  intro H0 Pz H T σ ρ Fs x y z v u F G Q E r1 o1 r2 o2 e h
  obtain ⟨x, mx⟩ := x
  obtain ⟨y, my⟩ := y
  simp only at r1 r2
  unfold opMin2 at e
  split at e
  · rename_i q1 q2; cases q1; cases q2; cases e
    cases r1 with | i r1 => cases r1; cases r2 with | i r2 => cases r2; exact ⟨_, _, rfl, fin1 h (.int _)⟩
  · cases e
theorem bMax2 {K : PySem.W.Frag} : BOk2 K (fun xs H Q => ∃ i j, xs = [.int i, .int j] ∧ Q (.int (if j > i then j else i)) H) opMax2 := by
  intro H0 Pz H T σ ρ Fs x y z v u F G Q E r1 o1 r2 o2 e h
  obtain ⟨x, mx⟩ := x
  obtain ⟨y, my⟩ := y
  simp only at r1 r2
  unfold opMax2 at e
  split at e
  · rename_i q1 q2; cases q1; cases q2; cases e
    cases r1 with | i r1 => cases r1; cases r2 with | i r2 => cases r2; exact ⟨_, _, rfl, fin1 h (.int _)⟩
  · cases e
def opTuple : DV × Md → R (DV × Md)
  | (.l xs, _) => ok1 (.tup xs)
  | (.f xs, _) => ok1 (.tup xs)
  | (.i (.tup xs), _) => ok1 (.tup xs)
  | _ => .bad
theorem opTuple_nx : NoEx1 opTuple := noex1_of fun x => by
  unfold opTuple; split <;> first | exact .inr rfl | exact .inl ⟨_, rfl⟩
theorem uTuple {K : PySem.W.Frag} : UOk1 K (fun xs H Q => ∃ p ys, xs = [.ref p] ∧ ((SqL K H p ys ∧ ∀ l, H l = none → Q (.ref l) (upd H l (.tup ys))) ∨ (SqT K H p ys ∧ Q (.ref p) H))) opTuple := by
  intro H0 Pz H T σ ρ Fs x z v F Q E r1 o1 e h
  obtain ⟨x, mx⟩ := x
  simp only at r1
  unfold opTuple at e
  split at e
  · rename_i q; cases q; cases e
    cases r1 with | l s t => exact ⟨_, _, rfl, .inl ⟨SqL.of s, fun p hp => h _ _ _ (same_upd hp) (new_tup hp t) .nil⟩⟩
  · rename_i q; cases q; cases e
    cases r1 with | f s t => exact ⟨_, _, rfl, .inl ⟨s.sq, fun p hp => h _ _ _ (same_upd hp) (new_tup hp t) .nil⟩⟩
  · rename_i q; cases q; cases e
    cases r1 with | i r => cases r with | tup s t => exact ⟨_, _, rfl, .inr ⟨SqT.of s, fin1 h (.tup s t)⟩⟩
  · cases e
def opList : DV × Md → R (DV × Md)
  | (.l xs, _) => .ok (.l xs, .own)
  | (.f xs, _) => .ok (.l xs, .own)
  | (.i (.tup xs), _) => .ok (.l xs, .own)
  | _ => .bad
theorem opList_nx : NoEx1 opList := noex1_of fun x => by
  unfold opList; split <;> first | exact .inr rfl | exact .inl ⟨_, rfl⟩
theorem uList {K : PySem.W.Frag} : UOk1 K (fun xs H Q => ∃ p ys, xs = [.ref p] ∧ (SqL K H p ys ∨ SqT K H p ys) ∧ ∀ l, H l = none → Q (.ref l) (upd H l (.lst ys))) opList := by
  intro H0 Pz H T σ ρ Fs x z v F Q E r1 o1 e h
  obtain ⟨x, mx⟩ := x
  simp only at r1
  unfold opList at e
  split at e
  · rename_i q; cases q; cases e
    cases r1 with | l s t => exact ⟨_, _, rfl, .inl (SqL.of s), fun p hp => h _ _ _ (same_upd hp) (new_lst hp t) (new_ok E hp)⟩
  · rename_i q; cases q; cases e
    cases r1 with | f s t => exact ⟨_, _, rfl, .inl s.sq, fun p hp => h _ _ _ (same_upd hp) (new_lst hp t) (new_ok E hp)⟩
  · rename_i q; cases q; cases e
    cases r1 with | i r => cases r with | tup s t => exact ⟨_, _, rfl, .inr (SqT.of s), fun p hp => h _ _ _ (same_upd hp) (new_lst hp t) (new_ok E hp)⟩
  · cases e
/-! ### ints and bools in lists -/
def ints? : List IV → Option (List Int)
  | [] => some []
  | .int i :: r => (ints? r).map (i :: ·)
  | _ :: _ => none
def bls? : List IV → Option (List Bool)
  | [] => some []
  | .bl i :: r => (bls? r).map (i :: ·)
  | _ :: _ => none
theorem ints?_map (ns : List Int) : ints? (ns.map .int) = some ns := by
  induction ns with
  | nil => rfl
  | cons n ns ih => simp [ints?, ih]
theorem bls?_map (ns : List Bool) : bls? (ns.map .bl) = some ns := by
  induction ns with
  | nil => rfl
  | cons n ns ih => simp [bls?, ih]
theorem ints?_some : ∀ {xs : List IV} {ns : List Int}, ints? xs = some ns → xs = ns.map .int
  | [], ns, h => by cases h; rfl
  | .int i :: r, ns, h => by
    simp only [ints?, Option.map_eq_some_iff] at h
    obtain ⟨ms, h1, h2⟩ := h
    subst h2
    rw [ints?_some h1]
    rfl
  | .non :: _, _, h => by cases h
  | .bl _ :: _, _, h => by cases h
  | .str _ :: _, _, h => by cases h
  | .tup _ :: _, _, h => by cases h
theorem bls?_some : ∀ {xs : List IV} {ns : List Bool}, bls? xs = some ns → xs = ns.map .bl
  | [], ns, h => by cases h; rfl
  | .bl i :: r, ns, h => by
    simp only [bls?, Option.map_eq_some_iff] at h
    obtain ⟨ms, h1, h2⟩ := h
    subst h2
    rw [bls?_some h1]
    rfl
  | .non :: _, _, h => by cases h
  | .int _ :: _, _, h => by cases h
  | .str _ :: _, _, h => by cases h
  | .tup _ :: _, _, h => by cases h
theorem RpIs.ints {K : PySem.W.Frag} {H : Hp} : ∀ {ns : List Int} {vs : List V}, RpIs K H vs (ns.map .int) → vs = ns.map V.int
  | [], _, h => by cases h; rfl
  | n :: ns, _, h => by
    cases h with
    | cons a b => cases a; rw [RpIs.ints b]; rfl
theorem RpIs.bls {K : PySem.W.Frag} {H : Hp} : ∀ {ns : List Bool} {vs : List V}, RpIs K H vs (ns.map .bl) → vs = ns.map V.bl
  | [], _, h => by cases h; rfl
  | n :: ns, _, h => by
    cases h with
    | cons a b => cases a; rw [RpIs.bls b]; rfl
theorem rp_ints {K : PySem.W.Frag} {H : Hp} : ∀ (ns : List Int), RpIs K H (ns.map V.int) (ns.map .int)
  | [] => .nil
  | n :: ns => .cons (.int n) (rp_ints ns)
/-- the items of a list -/
def items? : DV → Option (List IV)
  | .l xs => some xs
  | .f xs => some xs
  | _ => none
theorem items?_rp {K : PySem.W.Frag} {H : Hp} {v : V} {d : DV} {F : List Addr} {xs : List IV} (r : RpD K H v d F) (h : items? d = some xs) : ∃ a vs, v = .ref a ∧ SqL K H a vs ∧ RpIs K H vs xs := by
  cases r with
  | i r => cases h
  | l s t => cases h; exact ⟨_, _, rfl, SqL.of s, t⟩
  | f s t => cases h; exact ⟨_, _, rfl, s.sq, t⟩
  | m s t => cases h
  | t s t => cases h
  | k s t => cases h
  | h s t => cases h
def opOver {α : Type} (get : List IV → Option (List α)) (k : List α → R (DV × Md)) : DV × Md → R (DV × Md) := fun x => match items? x.1 with
  | some xs => (match get xs with
    | some ns => k ns
    | none => .bad)
  | none => .bad
theorem opOver_nx {α : Type} {get : List IV → Option (List α)} {k : List α → R (DV × Md)} (h : ∀ ns, (∃ z, k ns = .ok z) ∨ k ns = .bad) : NoEx1 (opOver get k) := noex1_of fun x => by
  unfold opOver
  split
  · split
    · exact h _
    · exact .inr rfl
  · exact .inr rfl
theorem opOver_ok {α : Type} {get : List IV → Option (List α)} {k : List α → R (DV × Md)} {x z : DV × Md} (h : opOver get k x = .ok z) : ∃ xs ns, items? x.1 = some xs ∧ get xs = some ns ∧ k ns = .ok z := by
  unfold opOver at h
  split at h
  · rename_i xs e1
    split at h
    · rename_i ns e2
      exact ⟨xs, ns, e1, e2, h⟩
    · cases h
  · cases h
def opSum := opOver ints? fun ns => ok1 (.int ns.sum)
def opAll := opOver bls? fun ns => ok1 (.bl (ns.all id))
def opAny := opOver bls? fun ns => ok1 (.bl (ns.any id))
theorem opSum_nx : NoEx1 opSum := opOver_nx fun _ => .inl ⟨_, rfl⟩
theorem opAll_nx : NoEx1 opAll := opOver_nx fun _ => .inl ⟨_, rfl⟩
theorem opAny_nx : NoEx1 opAny := opOver_nx fun _ => .inl ⟨_, rfl⟩
theorem uSum {K : PySem.W.Frag} : UOk1 K (rSum K) opSum := by
  intro H0 Pz H T σ ρ Fs x z v F Q E r1 o1 e h
  obtain ⟨xs, ns, e1, e2, e3⟩ := opOver_ok e
  cases e3
  obtain ⟨a, vs, rfl, s, t⟩ := items?_rp r1 e1
  rw [ints?_some e2] at t
  rw [t.ints] at s
  exact ⟨_, _, rfl, s, fin1 h (.int _)⟩
theorem uAll {K : PySem.W.Frag} : UOk1 K (rAll K) opAll := by
  intro H0 Pz H T σ ρ Fs x z v F Q E r1 o1 e h
  obtain ⟨xs, ns, e1, e2, e3⟩ := opOver_ok e
  cases e3
  obtain ⟨a, vs, rfl, s, t⟩ := items?_rp r1 e1
  rw [bls?_some e2] at t
  rw [t.bls] at s
  exact ⟨_, _, rfl, s, fin1 h (.bl _)⟩
theorem uAny {K : PySem.W.Frag} : UOk1 K (rAny K) opAny := by
  intro H0 Pz H T σ ρ Fs x z v F Q E r1 o1 e h
  obtain ⟨xs, ns, e1, e2, e3⟩ := opOver_ok e
  cases e3
  obtain ⟨a, vs, rfl, s, t⟩ := items?_rp r1 e1
  rw [bls?_some e2] at t
  rw [t.bls] at s
  exact ⟨_, _, rfl, s, fin1 h (.bl _)⟩

/-! ### isinstance -/
def tyN : DV → String
  | .i .non => "NoneType"
  | .i (.bl _) => "bool"
  | .i (.int _) => "int"
  | .i (.str _) => "str"
  | .i (.tup _) => "tuple"
  | .t _ => "tuple"
  | .k _ => "dict"
  | .h _ => "dict"
  | _ => "list"
def isTy (t u : String) : Bool := t == u || (t == "bool" && u == "int")
def opIsi (u : String) : DV × Md → R (DV × Md) := fun x => ok1 (.bl (isTy (tyN x.1) u))
theorem opIsi_nx {u : String} : NoEx1 (opIsi u) := noex1_of fun x => .inl ⟨_, rfl⟩
theorem RpD.tyx {K : PySem.W.Frag} {H : Hp} {v : V} {d : DV} {F : List Addr} (r : RpD K H v d F) : TyX K H v (.type (tyN d)) := by
  cases r with
  | i r =>
    cases r with
    | non => exact .base .non
    | bl b => exact .base (.bl b)
    | int i => exact .base (.int i)
    | str x => exact .base (.str x)
    | tup s t => exact .base (.tup s)
  | l s t => exact .base (.lst s)
  | f s t =>
    rcases s with ⟨o, s⟩ | ⟨o, its, n, h1, h2, _⟩
    · exact .base (.frz s)
    · exact .kList h1 h2
  | m s t => exact .base (.lst s)
  | t s t => exact .base (.tup s)
  | k s t => exact .base (.dK s)
  | h s t => exact .base (.dT s)
def KitOk (u : String) : Prop := ∀ d : DV, kitB (tyN d) u = some (isTy (tyN d) u)
theorem kitOk {u : String} (h1 : kitB "NoneType" u = some (isTy "NoneType" u) := by decide +kernel) (h2 : kitB "bool" u = some (isTy "bool" u) := by decide +kernel) (h3 : kitB "int" u = some (isTy "int" u) := by decide +kernel)
    (h4 : kitB "str" u = some (isTy "str" u) := by decide +kernel) (h5 : kitB "tuple" u = some (isTy "tuple" u) := by decide +kernel) (h6 : kitB "list" u = some (isTy "list" u) := by decide +kernel) (h7 : kitB "dict" u = some (isTy "dict" u) := by decide +kernel) : KitOk u := fun d => by
  cases d with
  | i x => cases x <;> assumption
  | _ => assumption
theorem kit_int : KitOk "int" := kitOk
theorem kit_bool : KitOk "bool" := kitOk
theorem kit_str : KitOk "str" := kitOk
theorem kit_tuple : KitOk "tuple" := kitOk
theorem kit_list : KitOk "list" := kitOk
theorem kit_dict : KitOk "dict" := kitOk
section
variable {X : Cx} {a : Expr} {f : FE} {x y : Str} {p q pos : Pos} {u : String}
theorem ev_isi (hk : KitOk u) (hg : Gl X x) (hm : X.mg x = none) (hv : bootBuiltins x = some (.builtin "isinstance")) (hg2 : Gl X y) (hm2 : X.mg y = none) (hv2 : bootBuiltins y = some (.type u)) (ha : PEv X a f)
    (hnn : x ≠ "__name__" := by decide) (hdb : (x == ("__debug__" : Str)) = false := by decide) (hnn2 : y ≠ "__name__" := by decide) (hdb2 : (y == ("__debug__" : Str)) = false := by decide)
    (he : starEach (a :: [.Name y q]) X.env = (false, eval a X.env) :: starEach [.Name y q] X.env := by rfl) (he2 : starEach ((.Name y q) :: []) X.env = (false, eval (.Name y q) X.env) :: starEach [] X.env := by rfl) (hpl : (backTo pos (starEach [.Name y q] X.env)).any (·.1) = false := by rfl) :
    PEv X (.Call (.Name x p) [a, .Name y q] [] pos) (eUn (opIsi u) f) := fun W tk =>
  PE.imp (pe_callB call_isi hg hm hv (pa_cons (ha W tk) (pa_cons (pe_bltn (v := .ty u) hg2 hm2 hv2 rfl hnn2 hdb2) pa_nil he2) he) hnn hdb he hpl) fun σ H Q h => by
    refine un_imp (r := fun v H Q => ∃ (x c : V) (t u : Value) (b : Bool), [v, V.ty _] = [x, c] ∧ ClsV c u ∧ TyX X.K H x t ∧ PySem.W.kitOne X.K t u = some b ∧ Q (.bl b) H) (fun H0 Pz H T σ ρ Fs x z v F Q E r1 o1 e h => ?_) opIsi_nx σ H Q h
    cases e
    exact ⟨_, _, _, _, _, rfl, .ty u, r1.tyx, kit_ty (hk x.1), fin1 h (.bl _)⟩
end

/-! ### subscripts -/
def opIx : DV × Md → DV × Md → R (DV × Md)
  | (.l xs, _), (.i (.int k), _) => (match atI xs k with
    | some x => ok1 x
    | none => .bad)
  | (.f xs, _), (.i (.int k), _) => (match atI xs k with
    | some x => ok1 x
    | none => .bad)
  | (.i (.tup xs), _), (.i (.int k), _) => (match atI xs k with
    | some x => ok1 x
    | none => .bad)
  | (.i (.str z), _), (.i (.int k), _) => if z.length ≤ 16777216 then (match atI z.cps.toList k with
    | some c => ok1 (.str ⟨#[c]⟩)
    | none => .bad) else .bad
  | (.m xs, m), (.i (.int k), _) => (match atI xs k with
    | some (.i x) => ok1 x
    | some x => .ok (x, if m = .bor then .bor else .loc)
    | none => .bad)
  | (.t xs, m), (.i (.int k), _) => (match atI xs k with
    | some (.i x) => ok1 x
    | some x => if m = .bor ∨ m = .loc then .ok (x, m) else .bad
    | none => .bad)
  | (.k kvs, _), (.i x, _) => (match keyI x with
    | some k => (match kGet kvs k with
      | some y => ok1 y
      | none => .bad)
    | none => .bad)
  | (.h kvs, _), (.i x, _) => (match keyT x with
    | some k => (match kGet kvs k with
      | some y => ok1 y
      | none => .bad)
    | none => .bad)
  | _, _ => .bad
theorem opIx_nx : NoEx opIx := noex_of fun x y => by
  unfold opIx; split <;> first | exact .inr rfl | (split <;> first | exact .inr rfl | exact .inl ⟨_, rfl⟩ | (split <;> first | exact .inr rfl | exact .inl ⟨_, rfl⟩))
/-- d[k] -/
def rIxK : R2 := fun x y H Q => ∃ a v, x = .ref a ∧ DGet H a y (some v) ∧ Q v H
abbrev rIxA (K : PySem.W.Frag) : R2 := fun x y H Q => rIx K x y H Q ∨ rIxK x y H Q
theorem ix_dict {X : Cx} (hu : X.A.units + 1 < cLine) : IxR X rIxK := by
  intro value slice pins s σ H x y v u Q I rx ry h hs
  obtain ⟨a, z, rfl, g, q⟩ := h
  obtain rfl : v = Value.ref a := rx
  have hT := dict_typeIs I g
  unfold subscriptTail
  refine wpAny_bind ?_
  rw [getitemInPython_of_ne hT.not_modules]
  refine wpAny_bind (wpAny_specialOf hT PySem.F.slot_dict_getitem.lookup ?_)
  have fin : wpAny (model X.prog X.w) X.A (subscripted slice false (.ref a) u) (fun r s₃ => wpAny (model X.prog X.w) X.A (letTemporaryGo value (.ref a) r >>= fun _ => pure r) (EP X pins σ Q) X.xe s₃) X.xe s := by
    rw [hs]
    exact wpAny_operating (wpAny_mono (d_getItem hu I g ry fun w' s3 I3 rw' => (⟨z, H, I3, rw', q⟩ : EP X pins σ Q w' s3)) (fun r s₃ h₃ => wpAny_bind (wpAny_letTemporaryGo (wpAny_pure h₃))) fun _ _ x => x)
  first
    | exact wpAny_pure (wpAny_bind fin)
    | exact wpAny_bind (wpAny_pure (wpAny_bind fin))
    | exact wpAny_bind fin
theorem atI_iff {α : Type} {xs : List α} {k : Int} {x : α} (h : atI xs k = some x) : ∃ j, ixN xs.length k = some j ∧ xs[j]? = some x := by
  unfold atI at h
  cases q : ixN xs.length k with
  | none => rw [q] at h; cases h
  | some j => rw [q] at h; exact ⟨j, rfl, h⟩
theorem atI_of {α : Type} {xs : List α} {k : Int} {x : α} {j : Nat} (h : ixN xs.length k = some j) (h2 : xs[j]? = some x) : atI xs k = some x := by
  unfold atI
  rw [h]
  exact h2
theorem RpIs.atI {K : PySem.W.Frag} {H : Hp} {vs : List V} {xs : List IV} (r : RpIs K H vs xs) {k : Int} {x : IV} (h : atI xs k = some x) : ∃ v, L2.atI vs k = some v ∧ RpI K H v x := by
  obtain ⟨j, h1, h2⟩ := atI_iff h
  obtain ⟨v, h3, h4⟩ := r.get h2
  exact ⟨v, atI_of (by rw [r.length]; exact h1) h3, h4⟩
theorem bIx {K : PySem.W.Frag} : BOk K (rIxA K) opIx := by
  intro H0 Pz H T σ ρ Fs x y z v u F G Q E r1 o1 r2 o2 e h
  obtain ⟨x, mx⟩ := x
  obtain ⟨y, my⟩ := y
  simp only at r1 r2 o1
  unfold opIx at e
  split at e
  · rename_i q1 q2; cases q1; cases q2
    split at e
    · rename_i hk; cases e
      cases r1 with
      | l s t =>
        cases r2 with
        | i r2 =>
          cases r2
          obtain ⟨w, h1, h2⟩ := t.atI hk
          exact .inl (.inl ⟨_, _, _, w, rfl, rfl, SqL.of s, h1, fin1 h h2⟩)
    · cases e
  · rename_i q1 q2; cases q1; cases q2
    split at e
    · rename_i hk; cases e
      cases r1 with
      | f s t =>
        cases r2 with
        | i r2 =>
          cases r2
          obtain ⟨w, h1, h2⟩ := t.atI hk
          exact .inl (.inl ⟨_, _, _, w, rfl, rfl, s.sq, h1, fin1 h h2⟩)
    · cases e
  · rename_i q1 q2; cases q1; cases q2
    split at e
    · rename_i hk; cases e
      cases r1 with
      | i r =>
        cases r with
        | tup s t =>
          cases r2 with
          | i r2 =>
            cases r2
            obtain ⟨w, h1, h2⟩ := t.atI hk
            exact .inl (.inr (.inl ⟨_, _, _, w, rfl, rfl, SqT.of s, h1, fin1 h h2⟩))
    · cases e
  · rename_i q1 q2; cases q1; cases q2
    split at e
    · rename_i hl
      split at e
      · rename_i hk; cases e
        cases r1 with
        | i r =>
          cases r
          cases r2 with
          | i r2 =>
            cases r2
            exact .inl (.inr (.inr ⟨_, _, _, rfl, rfl, by rw [slEq]; exact hl, hk, fin1 h (.str _)⟩))
      · cases e
    · cases e
  · rename_i q1 q2; cases q1; cases q2
    cases r1 with
    | @m a vs _ F1 s t =>
      cases r2 with
      | i r2 =>
        cases r2
        split at e
        · rename_i x hk
          cases e
          obtain ⟨j, h1, h2⟩ := atI_iff hk
          obtain ⟨w, G, h3, h4, h5⟩ := t.get h2
          cases h4 with
          | i h4 => exact .inl (.inl ⟨_, _, _, w, rfl, rfl, SqL.of s, atI_of (by rw [t.length]; exact h1) h3, fin1 h h4⟩)
        · rename_i d hni hk
          cases e
          obtain ⟨j, h1, h2⟩ := atI_iff hk
          obtain ⟨w, G, h3, h4, h5⟩ := t.get h2
          have sub : ∀ c ∈ G, c ∈ a :: F1 := fun c hc => List.mem_cons_of_mem _ (h5 c hc)
          refine .inl (.inl ⟨_, _, _, w, rfl, rfl, SqL.of s, atI_of (by rw [t.length]; exact h1) h3, h w H G (fun _ _ z => z) h4 ?_⟩)
          by_cases hb : mx = .bor
          · subst hb
            have n := o1.notops (by intro z; cases z)
            rw [if_pos rfl]
            exact ⟨fun z => (by rcases z with z | z <;> cases z), fun z => (nomatch z), fun _ => ⟨fun k d hk a' G' e ha => n.1 k d hk a' G' e (sub _ ha), fun a' ta ha => n.2 a' ta (sub _ ha)⟩, fun z => (nomatch z)⟩
          · rw [if_neg hb]
            by_cases ht : mx = .tmp
            · rcases o1.tmp ht with z | ⟨k0, d0, hk0, eF⟩
              · cases z
              · have top := E.top k0 d0 hk0 a F1 eF.symm
                have fr := E.fresh k0 d0 .own hk0 (by intro z; cases z)
                refine ⟨fun _ c hc => fr c (by rw [← eF]; exact sub c hc), fun z => (nomatch z), fun _ => ⟨fun k d hk a' G' e ha => ?_, fun a' ta ha => E.tt a' ta k0 (by rw [← eF]; exact sub _ ha)⟩, fun z => (nomatch z)⟩
                by_cases hkk : k = k0
                · subst hkk
                  rw [← eF] at e
                  cases e
                  exact top.2.1 (h5 _ ha)
                · have := (E.top k d hk a' G' e).2.2 k0 (fun z => hkk z.symm)
                  exact this (by rw [← eF]; exact sub _ ha)
            · have n := o1.notops ht
              have ho : mx = .own ∨ mx = .loc := by cases mx <;> first | exact .inl rfl | exact .inr rfl | exact absurd rfl hb | exact absurd rfl ht
              exact ⟨fun _ c hc => o1.fresh ho c (sub c hc), fun z => (nomatch z), fun _ => ⟨fun k d hk a' G' e ha => n.1 k d hk a' G' e (sub _ ha), fun a' ta ha => n.2 a' ta (sub _ ha)⟩, fun z => (nomatch z)⟩
        · cases e
  · rename_i q1 q2; cases q1; cases q2
    cases r1 with
    | @t a vs _ F1 s t =>
      cases r2 with
      | i r2 =>
        cases r2
        split at e
        · rename_i x hk
          cases e
          obtain ⟨j, h1, h2⟩ := atI_iff hk
          obtain ⟨w, G, h3, h4, h5⟩ := t.get h2
          cases h4 with
          | i h4 => exact .inl (.inr (.inl ⟨_, _, _, w, rfl, rfl, SqT.of s, atI_of (by rw [t.length]; exact h1) h3, fin1 h h4⟩))
        · rename_i d hni hk
          split at e
          · rename_i hm
            cases e
            obtain ⟨j, h1, h2⟩ := atI_iff hk
            obtain ⟨w, G, h3, h4, h5⟩ := t.get h2
            refine .inl (.inr (.inl ⟨_, _, _, w, rfl, rfl, SqT.of s, atI_of (by rw [t.length]; exact h1) h3, h w H G (fun _ _ z => z) h4 ?_⟩))
            have nt : mx ≠ .tmp := by intro z; subst z; rcases hm with z | z <;> cases z
            have no : mx ≠ .own := by intro z; subst z; rcases hm with z | z <;> cases z
            have n := o1.notops nt
            exact ⟨fun z c hc => o1.fresh z c (h5 c hc), fun z => absurd z no, fun _ => ⟨fun k d hk a' G' e ha => n.1 k d hk a' G' e (h5 _ ha), fun a' ta ha => n.2 a' ta (h5 _ ha)⟩, fun z => absurd z nt⟩
          · cases e
        · cases e
  · rename_i q1 q2; cases q1; cases q2
    split at e
    · rename_i k hk
      split at e
      · rename_i y hy
        cases e
        cases r1 with
        | k s t =>
          cases r2 with
          | i r2 =>
            rcases t.get k with ⟨_, h2⟩ | ⟨w, z, h1, h2, h3⟩
            · rw [hy] at h2; cases h2
            · rw [hy] at h2; cases h2
              exact .inr ⟨_, w, rfl, by rw [r2.key hk, ← h1]; exact DGet.k s, fin1 h h3⟩
      · cases e
    · cases e
  · rename_i q1 q2; cases q1; cases q2
    split at e
    · rename_i k hk
      split at e
      · rename_i y hy
        cases e
        cases r1 with
        | h s t =>
          cases r2 with
          | i r2 =>
            rcases t.get k with ⟨_, h2⟩ | ⟨w, z, h1, h2, h3⟩
            · rw [hy] at h2; cases h2
            · rw [hy] at h2; cases h2
              obtain ⟨b, rfl, hb⟩ := r2.keyT hk
              exact .inr ⟨_, w, rfl, by rw [← h1]; exact DGet.t s hb, fin1 h h3⟩
      · cases e
    · cases e
  · cases e
theorem ev_ix {X : Cx} {a b : Expr} {f g : FE} {pos : Pos} {k : Nat} (hr : Room k X.A) (ha : PEv X a f) (hb : PEv X b g) (hs : PlainIx b) : PEv X (.Subscript a b pos) (eBin opIx f g) := fun W tk =>
  PE.imp (pe_ix (ix_seq.or (ix_dict (by have := hr.un; omega))) (ha W tk) (hb W tk) hs) fun σ H Q h => bin_imp bIx opIx_nx σ H Q h
end L2.Pv

namespace HT
open PySem PySem.Spec PyProof.Rows L2
section
variable {prog : Program} {w : World} {A : Around} {E : Value → Shared → Prop} {s : Shared}
theorem adjust_rev (n : Nat) : Builtin.Slice.sliceAdjust none none (-1) (n : Int) = ((n : Int) - 1, -1) := by
  unfold Builtin.Slice.sliceAdjust
  simp
theorem places_rev (n : Nat) : Builtin.Slice.slicePlaces ((n : Int) - 1) (-1) (-1) = n := by
  unfold Builtin.Slice.slicePlaces
  have h1 : ¬ ((-1 : Int) > 0) := by decide
  simp only [h1, if_false]
  rw [show (- -1 : Int) = 1 by decide, Int.ediv_one]
  split <;> omega
theorem sliceApplied_rev {sl : Addr} {vl vu vs : Value} {n : Nat} {Q : Int × Int × Nat → Shared → Prop} (hs : s.heap.IsSliceOf sl vl vu vs) (pl : IsPart vl none) (pu : IsPart vu none) (ps : IsPart vs (some (-1)))
    (h : Q ((n : Int) - 1, -1, n) s) : wpAny (model prog w) A (Builtin.Slice.sliceApplied (.ref sl) (pure (n : Int))) Q E s := by
  obtain ⟨os, hos, hcs, hds⟩ := id hs
  unfold Builtin.Slice.sliceApplied Builtin.Slice.sliceFields
  refine wpAny_bind (wpAny_bind (wpAny_field hos hds (x := vl) rfl (wpAny_bind (wpAny_field hos hds (x := vu) rfl (wpAny_bind (wpAny_field hos hds (x := vs) rfl (wpAny_pure ?_)))))))
  refine wpAny_bind (slicePart_ ps ?_)
  show wpAny _ _ (if ((-1 : Int) == 0) = true then _ else _) _ _ s
  rw [if_neg (by decide)]
  refine wpAny_bind (slicePart_ pl (wpAny_bind (slicePart_ pu (wpAny_bind (wpAny_pure ?_)))))
  show wpAny _ _ (match Builtin.Slice.sliceAdjust none none (-1) (n : Int) with | (lo, hi) => pure (lo, (-1 : Int), Builtin.Slice.slicePlaces lo hi (-1))) _ _ s
  rw [adjust_rev n]
  show wpAny _ _ (pure ((n : Int) - 1, (-1 : Int), Builtin.Slice.slicePlaces ((n : Int) - 1) (-1) (-1))) _ _ s
  rw [places_rev]
  exact wpAny_pure h
theorem pick_rev (xs : Array Value) : ((List.range xs.size).filterMap fun (m : Nat) => xs[(((xs.size : Nat) : Int) - 1 + (m : Int) * (-1)).toNat]?).toArray = xs.toList.reverse.toArray := by
  rw [← PySem.W.krv_pick]
  unfold slicePick
  rw [PySem.W.krv_bounds, PySem.W.krv_sliceRange, List.filterMap_map]
  congr 1
  have hm : ∀ l : List Nat, (∀ m ∈ l, m < xs.size) → List.filterMap (fun (m : Nat) => xs[(((xs.size : Nat) : Int) - 1 + (m : Int) * (-1)).toNat]?) l = List.filterMap ((fun x => xs[x]?) ∘ fun k => xs.size - 1 - k) l := by
    intro l
    induction l with
    | nil => intro _; rfl
    | cons m l ih =>
      intro hl
      have h0 := hl m List.mem_cons_self
      have e : (((xs.size : Nat) : Int) - 1 + (m : Int) * (-1)).toNat = xs.size - 1 - m := by omega
      rw [List.filterMap_cons, List.filterMap_cons, ih fun k hk => hl k (List.mem_cons_of_mem _ hk), e]
      rfl
  exact hm _ fun m hm => List.mem_range.mp hm
theorem getItem_tuple_rev {t sl : Addr} {items : Array Value} {vl vu vs : Value} {Q : Value → Shared → Prop} (ht : IsTup s.heap t items) (hs : s.heap.IsSliceOf sl vl vu vs) (pl : IsPart vl none) (pu : IsPart vu none) (ps : IsPart vs (some (-1)))
    (h : Q (.ref s.heap.objs.size) { s with heap := s.heap.push { cls := .type "tuple", data := .seq items.toList.reverse.toArray } })
    (hsz : items.size ≤ sizeLine) : wpAny (model prog w) A (getItem (.ref t) (.ref sl)) Q E s := by
  have htake : sizeOk (.seq items.toList.reverse.toArray) := by
    show items.toList.reverse.toArray.size ≤ sizeLine
    rw [List.size_toArray, List.length_reverse, Array.length_toList]
    exact hsz
  obtain ⟨os, hos, hcs, hds⟩ := id hs
  have hTs : s.TypeIs (.ref sl) "slice" := ⟨os, hos, hcs⟩
  unfold getItem
  try with_reducible refine wpAny_holding ?_
  first | refine wpAny_bind (wpAny_pure ?_) | skip
  refine wpAny_bind (wpAny_sequenceKey ht.typeIs (by decide) ?_)
  refine wpAny_bind (wpAny_callSpecial?_slot (name := Str.ofString "__getitem__") ht.typeIs PyProof.Rows.slot_tuple_getitem
    (wpAny_call_entry PyProof.Rows.slot_tuple_getitem ht.typeIs entry_tuple_getitem ?_ (args_tuple_getitem _ _)))
  show wpAny _ _ (Builtin.Tuple.tupleItemsOf (.ref t) >>= _) _ _ s
  refine wpAny_bind (tupleItemsOf_ ht ?_)
  refine wpAny_bind (wpAny_typeOf hTs ?_)
  rw [if_pos (by decide)]
  refine wpAny_bind (sliceApplied_rev (n := items.size) hs pl pu ps ?_)
  have hno : ¬ (((((items.size : Nat) : Int) - 1 == 0) && (-1 : Int) == 1 && items.size == items.size) = true) := by
    intro q
    rw [Bool.and_eq_true, Bool.and_eq_true] at q
    exact absurd (eq_of_beq q.1.2) (by decide)
  show wpAny _ _ (if ((((items.size : Nat) : Int) - 1 == 0) && (-1 : Int) == 1 && items.size == items.size) = true then _ else _) _ _ s
  rw [if_neg hno, pick_rev]
  first
    | exact wpAny_bind (m := Builtin.Tuple.tupleExact _) (wpAny_newObj_type (wpAny_pure ⟨_, rfl, wpAny_pure h⟩) htake)
    | exact wpAny_bind (m := Builtin.Tuple.tupleExact _) (wpAny_newObj_type (wpAny_bind (wpAny_pure (wpAny_pure ⟨_, rfl, wpAny_pure h⟩))) htake)
    | exact wpAny_bind (wpAny_bind (m := Builtin.Tuple.tupleExact _) (wpAny_newObj_type (wpAny_pure (wpAny_pure ⟨_, rfl, wpAny_pure h⟩)) htake))
    | exact wpAny_bind (wpAny_bind (m := Builtin.Tuple.tupleExact _) (wpAny_newObj_type (wpAny_pure ⟨_, rfl, wpAny_pure h⟩) htake))
end
end HT
namespace L2.Pv
open PySem PySem.Spec PyProof.Rows

/-! ## x[::-1] of lists and tuples -/
def tRevA (K : PySem.W.Frag) (te : TE) : TE := fun σ H Q => te σ H fun x H1 => ∃ a xs, x = .ref a ∧ ((SqL K H1 a xs ∧ ∀ p, H1 p = none → Q (.ref p) (upd H1 p (.lst xs.reverse))) ∨ (SqT K H1 a xs ∧ ∀ p, H1 p = none → Q (.ref p) (upd H1 p (.tup xs.reverse))))
theorem pe_revA {X : Cx} {e : Expr} {te : TE} {k : Nat} {p1 p2 p3 pos : Pos} (he : PE X e te) : PE X (.Subscript e (.Slice none none (some (.UnaryOp .USub (.Constant (.int 1) k p1) p2)) p3) pos) (tRevA X.K te) := by
  refine ⟨fun pins s σ H Q I h => ?_⟩
  refine Subscript_ (thn (he.run pins s σ H _ I h) fun v s1 ⟨x, H1, I1, r1, q1⟩ => ?_)
  obtain ⟨a, xs, ex, hx⟩ := q1
  subst ex
  cases r1
  have hst : PO X (some (.UnaryOp .USub (.Constant (.int 1) k p1) p2)) (tPart (tUn (rU fun i => .int (-i)) (tC (.int 1)))) := po_some (pe_un un_neg pe_int)
  refine wpAny_Slice (thn (po_none.run pins s1 σ H1 (fun o H2 => o = none ∧ H2 = H1) I1 ⟨rfl, rfl⟩) fun vl s2 ⟨l, H2, I2, pl, el, e2⟩ => ?_)
  subst el e2
  refine thn (po_none.run pins s2 σ H2 (fun o H3 => o = none ∧ H3 = H2) I2 ⟨rfl, rfl⟩) fun vu s3 ⟨u, H3, I3, pu, eu, e3⟩ => ?_
  subst eu e3
  refine thn (hst.run pins s3 σ H3 (fun o H4 => o = some (-1) ∧ H4 = H3) I3 ⟨1, rfl, -1, rfl, rfl, rfl⟩) fun vs s4 ⟨o, H4, I4, ps, eo, e4⟩ => ?_
  subst eo e4
  have I5 : Inv X pins σ H4 { s4 with heap := s4.heap.push { cls := .type "slice", data := .fields #[vl, vu, vs] } } := I4.kept (t' := s4.toks) fun b ob q => Heap.get?_push_of_some _ q
  rcases hx with ⟨hx, q⟩ | ⟨hx, q⟩
  · obtain ⟨its, r, ht, hz⟩ := I5.list hx
    have hlen := r.length
    show wpAny (model X.prog X.w) X.A (subscriptTail e (.Slice none none (some (.UnaryOp .USub (.Constant (.int 1) k p1) p2)) p3) (.ref a) (.ref s4.heap.objs.size)) (EP X pins σ Q) X.xe { s4 with heap := s4.heap.push { cls := .type "slice", data := .fields #[vl, vu, vs] } }
    refine tail_any (ops := [.ref a, .ref s4.heap.objs.size]) ht.isList.typeIs (PySem.slot_list_getitem.lookup) ?_ (by with_unfolding_all rfl)
    refine wpAny_getItem_list_slice ht.isList (Heap.IsSliceOf.new _ vl vu vs) pl pu ps (by decide) ?_ (by rw [List.size_toArray]; omega)
    rw [PySem.W.krv_pick]
    refine ⟨.ref _, _, I5.laid (t' := s4.toks) (o := .lst xs.reverse) (fun b ob q => Heap.get?_push_of_some _ q) (Nat.le_refl _) ?_, rfl, q _ (I5.hok.fresh (Nat.le_refl _))⟩
    exact ⟨by rw [List.length_reverse]; exact hz, _, 0, r.reverse, Heap.get?_push_size _ rfl⟩
  · obtain ⟨its, r, ht, hz⟩ := I5.tuple hx
    have hlen := r.length
    show wpAny (model X.prog X.w) X.A (subscriptTail e (.Slice none none (some (.UnaryOp .USub (.Constant (.int 1) k p1) p2)) p3) (.ref a) (.ref s4.heap.objs.size)) (EP X pins σ Q) X.xe { s4 with heap := s4.heap.push { cls := .type "slice", data := .fields #[vl, vu, vs] } }
    refine tail_any (ops := [.ref a, .ref s4.heap.objs.size]) ht.typeIs (PyProof.Rows.slot_tuple_getitem.lookup) ?_ (by with_unfolding_all rfl)
    refine HT.getItem_tuple_rev ht (Heap.IsSliceOf.new _ vl vu vs) pl pu ps ?_ (by rw [List.size_toArray]; omega)
    refine ⟨.ref _, _, I5.laid (t' := s4.toks) (o := .tup xs.reverse) (fun b ob q => Heap.get?_push_of_some _ q) (Nat.le_refl _) ?_, rfl, q _ (I5.hok.fresh (Nat.le_refl _))⟩
    exact ⟨by rw [List.length_reverse]; exact hz, _, r.reverse, ⟨_, Heap.get?_push_size _ rfl, rfl, _, rfl⟩⟩
def opRev : DV × Md → R (DV × Md)
  | (.l xs, _) => .ok (.l xs.reverse, .own)
  | (.f xs, _) => .ok (.l xs.reverse, .own)
  | (.i (.tup xs), _) => ok1 (.tup xs.reverse)
  | _ => .bad
theorem opRev_nx : NoEx1 opRev := noex1_of fun x => by
  unfold opRev; split <;> first | exact .inr rfl | exact .inl ⟨_, rfl⟩
theorem ev_rev {X : Cx} {e : Expr} {f : FE} {k : Nat} {p1 p2 p3 pos : Pos} (he : PEv X e f) : PEv X (.Subscript e (.Slice none none (some (.UnaryOp .USub (.Constant (.int 1) k p1) p2)) p3) pos) (eUn opRev f) := fun W tk =>
  PE.imp (pe_revA (he W tk)) fun σ H Q h => by
    refine un_imp (r := fun x H1 Q => ∃ a xs, x = .ref a ∧ ((SqL X.K H1 a xs ∧ ∀ p, H1 p = none → Q (.ref p) (upd H1 p (.lst xs.reverse))) ∨ (SqT X.K H1 a xs ∧ ∀ p, H1 p = none → Q (.ref p) (upd H1 p (.tup xs.reverse))))) (fun H0 Pz H T σ ρ Fs x z v F Q E r1 o1 e h => ?_) opRev_nx σ H Q h
    obtain ⟨x, mx⟩ := x
    simp only at r1
    unfold opRev at e
    split at e
    · rename_i q; cases q; cases e
      cases r1 with | l s t => exact ⟨_, _, rfl, .inl ⟨SqL.of s, fun p hp => h _ _ _ (same_upd hp) (new_lst hp t.reverse) (new_ok E hp)⟩⟩
    · rename_i q; cases q; cases e
      cases r1 with | f s t => exact ⟨_, _, rfl, .inl ⟨s.sq, fun p hp => h _ _ _ (same_upd hp) (new_lst hp t.reverse) (new_ok E hp)⟩⟩
    · rename_i q; cases q; cases e
      cases r1 with | i r => cases r with | tup s t => exact ⟨_, _, rfl, .inr ⟨SqT.of s, fun p hp => h _ _ _ (same_upd hp) (new_tup hp t.reverse) .nil⟩⟩
    · cases e

/-! ## slices -/
abbrev FO := Env → R (Option Int)
def tov (K : PySem.W.Frag) (mg : MG) (W : WX) (f : FO) : TO := fun σ H Q => ∃ H0 Pz T ρ Fs, EnvR K H0 Pz T H σ ρ Fs ∧ match f ρ with
  | .ok b => ∀ H', Same H H' → Q b H'
  | .ex c p => ExOk K mg W σ H c p
  | .bad => False
def POv (X : Cx) (e : Option Expr) (f : FO) : Prop := ∀ W, Takes X W → PO X e (tov X.K X.mg W f)
theorem PO.imp {X : Cx} {e : Option Expr} {t t' : TO} (h : PO X e t) (k : ∀ σ H Q, t' σ H Q → t σ H Q) : PO X e t' := ⟨fun pins s σ H Q I q => h.run pins s σ H Q I (k σ H Q q)⟩
def oNone : FO := fun _ => .ok none
def asI (x : DV × Md) : R (Option Int) := match x.1 with
  | .i (.int i) => .ok (some i)
  | _ => .bad
theorem asI_ok {x : DV × Md} {o : Option Int} (h : asI x = .ok o) : ∃ i, x.1 = .i (.int i) ∧ o = some i := by
  unfold asI at h
  split at h
  · rename_i i e; cases h; exact ⟨i, e, rfl⟩
  · cases h
theorem asI_noex {x : DV × Md} {c : Str} {p : Exn} : asI x ≠ .ex c p := by
  unfold asI
  split <;> intro h <;> cases h
def oSome (f : FE) : FO := fun ρ => (f ρ).bind asI
section
variable {X : Cx} {e : Expr} {f : FE}
theorem ov_none : POv X none oNone := fun W tk => PO.imp po_none fun σ H Q h => by
  obtain ⟨H0, Pz, T, ρ, Fs, E, h⟩ := h
  exact h H (fun _ _ z => z)
theorem ov_some (h : PEv X e f) : POv X (some e) (oSome f) := fun W tk => PO.imp (po_some (h W tk)) fun σ H Q h => by
  obtain ⟨H0, Pz, T, ρ, Fs, E, h⟩ := h
  show tev X.K X.mg W f σ H _
  cases e1 : f ρ with
  | bad => simp only [oSome, e1, R.bind] at h
  | ex c p => simp only [oSome, e1, R.bind] at h; exact tev_ex E e1 h
  | ok x =>
    simp only [oSome, e1, R.bind] at h
    refine tev_ok E e1 fun v H1 F s1 E1 r1 o1 => ?_
    cases e2 : asI x with
    | bad => rw [e2] at h; exact h.elim
    | ex c p => exact absurd e2 asI_noex
    | ok b =>
      rw [e2] at h
      obtain ⟨i, h1, h2⟩ := asI_ok e2
      rw [h1] at r1
      subst h2
      cases r1 with
      | i r => cases r; exact ⟨i, rfl, h H1 s1⟩
end
def cutL {α : Type} (xs : List α) (lo hi : Option Int) : List α := (xs.drop (HT.sIx xs.length 0 lo)).take (HT.sIx xs.length xs.length hi - HT.sIx xs.length 0 lo)
theorem RpIs.cut {K : PySem.W.Frag} {H : Hp} {vs : List V} {xs : List IV} (r : RpIs K H vs xs) (lo hi : Option Int) : RpIs K H (cutV vs lo hi) (cutL xs lo hi) := by
  unfold cutV cutL
  rw [r.length]
  exact (r.drop _).take _
def opSl (lo hi : Option Int) : DV × Md → R (DV × Md)
  | (.l xs, _) => .ok (.l (cutL xs lo hi), .own)
  | (.f xs, _) => .ok (.l (cutL xs lo hi), .own)
  | (.i (.tup xs), _) => ok1 (.tup (cutL xs lo hi))
  | (.i (.str z), _) => if z.length ≤ 16777216 then ok1 (.str (cutS z lo hi)) else .bad
  | _ => .bad
theorem opSl_nx {lo hi : Option Int} : NoEx1 (opSl lo hi) := noex1_of fun x => by
  unfold opSl; split <;> first | exact .inr rfl | exact .inl ⟨_, rfl⟩ | (split <;> first | exact .inr rfl | exact .inl ⟨_, rfl⟩)
abbrev rSlAll (K : PySem.W.Frag) : V → Option Int → Option Int → Hp → VK → Prop := fun x lo hi H Q => rSlL K x lo hi H Q ∨ (rSlA K x lo hi H Q ∨ rSlS x lo hi H Q)
theorem sl_all {X : Cx} : SlR X (rSlAll X.K) := sl_list.or (sl_tupA.or sl_str)
theorem uSl {K : PySem.W.Frag} {lo hi : Option Int} : UOk K (fun x H Q => rSlAll K x lo hi H Q) (opSl lo hi) := by
  intro H0 Pz H T σ ρ Fs x z v F Q E r1 o1 e h
  obtain ⟨x, mx⟩ := x
  simp only at r1
  unfold opSl at e
  split at e
  · rename_i q; cases q; cases e
    cases r1 with | l s t => exact .inl ⟨_, _, rfl, SqL.of s, fun p hp => h _ _ _ (same_upd hp) (new_lst hp (t.cut _ _)) (new_ok E hp)⟩
  · rename_i q; cases q; cases e
    cases r1 with | f s t => exact .inl ⟨_, _, rfl, s.sq, fun p hp => h _ _ _ (same_upd hp) (new_lst hp (t.cut _ _)) (new_ok E hp)⟩
  · rename_i q; cases q; cases e
    cases r1 with
    | i r =>
      cases r with
      | @tup a0 vs0 _ s t =>
        refine .inr (.inl ⟨_, _, rfl, SqT.of s, fun hw => ?_, fun _ p hp => h _ _ _ (same_upd hp) (new_tup hp (t.cut _ _)) .nil⟩)
        refine fin1 h (.tup s ?_)
        have e : cutV vs0 lo hi = vs0 := by
          unfold cutV
          rw [hw.1, hw.2, List.drop_zero, Nat.sub_zero, List.take_length]
        have := t.cut lo hi
        rw [e] at this
        exact this
  · rename_i q; cases q
    split at e
    · rename_i hl; cases e
      cases r1 with | i r => cases r; exact .inr (.inr ⟨_, rfl, by rw [slEq]; exact hl, fin1 h (.str _)⟩)
    · cases e
  · cases e
def eSlice (f : FE) (lo hi : FO) : FE := fun ρ => (f ρ).bind fun x => (lo ρ).bind fun l => (hi ρ).bind fun u => opSl l u x
theorem ev_slice {X : Cx} {e : Expr} {lo hi : Option Expr} {f : FE} {fl fh : FO} {pos p2 : Pos} (he : PEv X e f) (hl : POv X lo fl) (hh : POv X hi fh) : PEv X (.Subscript e (.Slice lo hi none p2) pos) (eSlice f fl fh) := fun W tk =>
  PE.imp (pe_slice sl_all (he W tk) (hl W tk) (hh W tk)) fun σ H Q h => by
    obtain ⟨H0, Pz, T, ρ, Fs, E, h⟩ := h
    show tev X.K X.mg W f σ H _
    cases e1 : f ρ with
    | bad => simp only [eSlice, e1, R.bind] at h
    | ex c p => simp only [eSlice, e1, R.bind] at h; exact tev_ex E e1 h
    | ok x =>
      simp only [eSlice, e1, R.bind] at h
      refine tev_ok E e1 fun v H1 F s1 E1 r1 o1 => ⟨H0, Pz, T, ρ, Fs, E1, ?_⟩
      cases e2 : fl ρ with
      | bad => simp only [e2] at h
      | ex c p => simp only [e2] at h; exact h.of s1
      | ok l =>
        simp only [e2] at h
        refine fun H2 s2 => ⟨H0, Pz, T, ρ, Fs, E1.same s2, ?_⟩
        cases e3 : fh ρ with
        | bad => simp only [e3] at h
        | ex c p => simp only [e3] at h; exact h.of (s1.trans s2)
        | ok u =>
          simp only [e3] at h
          refine fun H3 s3 => ?_
          cases e4 : opSl l u x with
          | bad => rw [e4] at h; exact h.elim
          | ex c p => exact absurd e4 (opSl_nx _ _ _)
          | ok z =>
            rw [e4] at h
            exact uSl H0 Pz H3 T σ ρ Fs x z v F Q ((E1.same s2).same s3) ((r1.same s2).same s3) ((o1.same s2).same s3) e4 fun v' H' F' s' r' o' => h v' H' F' (s1.trans (s2.trans (s3.trans s'))) r' o'

/-! ## chains a < b < c -/
def eChain (op op' : DV × Md → DV × Md → R (DV × Md)) (f g k : FE) : FE := fun ρ => (f ρ).bind fun x => (g ρ).bind fun y => (op x y).bind fun z => (asB z).bind fun b => if b then (k ρ).bind fun u => op' y u else .ok (.i (.bl false), .own)
section
variable {X : Cx} {a b c : Expr} {f g k : FE} {pos : Pos} {o o' : CmpOp} {r r' : R2} {op op' : DV × Md → DV × Md → R (DV × Md)}
theorem chain_imp {K : PySem.W.Frag} {mg : MG} {W : WX} (hb : BOk K r op) (hn : NoEx op) (hb' : BOk K r' op') (hn' : NoEx op') (σ : St) (H : Hp) (Q : VK) (h : tev K mg W (eChain op op' f g k) σ H Q) : tChain r r' (tev K mg W f) (tev K mg W g) (tev K mg W k) σ H Q := by
  obtain ⟨H0, Pz, T, ρ, Fs, E, h⟩ := h
  show tev K mg W f σ H _
  cases e1 : f ρ with
  | bad => simp only [eChain, e1, R.bind] at h
  | ex c p => simp only [eChain, e1, R.bind] at h; exact tev_ex E e1 h
  | ok x =>
    refine tev_ok E e1 fun v H1 F s1 E1 r1 o1 => ?_
    cases e2 : g ρ with
    | bad => simp only [eChain, e1, e2, R.bind] at h
    | ex c p => simp only [eChain, e1, e2, R.bind] at h; exact tev_ex E1 e2 (h.of s1)
    | ok y =>
      refine tev_ok E1 e2 fun u H2 G s2 E2 r2 o2 => ?_
      cases e3 : op x y with
      | bad => simp only [eChain, e1, e2, e3, R.bind] at h
      | ex c p => exact absurd e3 (hn _ _ _ _)
      | ok z =>
        refine hb H0 Pz H2 T σ ρ Fs x y z v u F G _ E2 (r1.same s2) (o1.same s2) r2 o2 e3 fun w H3 F3 s3 r3 o3 => ?_
        cases e4 : asB z with
        | bad => simp only [eChain, e1, e2, e3, e4, R.bind] at h
        | ex c p => exact absurd e4 asB_noex
        | ok b =>
          rw [asB_ok e4] at r3
          cases r3 with
          | i r3 =>
            cases r3
            refine ⟨b, rfl, ?_⟩
            cases b with
            | false =>
              simp only [eChain, e1, e2, e3, e4, R.bind, Bool.false_eq_true, if_false] at h ⊢
              exact h _ H3 [] (s1.trans (s2.trans s3)) (.i (.bl _)) .nil
            | true =>
              simp only [eChain, e1, e2, e3, e4, R.bind, if_true] at h ⊢
              cases e5 : k ρ with
              | bad => rw [e5] at h; exact h.elim
              | ex c p => rw [e5] at h; exact tev_ex (E2.same s3) e5 (h.of (s1.trans (s2.trans s3)))
              | ok t =>
                rw [e5] at h
                refine tev_ok (E2.same s3) e5 fun u4 H4 F4 s4 E4 r4 o4 => ?_
                simp only at h
                cases e6 : op' y t with
                | bad => rw [e6] at h; exact h.elim
                | ex c p => exact absurd e6 (hn' _ _ _ _)
                | ok z2 =>
                  rw [e6] at h
                  exact hb' H0 Pz H4 T σ ρ Fs y t z2 u u4 G F4 Q E4 ((r2.same s3).same s4) ((o2.same s3).same s4) r4 o4 e6 fun v' H' F' s' r' o' => h v' H' F' (s1.trans (s2.trans (s3.trans (s4.trans s')))) r' o'
theorem ev_chain (ho : OpR X (compareOp o) r) (hb : BOk X.K r op) (hn : NoEx op) (ho' : OpR X (compareOp o') r') (hb' : BOk X.K r' op') (hn' : NoEx op') (h1 : PEv X a f) (h2 : PEv X b g) (h3 : PEv X c k)
    (hm : lastMarks [o, o'] [b, c] = false := by with_unfolding_all rfl) : PEv X (.Compare a [o, o'] [b, c] pos) (eChain op op' f g k) := fun W tk =>
  PE.imp (pe_chain ho ho' (h1 W tk) (h2 W tk) (h3 W tk) hm) fun σ H Q h => chain_imp hb hn hb' hn' σ H Q h
theorem tv_chain (ho : OpR X (compareOp o) r) (hb : BOk X.K r op) (hn : NoEx op) (ho' : OpR X (compareOp o') r') (hb' : BOk X.K r' op') (hn' : NoEx op') (h1 : PEv X a f) (h2 : PEv X b g) (h3 : PEv X c k)
    (hm : lastMarks [o, o'] [b, c] = false := by with_unfolding_all rfl) : PTv X (.Compare a [o, o'] [b, c] pos) (tB (eChain op op' f g k)) := fun W tk =>
  PT.imp (pt_chain ho ho' (h1 W tk) (h2 W tk) (h3 W tk) hm) fun σ H Q h => tB_imp (fun σ H Q z => chain_imp hb hn hb' hn' σ H Q z) σ H Q h
end

/-! ## displays -/
/-- all plain values -/
def allI : List (DV × Md) → Option (List IV)
  | [] => some []
  | (.i x, _) :: r => (allI r).map (x :: ·)
  | _ :: _ => none
/-- the mode of a new list whose items are these -/
def mdL : List (DV × Md) → Md
  | [] => .own
  | (_, .own) :: r => mdL r
  | (_, .loc) :: r => mdL r
  | (_, .bor) :: r => (match mdL r with
    | .tmp => .tmp
    | _ => .bor)
  | (_, .tmp) :: _ => .tmp
def dLst (xs : List (DV × Md)) : R (DV × Md) := match allI xs with
  | some ys => if ys.length ≤ 16777216 then .ok (.l ys, .own) else .bad
  | none => if xs.length ≤ 16777216 then (match mdL xs with
    | .tmp => .bad
    | m => .ok (.m (xs.map (·.1)), m)) else .bad
def dTup (xs : List (DV × Md)) : R (DV × Md) := match allI xs with
  | some ys => if ys.length ≤ 16777216 then ok1 (.tup ys) else .bad
  | none => if xs.length ≤ 16777216 then (match mdL xs with
    | .tmp => .bad
    | .own => .ok (.t (xs.map (·.1)), .loc)
    | m => .ok (.t (xs.map (·.1)), m)) else .bad
def eLst (g : FA) : FE := fun ρ => (g ρ).bind dLst
def eTup (g : FA) : FE := fun ρ => (g ρ).bind dTup
section
variable {K : PySem.W.Frag} {H0 Pz H : Hp} {T : Addr → Prop} {σ : St} {ρ : Env} {Fs : Nat → List Addr}
theorem allI_len : ∀ {xs : List (DV × Md)} {ys : List IV}, allI xs = some ys → ys.length = xs.length
  | [], _, h => by cases h; rfl
  | (.i x, _) :: r, ys, h => by
    simp only [allI, Option.map_eq_some_iff] at h
    obtain ⟨zs, h1, h2⟩ := h
    subst h2
    exact congrArg (· + 1) (allI_len h1)
  | (.l _, _) :: _, _, h => by cases h
  | (.m _, _) :: _, _, h => by cases h
  | (.f _, _) :: _, _, h => by cases h
  | (.t _, _) :: _, _, h => by cases h
  | (.k _, _) :: _, _, h => by cases h
  | (.h _, _) :: _, _, h => by cases h
theorem ArgsOk.allI : ∀ {vs : List V} {xs : List (DV × Md)} {ys : List IV}, ArgsOk K H0 Pz T ρ Fs H vs xs → allI xs = some ys → RpIs K H vs ys
  | _, [], _, h, e => by cases h; cases e; exact .nil
  | _, (.i x, _) :: r, ys, h, e => by
    simp only [Pv.allI, Option.map_eq_some_iff] at e
    obtain ⟨zs, h1, h2⟩ := e
    subst h2
    cases h with
    | cons a b c =>
      cases a with
      | i a => exact .cons a (ArgsOk.allI c h1)
  | _, (.l _, _) :: _, _, _, e => by cases e
  | _, (.m _, _) :: _, _, _, e => by cases e
  | _, (.f _, _) :: _, _, _, e => by cases e
  | _, (.t _, _) :: _, _, _, e => by cases e
  | _, (.k _, _) :: _, _, _, e => by cases e
  | _, (.h _, _) :: _, _, _, e => by cases e
/-- the items' footprints together -/
theorem ArgsOk.all : ∀ {vs : List V} {xs : List (DV × Md)}, ArgsOk K H0 Pz T ρ Fs H vs xs → ∃ F, RpDs K H vs (xs.map (·.1)) F ∧ (mdL xs ≠ .tmp → NoTops T ρ Fs F) ∧ (mdL xs = .own → ∀ a ∈ F, H0 a = none ∧ Mb H a) ∧ (mdL xs = .own ∨ mdL xs = .bor ∨ mdL xs = .tmp)
  | _, [], h => by
    cases h
    exact ⟨[], .nil, fun _ => ⟨fun _ _ _ _ _ _ z => (nomatch z), fun _ _ z => (nomatch z)⟩, fun _ _ z => (nomatch z), .inl rfl⟩
  | _, (x, m) :: r, h => by
    cases h with
    | @cons v vs _ _ F a b c =>
      obtain ⟨G, h1, h2, h3, h4⟩ := ArgsOk.all c
      refine ⟨F ++ G, .cons a h1, ?_⟩
      have join : NoTops T ρ Fs F → NoTops T ρ Fs G → NoTops T ρ Fs (F ++ G) := fun p q => ⟨fun k d hk a' G' e ha => (List.mem_append.mp ha).elim (p.1 k d hk a' G' e) (q.1 k d hk a' G' e), fun a' ta ha => (List.mem_append.mp ha).elim (p.2 a' ta) (q.2 a' ta)⟩
      cases m with
      | own =>
        refine ⟨fun z => join (b.notops (by intro z; cases z)) (h2 z), fun z a' ha => ?_, h4⟩
        rcases List.mem_append.mp ha with ha | ha
        · exact b.fresh (.inl rfl) a' ha
        · exact h3 z a' ha
      | loc =>
        refine ⟨fun z => join (b.notops (by intro z; cases z)) (h2 z), fun z a' ha => ?_, h4⟩
        rcases List.mem_append.mp ha with ha | ha
        · exact b.fresh (.inr rfl) a' ha
        · exact h3 z a' ha
      | bor =>
        have nb := b.notops (by intro z; cases z)
        have e : mdL ((x, Md.bor) :: r) = (match mdL r with | .tmp => Md.tmp | _ => Md.bor) := rfl
        rw [e]
        rcases h4 with z | z | z
        · rw [z]; exact ⟨fun _ => join nb (h2 (by rw [z]; intro q; cases q)), fun q => (nomatch q), .inr (.inl rfl)⟩
        · rw [z]; exact ⟨fun _ => join nb (h2 (by rw [z]; intro q; cases q)), fun q => (nomatch q), .inr (.inl rfl)⟩
        · rw [z]; exact ⟨fun q => absurd rfl q, fun q => (nomatch q), .inr (.inr rfl)⟩
      | tmp => exact ⟨fun z => absurd rfl z, fun z => (nomatch z), .inr (.inr rfl)⟩
end
section
variable {X : Cx} {es : List Expr} {g : FA} {pos : Pos}
theorem ev_lst (h : PAv X es g) : PEv X (.List es pos) (eLst g) := fun W tk =>
  PE.imp (pe_lst (h W tk)) fun σ H Q h => by
    obtain ⟨H0, Pz, T, ρ, Fs, E, h⟩ := h
    show tav X.K X.mg W g σ H _
    cases e1 : g ρ with
    | bad => simp only [eLst, e1, R.bind] at h
    | ex c p => simp only [eLst, e1, R.bind] at h; exact tav_ex E e1 h
    | ok xs =>
      simp only [eLst, e1, R.bind] at h
      refine tav_ok E e1 fun vs H1 s1 E1 r1 => ?_
      unfold dLst at h
      cases e2 : allI xs with
      | some ys =>
        simp only [e2] at h
        by_cases hl : ys.length ≤ 16777216
        · rw [if_pos hl] at h
          have t := r1.allI e2
          exact ⟨by rw [slEq, t.length]; exact hl, fun p hp => h _ _ _ (s1.trans (same_upd hp)) (new_lst hp t) (new_ok E1 hp)⟩
        · rw [if_neg hl] at h; exact h.elim
      | none =>
        simp only [e2] at h
        by_cases hl : xs.length ≤ 16777216
        · rw [if_pos hl] at h
          obtain ⟨F, t, nt, fr, mm⟩ := r1.all
          refine ⟨by rw [slEq, r1.length]; exact hl, fun p hp => ?_⟩
          rcases mm with z | z | z
          · rw [z] at h
            obtain ⟨q1, q2⟩ := newM_ok E1 (m := .own) hp t (nt (by rw [z]; intro q; cases q)) (.inl rfl) fun _ => fr z
            exact h _ _ _ (s1.trans (same_upd hp)) q1 q2
          · rw [z] at h
            obtain ⟨q1, q2⟩ := newM_ok E1 (m := .bor) hp t (nt (by rw [z]; intro q; cases q)) (.inr rfl) fun q => (nomatch q)
            exact h _ _ _ (s1.trans (same_upd hp)) q1 q2
          · rw [z] at h; exact h.elim
        · rw [if_neg hl] at h; exact h.elim
theorem ev_tup {k : Nat} (h : PAv X es g) : PEv X (.Tuple es k pos) (eTup g) := fun W tk =>
  PE.imp (pe_tup (h W tk)) fun σ H Q h => by
    obtain ⟨H0, Pz, T, ρ, Fs, E, h⟩ := h
    show tav X.K X.mg W g σ H _
    cases e1 : g ρ with
    | bad => simp only [eTup, e1, R.bind] at h
    | ex c p => simp only [eTup, e1, R.bind] at h; exact tav_ex E e1 h
    | ok xs =>
      simp only [eTup, e1, R.bind] at h
      refine tav_ok E e1 fun vs H1 s1 E1 r1 => ?_
      unfold dTup at h
      cases e2 : allI xs with
      | some ys =>
        simp only [e2] at h
        by_cases hl : ys.length ≤ 16777216
        · rw [if_pos hl] at h
          have t := r1.allI e2
          exact ⟨by rw [slEq, t.length]; exact hl, fun p hp => h _ _ _ (s1.trans (same_upd hp)) (new_tup hp t) .nil⟩
        · rw [if_neg hl] at h; exact h.elim
      | none =>
        simp only [e2] at h
        by_cases hl : xs.length ≤ 16777216
        · rw [if_pos hl] at h
          obtain ⟨F, t, nt, fr, mm⟩ := r1.all
          refine ⟨by rw [slEq, r1.length]; exact hl, fun p hp => ?_⟩
          rcases mm with z | z | z
          · rw [z] at h
            have n := nt (by rw [z]; intro q; cases q)
            exact h _ _ _ (s1.trans (same_upd hp)) (.t upd_same (t.same (same_upd hp))) ⟨fun _ a ha => ⟨(fr z a ha).1, (fr z a ha).2.same (same_upd hp)⟩, fun q => (nomatch q), fun _ => n, fun q => (nomatch q)⟩
          · rw [z] at h
            have n := nt (by rw [z]; intro q; cases q)
            exact h _ _ _ (s1.trans (same_upd hp)) (.t upd_same (t.same (same_upd hp))) ⟨fun q => (by rcases q with q | q <;> cases q), fun q => (nomatch q), fun _ => n, fun q => (nomatch q)⟩
          · rw [z] at h; exact h.elim
        · rw [if_neg hl] at h; exact h.elim
end
end L2.Pv

namespace L2.Pv
open PySem PySem.Spec PyProof.Rows

/-! ## what is walked -/
def Keep (H H' : Hp) (P : List Addr) : Prop := TKeep H H' ∧ FKeep H H' P
theorem Keep.of_same {H H' : Hp} {P : List Addr} (e : Same H H') (d : ∀ a ∈ P, ∃ o, H a = some o) : Keep H H' P := ⟨same_tkeep e, fun a ha => by
  obtain ⟨o, q⟩ := d a ha
  rw [q, e _ _ q]⟩
/-- an item as it comes: what it may lean on is within P -/
structure ItemOk (K : PySem.W.Frag) (H0 Pz : Hp) (T : Addr → Prop) (ρ : Env) (Fs : Nat → List Addr) (P : List Addr) (H : Hp) (v : V) (it : DV × Md) : Prop where
  ex : ∃ F, RpD K H v it.1 F ∧ ResOk H0 Pz T ρ Fs H F it.2 ∧ (∀ a ∈ F, a ∈ P) ∧ (it.2 = .own → F = []) ∧ it.2 ≠ .tmp
/-- an iterator J that begins at H1 and gives these items, as long as P is as it was -/
structure Walk (K : PySem.W.Frag) (H0 Pz : Hp) (T : Addr → Prop) (ρ : Env) (Fs : Nat → List Addr) (H1 : Hp) (P : List Addr) (J : It) (items : List (DV × Md)) (m : Md) : Prop where
  dom : ∀ a ∈ P, ∃ o, H1 a = some o
  notops : m ≠ .tmp → NoTops T ρ Fs P
  go : ∀ i H2, Keep H1 H2 P → i < items.length → J.go i H2
  stop : ∀ i H2, Keep H1 H2 P → i = items.length → J.stop i H2
  yld : ∀ i H2 x H3, Keep H1 H2 P → J.yld i H2 x H3 → ∀ it, items[i]? = some it → Same H2 H3 ∧ ItemOk K H0 Pz T ρ Fs P H3 x it
abbrev FI := Env → R (List (DV × Md) × Md)
def tiv (K : PySem.W.Frag) (mg : MG) (W : WX) (f : FI) : TI := fun σ H Q => ∃ H0 Pz T ρ Fs, EnvR K H0 Pz T H σ ρ Fs ∧ match f ρ with
  | .ok x => ∀ J H1 P, Same H H1 → Walk K H0 Pz T ρ Fs H1 P J x.1 x.2 → Q J H1
  | .ex c p => ExOk K mg W σ H c p
  | .bad => False
def PIv (X : Cx) (tg e : Expr) (f : FI) : Prop := ∀ W, Takes X W → PI X tg e (tiv X.K X.mg W f)
theorem PI.imp {X : Cx} {tg e : Expr} {t t' : TI} (h : PI X tg e t) (k : ∀ σ H Q, t' σ H Q → t σ H Q) : PI X tg e t' := ⟨fun pins s σ H Q I q => h.run pins s σ H Q I (k σ H Q q)⟩

def elI (xs : List IV) : List (DV × Md) := xs.map fun x => (.i x, .own)
def elM (m : Md) : List DV → List (DV × Md)
  | [] => []
  | .i x :: r => (.i x, .own) :: elM m r
  | d :: r => (d, if m = .bor then .bor else .loc) :: elM m r
def elS (x : Str) : List (DV × Md) := x.cps.toList.map fun c => (.i (.str ⟨#[c]⟩), .own)
def itemsOf : DV × Md → R (List (DV × Md) × Md)
  | (.l xs, m) => .ok (elI xs, m)
  | (.f xs, m) => .ok (elI xs, .own)
  | (.m xs, m) => .ok (elM m xs, m)
  | (.t xs, m) => if m = .bor ∨ m = .loc then .ok (elM m xs, m) else .bad
  | (.i (.tup xs), _) => .ok (elI xs, .own)
  | (.i (.str x), _) => .ok (elS x, .own)
  | _ => .bad
def iAny (f : FE) : FI := fun ρ => (f ρ).bind itemsOf
section
variable {K : PySem.W.Frag} {H0 Pz H H1 H2 : Hp} {T : Addr → Prop} {σ : St} {ρ : Env} {Fs : Nat → List Addr}
theorem elI_get {xs : List IV} {i : Nat} {it : DV × Md} (h : (elI xs)[i]? = some it) : ∃ x, xs[i]? = some x ∧ it = (.i x, .own) := by
  unfold elI at h
  rw [List.getElem?_map, Option.map_eq_some_iff] at h
  obtain ⟨x, h1, h2⟩ := h
  exact ⟨x, h1, h2.symm⟩
theorem elI_len (xs : List IV) : (elI xs).length = xs.length := by unfold elI; rw [List.length_map]
theorem elM_len (m : Md) : ∀ xs : List DV, (elM m xs).length = xs.length
  | [] => rfl
  | .i x :: r => congrArg (· + 1) (elM_len m r)
  | .l x :: r => congrArg (· + 1) (elM_len m r)
  | .f x :: r => congrArg (· + 1) (elM_len m r)
  | .m x :: r => congrArg (· + 1) (elM_len m r)
  | .t x :: r => congrArg (· + 1) (elM_len m r)
  | .k x :: r => congrArg (· + 1) (elM_len m r)
  | .h x :: r => congrArg (· + 1) (elM_len m r)
theorem elM_get {m : Md} : ∀ {xs : List DV} {i : Nat} {it : DV × Md}, (elM m xs)[i]? = some it → ∃ d, xs[i]? = some d ∧ it.1 = d ∧ ((∃ x, it = (.i x, .own)) ∨ it.2 = (if m = .bor then .bor else .loc))
  | [], _, _, h => by simp [elM] at h
  | .i x :: r, 0, it, h => by
    have e : (DV.i x, Md.own) = it := by simpa [elM] using h
    subst e
    exact ⟨_, rfl, rfl, .inl ⟨x, rfl⟩⟩
  | .l x :: r, 0, it, h => by
    have e : (DV.l x, (if m = .bor then Md.bor else Md.loc)) = it := by simpa [elM] using h
    subst e
    exact ⟨_, rfl, rfl, .inr rfl⟩
  | .f x :: r, 0, it, h => by
    have e : (DV.f x, (if m = .bor then Md.bor else Md.loc)) = it := by simpa [elM] using h
    subst e
    exact ⟨_, rfl, rfl, .inr rfl⟩
  | .m x :: r, 0, it, h => by
    have e : (DV.m x, (if m = .bor then Md.bor else Md.loc)) = it := by simpa [elM] using h
    subst e
    exact ⟨_, rfl, rfl, .inr rfl⟩
  | .i x :: r, i + 1, it, h => elM_get (xs := r) (i := i) (by simpa [elM] using h)
  | .l x :: r, i + 1, it, h => elM_get (xs := r) (i := i) (by simpa [elM] using h)
  | .f x :: r, i + 1, it, h => elM_get (xs := r) (i := i) (by simpa [elM] using h)
  | .m x :: r, i + 1, it, h => elM_get (xs := r) (i := i) (by simpa [elM] using h)
  | .t x :: r, 0, it, h => by
    have e : (DV.t x, (if m = .bor then Md.bor else Md.loc)) = it := by simpa [elM] using h
    subst e
    exact ⟨_, rfl, rfl, .inr rfl⟩
  | .t x :: r, i + 1, it, h => elM_get (xs := r) (i := i) (by simpa [elM] using h)
  | .k x :: r, 0, it, h => by
    have e : (DV.k x, (if m = .bor then Md.bor else Md.loc)) = it := by simpa [elM] using h
    subst e
    exact ⟨_, rfl, rfl, .inr rfl⟩
  | .k x :: r, i + 1, it, h => elM_get (xs := r) (i := i) (by simpa [elM] using h)
  | .h x :: r, 0, it, h => by
    have e : (DV.h x, (if m = .bor then Md.bor else Md.loc)) = it := by simpa [elM] using h
    subst e
    exact ⟨_, rfl, rfl, .inr rfl⟩
  | .h x :: r, i + 1, it, h => elM_get (xs := r) (i := i) (by simpa [elM] using h)
theorem item_I {P : List Addr} {v : V} {x : IV} (r : RpI K H v x) : ItemOk K H0 Pz T ρ Fs P H v (.i x, .own) := ⟨[], .i r, .nil, fun _ h => (nomatch h), fun _ => rfl, by intro z; cases z⟩
theorem noTops_nil : NoTops T ρ Fs [] := ⟨fun _ _ _ _ _ _ h => (nomatch h), fun _ _ h => (nomatch h)⟩
theorem atT {a : Addr} {vs : List V} {xs : List IV} (E : EnvR K H0 Pz T H1 σ ρ Fs) (s : SqT K H1 a vs) (t : RpIs K H1 vs xs) : Walk K H0 Pz T ρ Fs H1 [] (Itt K a) (elI xs) .own where
  dom := fun _ h => (nomatch h)
  notops := fun _ => noTops_nil
  go := fun i H2 k h => by
    rw [elI_len] at h
    have hl : i < vs.length := by rw [t.length]; exact h
    exact ⟨vs, vs[i], k.1.sq s, by simp [hl]⟩
  stop := fun i H2 k h => by
    rw [elI_len] at h
    exact ⟨vs, k.1.sq s, by rw [t.length, h]; exact Nat.le_refl _⟩
  yld := fun i H2 x H3 k y it hi => by
    obtain ⟨rfl, y⟩ := y
    obtain ⟨z, h1, rfl⟩ := elI_get hi
    obtain ⟨v, h2, h3⟩ := t.get h1
    have e := y vs (k.1.sq s)
    rw [h2] at e
    cases e
    exact ⟨fun _ _ q => q, item_I (h3.mono k.1)⟩
theorem atF {a : Addr} {vs : List V} {xs : List IV} (E : EnvR K H0 Pz T H1 σ ρ Fs) (s : FzL K H1 a vs) (t : RpIs K H1 vs xs) : Walk K H0 Pz T ρ Fs H1 [] (Itl K a) (elI xs) .own where
  dom := fun _ h => (nomatch h)
  notops := fun _ => noTops_nil
  go := fun i H2 k h => by
    rw [elI_len] at h
    have hl : i < vs.length := by rw [t.length]; exact h
    exact ⟨vs, vs[i], (k.1.fz s).sq, by simp [hl]⟩
  stop := fun i H2 k h => by
    rw [elI_len] at h
    exact ⟨vs, (k.1.fz s).sq, by rw [t.length, h]; exact Nat.le_refl _⟩
  yld := fun i H2 x H3 k y it hi => by
    obtain ⟨rfl, y⟩ := y
    obtain ⟨z, h1, rfl⟩ := elI_get hi
    obtain ⟨v, h2, h3⟩ := t.get h1
    have e := y vs (k.1.fz s).sq
    rw [h2] at e
    cases e
    exact ⟨fun _ _ q => q, item_I (h3.mono k.1)⟩
theorem atL {a : Addr} {vs : List V} {xs : List IV} {m : Md} (o : ResOk H0 Pz T ρ Fs H1 [a] m) (s : H1 a = some (.lst vs)) (t : RpIs K H1 vs xs) : Walk K H0 Pz T ρ Fs H1 [a] (Itl K a) (elI xs) m where
  dom := fun b h => by cases List.mem_singleton.mp h; exact ⟨_, s⟩
  notops := fun hm => o.notops hm
  go := fun i H2 k h => by
    rw [elI_len] at h
    have hl : i < vs.length := by rw [t.length]; exact h
    have s2 : H2 a = some (.lst vs) := by rw [k.2 a List.mem_cons_self]; exact s
    exact ⟨vs, vs[i], SqL.of s2, by simp [hl]⟩
  stop := fun i H2 k h => by
    rw [elI_len] at h
    have s2 : H2 a = some (.lst vs) := by rw [k.2 a List.mem_cons_self]; exact s
    exact ⟨vs, SqL.of s2, by rw [t.length, h]; exact Nat.le_refl _⟩
  yld := fun i H2 x H3 k y it hi => by
    obtain ⟨rfl, y⟩ := y
    obtain ⟨z, h1, rfl⟩ := elI_get hi
    obtain ⟨v, h2, h3⟩ := t.get h1
    have s2 : H3 a = some (.lst vs) := by rw [k.2 a List.mem_cons_self]; exact s
    have e := y vs (SqL.of s2)
    rw [h2] at e
    cases e
    exact ⟨fun _ _ q => q, item_I (h3.mono k.1)⟩
theorem atM {a : Addr} {vs : List V} {xs : List DV} {F : List Addr} {m : Md} (E : EnvR K H0 Pz T H1 σ ρ Fs) (o : ResOk H0 Pz T ρ Fs H1 (a :: F) m) (s : H1 a = some (.lst vs)) (t : RpDs K H1 vs xs F) : Walk K H0 Pz T ρ Fs H1 (a :: F) (Itl K a) (elM m xs) m where
  dom := fun b h => by
    rcases List.mem_cons.mp h with e | h
    · subst e; exact ⟨_, s⟩
    · exact t.dom b h
  notops := fun hm => o.notops hm
  go := fun i H2 k h => by
    rw [elM_len] at h
    have hl : i < vs.length := by rw [t.length]; exact h
    have s2 : H2 a = some (.lst vs) := by rw [k.2 a List.mem_cons_self]; exact s
    exact ⟨vs, vs[i], SqL.of s2, by simp [hl]⟩
  stop := fun i H2 k h => by
    rw [elM_len] at h
    have s2 : H2 a = some (.lst vs) := by rw [k.2 a List.mem_cons_self]; exact s
    exact ⟨vs, SqL.of s2, by rw [t.length, h]; exact Nat.le_refl _⟩
  yld := fun i H2 x H3 k y it hi => by
    obtain ⟨rfl, y⟩ := y
    obtain ⟨d, h1, h1', h1''⟩ := elM_get hi
    obtain ⟨v, G, h2, h3, h4⟩ := t.get h1
    have s2 : H3 a = some (.lst vs) := by rw [k.2 a List.mem_cons_self]; exact s
    have e := y vs (SqL.of s2)
    rw [h2] at e
    cases e
    refine ⟨fun _ _ q => q, ?_⟩
    have h3' : RpD K H3 _ d G := h3.mono k.1 fun c hc => k.2 c (List.mem_cons_of_mem _ (h4 c hc))
    obtain ⟨d', m'⟩ := it
    simp only at h1' h1''
    subst h1'
    rcases h1'' with ⟨z, e⟩ | e
    · cases e
      cases h3' with
      | i h3' => exact item_I h3'
    · subst e
      have sub : ∀ c ∈ G, c ∈ a :: F := fun c hc => List.mem_cons_of_mem _ (h4 c hc)
      have keepv : ∀ c ∈ G, Mb H1 c → Mb H3 c := fun c hc q => q.eq (k.2 c (sub c hc))
      refine ⟨G, h3', ?_, sub, fun z => ?_, ?_⟩
      · by_cases hb : m = .bor
        · subst hb
          have n := o.notops (by intro z; cases z)
          show ResOk _ _ _ _ _ _ _ (if Md.bor = Md.bor then Md.bor else Md.loc)
          rw [if_pos rfl]
          exact ⟨fun z => (by rcases z with z | z <;> cases z), fun z => (nomatch z), fun _ => ⟨fun k d hk a' G' e ha => n.1 k d hk a' G' e (sub _ ha), fun a' ta ha => n.2 a' ta (sub _ ha)⟩, fun z => (nomatch z)⟩
        · show ResOk _ _ _ _ _ _ _ (if m = Md.bor then Md.bor else Md.loc)
          rw [if_neg hb]
          by_cases ht : m = .tmp
          · rcases o.tmp ht with z | ⟨k0, d0, hk0, eF⟩
            · cases z
            · have top := E.top k0 d0 hk0 a F eF.symm
              have fr := E.fresh k0 d0 .own hk0 (by intro z; cases z)
              refine ⟨fun _ c hc => ⟨(fr c (by rw [← eF]; exact sub c hc)).1, keepv c hc (fr c (by rw [← eF]; exact sub c hc)).2⟩, fun z => (nomatch z), fun _ => ⟨fun k d hk a' G' e ha => ?_, fun a' ta ha => E.tt a' ta k0 (by rw [← eF]; exact sub _ ha)⟩, fun z => (nomatch z)⟩
              by_cases hkk : k = k0
              · subst hkk
                rw [← eF] at e
                cases e
                exact top.2.1 (h4 _ ha)
              · have := (E.top k d hk a' G' e).2.2 k0 (fun z => hkk z.symm)
                exact this (by rw [← eF]; exact sub _ ha)
          · have n := o.notops ht
            have ho : m = .own ∨ m = .loc := by cases m <;> first | exact .inl rfl | exact .inr rfl | exact absurd rfl hb | exact absurd rfl ht
            exact ⟨fun _ c hc => ⟨(o.fresh ho c (sub c hc)).1, keepv c hc (o.fresh ho c (sub c hc)).2⟩, fun z => (nomatch z), fun _ => ⟨fun k d hk a' G' e ha => n.1 k d hk a' G' e (sub _ ha), fun a' ta ha => n.2 a' ta (sub _ ha)⟩, fun z => (nomatch z)⟩
      · have z : (if m = Md.bor then Md.bor else Md.loc) = Md.own := z
        split at z <;> cases z
      · show (if m = Md.bor then Md.bor else Md.loc) ≠ Md.tmp
        split <;> (intro z; cases z)
theorem atTD {a : Addr} {vs : List V} {xs : List DV} {F : List Addr} {m : Md} (o : ResOk H0 Pz T ρ Fs H1 F m) (s : H1 a = some (.tup vs)) (t : RpDs K H1 vs xs F) (hm : m = .bor ∨ m = .loc) : Walk K H0 Pz T ρ Fs H1 F (Itt K a) (elM m xs) m where
  dom := fun b h => t.dom b h
  notops := fun hm => o.notops hm
  go := fun i H2 k h => by
    rw [elM_len] at h
    have hl : i < vs.length := by rw [t.length]; exact h
    exact ⟨vs, vs[i], SqT.of (k.1.t _ _ s), by simp [hl]⟩
  stop := fun i H2 k h => by
    rw [elM_len] at h
    exact ⟨vs, SqT.of (k.1.t _ _ s), by rw [t.length, h]; exact Nat.le_refl _⟩
  yld := fun i H2 x H3 k y it hi => by
    obtain ⟨rfl, y⟩ := y
    obtain ⟨d, h1, h1', h1''⟩ := elM_get hi
    obtain ⟨v, G, h2, h3, h4⟩ := t.get h1
    have e := y vs (SqT.of (k.1.t _ _ s))
    rw [h2] at e
    cases e
    refine ⟨fun _ _ q => q, ?_⟩
    have h3' : RpD K H3 _ d G := h3.mono k.1 fun c hc => k.2 c (h4 c hc)
    obtain ⟨d', m'⟩ := it
    simp only at h1' h1''
    subst h1'
    rcases h1'' with ⟨z, e⟩ | e
    · cases e
      cases h3' with
      | i h3' => exact item_I h3'
    · subst e
      have em : (if m = Md.bor then Md.bor else Md.loc) = m := by
        rcases hm with z | z <;> (subst z; rfl)
      have nt : m ≠ .tmp := by rcases hm with z | z <;> (subst z; intro q; cases q)
      have no : m ≠ .own := by rcases hm with z | z <;> (subst z; intro q; cases q)
      have n := o.notops nt
      refine ⟨G, h3', ?_, h4, fun z => ?_, ?_⟩
      · show ResOk _ _ _ _ _ _ _ (if m = Md.bor then Md.bor else Md.loc)
        rw [em]
        exact ⟨fun z c hc => ⟨(o.fresh z c (h4 c hc)).1, (o.fresh z c (h4 c hc)).2.eq (k.2 c (h4 c hc))⟩, fun z => absurd z no, fun _ => ⟨fun k d hk a' G' e ha => n.1 k d hk a' G' e (h4 _ ha), fun a' ta ha => n.2 a' ta (h4 _ ha)⟩, fun z => absurd z nt⟩
      · have z : (if m = Md.bor then Md.bor else Md.loc) = Md.own := z
        rw [em] at z; exact absurd z no
      · show (if m = Md.bor then Md.bor else Md.loc) ≠ Md.tmp
        rw [em]; exact nt
theorem atS {x : Str} (E : EnvR K H0 Pz T H1 σ ρ Fs) : Walk K H0 Pz T ρ Fs H1 [] (Its x) (elS x) .own where
  dom := fun _ h => (nomatch h)
  notops := fun _ => noTops_nil
  go := fun i H2 k h => by
    unfold elS at h
    rw [List.length_map, Array.length_toList] at h
    exact h
  stop := fun i H2 k h => by
    unfold elS at h
    rw [List.length_map, Array.length_toList] at h
    exact Nat.le_of_eq h.symm
  yld := fun i H2 v H3 k y it hi => by
    obtain ⟨rfl, c, hc, rfl⟩ := y
    unfold elS at hi
    rw [List.getElem?_map, Array.getElem?_toList, hc] at hi
    cases hi
    exact ⟨fun _ _ q => q, item_I (.str _)⟩
end
/-- any list, tuple or text -/
def iAnyT (K : PySem.W.Frag) (te : TE) : TI := fun σ H R => te σ H fun x H1 => (∃ a, x = .ref a ∧ (∃ xs, SqL K H1 a xs) ∧ R (Itl K a) H1) ∨ (∃ a, x = .ref a ∧ (∃ xs, SqT K H1 a xs) ∧ R (Itt K a) H1) ∨ ∃ z, x = .str z ∧ R (Its z) H1
section
variable {X : Cx} {tg e : Expr}
theorem pi_any {te : TE} (he : PE X e te) : PI X tg e (iAnyT X.K te) := by
  refine ⟨fun pins s σ H R I h => ?_⟩
  refine thn (he.run pins s σ H _ I h) fun v s1 ⟨x, H1, I1, r1, q1⟩ => ?_
  rcases q1 with ⟨a, e, ⟨xs, hq⟩, q⟩ | ⟨a, e, ⟨xs, hq⟩, q⟩ | ⟨z, e, q⟩
  · subst e
    cases r1
    obtain ⟨its, rv, p, hz⟩ := I1.list hq
    refine wpAny_pyIter_list p.isList ?_
    refine ⟨s1.heap.objs.size, [s1.heap.objs.size], _, _, H1, rfl, I1.kept (t' := s1.toks) fun b o e => Heap.get?_push_of_some _ e, turn_list a _, ⟨_, Heap.get?_push_size _ rfl, rfl, rfl⟩, fun b hb => ?_, q⟩
    have e : b = s1.heap.objs.size := by simpa using hb
    subst e
    exact I1.fpOk (Nat.le_refl _) (I1.hok.fresh (Nat.le_refl _))
  · subst e
    cases r1
    obtain ⟨its, rv, p, hz⟩ := I1.tuple hq
    refine wpAny_pyIter_tuple (show s1.heap.IsTuple a its.toArray from p) ?_
    refine ⟨s1.heap.objs.size, [s1.heap.objs.size], _, _, H1, rfl, I1.kept (t' := s1.toks) fun b o e => Heap.get?_push_of_some _ e, turn_tuple a _, ⟨_, Heap.get?_push_size _ rfl, rfl, rfl⟩, fun b hb => ?_, q⟩
    have e : b = s1.heap.objs.size := by simpa using hb
    subst e
    exact I1.fpOk (Nat.le_refl _) (I1.hok.fresh (Nat.le_refl _))
  · subst e
    obtain ⟨t, rfl⟩ := r1
    cases ha : z.cps.all (· < 128)
    · exact wpAny_pyIter_wide ha (pi_one (tk := s1.toks) I1 _ (turn_str _ z t "str_iterator" (.inr rfl)) ⟨_, Heap.get?_push_size _ rfl, rfl, rfl⟩ q)
    · exact wpAny_pyIter_ascii ha (pi_one (tk := s1.toks) I1 _ (turn_str _ z t "str_ascii_iterator" (.inl rfl)) ⟨_, Heap.get?_push_size _ rfl, rfl, rfl⟩ q)
theorem itemsOf_noex {x : DV × Md} {c : Str} {p : Exn} : itemsOf x ≠ .ex c p := by
  unfold itemsOf
  split <;> (intro h; first | cases h | (split at h <;> cases h))
theorem iv_any {f : FE} (he : PEv X e f) : PIv X tg e (iAny f) := fun W tk =>
  PI.imp (pi_any (he W tk)) fun σ H Q h => by
    obtain ⟨H0, Pz, T, ρ, Fs, E, h⟩ := h
    show tev X.K X.mg W f σ H _
    cases e1 : f ρ with
    | bad => simp only [iAny, e1, R.bind] at h
    | ex c p => simp only [iAny, e1, R.bind] at h; exact tev_ex E e1 h
    | ok x =>
      simp only [iAny, e1, R.bind] at h
      refine tev_ok E e1 fun v H1 F s1 E1 r1 o1 => ?_
      obtain ⟨x, m⟩ := x
      simp only at r1 o1
      cases r1 with
      | i r =>
        cases r with
        | tup s t => exact .inr (.inl ⟨_, rfl, ⟨_, SqT.of s⟩, h _ H1 [] s1 (atT E1 (SqT.of s) t)⟩)
        | str z => exact .inr (.inr ⟨_, rfl, h _ H1 [] s1 (atS E1)⟩)
        | non => exact h.elim
        | bl b => exact h.elim
        | int i => exact h.elim
      | l s t => exact .inl ⟨_, rfl, ⟨_, SqL.of s⟩, h _ H1 _ s1 (atL o1 s t)⟩
      | f s t => exact .inl ⟨_, rfl, ⟨_, s.sq⟩, h _ H1 _ s1 (atF E1 s t)⟩
      | m s t => exact .inl ⟨_, rfl, ⟨_, SqL.of s⟩, h _ H1 _ s1 (atM E1 o1 s t)⟩
      | t s t =>
        simp only [itemsOf] at h
        by_cases hm : m = .bor ∨ m = .loc
        · rw [if_pos hm] at h
          exact .inr (.inl ⟨_, rfl, ⟨_, SqT.of s⟩, h _ H1 _ s1 (atTD o1 s t hm)⟩)
        · rw [if_neg hm] at h; exact h.elim
      | k s t => exact h.elim
      | h s t => exact h.elim
end
/-! ### ranges -/
def rgL (lo : Int) (n : Nat) : List (DV × Md) := (List.range n).map fun (k : Nat) => (.i (.int (lo + (k : Int))), .own)
def rgC (lo c : Int) (n : Nat) : List (DV × Md) := (List.range n).map fun (k : Nat) => (.i (.int (lo + (k : Int) * c)), .own)
def smI (i : Int) : Bool := decide (i.natAbs < 2 ^ 62)
theorem smI_iff {i : Int} (h : smI i = true) : -(2 ^ 62) ≤ i ∧ i < 2 ^ 62 := by
  have h1 : i.natAbs < 2 ^ 62 := of_decide_eq_true h
  omega
def iRg1 (f : FE) : FI := fun ρ => (f ρ).bind fun x => match x.1 with
  | .i (.int j) => if smI j then .ok (rgL 0 j.toNat, .own) else .bad
  | _ => .bad
def iRg2 (f g : FE) : FI := fun ρ => (f ρ).bind fun x => (g ρ).bind fun y => match x.1, y.1 with
  | .i (.int i), .i (.int j) => if smI i && smI j then .ok (rgL i (j - i).toNat, .own) else .bad
  | _, _ => .bad
/-- range(i, j, -1) and other steps written out -/
def iRg3 (f g : FE) (c : Int) : FI := fun ρ => (f ρ).bind fun x => (g ρ).bind fun y => match x.1, y.1 with
  | .i (.int i), .i (.int j) => if smI i && smI j && decide (c ≠ 0) && decide (c.natAbs < 1073741824) && Builtin.Range.small i j c then .ok (rgC i c (Builtin.Range.rangeSize i j c).toNat, .own) else .bad
  | _, _ => .bad
section
variable {K : PySem.W.Frag} {H0 Pz H H1 H2 : Hp} {T : Addr → Prop} {σ : St} {ρ : Env} {Fs : Nat → List Addr}
theorem atR {lo : Int} {n : Nat} : Walk K H0 Pz T ρ Fs H1 [] (Itr lo n) (rgL lo n) .own where
  dom := fun _ h => (nomatch h)
  notops := fun _ => noTops_nil
  go := fun i H2 k h => by
    unfold rgL at h
    rw [List.length_map, List.length_range] at h
    exact h
  stop := fun i H2 k h => by
    unfold rgL at h
    rw [List.length_map, List.length_range] at h
    exact Nat.le_of_eq h.symm
  yld := fun i H2 v H3 k y it hi => by
    obtain ⟨rfl, rfl⟩ := y
    unfold rgL at hi
    rw [List.getElem?_map, Option.map_eq_some_iff] at hi
    obtain ⟨j, h1, h2⟩ := hi
    obtain ⟨hl, h1⟩ := List.getElem?_eq_some_iff.mp h1
    rw [List.getElem_range] at h1
    subst h1 h2
    exact ⟨fun _ _ q => q, item_I (.int _)⟩
theorem atC {lo c : Int} {n : Nat} : Walk K H0 Pz T ρ Fs H1 [] (Itc lo c n) (rgC lo c n) .own where
  dom := fun _ h => (nomatch h)
  notops := fun _ => noTops_nil
  go := fun i H2 k h => by
    unfold rgC at h
    rw [List.length_map, List.length_range] at h
    exact h
  stop := fun i H2 k h => by
    unfold rgC at h
    rw [List.length_map, List.length_range] at h
    exact Nat.le_of_eq h.symm
  yld := fun i H2 v H3 k y it hi => by
    obtain ⟨rfl, rfl⟩ := y
    unfold rgC at hi
    rw [List.getElem?_map, Option.map_eq_some_iff] at hi
    obtain ⟨j, h1, h2⟩ := hi
    obtain ⟨hl, h1⟩ := List.getElem?_eq_some_iff.mp h1
    rw [List.getElem_range] at h1
    subst h1 h2
    exact ⟨fun _ _ q => q, item_I (.int _)⟩
end
section
variable {X : Cx} {tg a b c : Expr} {f g : FE} {p pos : Pos}
theorem iv_rg1 (hg : Gl X "range") (hm : X.mg "range" = none) (ha : PEv X a f) (hs : starEach [a] X.env = [(false, eval a X.env)] := by rfl) : PIv X tg (.Call (.Name "range" p) [a] [] pos) (iRg1 f) := fun W tk =>
  PI.imp (pi_range1 hg hm (pa_cons (ha W tk) pa_nil hs) hs) fun σ H Q h => by
    obtain ⟨H0, Pz, T, ρ, Fs, E, h⟩ := h
    show tev X.K X.mg W f σ H _
    cases e1 : f ρ with
    | bad => simp only [iRg1, e1, R.bind] at h
    | ex c p => simp only [iRg1, e1, R.bind] at h; exact tev_ex E e1 h
    | ok x =>
      simp only [iRg1, e1, R.bind] at h
      refine tev_ok E e1 fun v H1 F s1 E1 r1 o1 => ?_
      obtain ⟨x, m⟩ := x
      simp only at r1 h
      split at h
      · rename_i q
        split at q
        · rename_i j
          split at q
          · rename_i hj
            cases q
            cases r1 with
            | i r =>
              cases r
              obtain ⟨h1, h2⟩ := smI_iff hj
              exact ⟨_, rfl, h1, h2, h _ H1 [] s1 atR⟩
          · cases q
        · cases q
      · rename_i q
        split at q
        · split at q <;> cases q
        · cases q
      · exact h.elim
theorem iv_rg2 (hg : Gl X "range") (hm : X.mg "range" = none) (ha : PEv X a f) (hb : PEv X b g) (hs : starEach [a, b] X.env = [(false, eval a X.env), (false, eval b X.env)] := by rfl) (hs2 : starEach [b] X.env = [(false, eval b X.env)] := by rfl) : PIv X tg (.Call (.Name "range" p) [a, b] [] pos) (iRg2 f g) := fun W tk =>
  PI.imp (pi_range2 hg hm (pa_cons (ha W tk) (pa_cons (hb W tk) pa_nil hs2) (by rw [hs, hs2])) hs hs2) fun σ H Q h => by
    obtain ⟨H0, Pz, T, ρ, Fs, E, h⟩ := h
    show tev X.K X.mg W f σ H _
    cases e1 : f ρ with
    | bad => simp only [iRg2, e1, R.bind] at h
    | ex c p => simp only [iRg2, e1, R.bind] at h; exact tev_ex E e1 h
    | ok x =>
      refine tev_ok E e1 fun v H1 F s1 E1 r1 o1 => ?_
      show tev X.K X.mg W g σ H1 _
      cases e2 : g ρ with
      | bad => simp only [iRg2, e1, e2, R.bind] at h
      | ex c p => simp only [iRg2, e1, e2, R.bind] at h; exact tev_ex E1 e2 (h.of s1)
      | ok y =>
        simp only [iRg2, e1, e2, R.bind] at h
        refine tev_ok E1 e2 fun u H2 G s2 E2 r2 o2 => ?_
        obtain ⟨x, m⟩ := x
        obtain ⟨y, m'⟩ := y
        simp only at r1 r2 h
        split at h
        · rename_i q
          split at q
          · split at q
            · rename_i hj
              cases q
              obtain ⟨hi, hj⟩ := Bool.and_eq_true_iff.mp hj
              cases r1 with
              | i r =>
                cases r
                cases r2 with
                | i r2 =>
                  cases r2
                  obtain ⟨h1, h2⟩ := smI_iff hi
                  obtain ⟨h3, h4⟩ := smI_iff hj
                  exact ⟨_, _, rfl, ⟨h1, h2, h3, h4⟩, h _ H2 [] (s1.trans s2) atR⟩
            · cases q
          · cases q
        · rename_i q
          split at q
          · split at q <;> cases q
          · cases q
        · exact h.elim
/-- a written step -/
def IsC (X : Cx) (e : Expr) (c : Int) : Prop := PEv X e (eC (.int c))
theorem iv_rg3 {st : Int} (hg : Gl X "range") (hm : X.mg "range" = none) (ha : PEv X a f) (hb : PEv X b g) (hc : PEv X c (fun _ => ok1 (.int st))) (hs : starEach [a, b, c] X.env = (false, eval a X.env) :: starEach [b, c] X.env := by rfl) (hs1 : starEach [b, c] X.env = (false, eval b X.env) :: starEach [c] X.env := by rfl)
    (hs2 : starEach [c] X.env = (false, eval c X.env) :: starEach [] X.env := by rfl) (hpl : (backTo pos (starEach [b, c] X.env)).any (·.1) = false := by rfl) : PIv X tg (.Call (.Name "range" p) [a, b, c] [] pos) (iRg3 f g st) := fun W tk =>
  PI.imp (pi_range3 hg hm (pa_cons (ha W tk) (pa_cons (hb W tk) (pa_cons (hc W tk) pa_nil hs2) hs1) hs) hs hpl) fun σ H Q h => by
    obtain ⟨H0, Pz, T, ρ, Fs, E, h⟩ := h
    show tev X.K X.mg W f σ H _
    cases e1 : f ρ with
    | bad => simp only [iRg3, e1, R.bind] at h
    | ex c p => simp only [iRg3, e1, R.bind] at h; exact tev_ex E e1 h
    | ok x =>
      refine tev_ok E e1 fun v H1 F s1 E1 r1 o1 => ?_
      show tev X.K X.mg W g σ H1 _
      cases e2 : g ρ with
      | bad => simp only [iRg3, e1, e2, R.bind] at h
      | ex c p => simp only [iRg3, e1, e2, R.bind] at h; exact tev_ex E1 e2 (h.of s1)
      | ok y =>
        simp only [iRg3, e1, e2, R.bind] at h
        refine tev_ok E1 e2 fun u H2 G s2 E2 r2 o2 => ?_
        show tev X.K X.mg W (fun _ => ok1 (.int st)) σ H2 _
        refine tev_ok (x := (.i (.int st), .own)) E2 rfl fun w H3 G3 s3 E3 r3 o3 => ?_
        obtain ⟨x, m⟩ := x
        obtain ⟨y, m'⟩ := y
        simp only at r1 r2 h
        split at h
        · rename_i q
          split at q
          · split at q
            · rename_i hj
              cases q
              simp only [Bool.and_eq_true, decide_eq_true_eq] at hj
              obtain ⟨⟨⟨⟨hi, hj⟩, hc0⟩, hc1⟩, hsm⟩ := hj
              cases r1 with
              | i r =>
                cases r
                cases r2 with
                | i r2 =>
                  cases r2
                  cases r3 with
                  | i r3 =>
                    cases r3
                    have nn : ∀ i j c : Int, 0 ≤ Builtin.Range.rangeSize i j c := fun i j c => by
                      unfold Builtin.Range.rangeSize
                      repeat' split
                      all_goals first | omega | (apply Int.ediv_nonneg <;> omega) | (have := Int.ediv_nonneg (a := j - i - 1) (b := c) (by omega) (by omega); omega) | (have := Int.ediv_nonneg (a := i - j - 1) (b := -c) (by omega) (by omega); omega)
                    exact ⟨_, _, _, _, rfl, ⟨hc0, hc1, hsm, (Int.toNat_of_nonneg (nn _ _ _)).symm⟩, h _ H3 [] (s1.trans (s2.trans s3)) atC⟩
            · cases q
          · cases q
        · rename_i q
          split at q
          · split at q <;> cases q
          · cases q
        · exact h.elim
end
end L2.Pv

namespace L2.Pv
open PySem PySem.Spec PyProof.Rows

/-! ## storing -/
def nrmM : DV → Md → Md
  | .i _, _ => .own
  | _, m => m
def stF (Fs : Nat → List Addr) (i : Nat) (F : List Addr) : Nat → List Addr := fun j => if j = i then F else Fs j
theorem stF_same {Fs : Nat → List Addr} {i : Nat} {F : List Addr} : stF Fs i F i = F := if_pos rfl
theorem stF_ne {Fs : Nat → List Addr} {i j : Nat} {F : List Addr} (h : j ≠ i) : stF Fs i F j = Fs j := if_neg h
section
variable {K : PySem.W.Frag} {H0 Pz H H1 H2 : Hp} {T : Addr → Prop} {σ : St} {ρ : Env} {Fs : Nat → List Addr}
theorem ResOk.nrm {F : List Addr} {v : V} {d : DV} {m : Md} (r : RpD K H v d F) (o : ResOk H0 Pz T ρ Fs H F m) : ResOk H0 Pz T ρ Fs H F (nrmM d m) := by
  cases r with
  | i r => exact .nil
  | l => exact o
  | f => exact o
  | m => exact o
  | t => exact o
  | k => exact o
  | h => exact o
theorem EnvR.set (E : EnvR K H0 Pz T H σ ρ Fs) {i : Nat} {v : V} {d : DV} {m : Md} {F : List Addr} (hi : i < ρ.length) (r : RpD K H v d F) (o : ResOk H0 Pz T ρ Fs H F m) (hm : m ≠ .tmp) : EnvR K H0 Pz T H (σ.set i (some v)) (ρ.set i (some (d, m))) (stF Fs i F) where
  h0 := E.h0
  pz := E.pz
  tn := E.tn
  th := E.th
  len := by rw [List.length_set, List.length_set]; exact E.len
  at_ := fun j d' m' h => by
    by_cases hj : j = i
    · subst hj
      rw [List.getElem?_set_self hi] at h
      cases h
      rw [stF_same]
      exact ⟨v, List.getElem?_set_self (by rw [← E.len]; exact hi), r⟩
    · rw [List.getElem?_set_ne (fun z => hj z.symm)] at h
      rw [stF_ne hj, List.getElem?_set_ne (fun z => hj z.symm)]
      exact E.at_ j d' m' h
  fresh := fun j d' m' h hb => by
    by_cases hj : j = i
    · subst hj
      rw [List.getElem?_set_self hi] at h
      cases h
      rw [stF_same]
      exact o.fresh (by cases m <;> first | exact .inl rfl | exact .inr rfl | exact absurd rfl hb | exact absurd rfl hm)
    · rw [List.getElem?_set_ne (fun z => hj z.symm)] at h
      rw [stF_ne hj]
      exact E.fresh j d' m' h hb
  top := fun j d' h a G e => by
    by_cases hj : j = i
    · subst hj
      rw [List.getElem?_set_self hi] at h
      cases h
      rw [stF_same] at e
      obtain ⟨h1, h2, h3⟩ := o.top rfl a G e
      exact ⟨h1, h2, fun k hk => by rw [stF_ne hk]; exact h3 k⟩
    · rw [List.getElem?_set_ne (fun z => hj z.symm)] at h
      rw [stF_ne hj] at e
      obtain ⟨h1, h2, h3⟩ := E.top j d' h a G e
      refine ⟨h1, h2, fun k hk => ?_⟩
      by_cases hk' : k = i
      · subst hk'
        rw [stF_same]
        exact (o.notops hm).1 j d' h a G e
      · rw [stF_ne hk']
        exact h3 k hk
  tt := fun a ta j => by
    by_cases hj : j = i
    · subst hj
      rw [stF_same]
      exact (o.notops hm).2 a ta
    · rw [stF_ne hj]
      exact E.tt a ta j
  nil := fun j h => by
    by_cases hj : j = i
    · subst hj
      exact absurd (List.getElem?_set_self hi) (h d m)
    · rw [stF_ne hj]
      refine E.nil j fun d' m' z => h d' m' ?_
      rw [List.getElem?_set_ne (fun z => hj z.symm)]
      exact z
end
/-! ## targets -/
abbrev TF := DV × Md → Env → Option Env
abbrev TFs := List IV → Env → Option Env
structure Agr (vs : List Nat) (σ σ' : St) (ρ ρ' : Env) (Fs Fs' : Nat → List Addr) : Prop where
  len : σ'.length = σ.length
  at_ : ∀ j, j ∉ vs → σ'[j]? = σ[j]? ∧ ρ'[j]? = ρ[j]? ∧ Fs' j = Fs j
theorem Agr.refl {vs : List Nat} {σ : St} {ρ : Env} {Fs : Nat → List Addr} : Agr vs σ σ ρ ρ Fs Fs := ⟨rfl, fun _ _ => ⟨rfl, rfl, rfl⟩⟩
theorem Agr.trans {vs : List Nat} {σ σ1 σ2 : St} {ρ ρ1 ρ2 : Env} {Fs Fs1 Fs2 : Nat → List Addr} (a : Agr vs σ σ1 ρ ρ1 Fs Fs1) (b : Agr vs σ1 σ2 ρ1 ρ2 Fs1 Fs2) : Agr vs σ σ2 ρ ρ2 Fs Fs2 :=
  ⟨b.len.trans a.len, fun j hj => ⟨(b.at_ j hj).1.trans (a.at_ j hj).1, (b.at_ j hj).2.1.trans (a.at_ j hj).2.1, (b.at_ j hj).2.2.trans (a.at_ j hj).2.2⟩⟩
def tgv (K : PySem.W.Frag) (vs : List Nat) (t : TF) : TG := fun v σ H Q => ∃ H0 Pz T ρ Fs x F, EnvR K H0 Pz T H σ ρ Fs ∧ RpD K H v x.1 F ∧ ResOk H0 Pz T ρ Fs H F x.2 ∧ x.2 ≠ .tmp ∧ match t x ρ with
  | some ρ' => ∀ σ' H' Fs', Same H H' → EnvR K H0 Pz T H' σ' ρ' Fs' → Agr vs σ σ' ρ ρ' Fs Fs' → Q σ' H'
  | none => False
def PGv (X : Cx) (vs : List Nat) (tg : Expr) (t : TF) : Prop := PG X tg (tgv X.K vs t)
def tgsv (K : PySem.W.Frag) (vs : List Nat) (t : TFs) : TGs := fun us σ H Q => ∃ H0 Pz T ρ Fs xs, EnvR K H0 Pz T H σ ρ Fs ∧ RpIs K H us xs ∧ match t xs ρ with
  | some ρ' => ∀ σ' H' Fs', Same H H' → EnvR K H0 Pz T H' σ' ρ' Fs' → Agr vs σ σ' ρ ρ' Fs Fs' → Q σ' H'
  | none => False
def PGsv (X : Cx) (vs : List Nat) (ts : List Expr) (t : TFs) : Prop := PGs X ts (tgsv X.K vs t)
theorem PG.imp {X : Cx} {e : Expr} {t t' : TG} (h : PG X e t) (k : ∀ v σ H Q, t' v σ H Q → t v σ H Q) : PG X e t' := ⟨fun pins s σ H v u Q I r q => h.run pins s σ H v u Q I r (k v σ H Q q)⟩
theorem PGs.imp {X : Cx} {e : List Expr} {t t' : TGs} (h : PGs X e t) (k : ∀ v σ H Q, t' v σ H Q → t v σ H Q) : PGs X e t' := ⟨fun pins s σ H v u Q I r q => h.run pins s σ H v u Q I r (k v σ H Q q)⟩
def tName (i : Nat) : TF := fun x ρ => if i < ρ.length then some (ρ.set i (some (x.1, nrmM x.1 x.2))) else none
def tsNil : TFs := fun xs ρ => match xs with
  | [] => some ρ
  | _ => none
def tsCons (t : TF) (ts : TFs) : TFs := fun xs ρ => match xs with
  | x :: r => (t (.i x, .own) ρ).bind (ts r)
  | [] => none
/-- a tuple, or a list, of that length -/
def tTupT (n : Nat) (ts : TFs) : TF := fun x ρ => match x.1 with
  | .i (.tup xs) => if xs.length = n then ts xs ρ else none
  | .l xs => if xs.length = n then ts xs ρ else none
  | _ => none
section
variable {X : Cx} {pos : Pos} {vs : List Nat}
theorem gv_name {i : Nat} {x : Str} (hN : X.N.Nodup) (hi : X.N[i]? = some x) (hx : Loc X.env.scope x) (hv : i ∈ vs) (hf : X.fn x = true ∨ X.env.scope.names.lookup x = some .local := by first | exact .inl rfl | exact .inr rfl | assumption) : PGv X vs (.Name x pos) (tName i) :=
  PG.imp (pg_name hN hi hx hf) fun v σ H Q h => by
    obtain ⟨H0, Pz, T, ρ, Fs, x, F, E, r, o, hm, h⟩ := h
    unfold tName at h
    by_cases hl : i < ρ.length
    · rw [if_pos hl] at h
      refine h _ H _ (fun _ _ z => z) (E.set hl r (o.nrm r) ?_) ⟨by rw [List.length_set], fun j hj => ?_⟩
      · cases x with
        | mk d m => cases d <;> first | exact hm | (intro z; cases z)
      · have ne : i ≠ j := fun z => hj (z ▸ hv)
        rw [List.getElem?_set_ne ne, List.getElem?_set_ne ne, stF_ne (fun z => ne z.symm)]
        exact ⟨rfl, rfl, rfl⟩
    · rw [if_neg hl] at h; exact h.elim
theorem gsv_nil : PGsv X vs [] tsNil := PGs.imp pgs_nil fun us σ H Q h => by
  obtain ⟨H0, Pz, T, ρ, Fs, xs, E, r, h⟩ := h
  cases r with
  | nil => exact ⟨rfl, h σ H Fs (fun _ _ z => z) E .refl⟩
  | cons a b => exact h.elim
theorem gsv_cons {e : Expr} {es : List Expr} {t : TF} {ts : TFs} (h1 : PGv X vs e t) (h2 : PGsv X vs es ts)
    (hs : (assignEach (e :: es) X.env).map (·.2) = assign e X.env :: (assignEach es X.env).map (·.2) := by rfl) : PGsv X vs (e :: es) (tsCons t ts) :=
  PGs.imp (pgs_cons h1 h2 hs) fun us σ H Q h => by
    obtain ⟨H0, Pz, T, ρ, Fs, xs, E, r, h⟩ := h
    cases r with
    | nil => exact h.elim
    | @cons v us x xs a b =>
      refine ⟨v, us, rfl, H0, Pz, T, ρ, Fs, (.i x, .own), [], E, .i a, .nil, (by intro z; cases z), ?_⟩
      unfold tsCons at h
      simp only at h
      cases e1 : t (.i x, .own) ρ with
      | none => rw [e1] at h; exact h
      | some ρ1 =>
        rw [e1] at h
        refine fun σ1 H1 Fs1 s1 E1 A1 => ⟨H0, Pz, T, ρ1, Fs1, xs, E1, b.same s1, ?_⟩
        have h' : match ts xs ρ1 with
          | some ρ' => ∀ σ' H' Fs', Same H H' → EnvR X.K H0 Pz T H' σ' ρ' Fs' → Agr vs σ σ' ρ ρ' Fs Fs' → Q σ' H'
          | none => False := h
        cases e2 : ts xs ρ1 with
        | none => rw [e2] at h'; exact h'
        | some ρ2 =>
          rw [e2] at h'
          exact fun σ' H' Fs' s' E' A' => h' σ' H' Fs' (s1.trans s') E' (A1.trans A')
theorem gv_tup {es : List Expr} {k n : Nat} {ts : TFs} (hc : X.calm = true) (h : PGsv X vs es ts)
    (hn : (assignEach es X.env).length = n := by rfl) (hst : (assignEach es X.env).findIdx? (·.1) = none := by rfl) : PGv X vs (.Tuple es k pos) (tTupT n ts) := by
  have go : PG X (.Tuple es k pos) (fun v σ H Q => gTup X.K n (tgsv X.K vs ts) v σ H Q ∨ gLst X.K n (tgsv X.K vs ts) v σ H Q) := ⟨fun pins s σ H v u Q I r q => by
    rcases q with q | q
    · exact (pg_tup hc h hn hst).run pins s σ H v u Q I r q
    · exact (pg_lst hc h hn hst).run pins s σ H v u Q I r q⟩
  refine PG.imp go fun v σ H Q h => ?_
  obtain ⟨H0, Pz, T, ρ, Fs, x, F, E, r, o, hm, h⟩ := h
  obtain ⟨x, m⟩ := x
  unfold tTupT at h
  simp only at r h
  split at h
  · rename_i q
    split at q
    · split at q
      · rename_i hl
        cases r with
        | i r =>
          cases r with
          | tup s t => exact .inl ⟨_, _, rfl, SqT.of s, by rw [t.length]; exact hl, H0, Pz, T, ρ, Fs, _, E, t, by rw [q]; exact h⟩
      · cases q
    · split at q
      · rename_i hl
        cases r with
        | l s t => exact .inr ⟨_, _, rfl, SqL.of s, by rw [t.length]; exact hl, H0, Pz, T, ρ, Fs, _, E, t, by rw [q]; exact h⟩
      · cases q
    · cases q
  · exact h.elim
end

/-! ## comprehensions -/
def wipeE (ρ : Env) : List Nat → Env
  | [] => ρ
  | v :: vs => (wipeE ρ vs).set v none
theorem wipeE_length (ρ : Env) : ∀ vs : List Nat, (wipeE ρ vs).length = ρ.length
  | [] => rfl
  | v :: vs => by unfold wipeE; rw [List.length_set, wipeE_length ρ vs]
theorem wipe_at {σ : St} {j : Nat} : ∀ {vs : List Nat}, (wipe σ vs)[j]? = if j ∈ vs then (if j < σ.length then some none else none) else σ[j]?
  | [] => by simp [wipe]
  | v :: vs => by
    unfold wipe
    by_cases hj : v = j
    · subst hj
      rw [if_pos List.mem_cons_self]
      by_cases hl : v < σ.length
      · rw [if_pos hl, List.getElem?_set_self (by rw [wipe_length]; exact hl)]
      · rw [if_neg hl, List.getElem?_eq_none (by rw [List.length_set, wipe_length]; omega)]
    · rw [List.getElem?_set_ne hj, wipe_at (vs := vs)]
      have : j ∈ v :: vs ↔ j ∈ vs := ⟨fun h => (List.mem_cons.mp h).resolve_left fun z => hj z.symm, List.mem_cons_of_mem _⟩
      by_cases hm : j ∈ vs
      · rw [if_pos hm, if_pos (this.mpr hm)]
      · rw [if_neg hm, if_neg (fun z => hm (this.mp z))]
theorem wipeE_at {σ : Env} {j : Nat} : ∀ {vs : List Nat}, (wipeE σ vs)[j]? = if j ∈ vs then (if j < σ.length then some none else none) else σ[j]?
  | [] => by simp [wipeE]
  | v :: vs => by
    unfold wipeE
    by_cases hj : v = j
    · subst hj
      rw [if_pos List.mem_cons_self]
      by_cases hl : v < σ.length
      · rw [if_pos hl, List.getElem?_set_self (by rw [wipeE_length]; exact hl)]
      · rw [if_neg hl, List.getElem?_eq_none (by rw [List.length_set, wipeE_length]; omega)]
    · rw [List.getElem?_set_ne hj, wipeE_at (vs := vs)]
      have : j ∈ v :: vs ↔ j ∈ vs := ⟨fun h => (List.mem_cons.mp h).resolve_left fun z => hj z.symm, List.mem_cons_of_mem _⟩
      by_cases hm : j ∈ vs
      · rw [if_pos hm, if_pos (this.mpr hm)]
      · rw [if_neg hm, if_neg (fun z => hm (this.mp z))]
theorem wipe_agr {σ σ' : St} {vs : List Nat} (hl : σ'.length = σ.length) (h : ∀ j, j ∉ vs → σ'[j]? = σ[j]?) : wipe σ' vs = wipe σ vs := by
  apply List.ext_getElem?
  intro j
  rw [wipe_at, wipe_at, hl]
  by_cases hm : j ∈ vs
  · rw [if_pos hm, if_pos hm]
  · rw [if_neg hm, if_neg hm, h j hm]
/-- the new list, and what the wiped names own -/
def TB (T : Addr → Prop) (ρ : Env) (Fs : Nat → List Addr) (vs : List Nat) (D : Addr) : Addr → Prop := fun a => T a ∨ a = D ∨ ∃ k d G, k ∈ vs ∧ ρ[k]? = some (some (d, .own)) ∧ Fs k = a :: G
def wF (Fs : Nat → List Addr) (vs : List Nat) : Nat → List Addr := fun j => if j ∈ vs then [] else Fs j
section
variable {K : PySem.W.Frag} {H0 Pz H H1 H2 : Hp} {T : Addr → Prop} {σ : St} {ρ : Env} {Fs : Nat → List Addr} {vs : List Nat} {D : Addr}
theorem wipeE_some {j : Nat} {d : DV} {m : Md} (h : (wipeE ρ vs)[j]? = some (some (d, m))) : ρ[j]? = some (some (d, m)) ∧ j ∉ vs := by
  rw [wipeE_at] at h
  by_cases hm : j ∈ vs
  · rw [if_pos hm] at h
    split at h <;> cases h
  · rw [if_neg hm] at h
    exact ⟨h, hm⟩
theorem EnvR.blk (E : EnvR K H0 Pz T H σ ρ Fs) (hD : Mb H D) (hP : Pz D = none) (hF : ∀ j, D ∉ Fs j) : EnvR K H0 Pz (TB T ρ Fs vs D) H (wipe σ vs) (wipeE ρ vs) (wF Fs vs) where
  h0 := E.h0
  pz := E.pz
  tn := fun a h => by
    rcases h with h | h | ⟨k, d, G, h1, h2, h3⟩
    · exact E.tn a h
    · subst h; exact hP
    · exact (E.top k d h2 a G h3).1
  th := fun a h => by
    rcases h with h | h | ⟨k, d, G, h1, h2, h3⟩
    · exact E.th a h
    · subst h; exact hD
    · exact (E.fresh k d .own h2 (by intro z; cases z) a (by rw [h3]; exact List.mem_cons_self)).2
  len := by rw [wipe_length, wipeE_length]; exact E.len
  at_ := fun j d m h => by
    obtain ⟨h1, h2⟩ := wipeE_some h
    unfold wF
    rw [if_neg h2, wipe_at, if_neg h2]
    exact E.at_ j d m h1
  fresh := fun j d m h hb => by
    obtain ⟨h1, h2⟩ := wipeE_some h
    unfold wF
    rw [if_neg h2]
    exact E.fresh j d m h1 hb
  top := fun j d h a G e => by
    obtain ⟨h1, h2⟩ := wipeE_some h
    unfold wF at e
    rw [if_neg h2] at e
    obtain ⟨q1, q2, q3⟩ := E.top j d h1 a G e
    refine ⟨q1, q2, fun k hk => ?_⟩
    unfold wF
    split
    · intro z; cases z
    · exact q3 k hk
  tt := fun a h j => by
    unfold wF
    split
    · intro z; cases z
    · rename_i hj
      rcases h with h | h | ⟨k, d, G, h1, h2, h3⟩
      · exact E.tt a h j
      · subst h; exact hF j
      · exact (E.top k d h2 a G h3).2.2 j fun z => hj (z ▸ h1)
  nil := fun j h => by
    unfold wF
    split
    · rfl
    · rename_i hj
      refine E.nil j fun d m z => h d m ?_
      rw [wipeE_at, if_neg hj]
      exact z
/-- an item in the block -/
theorem ResOk.inBlk {F : List Addr} {m : Md} (o : ResOk H0 Pz T ρ Fs H F m) (hD : D ∉ F) (hm : m ≠ .tmp) (hw : m = .own → F = []) : ResOk H0 Pz (TB T ρ Fs vs D) (wipeE ρ vs) (wF Fs vs) H F m := by
  by_cases ho : m = .own
  · rw [hw ho]; exact .nil
  · have n := o.notops hm
    refine ⟨o.fresh, fun z => absurd z ho, fun _ => ⟨fun k d hk a G e => ?_, fun a h => ?_⟩, fun z => absurd z hm⟩
    · obtain ⟨h1, h2⟩ := wipeE_some hk
      unfold wF at e
      rw [if_neg h2] at e
      exact n.1 k d h1 a G e
    · rcases h with h | h | ⟨k, d, G, h1, h2, h3⟩
      · exact n.2 a h
      · subst h; exact hD
      · exact n.1 k d h2 a G h3
def demM : DV → Md → Md
  | .i _, _ => .own
  | _, .own => .loc
  | _, m => m
/-- a made item, outside the block -/
theorem ResOk.outBlk {ρ1 : Env} {Fs1 : Nat → List Addr} {σ1 : St} {F : List Addr} {v : V} {d : DV} {m : Md} (A : Agr vs (wipe σ vs) σ1 (wipeE ρ vs) ρ1 (wF Fs vs) Fs1) (r : RpD K H v d F) (o : ResOk H0 Pz (TB T ρ Fs vs D) ρ1 Fs1 H F m) (hm : demM d m ≠ .tmp) :
    ResOk H0 Pz (fun a => T a ∨ a = D) ρ Fs H F (demM d m) := by
  have go : m ≠ .tmp → (demM d m = .loc → m = .own ∨ m = .loc) → demM d m ≠ .own → ResOk H0 Pz (fun a => T a ∨ a = D) ρ Fs H F (demM d m) := fun h1 h2 h3 => by
    have n := o.notops h1
    refine ⟨fun z => ?_, fun z => absurd z h3, fun _ => ⟨fun k dk hk a G e => ?_, fun a h => n.2 a (h.elim .inl fun z => .inr (.inl z))⟩, fun z => absurd z hm⟩
    · rcases z with z | z
      · exact absurd z h3
      · exact o.fresh (h2 z)
    · by_cases hv : k ∈ vs
      · exact n.2 a (.inr (.inr ⟨k, dk, G, hv, hk, e⟩))
      · obtain ⟨_, q2, q3⟩ := A.at_ k hv
        refine n.1 k dk ?_ a G ?_
        · rw [q2, wipeE_at, if_neg hv]; exact hk
        · rw [q3]; unfold wF; rw [if_neg hv]; exact e
  cases r with
  | i r => exact .nil
  | l => cases m <;> first | exact absurd rfl hm | exact go (by intro z; cases z) (fun _ => .inl rfl) (by intro z; cases z) | exact go (by intro z; cases z) (fun _ => .inr rfl) (by intro z; cases z) | exact go (by intro z; cases z) (fun z => (nomatch z)) (by intro z; cases z) | exact absurd rfl hm
  | f => cases m <;> first | exact absurd rfl hm | exact go (by intro z; cases z) (fun _ => .inl rfl) (by intro z; cases z) | exact go (by intro z; cases z) (fun _ => .inr rfl) (by intro z; cases z) | exact go (by intro z; cases z) (fun z => (nomatch z)) (by intro z; cases z) | exact absurd rfl hm
  | m => cases m <;> first | exact absurd rfl hm | exact go (by intro z; cases z) (fun _ => .inl rfl) (by intro z; cases z) | exact go (by intro z; cases z) (fun _ => .inr rfl) (by intro z; cases z) | exact go (by intro z; cases z) (fun z => (nomatch z)) (by intro z; cases z) | exact absurd rfl hm
  | t => cases m <;> first | exact absurd rfl hm | exact go (by intro z; cases z) (fun _ => .inl rfl) (by intro z; cases z) | exact go (by intro z; cases z) (fun _ => .inr rfl) (by intro z; cases z) | exact go (by intro z; cases z) (fun z => (nomatch z)) (by intro z; cases z) | exact absurd rfl hm
  | k => cases m <;> first | exact absurd rfl hm | exact go (by intro z; cases z) (fun _ => .inl rfl) (by intro z; cases z) | exact go (by intro z; cases z) (fun _ => .inr rfl) (by intro z; cases z) | exact go (by intro z; cases z) (fun z => (nomatch z)) (by intro z; cases z) | exact absurd rfl hm
  | h => cases m <;> first | exact absurd rfl hm | exact go (by intro z; cases z) (fun _ => .inl rfl) (by intro z; cases z) | exact go (by intro z; cases z) (fun _ => .inr rfl) (by intro z; cases z) | exact go (by intro z; cases z) (fun z => (nomatch z)) (by intro z; cases z) | exact absurd rfl hm
/-- .. while the new list grows -/
theorem ArgsOk.updD {acc' : List V} {acc : List V} (hD : H D = some (.lst acc)) : ∀ {vs : List V} {xs : List (DV × Md)}, ArgsOk K H0 Pz (fun a => T a ∨ a = D) ρ Fs H vs xs → (∀ x ∈ xs, x.2 ≠ .tmp) → ArgsOk K H0 Pz (fun a => T a ∨ a = D) ρ Fs (upd H D (.lst acc')) vs xs
  | _, [], h, _ => by cases h; exact .nil
  | _, x :: xs, h, hm => by
    cases h with
    | @cons v vs _ _ F a b c =>
      have n : D ∉ F := (b.notops (hm x List.mem_cons_self)).2 D (.inr rfl)
      have ne : ∀ c ∈ F, c ≠ D := fun c hc z => n (by rw [← z]; exact hc)
      refine .cons (a.mono (upd_tkeep hD) fun c hc => upd_ne (ne c hc)) ⟨fun z c hc => ?_, b.top, b.notops, b.tmp⟩ (ArgsOk.updD hD c fun y hy => hm y (List.mem_cons_of_mem _ hy))
      obtain ⟨h1, us, h2⟩ := b.fresh z c hc
      exact ⟨h1, us, by rw [upd_ne (ne c hc)]; exact h2⟩
theorem ArgsOk.snoc : ∀ {vs : List V} {xs : List (DV × Md)} {v : V} {x : DV × Md} {F : List Addr}, ArgsOk K H0 Pz T ρ Fs H vs xs → RpD K H v x.1 F → ResOk H0 Pz T ρ Fs H F x.2 → ArgsOk K H0 Pz T ρ Fs H (vs ++ [v]) (xs ++ [x])
  | _, [], _, _, _, h, r, o => by cases h; exact .cons r o .nil
  | _, _ :: _, _, _, _, h, r, o => by
    cases h with
    | cons a b c => exact .cons a b (ArgsOk.snoc c r o)
theorem ArgsOk.weakT {T' : Addr → Prop} (ht : ∀ a, T' a → T a) : ∀ {vs : List V} {xs : List (DV × Md)}, ArgsOk K H0 Pz T ρ Fs H vs xs → ArgsOk K H0 Pz T' ρ Fs H vs xs
  | _, [], h => by cases h; exact .nil
  | _, _ :: _, h => by
    cases h with
    | cons a b c => exact .cons a ⟨b.fresh, b.top, fun z => ⟨(b.notops z).1, fun a' ta => (b.notops z).2 a' (ht a' ta)⟩, b.tmp⟩ (ArgsOk.weakT ht c)
end
def bindB {α β : Type} (x : R α) (f : α → R β) : R β := match x with
  | .ok a => f a
  | _ => .bad
/-- the items that a comprehension makes -/
def compF (t : TF) (tt : FT) (el : FE) (ρw : Env) : List (DV × Md) → R (List (DV × Md))
  | [] => .ok []
  | x :: r => match t x ρw with
    | none => .bad
    | some ρ1 => bindB (tt ρ1) fun b => if b then bindB (el ρ1) fun y => if demM y.1 y.2 = .tmp then .bad else bindB (compF t tt el ρw r) fun ys => .ok ((y.1, demM y.1 y.2) :: ys) else compF t tt el ρw r
def finI (xs : List (DV × Md)) : R (DV × Md) := match allI xs with
  | some ys => .ok (.l ys, .own)
  | none => .bad
def finM (xs : List (DV × Md)) : R (DV × Md) := match mdL xs with
  | .tmp => .bad
  | m => .ok (.m (xs.map (·.1)), m)
def eComp (src : FI) (vs : List Nat) (t : TF) (tt : FT) (el : FE) (fin : List (DV × Md) → R (DV × Md)) : FE := fun ρ => (src ρ).bind fun it => if it.1.length ≤ 16777216 then (compF t tt el (wipeE ρ vs) it.1).bind fin else .bad
theorem compF_tmp {t : TF} {tt : FT} {el : FE} {ρw : Env} : ∀ {its ys : List (DV × Md)}, compF t tt el ρw its = .ok ys → ∀ x ∈ ys, x.2 ≠ .tmp
  | [], ys, h => by cases h; intro x hx; cases hx
  | x :: r, ys, h => by
    unfold compF at h
    split at h
    · cases h
    · rename_i ρ1 _
      cases e1 : tt ρ1 with
      | bad => rw [e1] at h; cases h
      | ex c p => rw [e1] at h; cases h
      | ok b =>
        rw [e1] at h
        simp only [bindB] at h
        cases b with
        | false => exact compF_tmp (by simpa using h)
        | true =>
          simp only [if_true] at h
          cases e2 : el ρ1 with
          | bad => rw [e2] at h; cases h
          | ex c p => rw [e2] at h; cases h
          | ok y =>
            rw [e2] at h
            simp only at h
            split at h
            · cases h
            · rename_i hd
              cases e3 : compF t tt el ρw r with
              | bad => rw [e3] at h; cases h
              | ex c p => rw [e3] at h; cases h
              | ok zs =>
                rw [e3] at h
                simp only at h
                cases h
                intro z hz
                rcases List.mem_cons.mp hz with e | hz
                · subst e; exact hd
                · exact compF_tmp e3 z hz
def FinOk (fin : List (DV × Md) → R (DV × Md)) : Prop := (∀ xs c p, fin xs ≠ .ex c p) ∧ ∀ (K : PySem.W.Frag) (H0 Pz H H' : Hp) (T : Addr → Prop) (σ : St) (ρ : Env) (Fs : Nat → List Addr) (D : Addr) (acc : List V) (xs : List (DV × Md)) (z : DV × Md),
  EnvR K H0 Pz T H σ ρ Fs → H D = none → Same H H' → H' D = some (.lst acc) → ArgsOk K H0 Pz (fun a => T a ∨ a = D) ρ Fs H' acc xs → fin xs = .ok z → ∃ F, RpD K H' (.ref D) z.1 F ∧ ResOk H0 Pz T ρ Fs H' F z.2
theorem finI_ok : FinOk finI := by
  refine ⟨fun xs c p => ?_, ?_⟩
  · unfold finI
    split <;> intro h <;> cases h
  intro K H0 Pz H H' T σ ρ Fs D acc xs z E hD sm hD' ao e
  unfold finI at e
  split at e
  · rename_i ys ey
    cases e
    refine ⟨[D], .l hD' (ao.allI ey), .new E (fun a ha => ?_) fun a G e => ?_⟩
    · cases List.mem_singleton.mp ha
      exact ⟨hD, mb_l hD'⟩
    · cases e; intro z; cases z
  · cases e
theorem finM_ok : FinOk finM := by
  refine ⟨fun xs c p => ?_, ?_⟩
  · unfold finM
    split <;> intro h <;> cases h
  intro K H0 Pz H H' T σ ρ Fs D acc xs z E hD sm hD' ao e
  obtain ⟨F, r, nt, fr, mm⟩ := ao.all
  have no : ∀ {G : Hp}, Same G H → G D = none := fun {G} e => by
    cases q : G D with
    | none => rfl
    | some o => rw [e _ _ q] at hD; cases hD
  have nofs : ∀ j, D ∉ Fs j := fun j h => by
    obtain ⟨o, q⟩ := E.dom j D h
    rw [hD] at q; cases q
  unfold finM at e
  have key : ∀ m, m = .own ∨ m = .bor → mdL xs = m → ∃ G, RpD K H' (.ref D) (.m (xs.map (·.1))) G ∧ ResOk H0 Pz T ρ Fs H' G m := fun m hm em => by
    have n := nt (by rw [em]; rcases hm with q | q <;> (rw [q]; intro z; cases z))
    have nD : D ∉ F := n.2 D (.inr rfl)
    refine ⟨D :: F, .m hD' r, ⟨fun z a ha => ?_, fun z a G e => ?_, fun z => ⟨fun k d hk a G e ha => ?_, fun a ta ha => ?_⟩, fun z => ?_⟩⟩
    · have z : m = .own := by
        rcases z with z | z
        · exact z
        · rcases hm with q | q <;> (rw [q] at z; cases z)
      rcases List.mem_cons.mp ha with e | ha
      · subst e
        exact ⟨no (E.h0.trans E.pz), mb_l hD'⟩
      · exact fr (by rw [em]; exact z) a ha
    · cases e
      exact ⟨no E.pz, nD, nofs⟩
    · rcases List.mem_cons.mp ha with e' | ha
      · subst e'
        exact nofs k (by rw [e]; exact List.mem_cons_self)
      · exact n.1 k d hk a G e ha
    · rcases List.mem_cons.mp ha with e' | ha
      · subst e'
        obtain ⟨o, q⟩ := (E.th a ta).some
        rw [hD] at q; cases q
      · exact n.2 a (.inl ta) ha
    · rcases hm with q | q <;> (rw [q] at z; cases z)
  rcases mm with q | q | q
  · rw [q] at e; cases e; exact key .own (.inl rfl) q
  · rw [q] at e; cases e; exact key .bor (.inr rfl) q
  · rw [q] at e; cases e
theorem comp_imp {K : PySem.W.Frag} {mg : MG} {W : WX} {src : FI} {vs : List Nat} {t : TF} {tt : FT} {el : FE} {fin : List (DV × Md) → R (DV × Md)} (hfin : FinOk fin) (σ : St) (H : Hp) (Q : VK) (h : tev K mg W (eComp src vs t tt el fin) σ H Q) :
    tLc (tiv K mg W src) (tgv K vs t) (ttv K mg (fun _ _ _ _ => False) tt) (tev K mg (fun _ _ _ _ => False) el) vs σ H Q := by
  obtain ⟨H0, Pz, T, ρ, Fs, E, h⟩ := h
  refine ⟨H0, Pz, T, ρ, Fs, E, ?_⟩
  cases e1 : src ρ with
  | bad => simp only [eComp, e1, R.bind] at h
  | ex c p => simp only [eComp, e1, R.bind] at h; exact h
  | ok it =>
    obtain ⟨items, m⟩ := it
    simp only [eComp, e1, R.bind] at h
    by_cases hlen : items.length ≤ 16777216
    · rw [if_pos hlen] at h
      cases e2 : compF t tt el (wipeE ρ vs) items with
      | bad => rw [e2] at h; exact h.elim
      | ex c p =>
        exfalso
        have nx : ∀ its, compF t tt el (wipeE ρ vs) its ≠ .ex c p := by
          intro its
          induction its with
          | nil => intro z; cases z
          | cons x r ih =>
            intro z
            unfold compF at z
            split at z
            · cases z
            · rename_i ρ1 _
              cases q1 : tt ρ1 with
              | bad => rw [q1] at z; cases z
              | ex c p => rw [q1] at z; cases z
              | ok b =>
                rw [q1] at z
                simp only [bindB] at z
                cases b with
                | false => exact ih (by simpa using z)
                | true =>
                  simp only [if_true] at z
                  cases q2 : el ρ1 with
                  | bad => rw [q2] at z; cases z
                  | ex c p => rw [q2] at z; cases z
                  | ok y =>
                    rw [q2] at z
                    simp only at z
                    split at z
                    · cases z
                    · cases q3 : compF t tt el (wipeE ρ vs) r with
                      | bad => rw [q3] at z; cases z
                      | ex c p => rw [q3] at z; cases z
                      | ok zs => rw [q3] at z; cases z
        exact nx items e2
      | ok total =>
        rw [e2] at h
        simp only at h
        intro J H1 P s1 wk D hD
        have E1 := E.same s1
        have hPD : Pz D = none := by
          cases q : Pz D with
          | none => rfl
          | some o => rw [E1.pz _ _ q] at hD; cases hD
        have hFD : ∀ j, D ∉ Fs j := fun j hj => by
          obtain ⟨o, q⟩ := E1.dom j D hj
          rw [hD] at q; cases q
        have hDP : D ∉ P := fun hj => by
          obtain ⟨o, q⟩ := wk.dom D hj
          rw [hD] at q; cases q
        refine ⟨fun i mm Hc => mm = items.length - i ∧ i ≤ items.length ∧ Same H1 Hc ∧ ∃ acc done rest, Hc D = some (.lst acc) ∧ acc.length ≤ i ∧ ArgsOk K H0 Pz (fun a => T a ∨ a = D) ρ Fs Hc acc done ∧ (∀ x ∈ done, x.2 ≠ .tmp) ∧ compF t tt el (wipeE ρ vs) (items.drop i) = .ok rest ∧ done ++ rest = total,
          ⟨items.length, by simp, Nat.zero_le _, same_upd hD, [], [], total, upd_same, Nat.zero_le _, .nil, fun _ z => (nomatch z), e2, rfl⟩, ?_⟩
        rintro i mm Hc ⟨rfl, hi, sc, acc, done, rest, hDc, hal, ao, nt, er, et⟩
        have kp : Keep H1 Hc P := .of_same sc wk.dom
        by_cases hlt : i < items.length
        · right
          refine ⟨wk.go i Hc kp hlt, fun H' => ∃ mm', mm' < items.length - i ∧ (mm' = items.length - (i + 1) ∧ i + 1 ≤ items.length ∧ Same H1 H' ∧ ∃ acc done rest, H' D = some (.lst acc) ∧ acc.length ≤ i + 1 ∧ ArgsOk K H0 Pz (fun a => T a ∨ a = D) ρ Fs H' acc done ∧ (∀ x ∈ done, x.2 ≠ .tmp) ∧ compF t tt el (wipeE ρ vs) (items.drop (i + 1)) = .ok rest ∧ done ++ rest = total), fun H' z => z, fun x H' y => ?_⟩
          have hget : items[i]? = some items[i] := List.getElem?_eq_getElem hlt
          obtain ⟨s2, ⟨F, r2, o2, hFP, hw, hnt⟩⟩ := wk.yld i Hc x H' kp y items[i] hget
          have hdrop : items.drop i = items[i] :: items.drop (i + 1) := List.drop_eq_getElem_cons hlt
          rw [hdrop] at er
          have E2 := (E1.same sc).same s2
          refine ⟨H0, Pz, TB T ρ Fs vs D, wipeE ρ vs, wF Fs vs, items[i], F, E2.blk (mb_l (s2 _ _ hDc)) hPD hFD, r2, o2.inBlk (fun z => hDP (hFP D z)) hnt hw, hnt, ?_⟩
          unfold compF at er
          cases q0 : t items[i] (wipeE ρ vs) with
          | none => rw [q0] at er; cases er
          | some ρ1 =>
            rw [q0] at er
            simp only at er
            intro σ3 H3 Fs3 s3 E3 A3
            refine ⟨wipe_agr (by rw [A3.len, wipe_length]) fun j hj => by rw [(A3.at_ j hj).1, wipe_at, if_neg hj], ?_⟩
            cases q1 : tt ρ1 with
            | bad => rw [q1] at er; cases er
            | ex c p => rw [q1] at er; cases er
            | ok b =>
              rw [q1] at er
              simp only [bindB] at er
              refine ttv_ok E3 q1 fun H4 s4 E4 => ?_
              have hD4 : H4 D = some (.lst acc) := s4 _ _ (s3 _ _ (s2 _ _ hDc))
              have S4 : Same Hc H4 := s2.trans (s3.trans s4)
              cases b with
              | false =>
                simp only [Bool.false_eq_true, if_false] at er ⊢
                exact ⟨items.length - (i + 1), by omega, rfl, hlt, sc.trans S4, acc, done, rest, hD4, by omega, ao.same S4, nt, er, et⟩
              | true =>
                simp only [if_true] at er ⊢
                cases q2 : el ρ1 with
                | bad => rw [q2] at er; cases er
                | ex c p => rw [q2] at er; cases er
                | ok z =>
                  rw [q2] at er
                  simp only at er
                  split at er
                  · cases er
                  · rename_i hdm
                    cases q3 : compF t tt el (wipeE ρ vs) (items.drop (i + 1)) with
                    | bad => rw [q3] at er; cases er
                    | ex c p => rw [q3] at er; cases er
                    | ok ys =>
                      rw [q3] at er
                      simp only at er
                      cases er
                      refine tev_ok E4 q2 fun v H5 G s5 E5 r5 o5 => ?_
                      have hD5 : H5 D = some (.lst acc) := s5 _ _ hD4
                      have o5' := o5.outBlk A3 r5 hdm
                      refine ⟨acc, hD5, by rw [slEq]; omega, items.length - (i + 1), by omega, rfl, hlt, fun b o e => ?_, acc ++ [v], done ++ [(z.1, demM z.1 z.2)], ys, upd_same, by rw [List.length_append]; simp; omega, ?_, fun x hx => ?_, rfl, by rw [List.append_assoc]; exact et⟩
                      · have nb : b ≠ D := fun z => by rw [z, hD] at e; cases e
                        rw [upd_ne nb]
                        exact s5 _ _ (S4 _ _ (sc _ _ e))
                      · refine ArgsOk.updD hD5 (((ao.same (S4.trans s5))).snoc r5 o5') fun x hx => ?_
                        rcases List.mem_append.mp hx with hx | hx
                        · exact nt x hx
                        · cases List.mem_singleton.mp hx; exact hdm
                      · rcases List.mem_append.mp hx with hx | hx
                        · exact nt x hx
                        · cases List.mem_singleton.mp hx; exact hdm
        · left
          have ei : i = items.length := by omega
          subst ei
          rw [List.drop_length] at er
          cases er
          rw [List.append_nil] at et
          subst et
          refine ⟨wk.stop _ Hc kp rfl, ?_⟩
          cases e3 : fin done with
          | bad => rw [e3] at h; exact h.elim
          | ex c p => exact absurd e3 (hfin.1 _ _ _)
          | ok z =>
            rw [e3] at h
            obtain ⟨F, r, o⟩ := hfin.2 K H0 Pz H1 Hc T σ ρ Fs D acc done z E1 hD sc hDc ao e3
            exact h _ Hc F (s1.trans sc) r o
    · rw [if_neg hlen] at h; exact h.elim
def PTsv (X : Cx) (ifs : List Expr) (f : FT) : Prop := ∀ W, Takes X W → PTs X ifs (ttv X.K X.mg W f)
theorem PTs.imp {X : Cx} {e : List Expr} {t t' : TT} (h : PTs X e t) (k : ∀ σ H Q, t' σ H Q → t σ H Q) : PTs X e t' := ⟨fun pins s σ H Q I q => h.run pins s σ H Q I (k σ H Q q)⟩
def tYesF : FT := fun _ => .ok true
section
variable {X : Cx}
theorem tsv_nil : PTsv X [] tYesF := fun W tk => PTs.imp pts_nil fun σ H Q h => by
  obtain ⟨H0, Pz, T, ρ, Fs, E, h⟩ := h
  exact h H (fun _ _ z => z)
theorem tsv_one {c : Expr} {f : FT} (h : PTv X c f) : PTsv X [c] f := fun W tk => pts_one (h W tk)
theorem ev_comp {elt tg iter : Expr} {ifs : List Expr} {scope : Scope} {own : List (Str × Nat)} {pos : Pos} {src : FI} {t : TF} {tt : FT} {el : FE} {fin : List (DV × Md) → R (DV × Md)} (hfin : FinOk fin) (hc : X.calm = true) (hN : X.N.Nodup) (hi : PIv X tg iter src) (ok : BlkOk X.N X.env.scope scope own)
    (hg : ∀ (s : Shared) (H : Hp) (C : Addr) (cl : List (Str × Addr)) (fp : List Addr), PGv (X.blk s H scope (compEnvC scope cl C X.env) fp) (own.map (·.2)) tg t)
    (ht : ∀ (s : Shared) (H : Hp) (C : Addr) (cl : List (Str × Addr)) (fp : List Addr), PTsv (X.blk s H scope (compEnvC scope cl C X.env) fp) ifs tt)
    (he : ∀ (s : Shared) (H : Hp) (C : Addr) (cl : List (Str × Addr)) (fp : List Addr), PEv (X.blk s H scope (compEnvC scope cl C X.env) fp) elt el) (hs : ∀ x, foldedSetIterable iter X.env x = pure x := by intro _; rfl) :
    PEv X (.ListComp elt [⟨tg, iter, ifs, 0⟩] scope pos) (eComp src (own.map (·.2)) t tt el fin) := fun W tk =>
  PE.imp (pe_lc (g := tgv X.K (List.map (fun x : Str × Nat => x.2) own) t) hc hN (hi W tk) ok hg (fun s H C cl fp => ht s H C cl fp _ takes0) (fun s H C cl fp => he s H C cl fp _ takes0) hs) fun σ H Q h => comp_imp hfin σ H Q h
end
end L2.Pv

namespace L2.Pv
open PySem PySem.Spec PyProof.Rows

/-! ## statements -/
abbrev FS := Env → RS
def tsv (K : PySem.W.Frag) (mg : MG) (W : WX) (g : FS) : TS := fun D σ H => ∃ H0 Pz T ρ Fs, EnvR K H0 Pz T H σ ρ Fs ∧ match g ρ with
  | .nx ρ' => ∀ σ' H' Fs', EnvR K H0 Pz T H' σ' ρ' Fs' → D.nx σ' H'
  | .rt d => ∀ v H' F, Same H0 H' → RpD K H' v d F → RetOk H0 H' d F → D.rt v H'
  | .bk ρ' => ∀ σ' H' Fs', EnvR K H0 Pz T H' σ' ρ' Fs' → D.bk σ' H'
  | .ct ρ' => ∀ σ' H' Fs', EnvR K H0 Pz T H' σ' ρ' Fs' → D.ct σ' H'
  | .ex c p ρ' => ∀ C d σ' H' Fs', mg c = some (.ref C) → EnvR K H0 Pz T H' σ' ρ' Fs' → ExD K H' d p → W (.ref C) d σ' H'
  | .bad => False
def PSv (X : Cx) (s : Stmt) (g : FS) : Prop := ∀ W, Takes X W → PS X s (tsv X.K X.mg W g)
def PSsv (X : Cx) (s : List Stmt) (g : FS) : Prop := ∀ W, Takes X W → PSs X s (tsv X.K X.mg W g)
theorem PS.imp {X : Cx} {e : Stmt} {t t' : TS} (h : PS X e t) (k : ∀ D σ H, t' D σ H → t D σ H) : PS X e t' := ⟨fun pins s σ H D I q => h.run pins s σ H D I (k D σ H q)⟩
theorem PSs.imp {X : Cx} {e : List Stmt} {t t' : TS} (h : PSs X e t) (k : ∀ D σ H, t' D σ H → t D σ H) : PSs X e t' := ⟨fun pins s σ H D I q => h.run pins s σ H D I (k D σ H q)⟩
section
variable {K : PySem.W.Frag} {mg : MG} {W : WX} {σ : St} {H H0 Pz : Hp} {T : Addr → Prop} {ρ : Env} {Fs : Nat → List Addr}
theorem ex_of {g : FE} {c : Str} {p : Exn} {Q : VK} (E : EnvR K H0 Pz T H σ ρ Fs) (e : g ρ = .ex c p) (h : ∀ C d σ' H' Fs', mg c = some (.ref C) → EnvR K H0 Pz T H' σ' ρ Fs' → ExD K H' d p → W (.ref C) d σ' H') : tev K mg W g σ H Q :=
  tev_ex E e fun C H' d hC s xd => h C d σ H' Fs hC (E.same s) xd
end
/-! ### blocks -/
def sSeq (f g : FS) : FS := fun ρ => match f ρ with
  | .nx ρ' => g ρ'
  | r => r
def sNil : FS := .nx
section
variable {X : Cx} {s : Stmt} {ss : List Stmt} {f g : FS}
theorem sv_nil : PSsv X [] sNil := fun W tk => PSs.imp pss_nil fun D σ H h => by
  obtain ⟨H0, Pz, T, ρ, Fs, E, h⟩ := h
  exact h σ H Fs E
theorem sv_cons (h1 : PSv X s f) (h2 : PSsv X ss g) : PSsv X (s :: ss) (sSeq f g) := fun W tk => PSs.imp (pss_cons (h1 W tk) (h2 W tk)) fun D σ H h => by
  obtain ⟨H0, Pz, T, ρ, Fs, E, h⟩ := h
  refine ⟨H0, Pz, T, ρ, Fs, E, ?_⟩
  unfold sSeq at h
  cases e1 : f ρ with
  | nx ρ' =>
    rw [e1] at h
    exact fun σ' H' Fs' E' => ⟨H0, Pz, T, ρ', Fs', E', h⟩
  | rt d => rw [e1] at h; exact h
  | bk ρ' => rw [e1] at h; exact h
  | ct ρ' => rw [e1] at h; exact h
  | ex c p ρ' => rw [e1] at h; exact h
  | bad => rw [e1] at h; exact h
theorem sv_one (h1 : PSv X s f) : PSsv X [s] f := fun W tk => pss_one (h1 W tk)
end
/-! ### assignments -/
def sAsg (f : FE) (t : TF) : FS := fun ρ => match f ρ with
  | .ok x => if x.2 = .tmp then .bad else (match t x ρ with
    | some ρ' => .nx ρ'
    | none => .bad)
  | .ex c p => .ex c p ρ
  | .bad => .bad
section
variable {X : Cx} {tg e : Expr} {f : FE} {t : TF} {pos : Pos} {vs : List Nat}
theorem asg_imp {K : PySem.W.Frag} {mg : MG} {W : WX} (D : Ends) (σ : St) (H : Hp) (h : tsv K mg W (sAsg f t) D σ H) : tAsg (tev K mg W f) (tgv K vs t) D σ H := by
  obtain ⟨H0, Pz, T, ρ, Fs, E, h⟩ := h
  show tev K mg W f σ H _
  unfold sAsg at h
  cases e1 : f ρ with
  | bad => rw [e1] at h; exact h.elim
  | ex c p => rw [e1] at h; exact ex_of E e1 h
  | ok x =>
    rw [e1] at h
    refine tev_ok E e1 fun v H1 F s1 E1 r1 o1 => ?_
    simp only at h
    by_cases hm : x.2 = .tmp
    · rw [if_pos hm] at h; exact h.elim
    · rw [if_neg hm] at h
      refine ⟨H0, Pz, T, ρ, Fs, x, F, E1, r1, o1, hm, ?_⟩
      cases e2 : t x ρ with
      | none => rw [e2] at h; exact h
      | some ρ' =>
        rw [e2] at h
        exact fun σ' H' Fs' s' E' A' => h σ' H' Fs' E'
theorem sv_asg (he : PEv X e f) (hg : PGv X vs tg t) (hs : swapsWithSole [tg] e pos.line X.env = pure false := by rfl) (hw : swappedStores [tg] e X.env = pure none := by rfl)
    (h1 : (assignEach [tg] X.env).map (·.2) = [assign tg X.env] := by rfl) : PSv X (.Assign [tg] e pos) (sAsg f t) := fun W tk =>
  PS.imp (ps_asg (he W tk) hg hs hw h1) fun D σ H h => asg_imp D σ H h
theorem sv_set {i : Nat} {x : Str} {pos' : Pos} (hN : X.N.Nodup) (hi : X.N[i]? = some x) (hx : Loc X.env.scope x) (he : PEv X e f) (hs : swapsWith e (some (.Name x pos')) pos.line X.env = pure false := by rfl) (hf : X.fn x = true ∨ X.env.scope.names.lookup x = some .local := by first | exact .inl rfl | exact .inr rfl | assumption) :
    PSv X (.Assign [.Name x pos'] e pos) (sAsg f (tName i)) := fun W tk =>
  PS.imp (ps_set hN hi hx (he W tk) hs hf) fun D σ H h => by
    have q := asg_imp (vs := [i]) D σ H h
    obtain ⟨H0, Pz, T, ρ, Fs, E, _⟩ := h
    show tev X.K X.mg W f σ H _
    obtain ⟨H0', Pz', T', ρ', Fs', E', q⟩ := q
    refine ⟨H0', Pz', T', ρ', Fs', E', ?_⟩
    cases e1 : f ρ' with
    | bad => rw [e1] at q; exact q
    | ex c p => rw [e1] at q; exact q
    | ok z =>
      rw [e1] at q
      intro v H1 F s1 r1 o1
      obtain ⟨H2, Pz2, T2, ρ2, Fs2, z2, F2, E2, r2, o2, hm, q2⟩ := q v H1 F s1 r1 o1
      unfold tName at q2
      by_cases hl : i < ρ2.length
      · rw [if_pos hl] at q2
        refine q2 _ H1 _ (fun _ _ z => z) (E2.set hl r2 (o2.nrm r2) ?_) ⟨by rw [List.length_set], fun j hj => ?_⟩
        · cases z2 with
          | mk d m => cases d <;> first | exact hm | (intro z; cases z)
        · have ne : i ≠ j := fun z => hj (by rw [← z]; exact List.mem_singleton.mpr rfl)
          rw [List.getElem?_set_ne ne, List.getElem?_set_ne ne, stF_ne (fun z => ne z.symm)]
          exact ⟨rfl, rfl, rfl⟩
      · rw [if_neg hl] at q2; exact q2.elim
/-- y = [..], y a local that no comprehension captures -/
theorem sv_setComp {i : Nat} {y : Str} {py : Pos} {elt iter : Expr} {ifs : List Expr} {scope : Scope} {own : List (Str × Nat)} {pos' : Pos} {src : FI} {tc : TF} {tt : FT} {el : FE} {fin : List (DV × Md) → R (DV × Md)} (hfin : FinOk fin) (hc : X.calm = true) (hN : X.N.Nodup) (hy : X.N[i]? = some y) (hyl : X.env.scope.names.lookup y = some .local)
    (hsw : swapsWith (.ListComp elt [⟨tg, iter, ifs, 0⟩] scope pos') (some (.Name y py)) pos.line X.env = pure true) (hi : PIv X tg iter src) (ok : BlkOk X.N X.env.scope scope own)
    (hg : ∀ (s : Shared) (H : Hp) (C : Addr) (cl : List (Str × Addr)) (fp : List Addr), PGv (X.blk s H scope (compEnvC scope cl C X.env) fp) (own.map (·.2)) tg tc)
    (ht : ∀ (s : Shared) (H : Hp) (C : Addr) (cl : List (Str × Addr)) (fp : List Addr), PTsv (X.blk s H scope (compEnvC scope cl C X.env) fp) ifs tt)
    (he : ∀ (s : Shared) (H : Hp) (C : Addr) (cl : List (Str × Addr)) (fp : List Addr), PEv (X.blk s H scope (compEnvC scope cl C X.env) fp) elt el) (hs : ∀ x, foldedSetIterable iter X.env x = pure x := by intro _; rfl) :
    PSv X (.Assign [.Name y py] (.ListComp elt [⟨tg, iter, ifs, 0⟩] scope pos') pos) (sAsg (eComp src (own.map (·.2)) tc tt el fin) (tName i)) := fun W tk =>
  PS.imp (ps_setLc (g := tgv X.K (List.map (fun x : Str × Nat => x.2) own) tc) (tt := ttv X.K X.mg (fun _ _ _ _ => False) tt) (te := tev X.K X.mg (fun _ _ _ _ => False) el) hc hN hy hyl hsw (hi W tk) ok hg (fun s H C cl fp => ht s H C cl fp _ takes0) (fun s H C cl fp => he s H C cl fp _ takes0) hs) fun D σ H h => by
    have q := asg_imp (vs := [i]) D σ H h
    show tLc _ _ _ _ _ σ H _
    refine comp_imp (mg := X.mg) (W := W) (tt := tt) (el := el) hfin σ H _ ?_
    obtain ⟨H0', Pz', T', ρ', Fs', E', q⟩ := q
    refine ⟨H0', Pz', T', ρ', Fs', E', ?_⟩
    cases e1 : eComp src (own.map (·.2)) tc tt el fin ρ' with
    | bad => rw [e1] at q; exact q
    | ex c p => rw [e1] at q; exact q
    | ok z =>
      rw [e1] at q
      intro v H1 F s1 r1 o1
      obtain ⟨H2, Pz2, T2, ρ2, Fs2, z2, F2, E2, r2, o2, hm, q2⟩ := q v H1 F s1 r1 o1
      unfold tName at q2
      by_cases hl : i < ρ2.length
      · rw [if_pos hl] at q2
        refine q2 _ H1 _ (fun _ _ z => z) (E2.set hl r2 (o2.nrm r2) ?_) ⟨by rw [List.length_set], fun j hj => ?_⟩
        · cases z2 with
          | mk d m => cases d <;> first | exact hm | (intro z; cases z)
        · have ne : i ≠ j := fun z => hj (by rw [← z]; exact List.mem_singleton.mpr rfl)
          rw [List.getElem?_set_ne ne, List.getElem?_set_ne ne, stF_ne (fun z => ne z.symm)]
          exact ⟨rfl, rfl, rfl⟩
      · rw [if_neg hl] at q2; exact q2.elim
end
/-! a, b = e1, e2 -/
section
variable {K : PySem.W.Frag} {H0 Pz H H1 H2 : Hp} {T : Addr → Prop} {σ : St} {ρ : Env} {Fs : Nat → List Addr}
/-- a result that was made ahead of a store stays apart from what is stored -/
theorem ResOk.afterSet {i : Nat} {F G : List Addr} {d : DV} {m m' : Md} (hi : i < ρ.length) (o : ResOk H0 Pz T ρ Fs H F m) (o' : ResOk H0 Pz T ρ Fs H G m') (hm : m ≠ .tmp) (hm' : m' ≠ .tmp) (hFG : ∀ a ∈ F, a ∉ G) : ResOk H0 Pz T (ρ.set i (some (d, m))) (stF Fs i F) H G m' := by
  refine ⟨o'.fresh, fun z a A e => ?_, fun _ => ⟨fun k dk hk a A e ha => ?_, fun a ta => (o'.notops hm').2 a ta⟩, fun z => absurd z hm'⟩
  · obtain ⟨h1, h2, h3⟩ := o'.top z a A e
    refine ⟨h1, h2, fun j => ?_⟩
    by_cases hj : j = i
    · subst hj
      rw [stF_same]
      intro ha
      exact hFG a ha (by rw [e]; exact List.mem_cons_self)
    · rw [stF_ne hj]; exact h3 j
  · by_cases hk' : k = i
    · subst hk'
      rw [stF_same] at e
      exact hFG a (by rw [e]; exact List.mem_cons_self) ha
    · rw [List.getElem?_set_ne (fun z => hk' z.symm)] at hk
      rw [stF_ne hk'] at e
      exact (o'.notops hm').1 k dk hk a A e ha
end
section
variable {X : Cx} {pos : Pos}
/-- for plain values on both sides, or one of them -/
def parE (ρ : Env) (i j : Nat) : DV × Md → DV × Md → Option Env
  | (.i x, _), (d, m) => if m = .tmp then none else some ((ρ.set i (some (.i x, .own))).set j (some (d, nrmM d m)))
  | (d, m), (.i y, _) => if m = .tmp then none else some ((ρ.set i (some (d, nrmM d m))).set j (some (.i y, .own)))
  | _, _ => none
def sPar1 (i j : Nat) (f g : FE) : FS := fun ρ => match f ρ with
  | .ok x => (match g ρ with
    | .ok y => if i < ρ.length ∧ j < ρ.length then (match parE ρ i j x y with
      | some ρ' => .nx ρ'
      | none => .bad) else .bad
    | .ex c p => .ex c p ρ
    | .bad => .bad)
  | .ex c p => .ex c p ρ
  | .bad => .bad
theorem sv_par {i j : Nat} {x y : Str} {a b : Expr} {f g : FE} {px py pt : Pos} {kt k2 pt2} (hc : X.calm = true) (hN : X.N.Nodup) (hi : X.N[i]? = some x) (hj : X.N[j]? = some y) (hij : i ≠ j)
    (hx : X.env.scope.names.lookup x = some .local) (hy : X.env.scope.names.lookup y = some .local) (ha : PEv X a f) (hb : PEv X b g)
    (hw : swappedStores [.Tuple [.Name x px, .Name y py] kt pt] (.Tuple [a, b] k2 pt2) X.env = pure (some [x, y]))
    (hs : swapsWithSole [.Tuple [.Name x px, .Name y py] kt pt] (.Tuple [a, b] k2 pt2) pos.line X.env = pure false := by rfl)
    (he : starEach (a :: [b]) X.env = (false, eval a X.env) :: starEach [b] X.env := by rfl) (he2 : starEach (b :: []) X.env = (false, eval b X.env) :: starEach [] X.env := by rfl) :
    PSv X (.Assign [.Tuple [.Name x px, .Name y py] kt pt] (.Tuple [a, b] k2 pt2) pos) (sPar1 i j f g) := fun W tk =>
  PS.imp (ps_par hc hN hi hj hij hx hy (pa_cons (ha W tk) (pa_cons (hb W tk) pa_nil he2) he) hw hs) fun D σ H h => by
    obtain ⟨H0, Pz, T, ρ, Fs, E, h⟩ := h
    show tev X.K X.mg W f σ H _
    unfold sPar1 at h
    cases e1 : f ρ with
    | bad => rw [e1] at h; exact h.elim
    | ex c p => rw [e1] at h; exact ex_of E e1 h
    | ok x =>
      rw [e1] at h
      refine tev_ok E e1 fun v H1 F s1 E1 r1 o1 => ?_
      show tev X.K X.mg W g σ H1 _
      simp only at h
      cases e2 : g ρ with
      | bad => rw [e2] at h; exact h.elim
      | ex c p => rw [e2] at h; exact ex_of E1 e2 h
      | ok y =>
        rw [e2] at h
        refine tev_ok E1 e2 fun u H2 G s2 E2 r2 o2 => ?_
        simp only at h
        by_cases hl : i < ρ.length ∧ j < ρ.length
        · rw [if_pos hl] at h
          obtain ⟨hil, hjl⟩ := hl
          refine ⟨v, u, rfl, ?_⟩
          have r1' := r1.same s2
          have o1' := o1.same s2
          obtain ⟨x, mx⟩ := x
          obtain ⟨y, my⟩ := y
          simp only at r1' r2 o1' o2
          -- the two stores
          have fin : ∀ (m1 m2 : Md), m1 ≠ .tmp → m2 ≠ .tmp → ResOk H0 Pz T ρ Fs H2 F m1 → ResOk H0 Pz T ρ Fs H2 G m2 → (∀ a ∈ F, a ∉ G) → EnvR X.K H0 Pz T H2 ((σ.set i (some v)).set j (some u)) ((ρ.set i (some (x, m1))).set j (some (y, m2))) (stF (stF Fs i F) j G) := fun m1 m2 hm1 hm2 q1 q2 hd =>
            (E2.set hil r1' q1 hm1).set (by rw [List.length_set]; exact hjl) r2 (q1.afterSet hil q2 hm1 hm2 hd) hm2
          cases e3 : parE ρ i j (x, mx) (y, my) with
          | none => rw [e3] at h; exact h.elim
          | some ρ' =>
            rw [e3] at h
            unfold parE at e3
            split at e3
            · rename_i hq1 hq2
              cases hq1
              cases hq2
              split at e3
              · cases e3
              · rename_i hm
                cases e3
                have eF : F = [] := by cases r1'; rfl
                subst eF
                exact h _ H2 _ (fin .own (nrmM y my) (by intro z; cases z) (by cases y <;> first | exact hm | (intro z; cases z)) .nil (o2.nrm r2) fun _ z => (nomatch z))
            · rename_i hq1 hq2
              cases hq1
              cases hq2
              split at e3
              · cases e3
              · rename_i hm
                cases e3
                have eG : G = [] := by cases r2; rfl
                subst eG
                exact h _ H2 _ (fin (nrmM x mx) .own (by cases x <;> first | exact hm | (intro z; cases z)) (by intro z; cases z) (o1'.nrm r1') .nil fun _ _ z => (nomatch z))
            · cases e3
        · rw [if_neg hl] at h; exact h.elim
end

/-- both new lists -/
def parL (ρ : Env) (i j : Nat) : DV × Md → DV × Md → Option Env
  | (.l a, .own), (.l b, .own) => some ((ρ.set i (some (.l a, .own))).set j (some (.l b, .own)))
  | _, _ => none
def sParL (i j : Nat) (f g : FE) : FS := fun ρ => match f ρ with
  | .ok x => (match g ρ with
    | .ok y => if i < ρ.length ∧ j < ρ.length then (match parL ρ i j x y with
      | some ρ' => .nx ρ'
      | none => .bad) else .bad
    | .ex c p => .ex c p ρ
    | .bad => .bad)
  | .ex c p => .ex c p ρ
  | .bad => .bad
theorem EnvR.moreT {K : PySem.W.Frag} {H0 Pz H : Hp} {T : Addr → Prop} {σ : St} {ρ : Env} {Fs : Nat → List Addr} (E : EnvR K H0 Pz T H σ ρ Fs) {a : Addr} (h1 : Pz a = none) (h2 : Mb H a) (h3 : ∀ j, a ∉ Fs j) : EnvR K H0 Pz (fun b => T b ∨ b = a) H σ ρ Fs :=
  ⟨E.h0, E.pz, fun b hb => hb.elim (E.tn b) fun z => z ▸ h1, fun b hb => hb.elim (E.th b) fun z => z ▸ h2, E.len, E.at_, E.fresh, E.top, fun b hb => hb.elim (E.tt b) fun z => z ▸ h3, E.nil⟩
theorem EnvR.lessT {K : PySem.W.Frag} {H0 Pz H : Hp} {T T' : Addr → Prop} {σ : St} {ρ : Env} {Fs : Nat → List Addr} (E : EnvR K H0 Pz T H σ ρ Fs) (h : ∀ a, T' a → T a) : EnvR K H0 Pz T' H σ ρ Fs :=
  ⟨E.h0, E.pz, fun b hb => E.tn b (h b hb), fun b hb => E.th b (h b hb), E.len, E.at_, E.fresh, E.top, fun b hb => E.tt b (h b hb), E.nil⟩
theorem ResOk.lessT {H0 Pz H : Hp} {T T' : Addr → Prop} {ρ : Env} {Fs : Nat → List Addr} {F : List Addr} {m : Md} (o : ResOk H0 Pz T ρ Fs H F m) (h : ∀ a, T' a → T a) : ResOk H0 Pz T' ρ Fs H F m :=
  ⟨o.fresh, o.top, fun z => ⟨(o.notops z).1, fun a ta => (o.notops z).2 a (h a ta)⟩, o.tmp⟩
section
variable {X : Cx} {pos : Pos}
theorem sv_parL {i j : Nat} {x y : Str} {a b : Expr} {f g : FE} {px py pt : Pos} {kt k2 pt2} (hc : X.calm = true) (hN : X.N.Nodup) (hi : X.N[i]? = some x) (hj : X.N[j]? = some y) (hij : i ≠ j)
    (hx : X.env.scope.names.lookup x = some .local) (hy : X.env.scope.names.lookup y = some .local) (ha : PEv X a f) (hb : PEv X b g)
    (hw : swappedStores [.Tuple [.Name x px, .Name y py] kt pt] (.Tuple [a, b] k2 pt2) X.env = pure (some [x, y]))
    (hs : swapsWithSole [.Tuple [.Name x px, .Name y py] kt pt] (.Tuple [a, b] k2 pt2) pos.line X.env = pure false := by rfl)
    (he : starEach (a :: [b]) X.env = (false, eval a X.env) :: starEach [b] X.env := by rfl) (he2 : starEach (b :: []) X.env = (false, eval b X.env) :: starEach [] X.env := by rfl) :
    PSv X (.Assign [.Tuple [.Name x px, .Name y py] kt pt] (.Tuple [a, b] k2 pt2) pos) (sParL i j f g) := fun W tk =>
  PS.imp (ps_par hc hN hi hj hij hx hy (pa_cons (ha W tk) (pa_cons (hb W tk) pa_nil he2) he) hw hs) fun D σ H h => by
    obtain ⟨H0, Pz, T, ρ, Fs, E, h⟩ := h
    show tev X.K X.mg W f σ H _
    unfold sParL at h
    cases e1 : f ρ with
    | bad => rw [e1] at h; exact h.elim
    | ex c p => rw [e1] at h; exact ex_of E e1 h
    | ok x =>
      rw [e1] at h
      refine tev_ok E e1 fun v H1 F s1 E1 r1 o1 => ?_
      show tev X.K X.mg W g σ H1 _
      simp only at h
      cases e2 : g ρ with
      | bad => rw [e2] at h; exact h.elim
      | ex c p => rw [e2] at h; exact ex_of E1 e2 h
      | ok y =>
        rw [e2] at h
        simp only at h
        by_cases hl : i < ρ.length ∧ j < ρ.length
        · rw [if_pos hl] at h
          obtain ⟨hil, hjl⟩ := hl
          obtain ⟨x, mx⟩ := x
          obtain ⟨y, my⟩ := y
          cases e3 : parL ρ i j (x, mx) (y, my) with
          | none => rw [e3] at h; exact h.elim
          | some ρ' =>
            rw [e3] at h
            unfold parL at e3
            split at e3
            · rename_i a1 b1 hq1 hq2
              cases hq1
              cases hq2
              cases e3
              cases r1 with
              | @l aa vs1 _ p1 t1 =>
                have tp := o1.top rfl aa [] rfl
                have E1' := E1.moreT tp.1 (mb_l p1) tp.2.2
                refine tev_ok E1' e2 fun u H2 G s2 E2 r2 o2 => ?_
                refine ⟨_, u, rfl, ?_⟩
                have o2' := o2.lessT (T' := T) fun b tb => .inl tb
                have hd : ∀ c ∈ [aa], c ∉ G := fun c hc => by
                  have e := List.mem_singleton.mp hc
                  rw [e]
                  exact (o2.notops (by intro z; cases z)).2 aa (.inr rfl)
                have r1' : RpD X.K H1 (.ref aa) (.l a1) [aa] := .l p1 t1
                have E3 := E2.lessT (T' := T) fun b tb => .inl tb
                exact h _ H2 _ ((E3.set hil (r1'.same s2) (o1.same s2) (by intro z; cases z)).set (by rw [List.length_set]; exact hjl) r2 ((o1.same s2).afterSet hil o2' (by intro z; cases z) (by intro z; cases z) hd) (by intro z; cases z))
            · cases e3
        · rw [if_neg hl] at h; exact h.elim
end

/-! ### name op= e -/
def sAug (i : Nat) (op : DV × Md → DV × Md → R (DV × Md)) (f : FE) : FS := fun ρ => match eVar i ρ with
  | .ok x => (match f ρ with
    | .ok y => (match op x y with
      | .ok z => if z.2 = .tmp ∨ ¬ i < ρ.length then .bad else .nx (ρ.set i (some (z.1, nrmM z.1 z.2)))
      | _ => .bad)
    | .ex c p => .ex c p ρ
    | .bad => .bad)
  | _ => .bad
abbrev rIAddAll : R2 := fun x y H Q => rI0 (fun i j => .int (i + j)) x y H Q ∨ strAddR x y H Q
def opIAdd : DV × Md → DV × Md → R (DV × Md)
  | (.i (.int a), _), (.i (.int b), _) => ok1 (.int (a + b))
  | (.i (.str a), _), (.i (.str b), _) => if a.length + b.length ≤ 16777216 then ok1 (.str (a ++ b)) else .bad
  | _, _ => .bad
theorem opIAdd_nx : NoEx opIAdd := noex_of fun x y => by
  unfold opIAdd; split <;> first | exact .inr rfl | exact .inl ⟨_, rfl⟩ | (split <;> first | exact .inr rfl | exact .inl ⟨_, rfl⟩)
theorem bIAdd {K : PySem.W.Frag} : BOk K rIAddAll opIAdd := by
  intro H0 Pz H T σ ρ Fs x y z v u F G Q E r1 o1 r2 o2 e h
  obtain ⟨x, mx⟩ := x
  obtain ⟨y, my⟩ := y
  simp only at r1 r2
  unfold opIAdd at e
  split at e
  · rename_i q1 q2; cases q1; cases q2; cases e
    cases r1 with | i r1 => cases r1; cases r2 with | i r2 => cases r2; exact .inl ⟨_, _, rfl, rfl, fin1 h (.int _)⟩
  · rename_i q1 q2; cases q1; cases q2
    split at e
    · rename_i hl; cases e
      cases r1 with | i r1 => cases r1; cases r2 with | i r2 => cases r2; exact .inr ⟨_, _, rfl, rfl, by rw [slEq]; exact hl, fin1 h (.str _)⟩
    · cases e
  · cases e
section
variable {X : Cx} {pos : Pos}
theorem or_iadd : OpR X (inplaceOp .Add) rIAddAll := iop_add.or iop_add_str
theorem sv_aug {i : Nat} {x : Str} {e : Expr} {f : FE} {o : Operator} {r : R2} {op : DV × Md → DV × Md → R (DV × Md)} {pos' : Pos} (hN : X.N.Nodup) (hi : X.N[i]? = some x) (hx : Loc X.env.scope x) (ho : OpR X (inplaceOp o) r) (hb : BOk X.K r op) (he : PEv X e f) (hf : X.fn x = true ∨ X.env.scope.names.lookup x = some .local := by first | exact .inl rfl | exact .inr rfl | assumption) :
    PSv X (.AugAssign (.Name x pos') o e pos) (sAug i op f) := fun W tk =>
  PS.imp (ps_aug (ti := r) hN hi hx (he W tk) (fun pins s σ H x y v u Q I rx ry h => ho pins s σ H x y v u Q I rx ry h) hf) fun D σ H h => by
    obtain ⟨H0, Pz, T, ρ, Fs, E, h⟩ := h
    unfold sAug at h
    cases e0 : eVar i ρ with
    | bad => rw [e0] at h; exact h.elim
    | ex c p => rw [e0] at h; exact h.elim
    | ok x =>
      rw [e0] at h
      obtain ⟨v, F, h1, r1, o1⟩ := E.look e0
      refine ⟨v, h1, ?_⟩
      simp only at h
      cases e1 : f ρ with
      | bad => rw [e1] at h; exact h.elim
      | ex c p => rw [e1] at h; exact ex_of E e1 h
      | ok y =>
        rw [e1] at h
        refine tev_ok E e1 fun u H1 G s1 E1 r2 o2 => ?_
        simp only at h
        cases e2 : op x y with
        | bad => rw [e2] at h; exact h.elim
        | ex c p => rw [e2] at h; exact h.elim
        | ok z =>
          rw [e2] at h
          simp only at h
          by_cases hz : z.2 = .tmp ∨ ¬ i < ρ.length
          · rw [if_pos hz] at h; exact h.elim
          · rw [if_neg hz] at h
            obtain ⟨hz1, hz2⟩ := not_or.mp hz
            refine hb H0 Pz H1 T σ ρ Fs x y z v u F G _ E1 (r1.same s1) (o1.same s1) r2 o2 e2 fun w H2 F2 s2 r3 o3 => ?_
            exact h _ H2 _ ((E1.same s2).set (Decidable.not_not.mp hz2) r3 (o3.nrm r3) (by
              cases z with
              | mk d m => cases d <;> first | exact hz1 | (intro q; cases q)))
end
/-! ### if, return, pass -/
def sIf (c : FT) (f g : FS) : FS := fun ρ => match c ρ with
  | .ok b => if b then f ρ else g ρ
  | .ex c p => .ex c p ρ
  | .bad => .bad
def retOk : DV × Md → Bool
  | (.i _, _) => true
  | (.l _, .own) => true
  | (.l _, .loc) => true
  | (.m _, .own) => true
  | (.t _, .own) => true
  | (.t _, .loc) => true
  | (.k _, .own) => true
  | (.k _, .loc) => true
  | (.h _, .own) => true
  | (.h _, .loc) => true
  | _ => false
def sRet (f : FE) : FS := fun ρ => match f ρ with
  | .ok x => if retOk x then .rt x.1 else .bad
  | .ex c p => .ex c p ρ
  | .bad => .bad
/-- return x, x a name -/
def retV : Option (Option (DV × Md)) → Option DV
  | some (some (.i x, _)) => some (.i x)
  | some (some (d, m)) => if retOk (d, m) then some d else none
  | _ => none
def sRetV (i : Nat) : FS := fun ρ => match retV ρ[i]? with
  | some d => .rt d
  | none => .bad
def sBreak : FS := .bk
def sCont : FS := .ct
section
variable {X : Cx} {pos : Pos}
theorem sv_if {c : Expr} {a b : List Stmt} {t : FT} {f g : FS} (hc : PTv X c t) (ha : PSsv X a f) (hb : PSsv X b g) : PSv X (.If c a b pos) (sIf t f g) := fun W tk =>
  PS.imp (ps_if (hc W tk) (ha W tk) (hb W tk)) fun D σ H h => by
    obtain ⟨H0, Pz, T, ρ, Fs, E, h⟩ := h
    show ttv X.K X.mg W t σ H _
    unfold sIf at h
    cases e1 : t ρ with
    | bad => rw [e1] at h; exact h.elim
    | ex c p => rw [e1] at h; exact ttv_ex E e1 fun C H' d hC s xd => h C d σ H' Fs hC (E.same s) xd
    | ok x =>
      rw [e1] at h
      refine ttv_ok E e1 fun H1 s1 E1 => ?_
      cases x with
      | true =>
        simp only [if_true] at h ⊢
        exact ⟨H0, Pz, T, ρ, Fs, E1, h⟩
      | false =>
        simp only [Bool.false_eq_true, if_false] at h ⊢
        exact ⟨H0, Pz, T, ρ, Fs, E1, h⟩
theorem ret_of {K : PySem.W.Frag} {H0 Pz H : Hp} {T : Addr → Prop} {ρ : Env} {Fs : Nat → List Addr} {v : V} {x : DV × Md} {F : List Addr} (h : retOk x = true) (r : RpD K H v x.1 F) (o : ResOk H0 Pz T ρ Fs H F x.2) : RetOk H0 H x.1 F := by
  obtain ⟨d, m⟩ := x
  simp only at r o
  unfold retOk at h
  split at h
  · rename_i q; cases q; cases r; exact ⟨fun _ z => (nomatch z), fun _ _ _ z => (nomatch z)⟩
  · rename_i q; cases q; cases r with | l s t => exact ⟨o.fresh (.inl rfl), fun _ a G e => by cases e; intro z; cases z⟩
  · rename_i q; cases q; cases r with | l s t => exact ⟨o.fresh (.inr rfl), fun _ a G e => by cases e; intro z; cases z⟩
  · rename_i q; cases q; exact ⟨o.fresh (.inl rfl), fun _ a G e => (o.top rfl a G e).2.1⟩
  · rename_i q; cases q; exact ⟨o.fresh (.inl rfl), fun z => (nomatch z)⟩
  · rename_i q; cases q; exact ⟨o.fresh (.inr rfl), fun z => (nomatch z)⟩
  · rename_i q; cases q; cases r with | k s t => exact ⟨o.fresh (.inl rfl), fun _ a G e => by cases e; intro z; cases z⟩
  · rename_i q; cases q; cases r with | k s t => exact ⟨o.fresh (.inr rfl), fun _ a G e => by cases e; intro z; cases z⟩
  · rename_i q; cases q; cases r with | h s t => exact ⟨o.fresh (.inl rfl), fun _ a G e => by cases e; intro z; cases z⟩
  · rename_i q; cases q; cases r with | h s t => exact ⟨o.fresh (.inr rfl), fun _ a G e => by cases e; intro z; cases z⟩
  · cases h
theorem sv_ret {e : Expr} {f : FE} (he : PEv X e f) : PSv X (.Return (some e) pos) (sRet f) := fun W tk =>
  PS.imp (ps_ret (he W tk)) fun D σ H h => by
    obtain ⟨H0, Pz, T, ρ, Fs, E, h⟩ := h
    show tev X.K X.mg W f σ H _
    unfold sRet at h
    cases e1 : f ρ with
    | bad => rw [e1] at h; exact h.elim
    | ex c p => rw [e1] at h; exact ex_of E e1 h
    | ok x =>
      rw [e1] at h
      refine tev_ok E e1 fun v H1 F s1 E1 r1 o1 => ?_
      simp only at h
      by_cases hx : retOk x = true
      · rw [if_pos hx] at h
        exact h v H1 F (E1.h0.trans E1.pz) r1 (ret_of hx r1 o1)
      · rw [if_neg hx] at h; exact h.elim
theorem sv_retN : PSv X (.Return none pos) (fun _ => .rt (.i .non)) := fun W tk =>
  PS.imp ps_retN fun D σ H h => by
    obtain ⟨H0, Pz, T, ρ, Fs, E, h⟩ := h
    exact h .non H [] (E.h0.trans E.pz) (.i .non) ⟨fun _ z => (nomatch z), fun _ _ _ z => (nomatch z)⟩
theorem sv_retV (i : Nat) {x : Str} {p : Pos} (hN : X.N[i]? = some x := by rfl) (hv : Vis X.env.scope x := by first | exact Or.inl rfl | exact Or.inr (Or.inl rfl) | exact Or.inr (Or.inr rfl)) (hd : (x == ("__debug__" : Str)) = false := by decide)
    (hcd : (x == ("__classdict__" : Str)) = false := by decide) : PSv X (.Return (some (.Name x p)) pos) (sRetV i) := fun W tk =>
  PS.imp (ps_ret (pe_var hN hv hd hcd)) fun D σ H h => by
    obtain ⟨H0, Pz, T, ρ, Fs, E, h⟩ := h
    unfold sRetV at h
    cases e0 : retV ρ[i]? with
    | none => rw [e0] at h; exact h.elim
    | some d0 =>
      rw [e0] at h
      unfold retV at e0
      split at e0
      · rename_i y m e
        cases e0
        obtain ⟨v, h1, h2⟩ := E.at_ i _ _ e
        generalize Fs i = G at h2
        cases h2 with
        | i r => exact ⟨v, h1, h v H [] (E.h0.trans E.pz) (.i r) ⟨fun _ z => (nomatch z), fun _ _ _ z => (nomatch z)⟩⟩
      · rename_i d m hni e
        split at e0
        · rename_i hx
          cases e0
          obtain ⟨v, h1, h2⟩ := E.at_ i _ _ e
          refine ⟨v, h1, h v H (Fs i) (E.h0.trans E.pz) h2 ?_⟩
          have hb : m ≠ .bor := by
            intro z; subst z
            cases d0 <;> simp [retOk] at hx
            exact hni _ rfl
          refine ⟨E.fresh i _ m e hb, fun ec a G eG => ?_⟩
          cases d0 with
          | i y => exact absurd rfl (hni y)
          | l ys => rw [eG] at h2; cases h2; intro z; cases z
          | f ys => cases m <;> simp [retOk] at hx
          | m ys =>
            have : m = .own := by cases m <;> simp [retOk] at hx; rfl
            subst this
            exact (E.top i _ e a G eG).2.1
          | t ys => cases ec
          | k ys => rw [eG] at h2; cases h2; intro z; cases z
          | h ys => rw [eG] at h2; cases h2; intro z; cases z
        · cases e0
      · cases e0
theorem sv_pass : PSv X (.Pass pos) sNil := fun W tk => PS.imp ps_pass fun D σ H h => by
  obtain ⟨H0, Pz, T, ρ, Fs, E, h⟩ := h
  exact h σ H Fs E
theorem sv_break : PSv X (.Break pos) sBreak := fun W tk => PS.imp ps_break fun D σ H h => by
  obtain ⟨H0, Pz, T, ρ, Fs, E, h⟩ := h
  exact h σ H Fs E
theorem sv_cont : PSv X (.Continue pos) sCont := fun W tk => PS.imp ps_continue fun D σ H h => by
  obtain ⟨H0, Pz, T, ρ, Fs, E, h⟩ := h
  exact h σ H Fs E
/-- an expression whose value is dropped -/
def sExpr (f : FE) : FS := fun ρ => match f ρ with
  | .ok _ => .nx ρ
  | .ex c p => .ex c p ρ
  | .bad => .bad
theorem sv_expr {e : Expr} {f : FE} (he : PEv X e f) (hs : swapsWith e none pos.line X.env = pure false := by rfl) : PSv X (.Expr e pos) (sExpr f) := fun W tk =>
  PS.imp (ps_expr (he W tk) hs) fun D σ H h => by
    obtain ⟨H0, Pz, T, ρ, Fs, E, h⟩ := h
    show tev X.K X.mg W f σ H _
    unfold sExpr at h
    cases e1 : f ρ with
    | bad => rw [e1] at h; exact h.elim
    | ex c p => rw [e1] at h; exact ex_of E e1 h
    | ok x =>
      rw [e1] at h
      exact tev_ok E e1 fun v H1 F s1 E1 r1 o1 => h σ H1 Fs E1
/-- raise X('..') -/
def sRaise (c : Str) : FS := fun ρ => .ex c none ρ
theorem sv_raise {c : Str} {C : Addr} {m : Str} {j : Nat} {p p2 p3 : Pos} (hc : X.calm = true) (q : PySem.W.excIn X.K C He.veBase "ValueError.__new__" = true) (gC : X.mg c = some (.ref C)) (kC : PySem.W.keepIn X.K (.ref C) = true)
    (sC : PySem.W.subIn X.K (.ref C) (.type "BaseException") = some true) (tC : PySem.W.typeIn X.K (.ref C) = some (.type "type")) (hg : Gl X c) (hdb : (c == ("__debug__" : Str)) = false := by decide) :
    PSv X (.Raise (some (.Call (.Name c p) [.Constant (.str m) j p2] [] p3)) none pos) (sRaise c) := fun W tk =>
  PS.imp (ps_raise hc tk (pmk_own PySem.F.excBase_ValueError q gC kC (raises_own sC tC) hg hdb)) fun D σ H h => by
    obtain ⟨H0, Pz, T, ρ, Fs, E, h⟩ := h
    exact h C none σ H Fs gC E rfl
end
end L2.Pv

namespace L2.Pv
open PySem PySem.Spec PyProof.Rows

/-! ## lists that grow and change -/
section
variable {K : PySem.W.Frag} {H0 Pz H : Hp} {T : Addr → Prop} {σ : St} {ρ : Env} {Fs : Nat → List Addr}
theorem EnvR.updTop' (E : EnvR K H0 Pz T H σ ρ Fs) {i : Nat} {d d' : DV} {a : Addr} {G G' : List Addr} {q : HO} (mq : MbO q) (hi : ρ[i]? = some (some (d, .own))) (hF : Fs i = a :: G) (hv : σ[i]? = some (some (.ref a))) (hl : Mb H a)
    (r : RpD K (upd H a q) (.ref a) d' (a :: G')) (g1 : ∀ c ∈ G', H0 c = none ∧ Mb H c) (g2 : a ∉ G') (g3 : ∀ k dk, k ≠ i → ρ[k]? = some (some (dk, .own)) → ∀ b B, Fs k = b :: B → b ∉ G') (g4 : ∀ b, T b → b ∉ G') :
    EnvR K H0 Pz T (upd H a q) σ (ρ.set i (some (d', .own))) (stF Fs i (a :: G')) := by
  have tp := E.top i d hi a G hF
  have hil : i < ρ.length := (List.getElem?_eq_some_iff.mp hi).1
  have fr := E.fresh i d .own hi (by intro z; cases z)
  have nj : ∀ j, j ≠ i → ∀ c ∈ Fs j, c ≠ a := fun j hj c hc z => tp.2.2 j hj (by rw [← z]; exact hc)
  refine ⟨E.h0, fun b o e => ?_, E.tn, fun b tb => ?_, by rw [List.length_set]; exact E.len, fun j d1 m1 h => ?_, fun j d1 m1 h hb c hc => ?_, fun j d1 h b B e => ?_, fun b tb j => ?_, fun j h => ?_⟩
  · have nb : b ≠ a := fun z => by rw [z, tp.1] at e; cases e
    rw [upd_ne nb]; exact E.pz _ _ e
  · by_cases hb : b = a
    · subst hb; exact ⟨q, upd_same, mq⟩
    · exact (E.th b tb).eq (upd_ne hb)
  · by_cases hj : j = i
    · subst hj
      rw [List.getElem?_set_self hil] at h
      cases h
      rw [stF_same]
      exact ⟨_, hv, r⟩
    · rw [List.getElem?_set_ne (fun z => hj z.symm)] at h
      rw [stF_ne hj]
      obtain ⟨v, h1, h2⟩ := E.at_ j d1 m1 h
      exact ⟨v, h1, h2.mono (upd_tkeep' hl) fun c hc => upd_ne (nj j hj c hc)⟩
  · by_cases hj : j = i
    · subst hj
      rw [stF_same] at hc
      rcases List.mem_cons.mp hc with e | hc
      · subst e
        exact ⟨(fr c (by rw [hF]; exact List.mem_cons_self)).1, q, upd_same, mq⟩
      · obtain ⟨q1, q2⟩ := g1 c hc
        exact ⟨q1, q2.eq (upd_ne (fun z => g2 (by rw [← z]; exact hc)))⟩
    · rw [List.getElem?_set_ne (fun z => hj z.symm)] at h
      rw [stF_ne hj] at hc
      obtain ⟨q1, q2⟩ := E.fresh j d1 m1 h hb c hc
      exact ⟨q1, q2.eq (upd_ne (nj j hj c hc))⟩
  · by_cases hj : j = i
    · subst hj
      rw [stF_same] at e
      cases e
      exact ⟨tp.1, g2, fun k hk => by rw [stF_ne hk]; exact tp.2.2 k hk⟩
    · rw [List.getElem?_set_ne (fun z => hj z.symm)] at h
      rw [stF_ne hj] at e
      obtain ⟨q1, q2, q3⟩ := E.top j d1 h b B e
      refine ⟨q1, q2, fun k hk => ?_⟩
      by_cases hk' : k = i
      · subst hk'
        rw [stF_same]
        intro hb
        rcases List.mem_cons.mp hb with z | hb
        · exact nj j hj b (by rw [e]; exact List.mem_cons_self) z
        · exact g3 j d1 hj h b B e hb
      · rw [stF_ne hk']; exact q3 k hk
  · by_cases hj : j = i
    · subst hj
      rw [stF_same]
      intro hb
      rcases List.mem_cons.mp hb with z | hb
      · exact E.tt b tb j (by rw [hF, z]; exact List.mem_cons_self)
      · exact g4 b tb hb
    · rw [stF_ne hj]; exact E.tt b tb j
  · by_cases hj : j = i
    · subst hj
      exact absurd (List.getElem?_set_self hil) (h d' .own)
    · rw [stF_ne hj]
      refine E.nil j fun d1 m1 z => h d1 m1 ?_
      rw [List.getElem?_set_ne (fun z => hj z.symm)]
      exact z
theorem EnvR.updTop (E : EnvR K H0 Pz T H σ ρ Fs) {i : Nat} {d d' : DV} {a : Addr} {G G' : List Addr} {vs us : List V} (hi : ρ[i]? = some (some (d, .own))) (hF : Fs i = a :: G) (hv : σ[i]? = some (some (.ref a))) (hl : H a = some (.lst vs))
    (r : RpD K (upd H a (.lst us)) (.ref a) d' (a :: G')) (g1 : ∀ c ∈ G', H0 c = none ∧ Mb H c) (g2 : a ∉ G') (g3 : ∀ k dk, k ≠ i → ρ[k]? = some (some (dk, .own)) → ∀ b B, Fs k = b :: B → b ∉ G') (g4 : ∀ b, T b → b ∉ G') :
    EnvR K H0 Pz T (upd H a (.lst us)) σ (ρ.set i (some (d', .own))) (stF Fs i (a :: G')) := E.updTop' (q := .lst us) trivial hi hF hv (mb_l hl) r g1 g2 g3 g4
theorem RpDs.set : ∀ (j : Nat) {vs : List V} {xs : List DV} {F : List Addr} {v : V} {x : DV} {G : List Addr}, RpDs K H vs xs F → RpD K H v x G → ∃ F', RpDs K H (vs.set j v) (xs.set j x) F' ∧ ∀ c ∈ F', c ∈ F ∨ c ∈ G
  | _, _, [], _, _, _, _, h, _ => by cases h; exact ⟨[], .nil, fun _ z => (nomatch z)⟩
  | 0, _, _ :: _, _, _, _, G, h, k => by
    cases h with
    | @cons _ _ _ _ F1 F2 a b => exact ⟨G ++ F2, .cons k b, fun c hc => (List.mem_append.mp hc).elim .inr fun z => .inl (List.mem_append_right _ z)⟩
  | j + 1, _, _ :: _, _, _, _, G, h, k => by
    cases h with
    | @cons _ _ _ _ F1 F2 a b =>
      obtain ⟨F', h1, h2⟩ := RpDs.set j b k
      exact ⟨F1 ++ F', .cons a h1, fun c hc => (List.mem_append.mp hc).elim (fun z => .inl (List.mem_append_left _ z)) fun z => (h2 c z).elim (fun q => .inl (List.mem_append_right _ q)) .inr⟩
/-- what may go into a list that a slot owns -/
def putOk : Md → Bool
  | .own => true
  | .loc => true
  | _ => false
def appD : DV → DV × Md → Option DV
  | .l xs, (.i y, _) => if xs.length < 16777216 then some (.l (xs ++ [y])) else none
  | .l xs, (d, m) => if xs.length < 16777216 ∧ putOk m then some (.m (xs.map .i ++ [d])) else none
  | .m xs, (.i y, _) => if xs.length < 16777216 then some (.m (xs ++ [.i y])) else none
  | .m xs, (d, m) => if xs.length < 16777216 ∧ putOk m then some (.m (xs ++ [d])) else none
  | _, _ => none
def setD : DV → Int → DV × Md → Option DV
  | .l xs, k, (.i y, _) => (ixN xs.length k).map fun j => .l (xs.set j y)
  | .l xs, k, (d, m) => if putOk m then (ixN xs.length k).map fun j => .m ((xs.map .i).set j d) else none
  | .m xs, k, (.i y, _) => (ixN xs.length k).map fun j => .m (xs.set j (.i y))
  | .m xs, k, (d, m) => if putOk m then (ixN xs.length k).map fun j => .m (xs.set j d) else none
  | _, _, _ => none
theorem putOk_iff {m : Md} (h : putOk m = true) : m = .own ∨ m = .loc := by
  cases m <;> first | exact .inl rfl | exact .inr rfl | cases h
/-- a new item's footprint is fit to go into a list of slot i -/
theorem ResOk.put {G : List Addr} {m : Md} (E : EnvR K H0 Pz T H σ ρ Fs) (o : ResOk H0 Pz T ρ Fs H G m) (h : G = [] ∨ putOk m = true) {i : Nat} {d : DV} {a : Addr} {A : List Addr} (hi : ρ[i]? = some (some (d, .own))) (hF : Fs i = a :: A) :
    (∀ c ∈ G, H0 c = none ∧ Mb H c) ∧ a ∉ G ∧ (∀ k dk, k ≠ i → ρ[k]? = some (some (dk, .own)) → ∀ b B, Fs k = b :: B → b ∉ G) ∧ ∀ b, T b → b ∉ G := by
  rcases h with h | h
  · subst h
    exact ⟨fun _ z => (nomatch z), fun z => (nomatch z), fun _ _ _ _ _ _ _ z => (nomatch z), fun _ _ z => (nomatch z)⟩
  · have hm := putOk_iff h
    have n := o.notops (by rcases hm with z | z <;> (rw [z]; intro q; cases q))
    exact ⟨o.fresh hm, n.1 i d hi a A hF, fun k dk _ hk b B e => n.1 k dk hk b B e, n.2⟩
/-- the old items' footprint is -/
theorem EnvR.old (E : EnvR K H0 Pz T H σ ρ Fs) {i : Nat} {d : DV} {a : Addr} {A : List Addr} (hi : ρ[i]? = some (some (d, .own))) (hF : Fs i = a :: A) :
    (∀ c ∈ A, H0 c = none ∧ Mb H c) ∧ a ∉ A ∧ (∀ k dk, k ≠ i → ρ[k]? = some (some (dk, .own)) → ∀ b B, Fs k = b :: B → b ∉ A) ∧ ∀ b, T b → b ∉ A :=
  ⟨fun c hc => E.fresh i d .own hi (by intro z; cases z) c (by rw [hF]; exact List.mem_cons_of_mem _ hc), (E.top i d hi a A hF).2.1,
    fun k dk hk hk' b B e hb => (E.top k dk hk' b B e).2.2 i (fun z => hk z.symm) (by rw [hF]; exact List.mem_cons_of_mem _ hb), fun b tb hb => E.tt b tb i (by rw [hF]; exact List.mem_cons_of_mem _ hb)⟩
/-- x.append(y), by data: the list and its new state -/
theorem app_env (E : EnvR K H0 Pz T H σ ρ Fs) {i : Nat} {d d' : DV} {v : V} {y : DV × Md} {G : List Addr} (hi : ρ[i]? = some (some (d, .own))) (r : RpD K H v y.1 G) (o : ResOk H0 Pz T ρ Fs H G y.2) (e : appD d y = some d') :
    ∃ a vs Fs', σ[i]? = some (some (.ref a)) ∧ H a = some (.lst vs) ∧ vs.length < sizeLine ∧ EnvR K H0 Pz T (upd H a (.lst (vs ++ [v]))) σ (ρ.set i (some (d', .own))) Fs' := by
  obtain ⟨w, hv, rd⟩ := E.at_ i d .own hi
  obtain ⟨y, my⟩ := y
  simp only at r o
  have key : ∀ {a : Addr} {vs : List V} {A G' : List Addr} {d1 : DV}, H a = some (.lst vs) → Fs i = a :: A → w = .ref a → vs.length < 16777216 → (G = [] ∨ putOk my = true) → (∀ c ∈ G', c ∈ A ∨ c ∈ G) → (RpD K (upd H a (.lst (vs ++ [v]))) (.ref a) d1 (a :: G')) →
      ∃ a vs Fs', σ[i]? = some (some (.ref a)) ∧ H a = some (.lst vs) ∧ vs.length < sizeLine ∧ EnvR K H0 Pz T (upd H a (.lst (vs ++ [v]))) σ (ρ.set i (some (d1, .own))) Fs' := fun {a vs A G' d1} hl hF hw hz hp hsub rr => by
    subst hw
    obtain ⟨p1, p2, p3, p4⟩ := o.put E hp hi hF
    obtain ⟨q1, q2, q3, q4⟩ := E.old hi hF
    exact ⟨a, vs, _, hv, hl, by rw [slEq]; exact hz, E.updTop hi hF hv hl rr (fun c hc => (hsub c hc).elim (q1 c) (p1 c)) (fun z => (hsub a z).elim q2 p2) (fun k dk h1 h2 b B h3 h4 => (hsub b h4).elim (q3 k dk h1 h2 b B h3) (p3 k dk h1 h2 b B h3)) fun b tb hb => (hsub b hb).elim (q4 b tb) (p4 b tb)⟩
  generalize hFi : Fs i = Fi at rd
  unfold appD at e
  split at e
  · rename_i q; cases q
    split at e
    · rename_i hz; cases e
      cases rd with
      | l s t =>
        cases r with
        | i r => exact key (G' := []) s hFi rfl (by rw [t.length]; exact hz) (.inl rfl) (fun _ z => (nomatch z)) (.l upd_same (((t.append (.one r))).mono (upd_tkeep s)))
    · cases e
  · rename_i hni q
    cases q
    split at e
    · rename_i hz; cases e
      cases rd with
      | l s t =>
        have n := (o.put E (.inr hz.2) hi hFi).2.1
        refine key (G' := [] ++ (G ++ [])) s hFi rfl (by rw [t.length]; exact hz.1) (.inr hz.2) (fun c hc => .inr (by simpa using hc)) (.m upd_same ?_)
        exact (t.ds.append (.cons r .nil)).mono (upd_tkeep s) fun c hc => upd_ne fun z => n (by rw [← z]; simpa using hc)
    · cases e
  · rename_i q; cases q
    split at e
    · rename_i hz; cases e
      cases rd with
      | @m a vs _ A s t =>
        cases r with
        | i r =>
          have n := (E.old hi hFi).2.1
          refine key (G' := A ++ ([] ++ [])) s hFi rfl (by rw [t.length]; exact hz) (.inl rfl) (fun c hc => .inl (by simpa using hc)) (.m upd_same ?_)
          exact (t.append (.cons (.i r) .nil)).mono (upd_tkeep s) fun c hc => upd_ne fun z => n (by rw [← z]; simpa using hc)
    · cases e
  · rename_i hni q
    cases q
    split at e
    · rename_i hz; cases e
      cases rd with
      | @m a vs _ A s t =>
        have n := (E.old hi hFi).2.1
        have n2 := (o.put E (.inr hz.2) hi hFi).2.1
        refine key (G' := A ++ (G ++ [])) s hFi rfl (by rw [t.length]; exact hz.1) (.inr hz.2) (fun c hc => by simpa using hc) (.m upd_same ?_)
        refine (t.append (.cons r .nil)).mono (upd_tkeep s) fun c hc => upd_ne fun z => ?_
        have hc' : c ∈ A ∨ c ∈ G := by simpa using hc
        exact hc'.elim (fun q => n (by rw [← z]; exact q)) fun q => n2 (by rw [← z]; exact q)
    · cases e
  · cases e
/-- x[k] = y, by data -/
theorem set_env (E : EnvR K H0 Pz T H σ ρ Fs) {i : Nat} {d d' : DV} {v : V} {k : Int} {y : DV × Md} {G : List Addr} (hi : ρ[i]? = some (some (d, .own))) (r : RpD K H v y.1 G) (o : ResOk H0 Pz T ρ Fs H G y.2) (e : setD d k y = some d') :
    ∃ a vs j Fs', σ[i]? = some (some (.ref a)) ∧ H a = some (.lst vs) ∧ ixN vs.length k = some j ∧ EnvR K H0 Pz T (upd H a (.lst (vs.set j v))) σ (ρ.set i (some (d', .own))) Fs' := by
  obtain ⟨w, hv, rd⟩ := E.at_ i d .own hi
  obtain ⟨y, my⟩ := y
  simp only at r o
  have key : ∀ {a : Addr} {vs : List V} {A G' : List Addr} {d1 : DV} {j : Nat}, H a = some (.lst vs) → Fs i = a :: A → w = .ref a → ixN vs.length k = some j → (G = [] ∨ putOk my = true) → (∀ c ∈ G', c ∈ A ∨ c ∈ G) → (RpD K (upd H a (.lst (vs.set j v))) (.ref a) d1 (a :: G')) →
      ∃ a vs j Fs', σ[i]? = some (some (.ref a)) ∧ H a = some (.lst vs) ∧ ixN vs.length k = some j ∧ EnvR K H0 Pz T (upd H a (.lst (vs.set j v))) σ (ρ.set i (some (d1, .own))) Fs' := fun {a vs A G' d1 j} hl hF hw hz hp hsub rr => by
    subst hw
    obtain ⟨p1, p2, p3, p4⟩ := o.put E hp hi hF
    obtain ⟨q1, q2, q3, q4⟩ := E.old hi hF
    exact ⟨a, vs, j, _, hv, hl, hz, E.updTop hi hF hv hl rr (fun c hc => (hsub c hc).elim (q1 c) (p1 c)) (fun z => (hsub a z).elim q2 p2) (fun k dk h1 h2 b B h3 h4 => (hsub b h4).elim (q3 k dk h1 h2 b B h3) (p3 k dk h1 h2 b B h3)) fun b tb hb => (hsub b hb).elim (q4 b tb) (p4 b tb)⟩
  generalize hFi : Fs i = Fi at rd
  unfold setD at e
  split at e
  · rename_i q; cases q
    obtain ⟨j, hj, e2⟩ := Option.map_eq_some_iff.mp e
    subst e2
    cases rd with
    | l s t =>
      cases r with
      | i r => exact key (G' := []) s hFi rfl (by rw [t.length]; exact hj) (.inl rfl) (fun _ z => (nomatch z)) (.l upd_same ((t.set j r).mono (upd_tkeep s)))
  · rename_i hni q
    cases q
    split at e
    · rename_i hp
      obtain ⟨j, hj, e2⟩ := Option.map_eq_some_iff.mp e
      subst e2
      cases rd with
      | l s t =>
        have n := (o.put E (.inr hp) hi hFi).2.1
        obtain ⟨F', h1, h2⟩ := t.ds.set j r
        exact key (G' := F') s hFi rfl (by rw [t.length]; exact hj) (.inr hp) (fun c hc => (h2 c hc).elim (fun z => (nomatch z)) .inr) (.m upd_same (h1.mono (upd_tkeep s) fun c hc => upd_ne fun z => (h2 c hc).elim (fun z => (nomatch z)) fun q => n (by rw [← z]; exact q)))
    · cases e
  · rename_i q; cases q
    obtain ⟨j, hj, e2⟩ := Option.map_eq_some_iff.mp e
    subst e2
    cases rd with
    | @m a vs _ A s t =>
      have n := (E.old hi hFi).2.1
      obtain ⟨F', h1, h2⟩ := t.set j r
      cases r with
      | i r => exact key (G' := F') s hFi rfl (by rw [t.length]; exact hj) (.inl rfl) (fun c hc => (h2 c hc).elim .inl fun z => (nomatch z)) (.m upd_same (h1.mono (upd_tkeep s) fun c hc => upd_ne fun z => (h2 c hc).elim (fun q => n (by rw [← z]; exact q)) fun z => (nomatch z)))
  · rename_i hni q
    cases q
    split at e
    · rename_i hp
      obtain ⟨j, hj, e2⟩ := Option.map_eq_some_iff.mp e
      subst e2
      cases rd with
      | @m a vs _ A s t =>
        have n := (E.old hi hFi).2.1
        have n2 := (o.put E (.inr hp) hi hFi).2.1
        obtain ⟨F', h1, h2⟩ := t.set j r
        exact key (G' := F') s hFi rfl (by rw [t.length]; exact hj) (.inr hp) (fun c hc => h2 c hc) (.m upd_same (h1.mono (upd_tkeep s) fun c hc => upd_ne fun z => (h2 c hc).elim (fun q => n (by rw [← z]; exact q)) fun q => n2 (by rw [← z]; exact q)))
    · cases e
  · cases e
end
def ownAt (ρ : Env) (i : Nat) : Option DV := match ρ[i]? with
  | some (some (.l xs, .own)) => some (.l xs)
  | some (some (.m xs, .own)) => some (.m xs)
  | _ => none
theorem ownAt_iff {ρ : Env} {i : Nat} {d : DV} (h : ownAt ρ i = some d) : ρ[i]? = some (some (d, .own)) := by
  unfold ownAt at h
  split at h
  · rename_i q; cases h; exact q
  · rename_i q; cases h; exact q
  · cases h
theorem EnvR.ownL {K : PySem.W.Frag} {H0 Pz H : Hp} {T : Addr → Prop} {σ : St} {ρ : Env} {Fs : Nat → List Addr} (E : EnvR K H0 Pz T H σ ρ Fs) {i : Nat} {d : DV} (h : ownAt ρ i = some d) : ∃ a vs A, σ[i]? = some (some (.ref a)) ∧ Fs i = a :: A ∧ H a = some (.lst vs) := by
  obtain ⟨w, h1, h2⟩ := E.at_ i d .own (ownAt_iff h)
  have hd : ∀ x, d ≠ .i x := fun x z => by
    subst z
    unfold ownAt at h
    split at h <;> cases h
  have hf : ∀ x, d ≠ .f x := fun x z => by
    subst z
    unfold ownAt at h
    split at h <;> cases h
  have ht : ∀ x, d ≠ .t x := fun x z => by
    subst z
    unfold ownAt at h
    split at h <;> cases h
  have hk : ∀ x, d ≠ .k x := fun x z => by
    subst z
    unfold ownAt at h
    split at h <;> cases h
  have hh : ∀ x, d ≠ .h x := fun x z => by
    subst z
    unfold ownAt at h
    split at h <;> cases h
  generalize Fs i = Fi at h2
  cases h2 with
  | i r => exact absurd rfl (hd _)
  | f r => exact absurd rfl (hf _)
  | l s t => exact ⟨_, _, _, h1, rfl, s⟩
  | m s t => exact ⟨_, _, _, h1, rfl, s⟩
  | t r => exact absurd rfl (ht _)
  | k r => exact absurd rfl (hk _)
  | h r => exact absurd rfl (hh _)
def sApp (i : Nat) (f : FE) : FS := fun ρ => match ownAt ρ i with
  | some d => (match f ρ with
    | .ok y => (match appD d y with
      | some d' => .nx (ρ.set i (some (d', .own)))
      | none => .bad)
    | .ex c p => .ex c p ρ
    | .bad => .bad)
  | none => .bad
/-- x[k] = e: the value comes first -/
def sPut (i : Nat) (k f : FE) : FS := fun ρ => match f ρ with
  | .ok y => (match ownAt ρ i with
    | some d => (match k ρ with
      | .ok z => (match asI z with
        | .ok (some n) => (match setD d n y with
          | some d' => .nx (ρ.set i (some (d', .own)))
          | none => .bad)
        | _ => .bad)
      | .ex c p => .ex c p ρ
      | .bad => .bad)
    | none => .bad)
  | .ex c p => .ex c p ρ
  | .bad => .bad
section
variable {X : Cx} {pos : Pos}
/-- x.append(e) -/
theorem sv_app {i : Nat} {x : Str} {e : Expr} {f : FE} {px apos cpos : Pos} (he : PEv X e f) (hN : X.N[i]? = some x := by rfl) (hv : Vis X.env.scope x := by first | exact Or.inl rfl | exact Or.inr (Or.inl rfl) | exact Or.inr (Or.inr rfl)) (hd : (x == ("__debug__" : Str)) = false := by decide)
    (hcd : (x == ("__classdict__" : Str)) = false := by decide)
    (hbase : attributeBase (.Name x px) "append" X.env (eval (.Name x px) X.env) = eval (.Name x px) X.env := by rfl)
    (hfew : ((backTo cpos (starEach (e :: []) X.env)).all (fun x => !x.1) && (backToKw cpos (keywordEach [] X.env)).all (fun x => x.1.isSome)
      && decide ((e :: []).length + ([] : List Keyword).length + (if ([] : List Keyword).isEmpty then 0 else 1) < 30)) = true := by rfl)
    (hline : (apos.endLine == cpos.line) = true := by rfl) (hs : starEach (e :: []) X.env = (false, eval e X.env) :: starEach [] X.env := by rfl) (hplain : (backTo cpos (starEach [] X.env)).any (·.1) = false := by rfl)
    (hsw : swapsWith (.Call (.Attribute (.Name x px) "append" apos) [e] [] cpos) none pos.line X.env = pure false := by rfl) :
    PSv X (.Expr (.Call (.Attribute (.Name x px) "append" apos) [e] [] cpos) pos) (sApp i f) := fun W tk =>
  PS.imp (ps_expr (pe_bm PySem.F.plainAttrs_list PySem.F.slot_list_append PySem.F.type_list_append mt_append (pe_var hN hv hd hcd) (pa_cons (he W tk) pa_nil hs) hbase hfew hline hs hplain) hsw) fun D σ H h => by
    obtain ⟨H0, Pz, T, ρ, Fs, E, h⟩ := h
    unfold sApp at h
    cases e2 : ownAt ρ i with
    | none => rw [e2] at h; exact h.elim
    | some d =>
      rw [e2] at h
      obtain ⟨a, vs, A, hv, hF, hl⟩ := E.ownL e2
      refine ⟨_, hv, .inl ⟨rfl, vs, SqL.of hl⟩, ?_⟩
      show tev X.K X.mg W f σ H _
      simp only at h
      cases e1 : f ρ with
      | bad => rw [e1] at h; exact h.elim
      | ex c p => rw [e1] at h; exact ex_of E e1 h
      | ok y =>
        rw [e1] at h
        refine tev_ok E e1 fun v H1 F s1 E1 r1 o1 => ?_
        simp only at h
        cases e3 : appD d y with
        | none => rw [e3] at h; exact h.elim
        | some d' =>
          rw [e3] at h
          obtain ⟨a', vs', Fs', hv', hl', hz, E'⟩ := app_env E1 (ownAt_iff e2) r1 o1 e3
          rw [hv] at hv'
          cases hv'
          exact ⟨a, vs', v, rfl, rfl, hl', hz, h σ _ Fs' E'⟩
/-- x[k] = e -/
theorem sv_put {i : Nat} {x : Str} {e ke : Expr} {f k : FE} {px tpos : Pos} (he : PEv X e f) (hk : PEv X ke k) (hN : X.N[i]? = some x := by rfl) (hv : Vis X.env.scope x := by first | exact Or.inl rfl | exact Or.inr (Or.inl rfl) | exact Or.inr (Or.inr rfl)) (hd : (x == ("__debug__" : Str)) = false := by decide)
    (hcd : (x == ("__classdict__" : Str)) = false := by decide)
    (ha : ∀ v, assign (.Subscript (.Name x px) ke tpos) X.env v = (do
      let ov ← holding [v] (eval (.Name x px) X.env)
      let iv ← holding [v, ov] (eval ke X.env)
      standAt tpos
      holding [v, ov, iv] (setItem ov iv v)
      release [v, ov, iv] []) := by intro _; rfl)
    (hs : swapsWithSole [.Subscript (.Name x px) ke tpos] e pos.line X.env = pure false := by rfl) (hw : swappedStores [.Subscript (.Name x px) ke tpos] e X.env = pure none := by rfl)
    (h1 : (assignEach [.Subscript (.Name x px) ke tpos] X.env).map (·.2) = [assign (.Subscript (.Name x px) ke tpos) X.env] := by rfl) :
    PSv X (.Assign [.Subscript (.Name x px) ke tpos] e pos) (sPut i k f) := fun W tk =>
  PS.imp (ps_asg (he W tk) (pg_sub (pe_var hN hv hd hcd) (hk W tk) set_list ha) hs hw h1) fun D σ H h => by
    obtain ⟨H0, Pz, T, ρ, Fs, E, h⟩ := h
    show tev X.K X.mg W f σ H _
    unfold sPut at h
    cases e1 : f ρ with
    | bad => rw [e1] at h; exact h.elim
    | ex c p => rw [e1] at h; exact ex_of E e1 h
    | ok y =>
      rw [e1] at h
      refine tev_ok E e1 fun v H1 F s1 E1 r1 o1 => ?_
      simp only at h
      cases e2 : ownAt ρ i with
      | none => rw [e2] at h; exact h.elim
      | some d =>
        rw [e2] at h
        obtain ⟨a, vs, A, hv, hF, hl⟩ := E1.ownL e2
        refine ⟨_, hv, ?_⟩
        show tev X.K X.mg W k σ H1 _
        simp only at h
        cases e3 : k ρ with
        | bad => rw [e3] at h; exact h.elim
        | ex c p => rw [e3] at h; exact ex_of E1 e3 h
        | ok z =>
          rw [e3] at h
          refine tev_ok E1 e3 fun w H2 G s2 E2 r2 o2 => ?_
          simp only at h
          cases e4 : asI z with
          | bad => rw [e4] at h; exact h.elim
          | ex c p => exact absurd e4 asI_noex
          | ok n =>
            obtain ⟨n', hz, hn⟩ := asI_ok e4
            subst hn
            rw [e4] at h
            simp only at h
            rw [hz] at r2
            cases r2 with
            | i r2 =>
              cases r2
              cases e5 : setD d n' y with
              | none => rw [e5] at h; exact h.elim
              | some d' =>
                rw [e5] at h
                obtain ⟨a', vs', j, Fs', hv', hl', hj, E'⟩ := set_env E2 (ownAt_iff e2) (r1.same s2) (o1.same s2) e5
                rw [hv] at hv'
                cases hv'
                exact ⟨a, vs', n', j, rfl, rfl, hl', hj, h σ _ Fs' E'⟩
end
end L2.Pv

namespace L2.Pv
open PySem PySem.Spec PyProof.Rows

/-! ## while -/
def whileF (c : FT) (b : FS) : Nat → FS
  | 0 => fun _ => .bad
  | n + 1 => fun ρ => match c ρ with
    | .ok true => (match b ρ with
      | .nx ρ' => whileF c b n ρ'
      | .ct ρ' => whileF c b n ρ'
      | .bk ρ' => .nx ρ'
      | .rt d => .rt d
      | .ex x p ρ' => .ex x p ρ'
      | .bad => .bad)
    | .ok false => .nx ρ
    | .ex x p => .ex x p ρ
    | .bad => .bad
def sWhile (c : FT) (b : FS) : FS := whileF c b 100000
/-- what is wanted behind a statement whose data are r -/
def Post (K : PySem.W.Frag) (mg : MG) (W : WX) (H0 Pz : Hp) (T : Addr → Prop) (D : Ends) : RS → Prop
  | .nx ρ' => ∀ σ' H' Fs', EnvR K H0 Pz T H' σ' ρ' Fs' → D.nx σ' H'
  | .rt d => ∀ v H' F, Same H0 H' → RpD K H' v d F → RetOk H0 H' d F → D.rt v H'
  | .bk ρ' => ∀ σ' H' Fs', EnvR K H0 Pz T H' σ' ρ' Fs' → D.bk σ' H'
  | .ct ρ' => ∀ σ' H' Fs', EnvR K H0 Pz T H' σ' ρ' Fs' → D.ct σ' H'
  | .ex c p ρ' => ∀ C d σ' H' Fs', mg c = some (.ref C) → EnvR K H0 Pz T H' σ' ρ' Fs' → ExD K H' d p → W (.ref C) d σ' H'
  | .bad => False
theorem tsv_post {K : PySem.W.Frag} {mg : MG} {W : WX} {g : FS} {D : Ends} {σ : St} {H : Hp} : tsv K mg W g D σ H ↔ ∃ H0 Pz T ρ Fs, EnvR K H0 Pz T H σ ρ Fs ∧ Post K mg W H0 Pz T D (g ρ) := by
  constructor
  · rintro ⟨H0, Pz, T, ρ, Fs, E, h⟩
    refine ⟨H0, Pz, T, ρ, Fs, E, ?_⟩
    cases e : g ρ <;> (rw [e] at h; exact h)
  · rintro ⟨H0, Pz, T, ρ, Fs, E, h⟩
    refine ⟨H0, Pz, T, ρ, Fs, E, ?_⟩
    cases e : g ρ <;> (rw [e] at h; exact h)
section
variable {X : Cx} {pos : Pos}
theorem sv_while {c : Expr} {body : List Stmt} {t : FT} {g : FS} (hp : PassesOwn (model X.prog X.w) X.A X.env X.xe) (hc : PTv X c t) (hb : PSsv X body g) : PSv X (.While c body [] pos) (sWhile t g) := fun W tk =>
  PS.imp (ps_while hp (hc W tk) (hb W tk)) fun D σ H h => by
    obtain ⟨H0, Pz, T, ρ, Fs, E, h⟩ := tsv_post.mp h
    refine ⟨fun m σ H => ∃ ρ Fs, EnvR X.K H0 Pz T H σ ρ Fs ∧ Post X.K X.mg W H0 Pz T D (whileF t g m ρ), ⟨100000, ρ, Fs, E, h⟩, ?_⟩
    clear h E
    rintro m σ H ⟨ρ, Fs, E, h⟩
    show ttv X.K X.mg W t σ H _
    cases m with
    | zero => exact h.elim
    | succ n =>
      unfold whileF at h
      cases e1 : t ρ with
      | bad => rw [e1] at h; exact h.elim
      | ex c p => rw [e1] at h; exact ttv_ex E e1 fun C H' d hC s xd => h C d σ H' Fs hC (E.same s) xd
      | ok b =>
        rw [e1] at h
        refine ttv_ok E e1 fun H1 s1 E1 => ?_
        cases b with
        | false => simp only [Bool.false_eq_true, if_false] at h ⊢; exact h σ H1 Fs E1
        | true =>
          simp only [if_true] at h ⊢
          refine ⟨fun σ' H' => ∃ ρ Fs, EnvR X.K H0 Pz T H' σ' ρ Fs ∧ Post X.K X.mg W H0 Pz T D (whileF t g n ρ), fun σ' H' q => ⟨n, Nat.lt_succ_self n, q⟩, ?_⟩
          refine tsv_post.mpr ⟨H0, Pz, T, ρ, Fs, E1, ?_⟩
          cases e2 : g ρ with
          | nx ρ' => rw [e2] at h; exact fun σ' H' Fs' E' => ⟨ρ', Fs', E', h⟩
          | ct ρ' => rw [e2] at h; exact fun σ' H' Fs' E' => ⟨ρ', Fs', E', h⟩
          | bk ρ' => rw [e2] at h; exact h
          | rt d => rw [e2] at h; exact h
          | ex c p ρ' => rw [e2] at h; exact h
          | bad => rw [e2] at h; exact h
end
/-! ## for -/
def loopF (t : TF) (b : FS) : List (DV × Md) → FS
  | [] => .nx
  | x :: r => fun ρ => match t x ρ with
    | none => .bad
    | some ρ1 => (match b ρ1 with
      | .nx ρ2 => loopF t b r ρ2
      | .ct ρ2 => loopF t b r ρ2
      | .bk ρ2 => .nx ρ2
      | .rt d => .rt d
      | .ex x p ρ' => .ex x p ρ'
      | .bad => .bad)
/-- an owned list that is walked is not changed from then on -/
def dem1 (ρ : Env) (i : Nat) : Env := match ρ[i]? with
  | some (some (.l xs, .own)) => ρ.set i (some (.l xs, .loc))
  | some (some (.m xs, .own)) => ρ.set i (some (.m xs, .loc))
  | _ => ρ
def demL (ρ : Env) : List Nat → Env
  | [] => ρ
  | i :: r => demL (dem1 ρ i) r
def sFor (ds : List Nat) (src : FI) (t : TF) (b : FS) : FS := fun ρ => match src (demL ρ ds) with
  | .ok it => if it.2 = .tmp then .bad else loopF t b it.1 (demL ρ ds)
  | .ex c p => .ex c p (demL ρ ds)
  | .bad => .bad
section
variable {K : PySem.W.Frag} {H0 Pz H H1 H2 : Hp} {T : Addr → Prop} {σ : St} {ρ : Env} {Fs : Nat → List Addr}
theorem EnvR.setLoc (E : EnvR K H0 Pz T H σ ρ Fs) {i : Nat} {d : DV} (hi : ρ[i]? = some (some (d, .own))) : EnvR K H0 Pz T H σ (ρ.set i (some (d, .loc))) Fs := by
  have hil : i < ρ.length := (List.getElem?_eq_some_iff.mp hi).1
  refine ⟨E.h0, E.pz, E.tn, E.th, by rw [List.length_set]; exact E.len, fun j d' m' h => ?_, fun j d' m' h hb => ?_, fun j d' h => ?_, E.tt, fun j h => ?_⟩
  · by_cases hj : j = i
    · subst hj
      rw [List.getElem?_set_self hil] at h
      cases h
      exact E.at_ j d .own hi
    · rw [List.getElem?_set_ne (fun z => hj z.symm)] at h
      exact E.at_ j d' m' h
  · by_cases hj : j = i
    · subst hj
      exact E.fresh j d .own hi (by intro z; cases z)
    · rw [List.getElem?_set_ne (fun z => hj z.symm)] at h
      exact E.fresh j d' m' h hb
  · by_cases hj : j = i
    · subst hj
      rw [List.getElem?_set_self hil] at h
      cases h
    · rw [List.getElem?_set_ne (fun z => hj z.symm)] at h
      exact E.top j d' h
  · by_cases hj : j = i
    · subst hj
      exact absurd (List.getElem?_set_self hil) (h d .loc)
    · refine E.nil j fun d' m' z => h d' m' ?_
      rw [List.getElem?_set_ne (fun z => hj z.symm)]
      exact z
theorem EnvR.dem1 (E : EnvR K H0 Pz T H σ ρ Fs) (i : Nat) : EnvR K H0 Pz T H σ (dem1 ρ i) Fs := by
  unfold Pv.dem1
  split
  · rename_i q; exact E.setLoc q
  · rename_i q; exact E.setLoc q
  · exact E
theorem EnvR.demL : ∀ {ds : List Nat} {ρ : Env}, EnvR K H0 Pz T H σ ρ Fs → EnvR K H0 Pz T H σ (demL ρ ds) Fs
  | [], _, E => E
  | i :: r, _, E => EnvR.demL (ds := r) (E.dem1 i)
/-- what is walked may not change meanwhile -/
def prot (H1 Pz : Hp) (P : List Addr) : Hp := fun a => match H1 a with
  | some (.tup xs) => some (.tup xs)
  | some (.frz o u) => some (.frz o u)
  | o => if a ∈ P then o else Pz a
theorem prot_same {P : List Addr} (e : Same Pz H1) : Same Pz (prot H1 Pz P) := fun a o h => by
  have q := e a o h
  unfold prot
  rw [q]
  split
  · rename_i z; cases z; rfl
  · rename_i z; cases z; rfl
  · split
    · rfl
    · exact h
theorem prot_le {P : List Addr} (e : Same Pz H1) : Same (prot H1 Pz P) H1 := fun a o h => by
  unfold prot at h
  split at h
  · rename_i q; rw [q]; exact h
  · rename_i q; rw [q]; exact h
  · split at h
    · exact h
    · exact e a o h
theorem prot_keep {P : List Addr} (d : ∀ a ∈ P, ∃ o, H1 a = some o) (s : Same (prot H1 Pz P) H2) : Keep H1 H2 P := by
  refine ⟨⟨fun a xs h => s a _ ?_, fun a o u h => s a _ ?_⟩, fun a ha => ?_⟩
  · unfold prot; rw [h]
  · unfold prot; rw [h]
  · obtain ⟨o, q⟩ := d a ha
    rw [q]
    refine s a o ?_
    unfold prot
    rw [q]
    split
    · rename_i z; cases z; rfl
    · rename_i z; cases z; rfl
    · rw [if_pos ha]
theorem prot_none {P : List Addr} {a : Addr} (h : Mb H1 a) (hp : Pz a = none) (ha : a ∉ P) : prot H1 Pz P a = none := by
  obtain ⟨o, h, ho⟩ := h
  unfold prot
  rw [h]
  split
  · rename_i z; cases z; cases ho
  · rename_i z; cases z; cases ho
  · rw [if_neg ha, hp]
theorem prot_mem {P : List Addr} {a : Addr} (d : ∀ a ∈ P, ∃ o, H1 a = some o) (ha : a ∈ P) : prot H1 Pz P a ≠ none := by
  obtain ⟨o, q⟩ := d a ha
  unfold prot
  rw [q]
  split
  · intro z; cases z
  · intro z; cases z
  · rw [if_pos ha]; intro z; cases z
theorem EnvR.prot (E : EnvR K H0 Pz T H1 σ ρ Fs) {P : List Addr} (n : NoTops T ρ Fs P) : EnvR K H0 (prot H1 Pz P) T H1 σ ρ Fs where
  h0 := E.h0.trans (prot_same E.pz)
  pz := prot_le E.pz
  tn := fun a ta => by
    exact prot_none (E.th a ta) (E.tn a ta) (n.2 a ta)
  th := E.th
  len := E.len
  at_ := E.at_
  fresh := E.fresh
  top := fun i d h a G e => by
    obtain ⟨h1, h2, h3⟩ := E.top i d h a G e
    obtain ⟨_, q⟩ := E.fresh i d .own h (by intro z; cases z) a (by rw [e]; exact List.mem_cons_self)
    exact ⟨prot_none q h1 (n.1 i d h a G e), h2, h3⟩
  tt := E.tt
  nil := E.nil
theorem EnvR.unprot {Pz' : Hp} (h0 : Same H0 Pz) (hp : Same Pz Pz') (E : EnvR K H0 Pz' T H σ ρ Fs) : EnvR K H0 Pz T H σ ρ Fs := by
  have no : ∀ a, Pz' a = none → Pz a = none := fun a h => by
    cases q : Pz a with
    | none => rfl
    | some o => rw [hp _ _ q] at h; cases h
  exact ⟨h0, hp.trans E.pz, fun a ta => no a (E.tn a ta), E.th, E.len, E.at_, E.fresh, fun i d h a G e => ⟨no a (E.top i d h a G e).1, (E.top i d h a G e).2⟩, E.tt, E.nil⟩
theorem Post.unprot {mg : MG} {W : WX} {Pz' : Hp} {D : Ends} {r : RS} (h0 : Same H0 Pz) (hp : Same Pz Pz') (h : Post K mg W H0 Pz T D r) : Post K mg W H0 Pz' T D r := by
  cases r with
  | nx ρ' => exact fun σ' H' Fs' E' => h σ' H' Fs' (E'.unprot h0 hp)
  | rt d => exact h
  | bk ρ' => exact fun σ' H' Fs' E' => h σ' H' Fs' (E'.unprot h0 hp)
  | ct ρ' => exact fun σ' H' Fs' E' => h σ' H' Fs' (E'.unprot h0 hp)
  | ex c p ρ' => exact fun C d σ' H' Fs' hC E' => h C d σ' H' Fs' hC (E'.unprot h0 hp)
  | bad => exact h
end
section
variable {X : Cx} {pos : Pos}
theorem sv_for {tg iter : Expr} {body : List Stmt} {src : FI} {t : TF} {g : FS} {vs : List Nat} (ds : List Nat) (hp : PassesOwn (model X.prog X.w) X.A X.env X.xe) (hc : X.calm = true) (hi : PIv X tg iter src) (hg : PGv X vs tg t) (hb : PSsv X body g)
    (hs : ∀ x, foldedSetIterable iter X.env x = pure x := by intro _; rfl) : PSv X (.For tg iter body [] pos) (sFor ds src t g) := fun W tk =>
  PS.imp (ps_for hp hc (hi W tk) hg (hb W tk) hs) fun D σ H h => by
    obtain ⟨H0, Pz, T, ρ, Fs, E, h⟩ := tsv_post.mp h
    have E := E.demL (ds := ds)
    unfold sFor at h
    generalize demL ρ ds = ρ0 at E h
    show tiv X.K X.mg W src σ H _
    refine ⟨H0, Pz, T, ρ0, Fs, E, ?_⟩
    cases e1 : src ρ0 with
    | bad => rw [e1] at h; exact h.elim
    | ex c p => rw [e1] at h; exact fun C H' d hC s xd => h C d σ H' Fs hC (E.same s) xd
    | ok it =>
      rw [e1] at h
      simp only at h
      by_cases hm : it.2 = .tmp
      · rw [if_pos hm] at h; exact h.elim
      · rw [if_neg hm] at h
        obtain ⟨items, m⟩ := it
        simp only at hm h
        intro J H1 P s1 wk
        have E1 := (E.same s1)
        have nt := wk.notops hm
        have E1p := E1.prot nt
        have hpz : Same Pz (prot H1 Pz P) := prot_same E1.pz
        have h' : Post X.K X.mg W H0 (prot H1 Pz P) T D (loopF t g items ρ0) := Post.unprot E.h0 hpz h
        refine ⟨fun i mm σ H => mm = items.length - i ∧ i ≤ items.length ∧ ∃ ρ Fs, EnvR X.K H0 (prot H1 Pz P) T H σ ρ Fs ∧ Post X.K X.mg W H0 (prot H1 Pz P) T D (loopF t g (items.drop i) ρ), ⟨items.length, by simp, Nat.zero_le _, ρ0, Fs, E1p, h'⟩, ?_⟩
        rintro i mm σ2 H2 ⟨rfl, hil, ρ2, Fs2, E2, h2⟩
        have kp : Keep H1 H2 P := prot_keep wk.dom E2.pz
        by_cases hlt : i < items.length
        · right
          refine ⟨wk.go i H2 kp hlt, fun σ' H' => ∃ ρ Fs, EnvR X.K H0 (prot H1 Pz P) T H' σ' ρ Fs ∧ Post X.K X.mg W H0 (prot H1 Pz P) T D (loopF t g (items.drop (i + 1)) ρ), fun σ' H' q => ⟨items.length - (i + 1), by omega, rfl, hlt, q⟩, fun x H3 y => ?_⟩
          have hget : items[i]? = some items[i] := List.getElem?_eq_getElem hlt
          obtain ⟨s3, ⟨F, r3, o3, hFP, hw, hnt⟩⟩ := wk.yld i H2 x H3 kp y items[i] hget
          have hdrop : items.drop i = items[i] :: items.drop (i + 1) := List.drop_eq_getElem_cons hlt
          rw [hdrop] at h2
          unfold loopF at h2
          have E3 := E2.same s3
          have o3' : ResOk H0 (prot H1 Pz P) T ρ2 Fs2 H3 F items[i].2 := by
            by_cases ho : items[i].2 = .own
            · rw [hw ho]; exact .nil
            · refine ⟨o3.fresh, fun z => absurd z ho, fun _ => ⟨fun k d hk a G e ha => ?_, fun a ta ha => ?_⟩, fun z => absurd z hnt⟩
              · exact prot_mem wk.dom (hFP a ha) (E3.top k d hk a G e).1
              · exact prot_mem wk.dom (hFP a ha) (E3.tn a ta)
          refine ⟨H0, prot H1 Pz P, T, ρ2, Fs2, items[i], F, E3, r3, o3', hnt, ?_⟩
          cases e2 : t items[i] ρ2 with
          | none => rw [e2] at h2; exact h2
          | some ρ3 =>
            rw [e2] at h2
            intro σ4 H4 Fs4 s4 E4 A4
            refine tsv_post.mpr ⟨H0, prot H1 Pz P, T, ρ3, Fs4, E4, ?_⟩
            simp only at h2
            cases e3 : g ρ3 with
            | nx ρ' => rw [e3] at h2; exact fun σ' H' Fs' E' => ⟨ρ', Fs', E', h2⟩
            | ct ρ' => rw [e3] at h2; exact fun σ' H' Fs' E' => ⟨ρ', Fs', E', h2⟩
            | bk ρ' => rw [e3] at h2; exact h2
            | rt d => rw [e3] at h2; exact h2
            | ex c p ρ' => rw [e3] at h2; exact h2
            | bad => rw [e3] at h2; exact h2
        · left
          have ei : i = items.length := by omega
          subst ei
          rw [List.drop_length] at h2
          exact ⟨wk.stop _ H2 kp rfl, h2 σ2 H2 Fs2 E2⟩
end
/-! ## defs -/
def pmd : DV → Md
  | .i _ => .own
  | _ => .bor
def startE (n : Nat) (ds : List DV) : Env := ds.map (fun d => some (d, pmd d)) ++ List.replicate (n - ds.length) none
def runF (n : Nat) (g : FS) : FF := fun ds => match g (startE n ds) with
  | .rt d => .ok d
  | .nx _ => .ok (.i .non)
  | .ex c p _ => .ex c p
  | _ => .bad
theorem ArgsIn.fps {K : PySem.W.Frag} {H : Hp} : ∀ {vs : List V} {ds : List DV}, ArgsIn K H vs ds → ∃ Fl : List (List Addr), Fl.length = ds.length ∧ ∀ (i : Nat) (d : DV), ds[i]? = some d → ∃ v F, vs[i]? = some v ∧ Fl[i]? = some F ∧ RpD K H v d F
  | _, [], h => ⟨[], rfl, fun i d e => by simp at e⟩
  | _, d :: ds, h => by
    cases h with
    | @cons v vs _ _ F a b =>
      obtain ⟨Fl, h1, h2⟩ := ArgsIn.fps b
      refine ⟨F :: Fl, congrArg (· + 1) h1, fun i d' e => ?_⟩
      cases i with
      | zero =>
        have e' : d = d' := by simpa using e
        subst e'
        exact ⟨v, F, rfl, rfl, a⟩
      | succ i =>
        obtain ⟨v', F', q1, q2, q3⟩ := h2 i d' (by simpa using e)
        exact ⟨v', F', by simpa using q1, by simpa using q2, q3⟩
theorem start_env {K : PySem.W.Frag} {H : Hp} {N : List Str} {vs : List V} {ds : List DV} (a : ArgsIn K H vs ds) : ∃ Fs, EnvR K H H (fun _ => False) H (start N vs) (startE N.length ds) Fs := by
  obtain ⟨Fl, hl, hf⟩ := a.fps
  have hlen := a.length
  refine ⟨fun j => (Fl[j]?).getD [], fun _ _ z => z, fun _ _ z => z, fun _ z => z.elim, fun _ z => z.elim, ?_, fun i d m h => ?_, fun i d m h hb c hc => ?_, fun i d h b G e => ?_, fun _ z => z.elim, fun j h => ?_⟩
  · unfold start startE
    simp only [List.length_append, List.length_map, List.length_replicate]
    omega
  all_goals (try (
    have key : i < ds.length ∧ ds[i]? = some d ∧ m = pmd d := by
      unfold startE at h
      by_cases hi : i < ds.length
      · rw [List.getElem?_append_left (by rw [List.length_map]; exact hi), List.getElem?_map, List.getElem?_eq_getElem hi] at h
        simp only [Option.map_some, Option.some.injEq, Prod.mk.injEq] at h
        exact ⟨hi, by rw [List.getElem?_eq_getElem hi, h.1], by rw [← h.2, h.1]⟩
      · rw [List.getElem?_append_right (by rw [List.length_map]; omega), List.getElem?_replicate] at h
        split at h <;> cases h))
  · obtain ⟨hi, hd, _⟩ := key
    obtain ⟨v, F, q1, q2, q3⟩ := hf i d hd
    refine ⟨v, ?_, by rw [q2]; exact q3⟩
    unfold start
    have hv : i < vs.length := by omega
    rw [List.getElem?_append_left (by rw [List.length_map]; exact hv), List.getElem?_map, q1]
    rfl
  · obtain ⟨hi, hd, hm⟩ := key
    obtain ⟨v, F, q1, q2, q3⟩ := hf i d hd
    rw [q2] at hc
    cases d with
    | i x => cases q3; cases hc
    | _ => exact absurd hm hb
  · have key : ds[i]? = some d ∧ Md.own = pmd d := by
      unfold startE at h
      by_cases hi : i < ds.length
      · rw [List.getElem?_append_left (by rw [List.length_map]; exact hi), List.getElem?_map, List.getElem?_eq_getElem hi] at h
        simp only [Option.map_some, Option.some.injEq, Prod.mk.injEq] at h
        exact ⟨by rw [List.getElem?_eq_getElem hi, h.1], by rw [← h.2, h.1]⟩
      · rw [List.getElem?_append_right (by rw [List.length_map]; omega), List.getElem?_replicate] at h
        split at h <;> cases h
    obtain ⟨hd, hm⟩ := key
    obtain ⟨v, F, q1, q2, q3⟩ := hf i d hd
    have e' : (Fl[i]?).getD [] = b :: G := e
    rw [q2] at e'
    cases d with
    | i x => cases q3; cases e'
    | _ => cases hm
  · show (Fl[j]?).getD [] = []
    by_cases hj : j < ds.length
    · exfalso
      refine h ds[j] (pmd ds[j]) ?_
      unfold startE
      rw [List.getElem?_append_left (by rw [List.length_map]; exact hj), List.getElem?_map, List.getElem?_eq_getElem hj]
      rfl
    · rw [List.getElem?_eq_none (by omega)]
      rfl
section
variable {P : Program} {w : World} {K : PySem.W.Frag} {mg : MG} {base : Heap}
/-- THE RULE for a def: its body's data function is its own -/
theorem fn_ok {x qual : Str} {params : Arguments} {body : List Stmt} {scope : Scope} {f : Addr} {fd : FuncData} {N ps : List Str} {k : Nat} {g : FS} (F : FunD K x qual params body scope [] [] f fd) (S : FnScope N ps scope)
    (hbody : ∀ (cdv : Value) (A : Around) (outer : List PySem.Env) (s : Shared) (H : Hp) (E : XK), Room k (A.deeper (envOfC qual scope s.heap.objs.size f cdv)) →
      PSsv (cxOf (L2.CX P w) P w K mg base N qual scope f cdv A outer s H E) body g) : FnOk P w K mg base (L2.CX P w) (k + 1) f fd ps (spF K mg ps.length (runF N.length g)) := by
  refine F.ok S (fun vs H Q E h => h.1) fun cdv A outer s H vs Q E hr h => ⟨_, hbody cdv A outer s H E hr (fun cls d _ H => E cls d H) (takes_of rfl rfl rfl rfl), ?_⟩
  obtain ⟨hl, ds, ha, h⟩ := h
  obtain ⟨Fs, E0⟩ := start_env (N := N) ha
  refine tsv_post.mpr ⟨H, H, fun _ => False, startE N.length ds, Fs, E0, ?_⟩
  unfold runF at h
  cases e : g (startE N.length ds) with
  | nx ρ' =>
    rw [e] at h
    exact fun σ' H' Fs' E' => h .non H' [] E'.pz (.i .non) ⟨fun _ z => (nomatch z), fun _ _ _ z => (nomatch z)⟩
  | rt d => rw [e] at h; exact h
  | bk ρ' => rw [e] at h; exact h.elim
  | ct ρ' => rw [e] at h; exact h.elim
  | ex c p ρ' =>
    rw [e] at h
    exact fun C d σ' H' Fs' hC E' xd => h C H' d hC E'.pz xd
  | bad => rw [e] at h; exact h.elim
end
end L2.Pv
namespace L2.Pv
open PySem PySem.Spec PyProof.Rows
/-- the name x holds a def that keeps its promise -/
def Has (P : Program) (w : World) (K : PySem.W.Frag) (mg : MG) (base : Heap) (x : Str) (k n : Nat) (Fn : FF) : Prop :=
  ∃ fa fd ps, FnOk P w K mg base (L2.CX P w) k fa fd ps (spF K mg n Fn) ∧ mg x = some (.ref fa) ∧ PySem.W.keepIn K (.ref fa) = true ∧ Binds K fd ps []
/-- the name x holds the def of this text -/
def Def (K : PySem.W.Frag) (mg : MG) (x : Str) (st : Stmt) : Prop := ∃ f fd, FunD K x x (defArgs st) (defBody st) (defScope st) [] [] f fd ∧ mg x = some (.ref f)
/-- an own exception without an __init__ -/
def Exc (K : PySem.W.Frag) (mg : MG) (x : Str) : Prop := ∃ C, mg x = some (.ref C) ∧ PySem.W.excIn K C He.veBase "ValueError.__new__" = true ∧ PySem.W.keepIn K (.ref C) = true ∧ PySem.W.subIn K (.ref C) (.type "BaseException") = some true ∧ PySem.W.typeIn K (.ref C) = some (.type "type")
section
variable {P : Program} {w : World} {K : PySem.W.Frag} {mg : MG} {base : Heap}
theorem has_of {x : Str} {st : Stmt} {N ps : List Str} {k : Nat} {g : FS} (D : Def K mg x st) (S : FnScope N ps (defScope st))
    (hb : ∀ (kV doc pm : Value) (an : Option Addr) (cdv ct : Value) (us : List Value), us.length = ps.length → bindArgs (PySem.W.fnOf x x (defArgs st) (defBody st) (defScope st) .none kV doc pm an cdv ct) ⟨us, []⟩ = pure (ps.zip us))
    (hbody : ∀ (f : Addr) (cdv : Value) (A : Around) (outer : List PySem.Env) (s : Shared) (H : Hp) (E : XK), Room k (A.deeper (envOfC x (defScope st) s.heap.objs.size f cdv)) →
      PSsv (cxOf (L2.CX P w) P w K mg base N x (defScope st) f cdv A outer s H E) (defBody st) g) : Has P w K mg base x (k + 1) ps.length (runF N.length g) := by
  obtain ⟨f, fd, F, hm⟩ := D
  exact ⟨f, fd, ps, fn_ok F S fun cdv A outer s H E hr => hbody f cdv A outer s H E hr, hm, F.kp, F.bindsN hb⟩
end
section
variable {X : Cx} {k : Nat} {Fn : FF} {x : Str} {p pos : Pos} {e : Expr} {es : List Expr} {g : FA} {n : Nat}
theorem ev_callH (h : Has X.prog X.w X.K X.mg X.base x k n Fn) (hr : Room k X.A) (hg : Gl X x)
    (hn : (e :: es).length = n) (ha : PAv X (e :: es) g) (hl : ∀ ρ xs, g ρ = .ok xs → xs.length = n) (hdb : (x == ("__debug__" : Str)) = false := by decide) (he : starEach (e :: es) X.env = (false, eval e X.env) :: starEach es X.env := by rfl) (hpl : (backTo pos (starEach es X.env)).any (·.1) = false := by rfl) :
    PEv X (.Call (.Name x p) (e :: es) [] pos) (eCall Fn g) := by
  obtain ⟨fa, fd, ps, F, hm, hk, hb⟩ := h
  exact ev_call F hr hg hm hk hb hn ha hdb he hpl hl
theorem sv_raiseH {c : Str} {m : Str} {j : Nat} {p p2 p3 : Pos} (h : Exc X.K X.mg c) (hc : X.calm = true) (hg : Gl X c) (hdb : (c == ("__debug__" : Str)) = false := by decide) :
    PSv X (.Raise (some (.Call (.Name c p) [.Constant (.str m) j p2] [] p3)) none pos) (sRaise c) := by
  obtain ⟨C, gC, q, kC, sC, tC⟩ := h
  exact sv_raise hc q gC kC sC tC hg hdb
end
end L2.Pv

namespace L2.Pv
open PySem PySem.Spec PyProof.Rows

/-! ## try: several clauses, with or without a name -/
/-- a clause: the class, the name's slot if it has one, the suite -/
structure Cl where
  c : Value
  i : Option Nat
  ts : Addr → Value → Option Addr → TS
def offN (i : Option Nat) (D : Ends) : Ends := match i with
  | none => D
  | some i => { nx := fun σ' H' => D.nx (σ'.set i none) H', rt := D.rt, bk := fun σ' H' => D.bk (σ'.set i none) H', ct := fun σ' H' => D.ct (σ'.set i none) H' }
def onN (i : Option Nat) (a : Addr) (σ : St) : St := match i with
  | none => σ
  | some i => σ.set i (some (.ref a))
def wCl (K : PySem.W.Frag) (Wout : WX) (D : Ends) : List Cl → WX
  | [] => Wout
  | q :: r => fun cls d σ H => ∃ b, PySem.W.exmOne K cls q.c = some b ∧ (b = true → ∀ a, H a = none → q.ts a cls d (offN q.i D) (onN q.i a σ) H) ∧ (b = false → wCl K Wout D r cls d σ H)
inductive ClOk (X : Cx) : List ExceptHandler → List Cl → Prop
  | nil : ClOk X [] []
  | cons {x : Str} {c : Value} {ts : Addr → Value → Option Addr → TS} {b₀ : Stmt} {suite : List Stmt} {np pos' : Pos} {hds : List ExceptHandler} {l : List Cl} (hc : Names X x c)
      (hsu : ∀ (a : Addr) (oe : Obj) (cls : Value) (d : Option Addr) (pn : List (Addr × Obj)), Zc cls d oe → (∃ vs, oe.data = .fields vs) → PSs (X.suite a ((a, oe) :: pn)) (b₀ :: suite) (ts a cls d)) (r : ClOk X hds l) :
      ClOk X (.ExceptHandler (some (.Name x np)) none (b₀ :: suite) pos' :: hds) (⟨c, none, ts⟩ :: l)
  | as {x n : Str} {c : Value} {i : Nat} {ts : Addr → Value → Option Addr → TS} {b₀ : Stmt} {suite : List Stmt} {np pos' : Pos} {hds : List ExceptHandler} {l : List Cl} (hc : Names X x c) (hN : X.N.Nodup) (hi : X.N[i]? = some n) (hln : X.env.kindOf n = some .local)
      (hsu : ∀ (a : Addr) (oe : Obj) (cls : Value) (d : Option Addr) (pn : List (Addr × Obj)), Zc cls d oe → (∃ vs, oe.data = .fields vs) → PSs (X.suite a ((a, oe) :: pn)) (b₀ :: suite) (ts a cls d)) (r : ClOk X hds l) :
      ClOk X (.ExceptHandler (some (.Name x np)) (some n) (b₀ :: suite) pos' :: hds) (⟨c, some i, ts⟩ :: l)
theorem ps_tryCl {X : Cx} {body : List Stmt} {h₀ : ExceptHandler} {hds : List ExceptHandler} {l : List Cl} {pos : Pos} {tb : WX → TS} {Wout : WX} (hs : X.stack = X.env :: X.outer) (hf : X.env.frame = some X.env.locals) (tk : Takes X Wout)
    (hb : ∀ (W : WX) (pn : List (Addr × Obj)) (xe : Value → Shared → Prop), Takes (X.tr pn xe) W → PassesOwn (model X.prog X.w) X.A X.env xe → PSs (X.tr pn xe) body (tb W))
    (hh : ClOk X (h₀ :: hds) l) : PS X (.Try body (h₀ :: hds) [] [] pos) (fun D σ H => tb (wCl X.K Wout D l) D σ H) := by
  refine ⟨fun pins s σ H D I h => ?_⟩
  have ok := I.ok
  have hfr : X.A.frames = some (X.env :: X.outer) := by rw [ok.frames, hs]
  refine wpAny_Try_except ?_
  refine wpAny_mono ((hb (wCl X.K Wout D l) (X.pn ++ pins) (fun e s₁ => wpAny (model X.prog X.w) X.A (noteFrame e X.env) (fun _ s₂ => wpAny (model X.prog X.w) X.A (setFlight e none) (fun _ s₃ =>
    wpAny (model X.prog X.w) X.A (handleBy e X.env (h₀ :: hds)) (SP X pins D) X.xe s₃) X.xe s₂) X.xe s₁) (fun u s' xx => ?_) PassesOwn.looking).run [] s σ H D (I.toTry _) h) (fun f s1 hsp => ?_) (fun e s1 he => he)
  · obtain ⟨a, B, sI, pins', σ', H', cls, d, rfl, J', nb, up, sky, na, os, ag, wish⟩ := xx
    have J : Inv X pins σ' H' sI := J'.ofTry ok
    show wpAny (model X.prog X.w) X.A (noteFrame (.ref a) X.env) _ _ _
    refine Sky.land Zc.steady hfr hf (show Sky B (X.env :: X.outer) a (Zc cls d) X.env.locals s'.heap by rw [← hs]; exact sky) fun h3 fl3 up3 => ?_
    have J3 : Inv X pins σ' H' { s' with heap := h3 } := J.landed nb fl3.1 (up.trans up3) os ag
    obtain ⟨oe3, vs3, he3, hz3, hd3⟩ := fl3.there
    have nfr : a ∉ frs (X.env :: X.outer) := fun hm => by
      obtain ⟨_, o', e', hnf⟩ := fl3.2.2.1.mem hm
      rw [he3] at e'; cases e'
      exact hnf _ hd3
    have nL : a ≠ X.env.locals := fun z => nfr (List.mem_filterMap.mpr ⟨X.env, List.mem_cons_self, by rw [hf, z]⟩)
    have nF : a ∉ X.fs := fun hm => by
      obtain ⟨e, he, q⟩ := List.mem_filterMap.mp hm
      exact nfr (List.mem_filterMap.mpr ⟨e, List.mem_cons_of_mem _ he, q⟩)
    have S3 := J3.suite he3 hd3 na nL nF
    have LT : PySem.W.Looks (model X.prog X.w) h3 (typeOf (.ref a)) cls := fun A Q E s k q => wpAny_typeOf_ref (k _ _ he3) (by rw [hz3.1]; exact q)
    have test : ∀ {x : Str} {c : Value} {np : Pos} {Q : Value → Shared → Prop} {E : Value → Shared → Prop}, Names X x c → Q c { s' with heap := h3 } → wpAny (model X.prog X.w) (X.A.mark (some (.ref a))) (eval (.Name x np) X.env) Q E { s' with heap := h3 } := fun {x c np Q E} hc q => by
      obtain ⟨hg, hdbg, hm | ⟨hm, hv, hnn⟩⟩ := hc
      · exact ld_glob (X := X.suite a ((a, oe3) :: (X.pn ++ pins))) S3 hg hm q hdbg
      · exact ld_blt (X := X.suite a ((a, oe3) :: (X.pn ++ pins))) S3 hg hm hv q hnn hdbg
    have go : ∀ {hds' : List ExceptHandler} {l' : List Cl}, ClOk X hds' l' → wCl X.K Wout D l' cls d σ' H' →
        wpAny (model X.prog X.w) X.A (handleBy (.ref a) X.env hds') (SP X pins D) X.xe { s' with heap := h3 } := by
      intro hds' l' hk
      induction hk with
      | nil =>
        intro w
        refine wpAny_handleBy_nil ?_
        obtain ⟨k1, k2, k3, oe, vs, T, oT, ts', he, hz, hd, h1, hr⟩ := id fl3
        unfold PySem.passOn
        refine wpAny_bind (wpAny_field he hd h1 ?_)
        rw [if_neg (show ¬ ((Value.ref T == Value.none) = true) from by simp)]
        have fin : wpAny (model X.prog X.w) X.A (setFlight (.ref a) X.env.frame) (fun _ s4 => wpAny (model X.prog X.w) X.A (throw (.ref a) : Sem Flow) (SP X pins D) X.xe s4) X.xe { s' with heap := h3 } := by
          rw [hf]
          refine HandSPX.setFlight_upZ fl3 fun h4 hh4 up4 => wpAny_throw (tk _ _ ?_)
          exact ⟨a, B, sI, pins, σ', H', cls, d, rfl, J, nb, (up.trans up3).trans up4, .inr (.inr (by rw [hs]; exact hh4)), na, os, ag, w⟩
        first
          | exact wpAny_bind (wpAny_pure (wpAny_bind fin))
          | exact wpAny_bind fin
      | @cons x c ts b₀ suite np pos' hds2 l2 hc hsu r ih =>
        rintro ⟨b, hb1, hyes, hno⟩
        refine wpAny_handleBy_cons (codeAny_handlers_test ?_) (by intro q; cases q)
        refine test hc ((PySem.W.exm_one (M := model X.prog X.w) (J3.kIn) LT hb1).here ?_)
        cases b with
        | true =>
          refine codeAny_handlers_suite (HandSPX.lands_againZ fl3 fun h4 fl4 up4 => ?_)
          have J4 : Inv X pins σ' H' { s' with heap := h4 } := J.landed nb fl4.1 ((up.trans up3).trans up4) os ag
          obtain ⟨oe4, vs4, he4, hz4, hd4⟩ := fl4.there
          refine wpAny_mono ((hsu a oe4 cls d (X.pn ++ pins) hz4 ⟨_, hd4⟩).run [] _ _ H' _ (J4.suite he4 hd4 na nL nF) (hyes rfl a na)) (fun f s6 hsp => ?_) (fun _ _ z => False.elim z)
          cases f with
          | next => obtain ⟨σ6, H6, S6, q6⟩ := hsp; exact ⟨_, _, S6.unsuite ok, q6⟩
          | brk => obtain ⟨σ6, H6, S6, q6⟩ := hsp; exact ⟨_, _, S6.unsuite ok, q6⟩
          | cont => obtain ⟨σ6, H6, S6, q6⟩ := hsp; exact ⟨_, _, S6.unsuite ok, q6⟩
          | ret u => obtain ⟨v6, σ6, H6, S6, r6, q6⟩ := hsp; exact ⟨_, _, _, S6.unsuite ok, r6, q6⟩
        | false =>
          show wpAny _ X.A (handleBy (.ref a) X.env hds2) _ _ _
          exact ih (hno rfl)
      | @as x n c i ts b₀ suite np pos' hds2 l2 hc hN hi hln hsu r ih =>
        rintro ⟨b, hb1, hyes, hno⟩
        refine wpAny_handleBy_cons (codeAny_handlers_test ?_) (by intro q; cases q)
        refine test hc ((PySem.W.exm_one (M := model X.prog X.w) (J3.kIn) LT hb1).here ?_)
        cases b with
        | true =>
          refine codeAny_handlers_suite_as (HandSPX.lands_againZ fl3 fun h4 fl4 up4 => ?_)
          have J4 : Inv X pins σ' H' { s' with heap := h4 } := J.landed nb fl4.1 ((up.trans up3).trans up4) os ag
          obtain ⟨oe4, vs4, he4, hz4, hd4⟩ := fl4.there
          refine store_ok (X := X.suite a ((a, oe4) :: (X.pn ++ pins))) (v := .ref a) (J4.suite he4 hd4 na nL nF) hN hi (.inl hln) rfl (fun s5 S5 => ?_) (.inr hln)
          refine wpAny_mono ((hsu a oe4 cls d (X.pn ++ pins) hz4 ⟨_, hd4⟩).run [] s5 _ H' _ S5 (hyes rfl a na)) (fun f s6 hsp => ?_) (fun _ _ z => False.elim z)
          have end_ : ∀ {σ6 : St} {H6 : Hp} {Q : Shared → Prop}, Inv (X.suite a ((a, oe4) :: (X.pn ++ pins))) [] σ6 H6 s6 → (∀ s7, Inv X pins (σ6.set i none) H6 s7 → Q s7) →
              wpAny (model X.prog X.w) X.A (do bindName X.env n .none; unbindBehindTheSuite X.env n pos') (fun _ s7 => Q s7) X.xe s6 := fun {σ6 H6 Q} S6 hq => gone_ok (S6.unsuite ok) hN hi hln hq
          cases f with
          | next => obtain ⟨σ6, H6, S6, q6⟩ := hsp; exact end_ S6 fun s7 J7 => ⟨_, _, J7, q6⟩
          | brk => obtain ⟨σ6, H6, S6, q6⟩ := hsp; exact end_ S6 fun s7 J7 => ⟨_, _, J7, q6⟩
          | cont => obtain ⟨σ6, H6, S6, q6⟩ := hsp; exact end_ S6 fun s7 J7 => ⟨_, _, J7, q6⟩
          | ret u => obtain ⟨v6, σ6, H6, S6, r6, q6⟩ := hsp; exact end_ S6 fun s7 J7 => ⟨_, _, _, J7, r6, q6⟩
        | false =>
          show wpAny _ X.A (handleBy (.ref a) X.env hds2) _ _ _
          exact ih (hno rfl)
    exact go hh wish
  · cases f with
    | next => obtain ⟨σ', H', J', q⟩ := hsp; exact wpAny_execs_nil ⟨σ', H', J'.ofTry ok, q⟩
    | brk => obtain ⟨σ', H', J', q⟩ := hsp; exact ⟨σ', H', J'.ofTry ok, q⟩
    | cont => obtain ⟨σ', H', J', q⟩ := hsp; exact ⟨σ', H', J'.ofTry ok, q⟩
    | ret u => obtain ⟨v, σ', H', J', r, q⟩ := hsp; exact ⟨v, σ', H', J'.ofTry ok, r, q⟩

/-! ### by data -/
/-- the classes of a text's exceptions: what isinstance and except make of them -/
structure ExFacts (K : PySem.W.Frag) (mg : MG) (xs : List Str) (sub : Str → Str → Bool) : Prop where
  cls : ∀ c ∈ xs, ∃ C, mg c = some (.ref C) ∧ ExcC K C
  one : ∀ c ∈ xs, ∀ y ∈ xs, ∀ C Y, mg c = some (.ref C) → mg y = some (.ref Y) → PySem.W.kitOne K (.ref C) (.ref Y) = some (sub c y) ∧ PySem.W.exmOne K (.ref C) (.ref Y) = some (sub c y)
/-- a suite: of the class, the exception's field -/
abbrev SU := Str → Exn → FS
structure Hd where
  c : Str
  i : Option Nat
  su : SU
def offE (i : Option Nat) (r : RS) : RS := match i with
  | none => (match r with
    | .ex _ _ _ => .bad
    | r => r)
  | some i => (match r with
    | .nx ρ => .nx (ρ.set i none)
    | .bk ρ => .bk (ρ.set i none)
    | .ct ρ => .ct (ρ.set i none)
    | .rt d => .rt d
    | _ => .bad)
def onE (i : Option Nat) (ρ : Env) : Env := match i with
  | none => ρ
  | some i => ρ.set i none
def inE (i : Option Nat) (ρ : Env) : Bool := match i with
  | none => true
  | some i => decide (i < ρ.length)
def handleF (sub : Str → Str → Bool) (c : Str) (p : Exn) : List Hd → FS
  | [], ρ => .ex c p ρ
  | h :: r, ρ => if sub c h.c then (if inE h.i ρ then offE h.i (h.su c p (onE h.i ρ)) else .bad) else handleF sub c p r ρ
def sTry (xs : List Str) (sub : Str → Str → Bool) (body : FS) (hs : List Hd) : FS := fun ρ => match body ρ with
  | .ex c p ρ' => if c ∈ xs then handleF sub c p hs ρ' else .bad
  | r => r
/-- a suite by data: the exception's object lies at a (untracked), its slot holds it -/
def tsu (K : PySem.W.Frag) (mg : MG) (xs : List Str) (i : Option Nat) (su : SU) (a : Addr) (cls : Value) (d : Option Addr) : TS := fun D σ H => ∃ c C p H0 Pz T ρ Fs, c ∈ xs ∧ cls = .ref C ∧ mg c = some (.ref C) ∧ EnvR K H0 Pz T H σ ρ Fs ∧ ExD K H d p ∧ (∀ j, i = some j → σ[j]? = some (some (.ref a)) ∧ j < ρ.length) ∧ H a = none ∧ Post K mg (fun _ _ _ _ => False) H0 Pz T D (su c p ρ)
def PSuv (X : Cx) (xs : List Str) (i : Option Nat) (suite : List Stmt) (su : SU) : Prop := ∀ (a : Addr) (oe : Obj) (cls : Value) (d : Option Addr) (pn : List (Addr × Obj)), Zc cls d oe → (∃ vs, oe.data = .fields vs) → PSs (X.suite a ((a, oe) :: pn)) suite (tsu X.K X.mg xs i su a cls d)
inductive HdsV (X : Cx) (xs : List Str) : List ExceptHandler → List Hd → Prop
  | nil : HdsV X xs [] []
  | cons {x : Str} {b₀ : Stmt} {suite : List Stmt} {np pos' : Pos} {hds : List ExceptHandler} {l : List Hd} {su : SU} (hx : x ∈ xs) (hg : Gl X x) (hdb : (x == ("__debug__" : Str)) = false) (hsu : PSuv X xs none (b₀ :: suite) su) (r : HdsV X xs hds l) :
      HdsV X xs (.ExceptHandler (some (.Name x np)) none (b₀ :: suite) pos' :: hds) (⟨x, none, su⟩ :: l)
  | as {x n : Str} {i : Nat} {b₀ : Stmt} {suite : List Stmt} {np pos' : Pos} {hds : List ExceptHandler} {l : List Hd} {su : SU} (hx : x ∈ xs) (hg : Gl X x) (hdb : (x == ("__debug__" : Str)) = false) (hN : X.N.Nodup) (hi : X.N[i]? = some n) (hln : X.env.kindOf n = some .local) (hsu : PSuv X xs (some i) (b₀ :: suite) su) (r : HdsV X xs hds l) :
      HdsV X xs (.ExceptHandler (some (.Name x np)) (some n) (b₀ :: suite) pos' :: hds) (⟨x, some i, su⟩ :: l)
section
variable {K : PySem.W.Frag} {H0 Pz H : Hp} {T : Addr → Prop} {σ : St} {ρ : Env} {Fs : Nat → List Addr}
theorem setNone_ne {ρ : Env} {i j : Nat} {x : DV × Md} (h : (ρ.set i none)[j]? = some (some x)) : j ≠ i ∧ ρ[j]? = some (some x) := by
  have key : j ≠ i := fun z => by
    subst z
    by_cases hl : j < ρ.length
    · rw [List.getElem?_set_self hl] at h; cases h
    · rw [List.getElem?_eq_none (by rw [List.length_set]; omega)] at h; cases h
  rw [List.getElem?_set_ne (fun z => key z.symm)] at h
  exact ⟨key, h⟩
/-- a slot is forgotten, or holds what is not told -/
theorem EnvR.drop (E : EnvR K H0 Pz T H σ ρ Fs) (i : Nat) (o : Option V) : ∃ Fs', EnvR K H0 Pz T H (σ.set i o) (ρ.set i none) Fs' := by
  refine ⟨fun j => if j = i then [] else Fs j, E.h0, E.pz, E.tn, E.th, by rw [List.length_set, List.length_set]; exact E.len, fun j d m h => ?_, fun j d m h hb => ?_, fun j d h a G e => ?_, fun a ta j => ?_, fun j h => ?_⟩
  · obtain ⟨key, h⟩ := setNone_ne h
    simp only [if_neg key]
    rw [List.getElem?_set_ne (fun z => key z.symm)]
    exact E.at_ j d m h
  · obtain ⟨key, h⟩ := setNone_ne h
    rw [if_neg key]
    exact E.fresh j d m h hb
  · obtain ⟨key, h⟩ := setNone_ne h
    simp only [if_neg key] at e
    obtain ⟨h1, h2, h3⟩ := E.top j d h a G e
    refine ⟨h1, h2, fun k hk => ?_⟩
    by_cases hk' : k = i
    · rw [if_pos hk']; intro z; cases z
    · rw [if_neg hk']; exact h3 k hk
  · by_cases hj : j = i
    · rw [if_pos hj]; intro z; cases z
    · rw [if_neg hj]; exact E.tt a ta j
  · by_cases hj : j = i
    · rw [if_pos hj]
    · rw [if_neg hj]
      refine E.nil j fun d m z => h d m ?_
      rw [List.getElem?_set_ne (fun z => hj z.symm)]
      exact z
end
theorem HdsV.cl {X : Cx} {xs : List Str} {sub : Str → Str → Bool} (ef : ExFacts X.K X.mg xs sub) : ∀ {hds : List ExceptHandler} {l : List Hd}, HdsV X xs hds l → ∃ cl, ClOk X hds cl ∧
    ∀ (W : WX) (H0 Pz : Hp) (T : Addr → Prop) (D : Ends) (c : Str) (p : Exn) (C : Addr) (d : Option Addr) (σ : St) (H : Hp) (ρ : Env) (Fs : Nat → List Addr), c ∈ xs → X.mg c = some (.ref C) → EnvR X.K H0 Pz T H σ ρ Fs → ExD X.K H d p → Post X.K X.mg W H0 Pz T D (handleF sub c p l ρ) → wCl X.K W D cl (.ref C) d σ H := by
  intro hds l h
  induction h with
  | nil => exact ⟨[], .nil, fun W H0 Pz T D c p C d σ H ρ Fs hc hC E xd h => h C d σ H Fs hC E xd⟩
  | @cons x b₀ suite np pos' hds l su hx hg hdb hsu r ih =>
    obtain ⟨cl, k, q⟩ := ih
    obtain ⟨Y, hY, _⟩ := ef.cls x hx
    refine ⟨⟨.ref Y, none, tsu X.K X.mg xs none su⟩ :: cl, .cons ⟨hg, hdb, .inl hY⟩ hsu k, fun W H0 Pz T D c p C d σ H ρ Fs hc hC E xd h => ?_⟩
    refine ⟨sub c x, (ef.one c hc x hx C Y hC hY).2, fun e a na => ?_, fun e => ?_⟩
    · unfold handleF at h
      rw [if_pos e] at h
      refine ⟨c, C, p, H0, Pz, T, ρ, Fs, hc, rfl, hC, E, xd, fun j z => (nomatch z), na, ?_⟩
      have h' : Post X.K X.mg W H0 Pz T D (offE none (su c p ρ)) := h
      cases e2 : su c p ρ with
      | ex c' p' ρ' => rw [e2] at h'; exact h'.elim
      | nx ρ' => rw [e2] at h'; exact h'
      | rt d => rw [e2] at h'; exact h'
      | bk ρ' => rw [e2] at h'; exact h'
      | ct ρ' => rw [e2] at h'; exact h'
      | bad => rw [e2] at h'; exact h'
    · unfold handleF at h
      rw [if_neg (by rw [e]; exact Bool.false_ne_true)] at h
      exact q W H0 Pz T D c p C d σ H ρ Fs hc hC E xd h
  | @as x n i b₀ suite np pos' hds l su hx hg hdb hN hi hln hsu r ih =>
    obtain ⟨cl, k, q⟩ := ih
    obtain ⟨Y, hY, _⟩ := ef.cls x hx
    refine ⟨⟨.ref Y, some i, tsu X.K X.mg xs (some i) su⟩ :: cl, .as ⟨hg, hdb, .inl hY⟩ hN hi hln hsu k, fun W H0 Pz T D c p C d σ H ρ Fs hc hC E xd h => ?_⟩
    refine ⟨sub c x, (ef.one c hc x hx C Y hC hY).2, fun e a na => ?_, fun e => ?_⟩
    · unfold handleF at h
      rw [if_pos e] at h
      by_cases hil0 : inE (some i) ρ = true
      case neg => rw [if_neg hil0] at h; exact h.elim
      rw [if_pos hil0] at h
      obtain ⟨Fs', E'⟩ := E.drop i (some (.ref a))
      have hil : i < ρ.length := of_decide_eq_true hil0
      refine ⟨c, C, p, H0, Pz, T, ρ.set i none, Fs', hc, rfl, hC, E', xd, fun j z => ?_, na, ?_⟩
      · cases z
        exact ⟨List.getElem?_set_self (by rw [← E.len]; exact hil), by rw [List.length_set]; exact hil⟩
      · have h' : Post X.K X.mg W H0 Pz T D (offE (some i) (su c p (ρ.set i none))) := h
        cases e2 : su c p (ρ.set i none) with
        | ex c' p' ρ' => rw [e2] at h'; exact h'.elim
        | nx ρ' =>
          rw [e2] at h'
          exact fun σ' H' Fs2 E2 => by
            obtain ⟨Fs3, E3⟩ := E2.drop i none
            exact h' _ H' Fs3 E3
        | rt d => rw [e2] at h'; exact h'
        | bk ρ' =>
          rw [e2] at h'
          exact fun σ' H' Fs2 E2 => by
            obtain ⟨Fs3, E3⟩ := E2.drop i none
            exact h' _ H' Fs3 E3
        | ct ρ' =>
          rw [e2] at h'
          exact fun σ' H' Fs2 E2 => by
            obtain ⟨Fs3, E3⟩ := E2.drop i none
            exact h' _ H' Fs3 E3
        | bad => rw [e2] at h'; exact h'
    · unfold handleF at h
      rw [if_neg (by rw [e]; exact Bool.false_ne_true)] at h
      exact q W H0 Pz T D c p C d σ H ρ Fs hc hC E xd h

theorem sv_try {X : Cx} {xs : List Str} {sub : Str → Str → Bool} {body : List Stmt} {h₀ : ExceptHandler} {hds : List ExceptHandler} {l : List Hd} {pos : Pos} {g : FS} (ef : ExFacts X.K X.mg xs sub) (hs : X.stack = X.env :: X.outer) (hf : X.env.frame = some X.env.locals)
    (hb : ∀ (pn : List (Addr × Obj)) (xe : Value → Shared → Prop), PassesOwn (model X.prog X.w) X.A X.env xe → PSsv (X.tr pn xe) body g) (hh : HdsV X xs (h₀ :: hds) l)
    : PSv X (.Try body (h₀ :: hds) [] [] pos) (sTry xs sub g l) := fun W tk => by
  obtain ⟨cl, k, q⟩ := hh.cl ef
  refine ⟨fun pins s σ H D I h => ?_⟩
  refine (ps_tryCl (tb := fun W' => tsv X.K X.mg W' g) hs hf tk (fun W' pn xe tk' hp => hb pn xe hp W' tk') k).run pins s σ H D I ?_
  obtain ⟨H0, Pz, T, ρ, Fs, E, h⟩ := tsv_post.mp h
  refine tsv_post.mpr ⟨H0, Pz, T, ρ, Fs, E, ?_⟩
  unfold sTry at h
  cases e : g ρ with
  | nx ρ' => rw [e] at h; exact h
  | rt d => rw [e] at h; exact h
  | bk ρ' => rw [e] at h; exact h
  | ct ρ' => rw [e] at h; exact h
  | bad => rw [e] at h; exact h
  | ex c p ρ' =>
    rw [e] at h
    simp only at h
    by_cases hc : c ∈ xs
    · rw [if_pos hc] at h
      intro C d σ' H' Fs' hC E' xd
      exact q W H0 Pz T D c p C d σ' H' ρ' Fs' hc hC E' xd h
    · rw [if_neg hc] at h; exact h.elim
end L2.Pv
namespace L2.Pv
open PySem PySem.Spec PyProof.Rows
/-! ### suites -/
theorem EnvR.pz' {K : PySem.W.Frag} {H0 Pz H : Hp} {T : Addr → Prop} {σ : St} {ρ : Env} {Fs : Nat → List Addr} (E : EnvR K H0 Pz T H σ ρ Fs) : Same H0 H := E.h0.trans E.pz
section
variable {X : Cx} {xs : List Str}
/-- a suite that does not look at the exception -/
theorem su_any {i : Option Nat} {suite : List Stmt} {g : FS} (h : ∀ (a : Addr) (oe : Obj) (pn : List (Addr × Obj)), PSsv (X.suite a ((a, oe) :: pn)) suite g) : PSuv X xs i suite (fun _ _ => g) := fun a oe cls d pn hz hf =>
  PSs.imp (h a oe pn _ takes0) fun D σ H h => by
    obtain ⟨c, C, p, H0, Pz, T, ρ, Fs, _, _, _, E, _, _, _, h⟩ := h
    exact tsv_post.mpr ⟨H0, Pz, T, ρ, Fs, E, h⟩
def tIs (j : Nat) (a : Addr) (b : Bool) : TE := fun σ H Q => σ[j]? = some (some (.ref a)) ∧ Q (.bl b) H
variable {sub : Str → Str → Bool} {a C : Addr} {oe : Obj} {pn : List (Addr × Obj)} {c y n : Str} {j : Nat} {p1 p2 p3 pos : Pos}
theorem pe_isE (ef : ExFacts X.K X.mg xs sub) (hc : c ∈ xs) (hy : y ∈ xs) (hC : X.mg c = some (.ref C)) (hz : Zc (.ref C) none oe) (hf : ∃ vs, oe.data = .fields vs) (hm : X.mg "isinstance" = none) (hg : Gl X "isinstance") (hgy : Gl X y) (hdy : (y == ("__debug__" : Str)) = false)
    (hN : X.N[j]? = some n) (hv : Vis X.env.scope n) (hd : (n == ("__debug__" : Str)) = false) (hcd : (n == ("__classdict__" : Str)) = false)
    (he : starEach [.Name n p2, .Name y p3] X.env = (false, eval (.Name n p2) X.env) :: starEach [.Name y p3] X.env) (he2 : starEach [.Name y p3] X.env = (false, eval (.Name y p3) X.env) :: starEach [] X.env) (hpl : (backTo pos (starEach [.Name y p3] X.env)).any (·.1) = false) :
    PE (X.suite a ((a, oe) :: pn)) (.Call (.Name "isinstance" p1) [.Name n p2, .Name y p3] [] pos) (tIs j a (sub c y)) := by
  obtain ⟨C', hC', ec⟩ := ef.cls c hc
  rw [hC] at hC'
  cases hC'
  obtain ⟨Y, hY, _⟩ := ef.cls y hy
  have hk := (ef.one c hc y hy C Y hC hY).1
  refine PE.imp (pe_callB (X := X.suite a ((a, oe) :: pn)) (call_isE ec hz hf) hg hm (by decide +kernel) (pa_cons (pe_var hN hv hd hcd) (pa_cons (pe_glob (v := .ref Y) hgy hY rfl hdy) pa_nil he2) he) (by decide) (by decide) he hpl) fun σ H Q h => ?_
  exact ⟨_, h.1, _, _, _, rfl, fun u r => r, hk, h.2⟩
end
/-- return isinstance(e, Y) -/
theorem su_is {X : Cx} {xs : List Str} {sub : Str → Str → Bool} {y n : Str} {j : Nat} {p1 p2 p3 pos pos2 : Pos} (ef : ExFacts X.K X.mg xs sub) (hy : y ∈ xs) (hm : X.mg "isinstance" = none) (hg : Gl X "isinstance") (hgy : Gl X y) (hdy : (y == ("__debug__" : Str)) = false)
    (hN : X.N[j]? = some n) (hv : Vis X.env.scope n) (hd : (n == ("__debug__" : Str)) = false) (hcd : (n == ("__classdict__" : Str)) = false)
    (he : starEach [.Name n p2, .Name y p3] X.env = (false, eval (.Name n p2) X.env) :: starEach [.Name y p3] X.env := by rfl) (he2 : starEach [.Name y p3] X.env = (false, eval (.Name y p3) X.env) :: starEach [] X.env := by rfl) (hpl : (backTo pos (starEach [.Name y p3] X.env)).any (·.1) = false := by rfl) :
    PSuv X xs (some j) [.Return (some (.Call (.Name "isinstance" p1) [.Name n p2, .Name y p3] [] pos)) pos2] (fun c p ρ => if p.isNone then .rt (.i (.bl (sub c y))) else .bad) := fun a oe cls d pn hz hf => by
  refine ⟨fun pins s σ H D I h => ?_⟩
  obtain ⟨c, C, p, H0, Pz, T, ρ, Fs, hc, rfl, hC, E, xd, hj, _, h⟩ := h
  cases p with
  | some q => exact h.elim
  | none =>
    have hd0 : d = none := xd
    subst hd0
    refine (pss_one (ps_ret (pe_isE ef hc hy hC hz hf hm hg hgy hdy hN hv hd hcd he he2 hpl))).run pins s σ H D I ?_
    exact ⟨(hj j rfl).1, h _ H [] E.pz' (.i (.bl _)) ⟨fun _ z => (nomatch z), fun _ _ _ z => (nomatch z)⟩⟩
/-- return A if isinstance(e, Y) else B -/
theorem su_isIf {X : Cx} {xs : List Str} {sub : Str → Str → Bool} {y n : Str} {j : Nat} {p1 p2 p3 pos pos2 pos3 : Pos} {ea eb : Expr} {f g : FE} (ef : ExFacts X.K X.mg xs sub) (hy : y ∈ xs) (hm : X.mg "isinstance" = none) (hg : Gl X "isinstance") (hgy : Gl X y) (hdy : (y == ("__debug__" : Str)) = false)
    (hN : X.N[j]? = some n) (hv : Vis X.env.scope n) (hd : (n == ("__debug__" : Str)) = false) (hcd : (n == ("__classdict__" : Str)) = false)
    (ha : ∀ (a : Addr) (oe : Obj) (pn : List (Addr × Obj)), PEv (X.suite a ((a, oe) :: pn)) ea f) (hb : ∀ (a : Addr) (oe : Obj) (pn : List (Addr × Obj)), PEv (X.suite a ((a, oe) :: pn)) eb g)
    (he : starEach [.Name n p2, .Name y p3] X.env = (false, eval (.Name n p2) X.env) :: starEach [.Name y p3] X.env := by rfl) (he2 : starEach [.Name y p3] X.env = (false, eval (.Name y p3) X.env) :: starEach [] X.env := by rfl) (hpl : (backTo pos (starEach [.Name y p3] X.env)).any (·.1) = false := by rfl) :
    PSuv X xs (some j) [.Return (some (.IfExp (.Call (.Name "isinstance" p1) [.Name n p2, .Name y p3] [] pos) ea eb pos3)) pos2] (fun c p => if p.isNone then (if sub c y then sRet f else sRet g) else fun _ => .bad) := fun a oe cls d pn hz hf => by
  refine ⟨fun pins s σ H D I h => ?_⟩
  obtain ⟨c, C, p, H0, Pz, T, ρ, Fs, hc, rfl, hC, E, xd, hj, _, h⟩ := h
  cases p with
  | some q => exact h.elim
  | none =>
    have hd0 : d = none := xd
    subst hd0
    refine (pss_one (ps_ret (pe_ifExp (pt_val (pe_isE ef hc hy hC hz hf hm hg hgy hdy hN hv hd hcd he he2 hpl)) (ha a oe pn _ takes0) (hb a oe pn _ takes0)))).run pins s σ H D I ?_
    refine ⟨(hj j rfl).1, _, rfl, ?_⟩
    have key : ∀ f : FE, Post X.K X.mg (fun _ _ _ _ => False) H0 Pz T D (sRet f ρ) → tev X.K X.mg (fun _ _ _ _ => False) f σ H D.rt := fun f h => by
      unfold sRet at h
      cases e1 : f ρ with
      | bad => rw [e1] at h; exact h.elim
      | ex c p => rw [e1] at h; exact ex_of E e1 h
      | ok x =>
        rw [e1] at h
        refine tev_ok E e1 fun v H1 F s1 E1 r1 o1 => ?_
        simp only at h
        by_cases hx : retOk x = true
        · rw [if_pos hx] at h
          exact h v H1 F (E1.h0.trans E1.pz) r1 (ret_of hx r1 o1)
        · rw [if_neg hx] at h; exact h.elim
    simp only [Option.isNone_none, if_true] at h
    cases e : sub c y with
    | true => rw [e] at h; simp only [if_true] at h ⊢; exact key f h
    | false => rw [e] at h; simp only [Bool.false_eq_true, if_false] at h ⊢; exact key g h
end L2.Pv

namespace L2.Pv
open PySem PySem.Spec PyProof.Rows

/-! ## sorted -/
def tupNE : IV → Bool
  | .tup (_ :: _) => true
  | _ => false
def plainK : IV → Bool
  | .non => false
  | .tup _ => false
  | _ => true
def okSort (xs : List IV) : Bool := (xs.all fun a => xs.all fun b => PySem.W.alike a.py b.py) && (xs.all tupNE || xs.all plainK) && xs.all fun x => decide (x.py.depth ≤ 64)
def leI : IV → IV → Bool := PySem.W.dataLe false IV.py
def sortI (xs : List IV) : List IV := xs.mergeSort leI
def opSorted : DV × Md → R (DV × Md) := fun x => match items? x.1 with
  | some xs => if okSort xs then .ok (.l (sortI xs), .own) else .bad
  | none => .bad
theorem opSorted_nx : NoEx1 opSorted := noex1_of fun x => by
  unfold opSorted
  split
  · split
    · exact .inl ⟨_, rfl⟩
    · exact .inr rfl
  · exact .inr rfl
/-- a new sorted list of data -/
def rSortedD (K : PySem.W.Frag) : List V → Hp → VK → Prop := fun vs H Q => ∃ (a : Addr) (us : List V) (xs : List IV), vs = [V.ref a] ∧ SqL K H a us ∧ RpIs K H us xs ∧ okSort xs = true ∧
  ∀ (p : Addr) (ws : List V), H p = none → RpIs K H ws (sortI xs) → Q (.ref p) (upd H p (.lst ws))
theorem pys_map : ∀ xs : List IV, IV.pys xs = xs.map IV.py
  | [] => rfl
  | x :: xs => by rw [List.map_cons, ← pys_map xs]; rfl
section
variable {X : Cx}
theorem each_of {K : PySem.W.Frag} {H : Hp} : ∀ {us : List V} {xs : List IV} {its : List Value}, RpIs K H us xs → Vals us its → PySem.W.EachIs (fun (u : Value) x => ∃ v, RelV v u ∧ RpI K H v x) its xs
  | _, [], _, h, r => by cases h; cases r; exact .nil
  | _, _ :: _, _, h, r => by
    cases h with
    | cons a b =>
      cases r with
      | cons r1 r2 => exact .cons ⟨_, r1, a⟩ (each_of b r2)
theorem of_each {K : PySem.W.Frag} {H : Hp} : ∀ {xs : List IV} {its : List Value}, PySem.W.EachIs (fun (u : Value) x => ∃ v, RelV v u ∧ RpI K H v x) its xs → ∃ us, RpIs K H us xs ∧ Vals us its
  | [], _, h => by cases h; exact ⟨[], .nil, .nil⟩
  | _ :: _, _, h => by
    cases h with
    | cons a b =>
      obtain ⟨v, h1, h2⟩ := a
      obtain ⟨us, h3, h4⟩ := of_each b
      exact ⟨v :: us, .cons h2 h3, .cons h1 h4⟩
theorem okSort_iff {xs : List IV} (h : okSort xs = true) : PySem.W.AllAlike (xs.map IV.py) ∧ PySem.W.Sortable (xs.map IV.py) ∧ ∀ b ∈ xs, b.py.depth ≤ 64 := by
  unfold okSort at h
  rw [Bool.and_eq_true, Bool.and_eq_true, Bool.or_eq_true] at h
  obtain ⟨⟨h1, h2⟩, h3⟩ := h
  refine ⟨fun d hd d' hd' => ?_, ?_, fun b hb => of_decide_eq_true (List.all_eq_true.mp h3 b hb)⟩
  · obtain ⟨a, ha, rfl⟩ := List.mem_map.mp hd
    obtain ⟨b, hb, rfl⟩ := List.mem_map.mp hd'
    exact List.all_eq_true.mp (List.all_eq_true.mp h1 a ha) b hb
  · rcases h2 with h2 | h2
    · left
      intro d hd
      obtain ⟨a, ha, rfl⟩ := List.mem_map.mp hd
      have := List.all_eq_true.mp h2 a ha
      unfold tupNE at this
      split at this
      · exact ⟨_, _, rfl⟩
      · cases this
    · right
      intro d hd
      obtain ⟨a, ha, rfl⟩ := List.mem_map.mp hd
      have := List.all_eq_true.mp h2 a ha
      unfold plainK at this
      split at this
      · cases this
      · cases this
      · cases a with
        | non => rename_i z _; exact absurd rfl z
        | tup xs => rename_i _ z; exact absurd rfl (z xs)
        | bl b => exact ⟨by intro z; simp [IV.py] at z, fun xs z => by simp [IV.py] at z⟩
        | int b => exact ⟨by intro z; simp [IV.py] at z, fun xs z => by simp [IV.py] at z⟩
        | str b => exact ⟨by intro z; simp [IV.py] at z, fun xs z => by simp [IV.py] at z⟩
theorem cr_sortedV (hu : X.A.units + 70 < cLine) : CallR X (.builtin "sorted") (rSortedD X.K) := by
  intro pins s σ H vs us Q I r h
  obtain ⟨a, ws, xs, rfl, hs, hr, hk, q⟩ := h
  obtain ⟨its, rv, hl, hz⟩ := I.list hs
  rw [Vals.ref1 r]
  obtain ⟨k1, k2, k3⟩ := okSort_iff hk
  have e0 := each_of hr rv
  have e1 : PySem.W.EachIs (fun v b => ∃ as, Reads s.heap v (IV.py b) as) its xs := e0.mono fun u x ⟨v, h1, h2⟩ => Dp.reads I _ v u h2.dp h1
  refine PySem.W.sorted_data (enc := IV.py) hl.isList e0 e1 k1 k2 (by rw [← hr.length]; exact hz) (fun b hb => by have := k3 b hb; omega) fun out h1 h2 => ?_
  obtain ⟨us2, q1, q2⟩ := of_each h2
  obtain ⟨ep, he'⟩ := PyProof.Rows.sortedAll_at s.heap its out.toArray
  have hlen : us2.length ≤ sizeLine := by rw [q2.length, h1, ← hr.length]; exact hz
  exact ⟨.ref _, upd H (s.heap.objs.size + 1) (.lst us2), I.laid (t' := s.toks) (fun _ _ => PyProof.Rows.sortedAll_old) (Nat.le_succ _) ⟨hlen, out, ep, q2, he'⟩, rfl, q _ _ (I.hok.fresh (Nat.le_succ _)) q1⟩
end
theorem uSorted {K : PySem.W.Frag} : UOk1 K (rSortedD K) opSorted := by
  intro H0 Pz H T σ ρ Fs x z v F Q E r1 o1 e h
  unfold opSorted at e
  split at e
  · rename_i xs e1
    split at e
    · rename_i hk
      cases e
      obtain ⟨a, vs, rfl, s, t⟩ := items?_rp r1 e1
      exact ⟨a, vs, xs, rfl, s, t, hk, fun p ws hp hw => h _ _ _ (same_upd hp) (new_lst hp hw) (new_ok E hp)⟩
    · cases e
  · cases e
theorem un2_of {k : Nat} {A : Around} (r : Room k A) : A.units + 70 < cLine := by have := r.un; omega

/-! ## min, max of a list of ints -/
def opMin := opOver ints? fun ns => match ns.min? with
  | some m => ok1 (.int m)
  | none => .bad
def opMax := opOver ints? fun ns => match ns.max? with
  | some m => ok1 (.int m)
  | none => .bad
theorem opMin_nx : NoEx1 opMin := opOver_nx fun ns => by
  cases ns.min? with
  | none => exact .inr rfl
  | some m => exact .inl ⟨_, rfl⟩
theorem opMax_nx : NoEx1 opMax := opOver_nx fun ns => by
  cases ns.max? with
  | none => exact .inr rfl
  | some m => exact .inl ⟨_, rfl⟩
theorem uMin {K : PySem.W.Frag} : UOk1 K (rMin K) opMin := by
  intro H0 Pz H T σ ρ Fs x z v F Q E r1 o1 e h
  obtain ⟨xs, ns, e1, e2, e3⟩ := opOver_ok e
  obtain ⟨a, vs, rfl, s, t⟩ := items?_rp r1 e1
  rw [ints?_some e2] at t
  rw [t.ints] at s
  cases e4 : ns.min? with
  | none => rw [e4] at e3; cases e3
  | some m =>
    rw [e4] at e3
    cases e3
    obtain ⟨hm, hle⟩ := List.min?_eq_some_iff.mp e4
    refine ⟨_, _, rfl, s, List.length_pos_of_mem hm, fun m' hm' hle' => ?_⟩
    have : m' = m := Int.le_antisymm (hle' m hm) (hle m' hm')
    subst this
    exact fin1 h (.int _)
theorem uMax {K : PySem.W.Frag} : UOk1 K (rMax K) opMax := by
  intro H0 Pz H T σ ρ Fs x z v F Q E r1 o1 e h
  obtain ⟨xs, ns, e1, e2, e3⟩ := opOver_ok e
  obtain ⟨a, vs, rfl, s, t⟩ := items?_rp r1 e1
  rw [ints?_some e2] at t
  rw [t.ints] at s
  cases e4 : ns.max? with
  | none => rw [e4] at e3; cases e3
  | some m =>
    rw [e4] at e3
    cases e3
    obtain ⟨hm, hle⟩ := List.max?_eq_some_iff.mp e4
    refine ⟨_, _, rfl, s, List.length_pos_of_mem hm, fun m' hm' hle' => ?_⟩
    have : m' = m := Int.le_antisymm (hle m' hm') (hle' m hm)
    subst this
    exact fin1 h (.int _)

/-! ## list(range(..)), tuple(range(..)) -/
def rgI (a b : Int) : List IV := (List.range (b - a).toNat).map fun i => .int (a + (i : Nat))
def rgOkB (a b : Int) : Bool := smI a && smI b && decide ((b - a).toNat ≤ 16777216)
def eListRg1 (f : FE) : FE := fun ρ => (f ρ).bind fun x => match x.1 with
  | .i (.int b) => if rgOkB 0 b then .ok (.l (rgI 0 b), .own) else .bad
  | _ => .bad
def eTupleRg1 (f : FE) : FE := fun ρ => (f ρ).bind fun x => match x.1 with
  | .i (.int b) => if rgOkB 0 b then ok1 (.tup (rgI 0 b)) else .bad
  | _ => .bad
def eListRg2 (f g : FE) : FE := fun ρ => (f ρ).bind fun x => (g ρ).bind fun y => match x.1, y.1 with
  | .i (.int a), .i (.int b) => if rgOkB a b then .ok (.l (rgI a b), .own) else .bad
  | _, _ => .bad
def eTupleRg2 (f g : FE) : FE := fun ρ => (f ρ).bind fun x => (g ρ).bind fun y => match x.1, y.1 with
  | .i (.int a), .i (.int b) => if rgOkB a b then ok1 (.tup (rgI a b)) else .bad
  | _, _ => .bad
theorem rgOkB_iff {a b : Int} (h : rgOkB a b = true) : RgOk a b := by
  unfold rgOkB at h
  rw [Bool.and_eq_true, Bool.and_eq_true] at h
  obtain ⟨h1, h2⟩ := smI_iff h.1.1
  obtain ⟨h3, h4⟩ := smI_iff h.1.2
  exact ⟨h1, h2, h3, h4, of_decide_eq_true h.2⟩
theorem rg_rp {K : PySem.W.Frag} {H : Hp} {a b : Int} : RpIs K H (rgV a b) (rgI a b) := by
  unfold rgV rgI
  have go : ∀ l : List Nat, RpIs K H (l.map fun i => V.int (a + (i : Nat))) (l.map fun i => IV.int (a + (i : Nat))) := by
    intro l
    induction l with
    | nil => exact .nil
    | cons x r ih => exact .cons (.int _) ih
  exact go _
section
variable {X : Cx} {a b : Expr} {f g : FE} {p pr pos posr : Pos}
theorem rg1_imp {K : PySem.W.Frag} {mg : MG} {W : WX} (σ : St) (H : Hp) {R' : Int → Int → Hp → Prop} (k : Int → R (DV × Md)) (hk : ∀ b c p, k b ≠ .ex c p) {Q : VK} (h : tev K mg W (fun ρ => (f ρ).bind fun x => match x.1 with
    | .i (.int b) => k b
    | _ => .bad) σ H Q) (fin : ∀ H0 Pz T ρ Fs H1 b z, EnvR K H0 Pz T H1 σ ρ Fs → k b = .ok z → (∀ v H' F, Same H1 H' → RpD K H' v z.1 F → ResOk H0 Pz T ρ Fs H' F z.2 → Q v H') → R' 0 b H1) : tRg1 (tev K mg W f) σ H R' := by
  obtain ⟨H0, Pz, T, ρ, Fs, E, h⟩ := h
  show tev K mg W f σ H _
  cases e1 : f ρ with
  | bad => simp only [e1, R.bind] at h
  | ex c p => simp only [e1, R.bind] at h; exact tev_ex E e1 h
  | ok x =>
    obtain ⟨x, m⟩ := x
    simp only [e1, R.bind] at h
    refine tev_ok E e1 fun v H1 F s1 E1 r1 o1 => ?_
    simp only at r1
    cases r1 with
    | i r =>
      cases r with
      | int b =>
        simp only at h
        cases e2 : k b with
        | bad => rw [e2] at h; exact h.elim
        | ex c p => exact absurd e2 (hk _ _ _)
        | ok z =>
          rw [e2] at h
          exact ⟨b, rfl, fin H0 Pz T ρ Fs H1 b z E1 e2 fun v H' F s r o => h v H' F (s1.trans s) r o⟩
      | non => exact h.elim
      | bl b => exact h.elim
      | str b => exact h.elim
      | tup s t => exact h.elim
    | l => exact h.elim
    | f => exact h.elim
    | m => exact h.elim
    | t => exact h.elim
    | k => exact h.elim
    | h => exact h.elim
theorem rg2_imp {K : PySem.W.Frag} {mg : MG} {W : WX} (σ : St) (H : Hp) {R' : Int → Int → Hp → Prop} (k : Int → Int → R (DV × Md)) (hk : ∀ a b c p, k a b ≠ .ex c p) {Q : VK} (h : tev K mg W (fun ρ => (f ρ).bind fun x => (g ρ).bind fun y => match x.1, y.1 with
    | .i (.int a), .i (.int b) => k a b
    | _, _ => .bad) σ H Q) (fin : ∀ H0 Pz T ρ Fs H1 a b z, EnvR K H0 Pz T H1 σ ρ Fs → k a b = .ok z → (∀ v H' F, Same H1 H' → RpD K H' v z.1 F → ResOk H0 Pz T ρ Fs H' F z.2 → Q v H') → R' a b H1) : tRg2 (tev K mg W f) (tev K mg W g) σ H R' := by
  obtain ⟨H0, Pz, T, ρ, Fs, E, h⟩ := h
  show tev K mg W f σ H _
  cases e1 : f ρ with
  | bad => simp only [e1, R.bind] at h
  | ex c p => simp only [e1, R.bind] at h; exact tev_ex E e1 h
  | ok x =>
    refine tev_ok E e1 fun v H1 F s1 E1 r1 o1 => ?_
    show tev K mg W g σ H1 _
    cases e2 : g ρ with
    | bad => simp only [e1, e2, R.bind] at h
    | ex c p => simp only [e1, e2, R.bind] at h; exact tev_ex E1 e2 (h.of s1)
    | ok y =>
      simp only [e1, e2, R.bind] at h
      refine tev_ok E1 e2 fun u H2 G s2 E2 r2 o2 => ?_
      obtain ⟨x, m⟩ := x
      obtain ⟨y, m'⟩ := y
      simp only at r1 r2 h
      have go : ∀ a b, x = .i (.int a) → y = .i (.int b) → ∃ i j, v = .int i ∧ u = .int j ∧ R' i j H2 := fun a b ex ey => by
        subst ex ey
        cases r1 with
        | i r1 =>
          cases r1
          cases r2 with
          | i r2 =>
            cases r2
            simp only at h
            cases e3 : k a b with
            | bad => rw [e3] at h; exact h.elim
            | ex c p => exact absurd e3 (hk _ _ _ _)
            | ok z =>
              rw [e3] at h
              exact ⟨a, b, rfl, rfl, fin H0 Pz T ρ Fs H2 a b z E2 e3 fun v H' F s r o => h v H' F (s1.trans (s2.trans s)) r o⟩
      cases x with
      | i x =>
        cases x with
        | int a =>
          cases y with
          | i y =>
            cases y with
            | int b => exact go a b rfl rfl
            | non => exact h.elim
            | bl b => exact h.elim
            | str b => exact h.elim
            | tup b => exact h.elim
          | l => exact h.elim
          | f => exact h.elim
          | m => exact h.elim
          | t => exact h.elim
          | k => exact h.elim
          | h => exact h.elim
        | non => exact h.elim
        | bl b => exact h.elim
        | str b => exact h.elim
        | tup b => exact h.elim
      | l => exact h.elim
      | f => exact h.elim
      | m => exact h.elim
      | t => exact h.elim
      | k => exact h.elim
      | h => exact h.elim
theorem ev_listRg1 (hc : X.calm = true) (hg : Gl X "list") (hm : X.mg "list" = none) (hg2 : Gl X "range") (hm2 : X.mg "range" = none) (ha : PEv X a f) (na : starEach [a] X.env = (false, eval a X.env) :: starEach [] X.env := by rfl)
    (nb : starEach [.Call (.Name "range" pr) [a] [] posr] X.env = (false, eval (.Call (.Name "range" pr) [a] [] posr) X.env) :: starEach [] X.env := by rfl) : PEv X (.Call (.Name "list" p) [.Call (.Name "range" pr) [a] [] posr] [] pos) (eListRg1 f) := fun W tk =>
  PE.imp (pe_listRg hc hg hm (prg_1 hg2 hm2 (ha W tk) na) nb) fun σ H Q h => by
    refine rg1_imp σ H (fun b => if rgOkB 0 b then .ok (.l (rgI 0 b), .own) else .bad) (fun b c p => by split <;> (intro z; cases z)) h fun H0 Pz T ρ Fs H1 b z E e k => ?_
    split at e
    · rename_i hb
      cases e
      exact ⟨rgOkB_iff hb, fun q hq => k _ _ _ (same_upd hq) (new_lst hq rg_rp) (new_ok E hq)⟩
    · cases e
theorem ev_tupleRg1 (hc : X.calm = true) (hg : Gl X "tuple") (hm : X.mg "tuple" = none) (hg2 : Gl X "range") (hm2 : X.mg "range" = none) (ha : PEv X a f) (na : starEach [a] X.env = (false, eval a X.env) :: starEach [] X.env := by rfl)
    (nb : starEach [.Call (.Name "range" pr) [a] [] posr] X.env = (false, eval (.Call (.Name "range" pr) [a] [] posr) X.env) :: starEach [] X.env := by rfl) : PEv X (.Call (.Name "tuple" p) [.Call (.Name "range" pr) [a] [] posr] [] pos) (eTupleRg1 f) := fun W tk =>
  PE.imp (pe_tupRg hc hg hm (prg_1 hg2 hm2 (ha W tk) na) nb) fun σ H Q h => by
    refine rg1_imp σ H (fun b => if rgOkB 0 b then ok1 (.tup (rgI 0 b)) else .bad) (fun b c p => by split <;> (intro z; cases z)) h fun H0 Pz T ρ Fs H1 b z E e k => ?_
    split at e
    · rename_i hb
      cases e
      exact ⟨rgOkB_iff hb, fun q hq => k _ _ _ (same_upd hq) (new_tup hq rg_rp) .nil⟩
    · cases e
theorem ev_listRg2 (hc : X.calm = true) (hg : Gl X "list") (hm : X.mg "list" = none) (hg2 : Gl X "range") (hm2 : X.mg "range" = none) (ha : PEv X a f) (hb : PEv X b g) (na : starEach [a, b] X.env = (false, eval a X.env) :: starEach [b] X.env := by rfl) (na2 : starEach [b] X.env = (false, eval b X.env) :: starEach [] X.env := by rfl) (np : (backTo posr (starEach [b] X.env)).any (·.1) = false := by rfl)
    (nb : starEach [.Call (.Name "range" pr) [a, b] [] posr] X.env = (false, eval (.Call (.Name "range" pr) [a, b] [] posr) X.env) :: starEach [] X.env := by rfl) : PEv X (.Call (.Name "list" p) [.Call (.Name "range" pr) [a, b] [] posr] [] pos) (eListRg2 f g) := fun W tk =>
  PE.imp (pe_listRg hc hg hm (prg_2 hg2 hm2 (ha W tk) (hb W tk) na na2 np) nb) fun σ H Q h => by
    refine rg2_imp σ H (fun a b => if rgOkB a b then .ok (.l (rgI a b), .own) else .bad) (fun a b c p => by split <;> (intro z; cases z)) h fun H0 Pz T ρ Fs H1 a b z E e k => ?_
    split at e
    · rename_i hb
      cases e
      exact ⟨rgOkB_iff hb, fun q hq => k _ _ _ (same_upd hq) (new_lst hq rg_rp) (new_ok E hq)⟩
    · cases e
theorem ev_tupleRg2 (hc : X.calm = true) (hg : Gl X "tuple") (hm : X.mg "tuple" = none) (hg2 : Gl X "range") (hm2 : X.mg "range" = none) (ha : PEv X a f) (hb : PEv X b g) (na : starEach [a, b] X.env = (false, eval a X.env) :: starEach [b] X.env := by rfl) (na2 : starEach [b] X.env = (false, eval b X.env) :: starEach [] X.env := by rfl) (np : (backTo posr (starEach [b] X.env)).any (·.1) = false := by rfl)
    (nb : starEach [.Call (.Name "range" pr) [a, b] [] posr] X.env = (false, eval (.Call (.Name "range" pr) [a, b] [] posr) X.env) :: starEach [] X.env := by rfl) : PEv X (.Call (.Name "tuple" p) [.Call (.Name "range" pr) [a, b] [] posr] [] pos) (eTupleRg2 f g) := fun W tk =>
  PE.imp (pe_tupRg hc hg hm (prg_2 hg2 hm2 (ha W tk) (hb W tk) na na2 np) nb) fun σ H Q h => by
    refine rg2_imp σ H (fun a b => if rgOkB a b then ok1 (.tup (rgI a b)) else .bad) (fun a b c p => by split <;> (intro z; cases z)) h fun H0 Pz T ρ Fs H1 a b z E e k => ?_
    split at e
    · rename_i hb
      cases e
      exact ⟨rgOkB_iff hb, fun q hq => k _ _ _ (same_upd hq) (new_tup hq rg_rp) .nil⟩
    · cases e
end
end L2.Pv

/-! the head: what the run of the top must tell; the end -/
namespace L2.Pv
open PySem PySem.Spec PyProof.Rows L2
def eqB (a b : Option Bool) : Bool := match a, b with
  | some true, some true => true
  | some false, some false => true
  | none, none => true
  | _, _ => false
theorem eqB_ok {a b : Option Bool} (h : eqB a b = true) : a = b := by
  rcases a with _ | (_ | _) <;> rcases b with _ | (_ | _) <;> first | rfl | cases h
def excB (K : PySem.W.Frag) (C : Addr) : Bool :=
  He.eqO (PySem.W.findIn K (.ref C) "__getattribute__") (some (some (.builtin "BaseException.__getattribute__"))) &&
  (He.eqO (PySem.W.findIn K (.ref C) "__getattr__") (some none) &&
  (eqB (PySem.W.subIn K (.ref C) (.type "BaseException")) (some true) &&
  (PySem.W.hasDictIn K C &&
  (He.eqO (PySem.W.findIn K (.ref C) "__class__") (some (some (.builtin "object.__class__"))) &&
  (He.eqO (PySem.W.specialIn K (.builtin "object.__class__") "__get__") (some (some (.builtin "getset_descriptor.__get__"))) &&
  (eqB (PySem.W.takesIn K (.builtin "object.__class__")) (some true) &&
  eqB (PySem.W.mroIn K C (.type "object")) (some true)))))))
theorem excB_ok {K : PySem.W.Frag} {C : Addr} (h : excB K C = true) : ExcC K C := by
  obtain ⟨h1, h⟩ := He.ba h
  obtain ⟨h2, h⟩ := He.ba h
  obtain ⟨h3, h⟩ := He.ba h
  obtain ⟨h4, h⟩ := He.ba h
  obtain ⟨h5, h⟩ := He.ba h
  obtain ⟨h6, h⟩ := He.ba h
  obtain ⟨h7, h8⟩ := He.ba h
  exact ⟨He.eqO_ok h1, He.eqO_ok h2, eqB_ok h3, h4, He.eqO_ok h5, He.eqO_ok h6, eqB_ok h7, eqB_ok h8⟩
def pairsB (K : PySem.W.Frag) (sub : Str → Str → Bool) (xs : List Str) : Bool := xs.all fun c => xs.all fun y =>
  eqB (PySem.W.kitOne K (.ref (He.ga K c)) (.ref (He.ga K y))) (some (sub c y)) && eqB (PySem.W.exmOne K (.ref (He.ga K c)) (.ref (He.ga K y))) (some (sub c y))
def exB (xs : List Str) (sub : Str → Str → Bool) (K : PySem.W.Frag) : Bool := (xs.all fun c => He.Fa.ok K (.glo c) && excB K (He.ga K c)) && pairsB K sub xs
abbrev AlP : Type := Bool × He.AlD
def obsP (n : Nat) (fa : List He.Fa) (fn : List He.DefD) (xs : List Str) (sub : Str → Str → Bool) (g : Addr → Option Obj) : AlP :=
  (exB xs sub (He.frG g (He.asD g n)), He.obsD fa fn (He.frG g (He.asD g n)))
def SaysP (fa : List He.Fa) (fn : List He.DefD) (xs : List Str) (sub : Str → Str → Bool) (K : PySem.W.Frag) : Prop := exB xs sub K = true ∧ He.SaysD fa fn K
def hookP (n : Nat) (fa : List He.Fa) (fn : List He.DefD) (xs : List Str) (sub : Str → Str → Bool) : PySem.W.Hook where
  α := AlP
  obs := fun s => obsP n fa fn xs sub s.heap.get?
  val := fun _ => (true, He.valD fn)
  says := fun _ h => ∃ K : PySem.W.Frag, K.In h ∧ SaysP fa fn xs sub K
  of := fun _ _ e => ⟨_, He.frG_in, congrArg (fun z : AlP => z.1) e, congrArg (fun z : AlP => z.2) e⟩
  keeps := fun _ _ _ ⟨K, hK, c⟩ k => ⟨K, PySem.W.Frag.In.keeps hK k, c⟩
theorem obsP_eq {n : Nat} {fa : List He.Fa} {fn : List He.DefD} {xs : List Str} {sub : Str → Str → Bool} {g : Addr → Option Obj} {s : Shared} (h : ∀ a, g a = s.heap.get? a) : obsP n fa fn xs sub g = (hookP n fa fn xs sub).obs s := by
  have e : g = s.heap.get? := funext h
  rw [e] <;> rfl
section
variable {fa : List He.Fa} {fn : List He.DefD} {xs : List Str} {sub : Str → Str → Bool} {K : PySem.W.Frag} {h : Heap} {mg : MG}
theorem SaysP.exF (X : K.In h) (G : h.Ns mainGlobals mg) (c : SaysP fa fn xs sub K) : ExFacts K mg xs sub := by
  obtain ⟨c1, c2⟩ := He.ba c.1
  have c1' : ∀ x ∈ xs, mg x = some (.ref (He.ga K x)) ∧ ExcC K (He.ga K x) := fun x hx => by
    obtain ⟨z1, z2⟩ := He.ba (List.all_eq_true.mp c1 x hx)
    exact ⟨He.glo_ok X G z1, excB_ok z2⟩
  refine ⟨fun x hx => ⟨_, (c1' x hx).1, (c1' x hx).2⟩, fun x hx y hy C Y e1 e2 => ?_⟩
  have z := List.all_eq_true.mp (List.all_eq_true.mp c2 x hx) y hy
  obtain ⟨z1, z2⟩ := He.ba z
  have q1 := (c1' x hx).1.symm.trans e1
  have q2 := (c1' y hy).1.symm.trans e2
  cases q1
  cases q2
  exact ⟨eqB_ok z1, eqB_ok z2⟩
theorem SaysP.free (X : K.In h) (G : h.Ns mainGlobals mg) (c : SaysP fa fn xs sub K) (i : Nat) {x : Str} (e : fa[i]? = some (.free x) := by rfl) : mg x = none := He.free_ok X G (c.2.fact i e)
theorem SaysP.int (X : K.In h) (G : h.Ns mainGlobals mg) (c : SaysP fa fn xs sub K) (i : Nat) {x : Str} {z : Int} (e : fa[i]? = some (.int x z) := by rfl) : ∃ t, mg x = some (.int z t) := He.int_ok X G (c.2.fact i e)
theorem SaysP.str (X : K.In h) (G : h.Ns mainGlobals mg) (c : SaysP fa fn xs sub K) (i : Nat) {x z : Str} (e : fa[i]? = some (.str x z) := by rfl) : ∃ t, mg x = some (.str z t) := He.str_ok X G (c.2.fact i e)
theorem SaysP.exc (X : K.In h) (G : h.Ns mainGlobals mg) (c : SaysP fa fn xs sub K) (i j : Nat) {x : Str} (e : fa[i]? = some (.exc x) := by rfl) (e2 : fa[j]? = some (.glo x) := by rfl) : Exc K mg x := by
  obtain ⟨a, b, d, f⟩ := He.exc_ok (c.2.fact i e)
  exact ⟨_, He.glo_ok X G (c.2.fact j e2), a, b, d, f⟩
theorem SaysP.def_ (X : K.In h) (G : h.Ns mainGlobals mg) (c : SaysP fa fn xs sub K) (i j : Nat) {x : Str} {st : Stmt} (e : fn[i]? = some ⟨(x, none), x, x, defArgs st, defBody st, defScope st, [], []⟩ := by rfl) (e2 : fa[j]? = some (.glo x) := by rfl) : Def K mg x st := by
  obtain ⟨fd, F⟩ := c.2.def_ i e
  exact ⟨_, fd, F, He.glo_ok X G (c.2.fact j e2)⟩
end
/-- the end: the law's data function answers true on every script -/
theorem law_end {l : PySem.W.OpenLaw} {k : Nat} {q : Program} {loose : List Str} {XP : (Str → Option Value) → Heap → Prop} {d : DefRec} {Fn : FF} {fa : List He.Fa} {fn : List He.DefD} {xs : List Str} {sub : Str → Str → Bool} {n : Nat} {st : Stmt} {jd jg : Nat}
    (hn : l.most = some 63) (hdf : d.params.defaults = []) (hnm : d.name = "law") (hr : Room k callerA)
    (hd : fn[jd]? = some ⟨(("law" : Str), none), ("law" : Str), ("law" : Str), defArgs st, defBody st, defScope st, [], []⟩) (hg : fa[jg]? = some (.glo ("law" : Str)))
    (hb : ∀ (kV doc pm : Value) (an : Option Addr) (cdv ct : Value) (us : List Value), us.length = 1 → bindArgs (PySem.W.fnOf ("law" : Str) ("law" : Str) (defArgs st) (defBody st) (defScope st) .none kV doc pm an cdv ct) ⟨us, []⟩ = pure ((["script"] : List Str).zip us))
    (F : ∀ (w : World) (K : PySem.W.Frag) (mg : MG) (h : Heap), K.In h → h.Ns mainGlobals mg → SaysP fa fn xs sub K → ∀ (f : Addr) (fd : FuncData), FunD K ("law" : Str) ("law" : Str) (defArgs st) (defBody st) (defScope st) [] [] f fd →
      ∀ base : Heap, K.In base → base.Ns mainGlobals mg → FnOk l.prog w K mg base (L2.CX l.prog w) k f fd ["script"] (spF K mg 1 Fn))
    (hF : ∀ ns : List Int, ns.length ≤ 63 → Fn [.f (ns.map IV.int)] = .ok (.i (.bl true))) :
    PySem.W.WalkO q loose XP (hookP n fa fn xs sub).says l.row.toRowW d [] (fun f vs => PySem.call f vs) := by
  refine Att.attach_call hn hdf fun w s₀ s₁ mg mb fa' o pm cd doc a vs ns G Y ho hd' hcd hmg hobj hints hlen hg' => ?_
  obtain ⟨K, KX, c⟩ := Y
  obtain ⟨fd, F0⟩ := c.2.def_ jd hd
  have e1 := He.glo_ok KX G.T.g (c.2.fact jg hg)
  rw [hnm] at hmg
  have e2 := hmg.symm.trans e1
  cases e2
  have hbd := FunD.bindsA (ps := ["script"]) F0 hb
  refine law_call (fd := fd) (sp := spF K mg 1 Fn) KX G.T.g G.T.b G.T.builtins G.T.nolimit hg' hobj hints (Nat.le_trans hlen (by decide)) hr
    (fun base h1 h2 => F w K mg _ KX G.T.g c _ fd F0 base h1 h2) (fun s u => hbd s [u] rfl) (fun H hO hS => ?_) (fun H e s' z => ?_)
  · refine ⟨rfl, [.f (ns.map IV.int)], .cons (F := []) (.f (vs := ns.map V.int) ?_ ?_) .nil, ?_⟩
    · rcases hS with (hS | ⟨o, hS⟩) | hS
      · rcases hO a with h0 | ⟨o, ys, h0⟩
        · rw [h0] at hS; cases hS
        · rw [h0] at hS; cases hS
      · exact .inl ⟨o, hS⟩
      · exact .inr hS
    · clear hS hints hlen hobj
      induction ns with
      | nil => exact .nil
      | cons i r ih => exact .cons (.int i) ih
    · rw [hF ns hlen]
      intro v H' F s r _
      cases r with
      | i r => cases r; rfl
  · obtain ⟨_, _, _, _, _, _, _, _, _, _, _, _, z⟩ := z
    exact z
end L2.Pv

/-! evaluating by simp: what each combinator gives -/
namespace L2.Pv
open PySem PySem.Spec PyProof.Rows L2
def iL (xs : List Int) : List IV := xs.map .int
/-! ### combinators -/
@[simp] theorem R_ok {α β : Type} (a : α) (f : α → R β) : (R.ok a).bind f = f a := rfl
@[simp] theorem R_ex {α β : Type} (c : Str) (p : Exn) (f : α → R β) : (R.ex c p : R α).bind f = .ex c p := rfl
@[simp] theorem eC_ap (x : IV) (ρ : Env) : eC x ρ = .ok (.i x, .own) := rfl
/-- a name's value, as it may be looked at -/
def look : Option (Option (DV × Md)) → R (DV × Md)
  | some (some (.i x, _)) => .ok (.i x, .own)
  | some (some (d, .own)) => .ok (d, .tmp)
  | some (some (_, .tmp)) => .bad
  | some (some (d, m)) => .ok (d, m)
  | _ => .bad
@[simp] theorem eVar_ap (i : Nat) (ρ : Env) : eVar i ρ = look ρ[i]? := by
  unfold eVar look
  rcases ρ[i]? with _ | _ | ⟨d, m⟩ <;> first | rfl | (cases d <;> cases m <;> rfl)
@[simp] theorem look_i (x : IV) (m : Md) : look (some (some (.i x, m))) = .ok (.i x, .own) := rfl
@[simp] theorem look_lo (x : List IV) : look (some (some (.l x, .own))) = .ok (.l x, .tmp) := rfl
@[simp] theorem look_ll (x : List IV) : look (some (some (.l x, .loc))) = .ok (.l x, .loc) := rfl
@[simp] theorem look_lb (x : List IV) : look (some (some (.l x, .bor))) = .ok (.l x, .bor) := rfl
@[simp] theorem look_mo (x : List DV) : look (some (some (.m x, .own))) = .ok (.m x, .tmp) := rfl
@[simp] theorem look_ml (x : List DV) : look (some (some (.m x, .loc))) = .ok (.m x, .loc) := rfl
@[simp] theorem look_mb (x : List DV) : look (some (some (.m x, .bor))) = .ok (.m x, .bor) := rfl
@[simp] theorem look_fb (x : List IV) : look (some (some (.f x, .bor))) = .ok (.f x, .bor) := rfl
@[simp] theorem look_fl (x : List IV) : look (some (some (.f x, .loc))) = .ok (.f x, .loc) := rfl
@[simp] theorem eBin_ap (op : DV × Md → DV × Md → R (DV × Md)) (f g : FE) (ρ : Env) : eBin op f g ρ = (f ρ).bind fun x => (g ρ).bind fun y => op x y := rfl
@[simp] theorem eUn_ap (op : DV × Md → R (DV × Md)) (f : FE) (ρ : Env) : eUn op f ρ = (f ρ).bind op := rfl
@[simp] theorem tB_ap (f : FE) (ρ : Env) : tB f ρ = (f ρ).bind asB := rfl
@[simp] theorem asB_bl (b : Bool) (m : Md) : asB (.i (.bl b), m) = .ok b := rfl
@[simp] theorem tAndF_ap (f g : FT) (ρ : Env) : tAndF f g ρ = (f ρ).bind fun b => if b then g ρ else .ok false := rfl
@[simp] theorem tOrF_ap (f g : FT) (ρ : Env) : tOrF f g ρ = (f ρ).bind fun b => if b then .ok true else g ρ := rfl
@[simp] theorem tNotF_ap (f : FT) (ρ : Env) : tNotF f ρ = (f ρ).bind fun b => .ok (!b) := rfl
@[simp] theorem tYesF_ap (ρ : Env) : tYesF ρ = .ok true := rfl
@[simp] theorem eIfF_ap (c : FT) (f g : FE) (ρ : Env) : eIfF c f g ρ = (c ρ).bind fun b => if b then f ρ else g ρ := rfl
@[simp] theorem eAndF_ap (f g : FE) (ρ : Env) : eAndF f g ρ = (f ρ).bind fun x => (asB x).bind fun b => if b then g ρ else .ok (.i (.bl false), .own) := rfl
@[simp] theorem eOrF_ap (f g : FE) (ρ : Env) : eOrF f g ρ = (f ρ).bind fun x => (asB x).bind fun b => if b then .ok (.i (.bl true), .own) else g ρ := rfl
@[simp] theorem eNotF_ap (f : FE) (ρ : Env) : eNotF f ρ = (f ρ).bind fun x => (asB x).bind fun b => .ok (.i (.bl (!b)), .own) := rfl
@[simp] theorem aNil_ap (ρ : Env) : aNil ρ = .ok [] := rfl
@[simp] theorem aCons_ap (f : FE) (g : FA) (ρ : Env) : aCons f g ρ = (f ρ).bind fun x => (g ρ).bind fun xs => .ok (x :: xs) := rfl
@[simp] theorem eCall_ap (F : FF) (g : FA) (ρ : Env) : eCall F g ρ = (g ρ).bind fun xs => (F (xs.map (·.1))).bind fun d => .ok (d, cmd d) := rfl
@[simp] theorem cmd_i (x : IV) : cmd (.i x) = .own := rfl
@[simp] theorem cmd_l (x : List IV) : cmd (.l x) = .own := rfl
@[simp] theorem cmd_m (x : List DV) : cmd (.m x) = .own := rfl
@[simp] theorem cmd_t (x : List DV) : cmd (.t x) = .loc := rfl
@[simp] theorem cmd_k (x : List (Key × IV)) : cmd (.k x) = .own := rfl
@[simp] theorem cmd_h (x : List (List Key × IV)) : cmd (.h x) = .own := rfl
@[simp] theorem eChain_ap (op op' : DV × Md → DV × Md → R (DV × Md)) (f g k : FE) (ρ : Env) : eChain op op' f g k ρ = (f ρ).bind fun x => (g ρ).bind fun y => (op x y).bind fun z => (asB z).bind fun b => if b then (k ρ).bind fun u => op' y u else .ok (.i (.bl false), .own) := rfl
@[simp] theorem oNone_ap (ρ : Env) : oNone ρ = .ok none := rfl
@[simp] theorem oSome_ap (f : FE) (ρ : Env) : oSome f ρ = (f ρ).bind asI := rfl
@[simp] theorem asI_int (i : Int) (m : Md) : asI (.i (.int i), m) = .ok (some i) := rfl
@[simp] theorem eSlice_ap (f : FE) (l h : FO) (ρ : Env) : eSlice f l h ρ = (f ρ).bind fun x => (l ρ).bind fun l => (h ρ).bind fun u => opSl l u x := rfl
@[simp] theorem eLst_ap (g : FA) (ρ : Env) : eLst g ρ = (g ρ).bind dLst := rfl
@[simp] theorem eTup_ap (g : FA) (ρ : Env) : eTup g ρ = (g ρ).bind dTup := rfl
@[simp] theorem iAny_ap (f : FE) (ρ : Env) : iAny f ρ = (f ρ).bind itemsOf := rfl
/-! ### statements -/
def RS.seq (r : RS) (g : FS) : RS := match r with
  | .nx ρ => g ρ
  | r => r
@[simp] theorem seq_nx (ρ : Env) (g : FS) : (RS.nx ρ).seq g = g ρ := rfl
@[simp] theorem seq_rt (d : DV) (g : FS) : (RS.rt d).seq g = .rt d := rfl
@[simp] theorem seq_bk (ρ : Env) (g : FS) : (RS.bk ρ).seq g = .bk ρ := rfl
@[simp] theorem seq_ct (ρ : Env) (g : FS) : (RS.ct ρ).seq g = .ct ρ := rfl
@[simp] theorem seq_ex (c : Str) (p : Exn) (ρ : Env) (g : FS) : (RS.ex c p ρ).seq g = .ex c p ρ := rfl
@[simp] theorem sSeq_ap (f g : FS) (ρ : Env) : sSeq f g ρ = (f ρ).seq g := by
  unfold sSeq RS.seq
  cases f ρ <;> rfl
@[simp] theorem sNil_ap (ρ : Env) : sNil ρ = .nx ρ := rfl
@[simp] theorem sBreak_ap (ρ : Env) : sBreak ρ = .bk ρ := rfl
@[simp] theorem sCont_ap (ρ : Env) : sCont ρ = .ct ρ := rfl
@[simp] theorem sRaise_ap (c : Str) (ρ : Env) : sRaise c ρ = .ex c none ρ := rfl
/-- what follows an expression -/
def R.st {α : Type} (x : R α) (ρ : Env) (k : α → RS) : RS := match x with
  | .ok a => k a
  | .ex c p => .ex c p ρ
  | .bad => .bad
@[simp] theorem st_ok {α : Type} (a : α) (ρ : Env) (k : α → RS) : (R.ok a).st ρ k = k a := rfl
@[simp] theorem st_ex {α : Type} (c : Str) (p : Exn) (ρ : Env) (k : α → RS) : (R.ex c p : R α).st ρ k = .ex c p ρ := rfl
def bindT (t : TF) (x : DV × Md) (ρ : Env) : RS := if x.2 = .tmp then .bad else (match t x ρ with
  | some ρ' => .nx ρ'
  | none => .bad)
@[simp] theorem sAsg_ap (f : FE) (t : TF) (ρ : Env) : sAsg f t ρ = (f ρ).st ρ fun x => bindT t x ρ := by
  unfold sAsg R.st bindT
  cases f ρ <;> rfl
theorem bindT_name (i : Nat) (d : DV) (m : Md) (ρ : Env) (h : m ≠ .tmp) (hi : i < ρ.length) : bindT (tName i) (d, m) ρ = .nx (ρ.set i (some (d, nrmM d m))) := by
  unfold bindT tName
  rw [if_neg h, if_pos hi]
@[simp] theorem bindT_i (i : Nat) (x : IV) (ρ : Env) : bindT (tName i) (.i x, .own) ρ = if i < ρ.length then .nx (ρ.set i (some (.i x, .own))) else .bad := by
  unfold bindT tName
  rw [if_neg (show ¬ Md.own = Md.tmp by decide)]
  by_cases h : i < ρ.length
  · rw [if_pos h, if_pos h] <;> rfl
  · rw [if_neg h, if_neg h]
@[simp] theorem bindT_o (i : Nat) (d : DV) (ρ : Env) : bindT (tName i) (d, .own) ρ = if i < ρ.length then .nx (ρ.set i (some (d, .own))) else .bad := by
  have e : nrmM d .own = .own := by cases d <;> rfl
  unfold bindT tName
  rw [if_neg (show ¬ Md.own = Md.tmp by decide)]
  by_cases h : i < ρ.length
  · rw [if_pos h, if_pos h]; simp only [e]
  · rw [if_neg h, if_neg h]
@[simp] theorem bindT_l (i : Nat) (d : List IV) (ρ : Env) : bindT (tName i) (.l d, .loc) ρ = if i < ρ.length then .nx (ρ.set i (some (.l d, .loc))) else .bad := by
  unfold bindT tName nrmM
  rw [if_neg (show ¬ Md.loc = Md.tmp by decide)]
  by_cases h : i < ρ.length
  · rw [if_pos h, if_pos h]
  · rw [if_neg h, if_neg h]
@[simp] theorem tName_i (i : Nat) (x : IV) (m : Md) (ρ : Env) : tName i (.i x, m) ρ = if i < ρ.length then some (ρ.set i (some (.i x, .own))) else none := rfl
@[simp] theorem tName_l (i : Nat) (x : List IV) (m : Md) (ρ : Env) : tName i (.l x, m) ρ = if i < ρ.length then some (ρ.set i (some (.l x, m))) else none := rfl
@[simp] theorem tName_m (i : Nat) (x : List DV) (m : Md) (ρ : Env) : tName i (.m x, m) ρ = if i < ρ.length then some (ρ.set i (some (.m x, m))) else none := rfl
@[simp] theorem tTupT_ap (n : Nat) (ts : TFs) (xs : List IV) (m : Md) (ρ : Env) : tTupT n ts (.i (.tup xs), m) ρ = if xs.length = n then ts xs ρ else none := rfl
@[simp] theorem tTupT_l (n : Nat) (ts : TFs) (xs : List IV) (m : Md) (ρ : Env) : tTupT n ts (.l xs, m) ρ = if xs.length = n then ts xs ρ else none := rfl
@[simp] theorem tsNil_ap (ρ : Env) : tsNil [] ρ = some ρ := rfl
@[simp] theorem tsCons_ap (t : TF) (ts : TFs) (x : IV) (r : List IV) (ρ : Env) : tsCons t ts (x :: r) ρ = (t (.i x, .own) ρ).bind (ts r) := rfl
@[simp] theorem bindT_tup (n : Nat) (ts : TFs) (xs : List IV) (m : Md) (ρ : Env) (h : m = .own) : bindT (tTupT n ts) (.i (.tup xs), m) ρ = if xs.length = n then (match ts xs ρ with
    | some ρ' => .nx ρ'
    | none => .bad) else .bad := by
  subst h
  unfold bindT tTupT
  rw [if_neg (show ¬ Md.own = Md.tmp by decide)]
  by_cases h : xs.length = n <;> simp [h]
@[simp] theorem bindT_tupl (n : Nat) (ts : TFs) (xs : List IV) (m : Md) (ρ : Env) (h : m ≠ .tmp) : bindT (tTupT n ts) (.l xs, m) ρ = if xs.length = n then (match ts xs ρ with
    | some ρ' => .nx ρ'
    | none => .bad) else .bad := by
  unfold bindT tTupT
  rw [if_neg h]
  by_cases h : xs.length = n <;> simp [h]
@[simp] theorem sIf_ap (c : FT) (f g : FS) (ρ : Env) : sIf c f g ρ = (c ρ).st ρ fun b => if b then f ρ else g ρ := by
  unfold sIf R.st
  cases c ρ <;> rfl
@[simp] theorem sRet_ap (f : FE) (ρ : Env) : sRet f ρ = (f ρ).st ρ fun x => if retOk x then .rt x.1 else .bad := by
  unfold sRet R.st
  cases f ρ <;> rfl
@[simp] theorem retOk_i (x : IV) (m : Md) : retOk (.i x, m) = true := rfl
@[simp] theorem retOk_l (x : List IV) : retOk (.l x, .own) = true := rfl
@[simp] theorem retOk_ll (x : List IV) : retOk (.l x, .loc) = true := rfl
@[simp] theorem retOk_m (x : List DV) : retOk (.m x, .own) = true := rfl
@[simp] theorem sRetV_ap (i : Nat) (ρ : Env) : sRetV i ρ = match retV ρ[i]? with
    | some d => .rt d
    | none => .bad := rfl
@[simp] theorem retV_i (x : IV) (m : Md) : retV (some (some (.i x, m))) = some (.i x) := rfl
@[simp] theorem retV_l (x : List IV) : retV (some (some (.l x, .own))) = some (.l x) := rfl
@[simp] theorem retV_ll (x : List IV) : retV (some (some (.l x, .loc))) = some (.l x) := rfl
@[simp] theorem retV_m (x : List DV) : retV (some (some (.m x, .own))) = some (.m x) := rfl
@[simp] theorem sExpr_ap (f : FE) (ρ : Env) : sExpr f ρ = (f ρ).st ρ fun _ => .nx ρ := by
  unfold sExpr R.st
  cases f ρ <;> rfl
@[simp] theorem sAug_ap (i : Nat) (op : DV × Md → DV × Md → R (DV × Md)) (f : FE) (ρ : Env) : sAug i op f ρ = match look ρ[i]? with
  | .ok x => ((f ρ).st ρ fun y => match op x y with
    | .ok z => if z.2 = .tmp ∨ ¬ i < ρ.length then .bad else .nx (ρ.set i (some (z.1, nrmM z.1 z.2)))
    | _ => .bad)
  | _ => .bad := by
  unfold sAug R.st
  rw [eVar_ap]
  cases look ρ[i]? with
  | ok x => simp only; cases f ρ <;> rfl
  | ex => rfl
  | bad => rfl
@[simp] theorem sApp_ap (i : Nat) (f : FE) (ρ : Env) : sApp i f ρ = match ownAt ρ i with
  | some d => (f ρ).st ρ fun y => (match appD d y with
    | some d' => .nx (ρ.set i (some (d', .own)))
    | none => .bad)
  | none => .bad := by
  unfold sApp R.st
  cases ownAt ρ i with
  | none => rfl
  | some d => simp only; cases f ρ <;> rfl
def ownO : Option (Option (DV × Md)) → Option DV
  | some (some (.l xs, .own)) => some (.l xs)
  | some (some (.m xs, .own)) => some (.m xs)
  | _ => none
@[simp] theorem ownAt_ap (ρ : Env) (i : Nat) : ownAt ρ i = ownO ρ[i]? := by
  unfold ownAt ownO
  rcases ρ[i]? with _ | _ | ⟨d, m⟩ <;> first | rfl | (cases d <;> cases m <;> rfl)
@[simp] theorem ownO_l (xs : List IV) : ownO (some (some (.l xs, .own))) = some (.l xs) := rfl
@[simp] theorem ownO_m (xs : List DV) : ownO (some (some (.m xs, .own))) = some (.m xs) := rfl
@[simp] theorem appD_l (xs : List IV) (y : IV) (m : Md) : appD (.l xs) (.i y, m) = if xs.length < 16777216 then some (.l (xs ++ [y])) else none := rfl
@[simp] theorem appD_m (xs : List DV) (y : IV) (m : Md) : appD (.m xs) (.i y, m) = if xs.length < 16777216 then some (.m (xs ++ [.i y])) else none := rfl
@[simp] theorem sPut_ap (i : Nat) (k f : FE) (ρ : Env) : sPut i k f ρ = (f ρ).st ρ fun y => match ownO ρ[i]? with
  | some d => (k ρ).st ρ fun z => (match asI z with
      | .ok (some n) => (match setD d n y with
        | some d' => .nx (ρ.set i (some (d', .own)))
        | none => .bad)
      | _ => .bad)
  | none => .bad := by
  unfold sPut R.st
  rw [ownAt_ap]
  cases f ρ with
  | ok y => simp only; cases ownO ρ[i]? with
    | none => rfl
    | some d => simp only; cases k ρ <;> rfl
  | ex => rfl
  | bad => rfl
def parR (i j : Nat) (ρ : Env) (x y : DV × Md) : RS := if i < ρ.length ∧ j < ρ.length then (match parE ρ i j x y with
  | some ρ' => .nx ρ'
  | none => .bad) else .bad
@[simp] theorem sPar1_ap (i j : Nat) (f g : FE) (ρ : Env) : sPar1 i j f g ρ = (f ρ).st ρ fun x => (g ρ).st ρ fun y => parR i j ρ x y := by
  unfold sPar1 R.st parR
  cases f ρ with
  | ok x => simp only; cases g ρ <;> rfl
  | ex => rfl
  | bad => rfl
@[simp] theorem parR_ii (i j : Nat) (ρ : Env) (x y : IV) : parR i j ρ (.i x, .own) (.i y, .own) = if i < ρ.length ∧ j < ρ.length then .nx ((ρ.set i (some (.i x, .own))).set j (some (.i y, .own))) else .bad := by
  unfold parR parE nrmM
  simp
/-! ### for, while -/
@[simp] theorem sFor_ap (ds : List Nat) (src : FI) (t : TF) (b : FS) (ρ : Env) : sFor ds src t b ρ = (src (demL ρ ds)).st (demL ρ ds) fun it => if it.2 = .tmp then .bad else loopF t b it.1 (demL ρ ds) := by
  unfold sFor R.st
  cases src (demL ρ ds) <;> rfl
@[simp] theorem demL_nil (ρ : Env) : demL ρ [] = ρ := rfl
@[simp] theorem demL_cons (ρ : Env) (i : Nat) (r : List Nat) : demL ρ (i :: r) = demL (dem1 ρ i) r := rfl
def demO (ρ : Env) (i : Nat) : Option (Option (DV × Md)) → Env
  | some (some (.l xs, .own)) => ρ.set i (some (.l xs, .loc))
  | some (some (.m xs, .own)) => ρ.set i (some (.m xs, .loc))
  | _ => ρ
@[simp] theorem dem1_ap (ρ : Env) (i : Nat) : dem1 ρ i = demO ρ i ρ[i]? := by
  unfold dem1 demO
  rcases ρ[i]? with _ | _ | ⟨d, m⟩ <;> first | rfl | (cases d <;> cases m <;> rfl)
@[simp] theorem demO_i (ρ : Env) (i : Nat) (x : IV) (m : Md) : demO ρ i (some (some (.i x, m))) = ρ := rfl
@[simp] theorem demO_lo (ρ : Env) (i : Nat) (x : List IV) : demO ρ i (some (some (.l x, .own))) = ρ.set i (some (.l x, .loc)) := rfl
@[simp] theorem demO_mo (ρ : Env) (i : Nat) (x : List DV) : demO ρ i (some (some (.m x, .own))) = ρ.set i (some (.m x, .loc)) := rfl
@[simp] theorem demO_ll (ρ : Env) (i : Nat) (x : List IV) : demO ρ i (some (some (.l x, .loc))) = ρ := rfl
@[simp] theorem demO_ml (ρ : Env) (i : Nat) (x : List DV) : demO ρ i (some (some (.m x, .loc))) = ρ := rfl
@[simp] theorem demO_lb (ρ : Env) (i : Nat) (x : List IV) : demO ρ i (some (some (.l x, .bor))) = ρ := rfl
@[simp] theorem demO_mb (ρ : Env) (i : Nat) (x : List DV) : demO ρ i (some (some (.m x, .bor))) = ρ := rfl
@[simp] theorem demO_f (ρ : Env) (i : Nat) (x : List IV) (m : Md) : demO ρ i (some (some (.f x, m))) = ρ := rfl
/-- what is wanted behind a statement -/
structure PD where
  nx : Env → Prop
  bk : Env → Prop
  ct : Env → Prop
  rt : DV → Prop
  ex : Str → Exn → Prop
def RS.toP (r : RS) (D : PD) : Prop := match r with
  | .nx ρ => D.nx ρ
  | .bk ρ => D.bk ρ
  | .ct ρ => D.ct ρ
  | .rt d => D.rt d
  | .ex c p _ => D.ex c p
  | .bad => False
/-- a statement's end meets D (boxed, so that nothing is run by unfolding) -/
structure RS.to (r : RS) (D : PD) : Prop where
  h : r.toP D
@[simp] theorem to_nx (ρ : Env) (D : PD) : (RS.nx ρ).to D = D.nx ρ := propext ⟨fun z => z.h, fun z => ⟨z⟩⟩
@[simp] theorem to_bk (ρ : Env) (D : PD) : (RS.bk ρ).to D = D.bk ρ := propext ⟨fun z => z.h, fun z => ⟨z⟩⟩
@[simp] theorem to_ct (ρ : Env) (D : PD) : (RS.ct ρ).to D = D.ct ρ := propext ⟨fun z => z.h, fun z => ⟨z⟩⟩
@[simp] theorem to_rt (d : DV) (D : PD) : (RS.rt d).to D = D.rt d := propext ⟨fun z => z.h, fun z => ⟨z⟩⟩
@[simp] theorem to_ex (c : Str) (p : Exn) (ρ : Env) (D : PD) : (RS.ex c p ρ).to D = D.ex c p := propext ⟨fun z => z.h, fun z => ⟨z⟩⟩
@[simp] theorem to_bad (D : PD) : RS.bad.to D = False := propext ⟨fun z => z.h, fun z => z.elim⟩
/-- g comes behind -/
def PD.thn (D : PD) (g : FS) : PD := ⟨fun ρ => (g ρ).to D, D.bk, D.ct, D.rt, D.ex⟩
@[simp] theorem thn_nx (D : PD) (g : FS) (ρ : Env) : (D.thn g).nx ρ = (g ρ).to D := rfl
@[simp] theorem thn_bk (D : PD) (g : FS) (ρ : Env) : (D.thn g).bk ρ = D.bk ρ := rfl
@[simp] theorem thn_ct (D : PD) (g : FS) (ρ : Env) : (D.thn g).ct ρ = D.ct ρ := rfl
@[simp] theorem thn_rt (D : PD) (g : FS) (d : DV) : (D.thn g).rt d = D.rt d := rfl
@[simp] theorem thn_ex (D : PD) (g : FS) (c : Str) (p : Exn) : (D.thn g).ex c p = D.ex c p := rfl
@[simp] theorem to_seq (r : RS) (g : FS) (D : PD) : (r.seq g).to D = r.to (D.thn g) := by
  cases r <;> simp [RS.seq]
/-- what a turn must reach: I, or the loop's end D -/
structure Hide (I : Env → Prop) (D W : PD) : Prop where
  nx : ∀ ρ, I ρ → W.nx ρ
  ct : ∀ ρ, I ρ → W.ct ρ
  bk : ∀ ρ, D.nx ρ → W.bk ρ
  rt : ∀ d, D.rt d → W.rt d
  ex : ∀ c p, D.ex c p → W.ex c p
theorem Hide.self (I : Env → Prop) (D : PD) : Hide I D ⟨I, D.nx, I, D.rt, D.ex⟩ := ⟨fun _ h => h, fun _ h => h, fun _ h => h, fun _ h => h, fun _ _ h => h⟩
/-- a def's end -/
def fin (S : DV → Prop) (E : Str → Exn → Prop) : PD := ⟨fun _ => S (.i .non), fun _ => False, fun _ => False, S, E⟩
@[simp] theorem fin_nx (S : DV → Prop) (E : Str → Exn → Prop) (ρ : Env) : (fin S E).nx ρ = S (.i .non) := rfl
@[simp] theorem fin_rt (S : DV → Prop) (E : Str → Exn → Prop) (d : DV) : (fin S E).rt d = S d := rfl
@[simp] theorem fin_ex (S : DV → Prop) (E : Str → Exn → Prop) (c : Str) (p : Exn) : (fin S E).ex c p = E c p := rfl
theorem run_ok {n : Nat} {G : FS} {ds : List DV} (S : DV → Prop) (h : ∀ J : DV → Prop, (∀ d, S d → J d) → (G (startE n ds)).to (fin J fun _ _ => False)) : ∃ d, runF n G ds = .ok d ∧ S d := by
  have h := (h S fun _ h => h).h
  unfold runF
  cases e : G (startE n ds) with
  | nx ρ => rw [e] at h; exact ⟨_, rfl, h⟩
  | rt d => rw [e] at h; exact ⟨_, rfl, h⟩
  | bk ρ => rw [e] at h; exact h.elim
  | ct ρ => rw [e] at h; exact h.elim
  | ex c p ρ => rw [e] at h; exact h.elim
  | bad => rw [e] at h; exact h.elim
theorem run_eq {n : Nat} {G : FS} {ds : List DV} {v : DV} (h : (G (startE n ds)).to (fin (· = v) fun _ _ => False)) : runF n G ds = .ok v := by
  have h := h.h
  unfold runF
  cases e : G (startE n ds) with
  | nx ρ => rw [e] at h; exact congrArg R.ok h
  | rt d => rw [e] at h; exact congrArg R.ok h
  | bk ρ => rw [e] at h; exact h.elim
  | ct ρ => rw [e] at h; exact h.elim
  | ex c p ρ => rw [e] at h; exact h.elim
  | bad => rw [e] at h; exact h.elim
theorem run_ex {n : Nat} {G : FS} {ds : List DV} {c : Str} {p : Exn} (h : (G (startE n ds)).to (fin (fun _ => False) fun c' p' => c' = c ∧ p' = p)) : runF n G ds = .ex c p := by
  have h := h.h
  unfold runF
  cases e : G (startE n ds) with
  | nx ρ => rw [e] at h; exact h.elim
  | rt d => rw [e] at h; exact h.elim
  | bk ρ => rw [e] at h; exact h.elim
  | ct ρ => rw [e] at h; exact h.elim
  | ex c' p' ρ => rw [e] at h; obtain ⟨h1, h2⟩ := h; rw [h1, h2]
  | bad => rw [e] at h; exact h.elim
def goOn (o : Option Env) (b : FS) : RS := match o with
  | some ρ1 => b ρ1
  | none => .bad
@[simp] theorem goOn_some (ρ : Env) (b : FS) : goOn (some ρ) b = b ρ := rfl
/-- a walk over items: I k holds before the k-th turn -/
theorem loop_ind {t : TF} {b : FS} {D : PD} (I : Nat → Env → Prop) : ∀ (items : List (DV × Md)) (n : Nat) (ρ : Env), I n ρ →
    (∀ k x ρ, items[k]? = some x → I (n + k) ρ → (goOn (t x ρ) b).toP ⟨I (n + k + 1), D.nx, I (n + k + 1), D.rt, D.ex⟩) → (∀ ρ, I (n + items.length) ρ → D.nx ρ) → (loopF t b items ρ).toP D
  | [], n, ρ, h0, _, he => he ρ h0
  | x :: r, n, ρ, h0, hs, he => by
    have z := hs 0 x ρ rfl h0
    have hr : ∀ ρ2, I (n + 1) ρ2 → (loopF t b r ρ2).toP D := fun ρ2 h2 => loop_ind I r (n + 1) ρ2 h2 (fun k y ρ3 hk h3 => by
      have w := hs (k + 1) y ρ3 (by simpa using hk) (by rw [show n + (k + 1) = n + 1 + k by omega]; exact h3)
      rw [show n + 1 + k + 1 = n + (k + 1) + 1 by omega]
      exact w) (fun ρ3 h3 => he ρ3 (by rw [List.length_cons, show n + (r.length + 1) = n + 1 + r.length by omega]; exact h3))
    unfold loopF
    cases e : t x ρ with
    | none => rw [e] at z; exact z.elim
    | some ρ1 =>
      rw [e] at z
      simp only
      change (b ρ1).toP _ at z
      cases e2 : b ρ1 with
      | nx ρ2 => rw [e2] at z; exact hr ρ2 z
      | ct ρ2 => rw [e2] at z; exact hr ρ2 z
      | bk ρ2 => rw [e2] at z; exact z
      | rt d => rw [e2] at z; exact z
      | ex c p ρ2 => rw [e2] at z; exact z
      | bad => rw [e2] at z; exact z.elim
/-- a loop over written items, turn by turn -/
theorem loop_nil (t : TF) (b : FS) (ρ : Env) (D : PD) : (loopF t b [] ρ).to D = D.nx ρ := propext ⟨fun z => z.h, fun z => ⟨z⟩⟩
theorem loop_cons {t : TF} {b : FS} {x : DV × Md} {r : List (DV × Md)} {ρ : Env} {D : PD} (h : ∀ W : PD, Hide (fun ρ => (loopF t b r ρ).to D) D W → (goOn (t x ρ) b).to W) : (loopF t b (x :: r) ρ).to D := by
  have z := (h _ (Hide.self _ _)).h
  refine ⟨?_⟩
  unfold loopF
  cases e : t x ρ with
  | none => rw [e] at z; exact z.elim
  | some ρ1 =>
    rw [e] at z
    simp only
    change (b ρ1).toP _ at z
    cases e2 : b ρ1 with
    | nx ρ2 => rw [e2] at z; exact z.h
    | ct ρ2 => rw [e2] at z; exact z.h
    | bk ρ2 => rw [e2] at z; exact z
    | rt d => rw [e2] at z; exact z
    | ex c p ρ2 => rw [e2] at z; exact z
    | bad => rw [e2] at z; exact z.elim
/-- over a map -/
theorem for_map {α : Type} {t : TF} {b : FS} {D : PD} (xs : List α) (it : α → DV × Md) (ρ : Env) (I : Nat → Env → Prop) (h0 : I 0 ρ)
    (hs : ∀ (k : Nat) (hk : k < xs.length) (W : PD) (_ : Hide (I (k + 1)) D W) ρ, I k ρ → (goOn (t (it xs[k]) ρ) b).to W) (he : ∀ ρ, I xs.length ρ → D.nx ρ) : (loopF t b (xs.map it) ρ).to D := by
  refine ⟨loop_ind I (xs.map it) 0 ρ h0 (fun k x ρ hk h => ?_) (fun ρ h => he ρ (by simpa using h))⟩
  rw [Nat.zero_add] at h ⊢
  rw [List.getElem?_map] at hk
  cases e : xs[k]? with
  | none => rw [e] at hk; cases hk
  | some a =>
    rw [e] at hk
    obtain ⟨hk', ea⟩ := List.getElem?_eq_some_iff.mp e
    have z := hs k hk' _ (Hide.self _ _) ρ h
    rw [ea] at z
    have q : it a = x := Option.some.inj hk
    rw [← q]
    exact z.h
/-- over plain items -/
theorem for_el {t : TF} {b : FS} {D : PD} {xs : List IV} {ρ : Env} (I : Nat → Env → Prop) (h0 : I 0 ρ)
    (hs : ∀ (k : Nat) (hk : k < xs.length) (W : PD) (_ : Hide (I (k + 1)) D W) ρ, I k ρ → (goOn (t (.i xs[k], .own) ρ) b).to W) (he : ∀ ρ, I xs.length ρ → D.nx ρ) : (loopF t b (elI xs) ρ).to D :=
  for_map xs _ ρ I h0 hs he
theorem for_iL {t : TF} {b : FS} {D : PD} {xs : List Int} {ρ : Env} (I : Nat → Env → Prop) (h0 : I 0 ρ)
    (hs : ∀ (k : Nat) (hk : k < xs.length) (W : PD) (_ : Hide (I (k + 1)) D W) ρ, I k ρ → (goOn (t (.i (.int xs[k]), .own) ρ) b).to W) (he : ∀ ρ, I xs.length ρ → D.nx ρ) : (loopF t b (elI (iL xs)) ρ).to D := by
  have e : elI (iL xs) = xs.map fun x => (.i (.int x), .own) := by
    unfold elI iL
    rw [List.map_map] <;> rfl
  rw [e]
  exact for_map xs _ ρ I h0 hs he
/-- over a range -/
theorem for_rg {t : TF} {b : FS} {D : PD} {lo : Int} {n : Nat} {ρ : Env} (I : Nat → Env → Prop) (h0 : I 0 ρ)
    (hs : ∀ (k : Nat), k < n → ∀ (W : PD) (_ : Hide (I (k + 1)) D W) ρ, I k ρ → (goOn (t (.i (.int (lo + (k : Int))), .own) ρ) b).to W) (he : ∀ ρ, I n ρ → D.nx ρ) : (loopF t b (rgL lo n) ρ).to D := by
  refine for_map (List.range n) (fun k : Nat => (.i (.int (lo + (k : Int))), .own)) ρ I h0 (fun k hk W hW ρ h => ?_) (fun ρ h => he ρ (by simpa using h))
  rw [List.getElem_range]
  exact hs k (by simpa using hk) W hW ρ h
/-- over a range downwards, or by steps -/
theorem for_rgC {t : TF} {b : FS} {D : PD} {lo c : Int} {n : Nat} {ρ : Env} (I : Nat → Env → Prop) (h0 : I 0 ρ)
    (hs : ∀ (k : Nat), k < n → ∀ (W : PD) (_ : Hide (I (k + 1)) D W) ρ, I k ρ → (goOn (t (.i (.int (lo + (k : Int) * c)), .own) ρ) b).to W) (he : ∀ ρ, I n ρ → D.nx ρ) : (loopF t b (rgC lo c n) ρ).to D := by
  refine for_map (List.range n) (fun k : Nat => (.i (.int (lo + (k : Int) * c)), .own)) ρ I h0 (fun k hk W hW ρ h => ?_) (fun ρ h => he ρ (by simpa using h))
  rw [List.getElem_range]
  exact hs k (by simpa using hk) W hW ρ h
def turnP (W : PD) (c : R Bool) (b : RS) (ρ : Env) : Prop := match c with
  | .ok true => b.toP W
  | .ok false => W.bk ρ
  | .ex x p => W.ex x p
  | .bad => False
structure turnW (W : PD) (c : R Bool) (b : RS) (ρ : Env) : Prop where
  h : turnP W c b ρ
@[simp] theorem turnW_t (W : PD) (b : RS) (ρ : Env) : turnW W (.ok true) b ρ = b.to W := propext ⟨fun z => ⟨z.h⟩, fun z => ⟨z.h⟩⟩
@[simp] theorem turnW_f (W : PD) (b : RS) (ρ : Env) : turnW W (.ok false) b ρ = W.bk ρ := propext ⟨fun z => z.h, fun z => ⟨z⟩⟩
theorem turnW_ite (W : PD) (c : Bool) (b : RS) (ρ : Env) : turnW W (.ok c) b ρ = if c then b.to W else W.bk ρ := by cases c <;> simp
theorem whileF_ind {c : FT} {b : FS} {D : PD} (I : Nat → Env → Prop) : ∀ (m n : Nat) (ρ : Env), n < m → I n ρ →
    (∀ n ρ, I n ρ → turnP ⟨fun ρ' => ∃ n', n' < n ∧ I n' ρ', D.nx, fun ρ' => ∃ n', n' < n ∧ I n' ρ', D.rt, D.ex⟩ (c ρ) (b ρ) ρ) → (whileF c b m ρ).toP D
  | 0, n, ρ, h, _, _ => absurd h (Nat.not_lt_zero n)
  | m + 1, n, ρ, h, h0, hs => by
    have z := hs n ρ h0
    have hr : ∀ ρ2, (∃ n', n' < n ∧ I n' ρ2) → (whileF c b m ρ2).toP D := fun ρ2 ⟨n', h1, h2⟩ => whileF_ind I m n' ρ2 (by omega) h2 hs
    unfold whileF
    rcases e : c ρ with (_ | _) | ⟨x, p⟩ | _
    · rw [e] at z; exact z
    · rw [e] at z
      simp only
      change (b ρ).toP _ at z
      cases e2 : b ρ with
      | nx ρ2 => rw [e2] at z; exact hr ρ2 z
      | ct ρ2 => rw [e2] at z; exact hr ρ2 z
      | bk ρ2 => rw [e2] at z; exact z
      | rt d => rw [e2] at z; exact z
      | ex c p ρ2 => rw [e2] at z; exact z
      | bad => rw [e2] at z; exact z.elim
    · rw [e] at z; exact z
    · rw [e] at z; exact z.elim
/-- while: I n holds, n (under 100000) falls; a stop is W.bk -/
theorem while_ind {c : FT} {b : FS} {D : PD} {ρ : Env} (I : Nat → Env → Prop) (n : Nat) (hn : n < 100000) (h0 : I n ρ)
    (hs : ∀ n (W : PD) (_ : Hide (fun ρ => ∃ n', n' < n ∧ I n' ρ) D W) ρ, I n ρ → turnW W (c ρ) (b ρ) ρ) : (sWhile c b ρ).to D := ⟨whileF_ind I 100000 n ρ hn h0 fun n ρ h => (hs n _ (Hide.self _ _) ρ h).h⟩
/-! ### comprehensions -/
def sel {α : Type} (p : α → Bool) (f : α → DV × Md) : List α → List (DV × Md)
  | [] => []
  | x :: r => if p x then ((f x).1, demM (f x).1 (f x).2) :: sel p f r else sel p f r
theorem compF_map {α : Type} {t : TF} {tt : FT} {el : FE} {ρw : Env} (it : α → DV × Md) (p : α → Bool) (f : α → DV × Md) : ∀ (xs : List α),
    (∀ x ∈ xs, ∃ ρ1, t (it x) ρw = some ρ1 ∧ tt ρ1 = .ok (p x) ∧ (p x = true → el ρ1 = .ok (f x) ∧ demM (f x).1 (f x).2 ≠ .tmp)) → compF t tt el ρw (xs.map it) = .ok (sel p f xs)
  | [], _ => rfl
  | x :: r, h => by
    obtain ⟨ρ1, h1, h2, h3⟩ := h x List.mem_cons_self
    have ih := compF_map it p f r fun y hy => h y (List.mem_cons_of_mem _ hy)
    simp only [List.map_cons, compF, h1, h2, bindB]
    cases e : p x with
    | true =>
      obtain ⟨h4, h5⟩ := h3 e
      simp only [h4, bindB, ih, if_neg h5, sel, e, if_true]
    | false =>
      simp only [ih, sel, e]
      rfl
theorem sel_all {α : Type} (f : α → IV) : ∀ xs : List α, sel (fun _ => true) (fun x => (.i (f x), .own)) xs = elI (xs.map f)
  | [] => rfl
  | x :: r => by
    have ih := sel_all f r
    simp only [sel, if_true, List.map_cons, elI, ih, demM] at ih ⊢
theorem sel_filter {α : Type} (p : α → Bool) (f : α → IV) : ∀ xs : List α, sel p (fun x => (.i (f x), .own)) xs = elI ((xs.filter p).map f)
  | [] => rfl
  | x :: r => by
    have ih := sel_filter p f r
    cases e : p x <;> simp only [sel, e, List.filter_cons, ih] <;> rfl
theorem allI_elI : ∀ xs : List IV, allI (elI xs) = some xs
  | [] => rfl
  | x :: r => by
    have ih := allI_elI r
    unfold elI at ih ⊢
    rw [List.map_cons]
    unfold allI
    rw [ih] <;> rfl
theorem finI_elI (xs : List IV) : finI (elI xs) = .ok (.l xs, .own) := by
  unfold finI
  rw [allI_elI]
/-- [e for x in ..]: each item plain -/
theorem comp_map {α : Type} {src : FI} {vs : List Nat} {t : TF} {tt : FT} {el : FE} {ρ : Env} {m : Md} {xs : List α} {it : α → DV × Md} (f : α → IV)
    (hs : src ρ = .ok (xs.map it, m)) (hl : xs.length ≤ 16777216) (h : ∀ x ∈ xs, ∃ ρ1, t (it x) (wipeE ρ vs) = some ρ1 ∧ tt ρ1 = .ok true ∧ el ρ1 = .ok (.i (f x), .own)) :
    eComp src vs t tt el finI ρ = .ok (.l (xs.map f), .own) := by
  unfold eComp
  rw [hs]
  simp only [R_ok, List.length_map, if_pos hl]
  rw [compF_map it (fun _ => true) (fun x => (.i (f x), .own)) xs fun x hx => by
    obtain ⟨ρ1, h1, h2, h3⟩ := h x hx
    exact ⟨ρ1, h1, h2, fun _ => ⟨h3, by simp [demM]⟩⟩]
  rw [R_ok, sel_all, finI_elI]
theorem comp_filter {α : Type} {src : FI} {vs : List Nat} {t : TF} {tt : FT} {el : FE} {ρ : Env} {m : Md} {xs : List α} {it : α → DV × Md} (p : α → Bool) (f : α → IV)
    (hs : src ρ = .ok (xs.map it, m)) (hl : xs.length ≤ 16777216) (h : ∀ x ∈ xs, ∃ ρ1, t (it x) (wipeE ρ vs) = some ρ1 ∧ tt ρ1 = .ok (p x) ∧ (p x = true → el ρ1 = .ok (.i (f x), .own))) :
    eComp src vs t tt el finI ρ = .ok (.l ((xs.filter p).map f), .own) := by
  unfold eComp
  rw [hs]
  simp only [R_ok, List.length_map, if_pos hl]
  rw [compF_map it p (fun x => (.i (f x), .own)) xs fun x hx => by
    obtain ⟨ρ1, h1, h2, h3⟩ := h x hx
    exact ⟨ρ1, h1, h2, fun e => ⟨h3 e, by simp [demM]⟩⟩]
  rw [R_ok, sel_filter, finI_elI]
theorem comp_rg {src : FI} {vs : List Nat} {t : TF} {tt : FT} {el : FE} {ρ : Env} {m : Md} {lo : Int} {n : Nat} (f : Nat → IV)
    (hs : src ρ = .ok (rgL lo n, m)) (hl : n ≤ 16777216) (h : ∀ k, k < n → ∃ ρ1, t (.i (.int (lo + (k : Int))), .own) (wipeE ρ vs) = some ρ1 ∧ tt ρ1 = .ok true ∧ el ρ1 = .ok (.i (f k), .own)) :
    eComp src vs t tt el finI ρ = .ok (.l ((List.range n).map f), .own) :=
  comp_map (m := m) (it := fun k : Nat => (.i (.int (lo + (k : Int))), .own)) f hs (by simpa using hl) fun k hk => h k (List.mem_range.mp hk)
theorem comp_iL {src : FI} {vs : List Nat} {t : TF} {tt : FT} {el : FE} {ρ : Env} {m : Md} {xs : List Int} (f : Int → IV)
    (hs : src ρ = .ok (elI (iL xs), m)) (hl : xs.length ≤ 16777216) (h : ∀ x ∈ xs, ∃ ρ1, t (.i (.int x), .own) (wipeE ρ vs) = some ρ1 ∧ tt ρ1 = .ok true ∧ el ρ1 = .ok (.i (f x), .own)) :
    eComp src vs t tt el finI ρ = .ok (.l (xs.map f), .own) := by
  refine comp_map (m := m) (it := fun x : Int => (.i (.int x), .own)) f ?_ hl h
  rw [hs]
  unfold elI iL
  rw [List.map_map] <;> rfl
theorem map_int {α : Type} (f : α → Int) (xs : List α) : xs.map (fun x => IV.int (f x)) = iL (xs.map f) := by
  unfold iL
  rw [List.map_map] <;> rfl
/-! ### operators -/
@[simp] theorem opAdd_ml (a : List DV) (b : List IV) (m m' : Md) : opAdd (.m a, m) (.l b, m') = if a.length + b.length ≤ 16777216 then .ok (.m (a ++ b.map .i), if m = .bor then .bor else .own) else .bad := by
  show addM (.m a, m) (.l b, m') = _
  unfold addM mixL
  cases m <;> simp
@[simp] theorem opAdd_lm (a : List IV) (b : List DV) (m m' : Md) : opAdd (.l a, m) (.m b, m') = if a.length + b.length ≤ 16777216 then .ok (.m (a.map .i ++ b), if m' = .bor then .bor else .own) else .bad := by
  show addM (.l a, m) (.m b, m') = _
  unfold addM mixL
  cases m' <;> simp
@[simp] theorem opAdd_mm (a b : List DV) (m m' : Md) : opAdd (.m a, m) (.m b, m') = if a.length + b.length ≤ 16777216 then .ok (.m (a ++ b), if m = .bor ∨ m' = .bor then .bor else .own) else .bad := by
  show addM (.m a, m) (.m b, m') = _
  unfold addM mixL
  cases m <;> cases m' <;> simp
@[simp] theorem opAdd_int (a b : Int) (m m' : Md) : opAdd (.i (.int a), m) (.i (.int b), m') = .ok (.i (.int (a + b)), .own) := rfl
@[simp] theorem opAdd_tup (a b : List IV) (m m' : Md) : opAdd (.i (.tup a), m) (.i (.tup b), m') = if a.length + b.length ≤ 16777216 then .ok (.i (.tup (a ++ b)), .own) else .bad := rfl
@[simp] theorem opAdd_lst (a b : List IV) (m m' : Md) : opAdd (.l a, m) (.l b, m') = if a.length + b.length ≤ 16777216 then .ok (.l (a ++ b), .own) else .bad := rfl
@[simp] theorem opAdd_str (a b : Str) (m m' : Md) : opAdd (.i (.str a), m) (.i (.str b), m') = if a.length + b.length ≤ 16777216 then .ok (.i (.str (a ++ b)), .own) else .bad := rfl
@[simp] theorem opIAdd_int (a b : Int) (m m' : Md) : opIAdd (.i (.int a), m) (.i (.int b), m') = .ok (.i (.int (a + b)), .own) := rfl
@[simp] theorem opSub_int (a b : Int) (m m' : Md) : opSub (.i (.int a), m) (.i (.int b), m') = .ok (.i (.int (a - b)), .own) := rfl
@[simp] theorem opMul_int (a b : Int) (m m' : Md) : opMul (.i (.int a), m) (.i (.int b), m') = if a.natAbs < 2 ^ 64 ∨ b.natAbs < 2 ^ 64 then .ok (.i (.int (a * b)), .own) else .bad := rfl
@[simp] theorem opMod_int (a b : Int) (m m' : Md) : opMod (.i (.int a), m) (.i (.int b), m') = if 0 < b then .ok (.i (.int (a % b)), .own) else .bad := rfl
@[simp] theorem opDiv_int (a b : Int) (m m' : Md) : opDiv (.i (.int a), m) (.i (.int b), m') = if 0 < b ∧ b.natAbs < 1073741824 then .ok (.i (.int (a / b)), .own) else .bad := rfl
@[simp] theorem opPow_int (a b : Int) (m m' : Md) : opPow (.i (.int a), m) (.i (.int b), m') = if 0 ≤ b ∧ b.natAbs ≤ 1000000 ∧ a.natAbs < 2 ^ 64 then .ok (.i (.int (a ^ b.toNat)), .own) else .bad := rfl
@[simp] theorem opXor_int (a b : Int) (m m' : Md) : opXor (.i (.int a), m) (.i (.int b), m') = .ok (.i (.int (Builtin.bitXor a b)), .own) := rfl
@[simp] theorem opNeg_int (a : Int) (m : Md) : opNeg (.i (.int a), m) = .ok (.i (.int (-a)), .own) := rfl
@[simp] theorem opAbs_int (a : Int) (m : Md) : opAbs (.i (.int a), m) = .ok (.i (.int (if a < 0 then -a else a)), .own) := rfl
@[simp] theorem opInt_int (a : Int) (m : Md) : opInt (.i (.int a), m) = .ok (.i (.int a), .own) := rfl
@[simp] theorem opLen_l (x : List IV) (m : Md) : opLen (.l x, m) = .ok (.i (.int x.length), .own) := rfl
@[simp] theorem opLen_m (x : List DV) (m : Md) : opLen (.m x, m) = .ok (.i (.int x.length), .own) := rfl
@[simp] theorem opLen_f (x : List IV) (m : Md) : opLen (.f x, m) = .ok (.i (.int x.length), .own) := rfl
@[simp] theorem opLen_t (x : List IV) (m : Md) : opLen (.i (.tup x), m) = .ok (.i (.int x.length), .own) := rfl
@[simp] theorem opMin2_int (a b : Int) (m m' : Md) : opMin2 (.i (.int a), m) (.i (.int b), m') = .ok (.i (.int (min a b)), .own) := by
  unfold opMin2
  simp only [ok1]
  rw [show (if b < a then b else a) = min a b by rw [Int.min_def]; split <;> split <;> omega]
@[simp] theorem opMax2_int (a b : Int) (m m' : Md) : opMax2 (.i (.int a), m) (.i (.int b), m') = .ok (.i (.int (max a b)), .own) := by
  unfold opMax2
  simp only [ok1]
  rw [show (if b > a then b else a) = max a b by rw [Int.max_def]; split <;> split <;> omega]
@[simp] theorem opTuple_l (x : List IV) (m : Md) : opTuple (.l x, m) = .ok (.i (.tup x), .own) := rfl
@[simp] theorem opTuple_t (x : List IV) (m : Md) : opTuple (.i (.tup x), m) = .ok (.i (.tup x), .own) := rfl
@[simp] theorem opList_l (x : List IV) (m : Md) : opList (.l x, m) = .ok (.l x, .own) := rfl
@[simp] theorem opList_t (x : List IV) (m : Md) : opList (.i (.tup x), m) = .ok (.l x, .own) := rfl
@[simp] theorem opRev_l (x : List IV) (m : Md) : opRev (.l x, m) = .ok (.l x.reverse, .own) := rfl
@[simp] theorem opRev_t (x : List IV) (m : Md) : opRev (.i (.tup x), m) = .ok (.i (.tup x.reverse), .own) := rfl
@[simp] theorem opSl_l (lo hi : Option Int) (x : List IV) (m : Md) : opSl lo hi (.l x, m) = .ok (.l (cutL x lo hi), .own) := rfl
@[simp] theorem opSl_f (lo hi : Option Int) (x : List IV) (m : Md) : opSl lo hi (.f x, m) = .ok (.l (cutL x lo hi), .own) := rfl
@[simp] theorem opSl_t (lo hi : Option Int) (x : List IV) (m : Md) : opSl lo hi (.i (.tup x), m) = .ok (.i (.tup (cutL x lo hi)), .own) := rfl
@[simp] theorem opIsi_ap (u : String) (x : DV × Md) : opIsi u x = .ok (.i (.bl (isTy (tyN x.1) u)), .own) := rfl
@[simp] theorem cInt_int (p : Int → Int → Bool) (a b : Int) (m m' : Md) : cInt p (.i (.int a), m) (.i (.int b), m') = .ok (.i (.bl (p a b)), .own) := rfl
@[simp] theorem cIsN_ap (x : DV × Md) (m : Md) : cIsN x (.i .non, m) = .ok (.i (.bl (isN x.1)), .own) := rfl
@[simp] theorem cNotN_ap (x : DV × Md) (m : Md) : cNotN x (.i .non, m) = .ok (.i (.bl (!isN x.1)), .own) := rfl
@[simp] theorem itemsOf_l (x : List IV) (m : Md) : itemsOf (.l x, m) = .ok (elI x, m) := rfl
@[simp] theorem itemsOf_f (x : List IV) (m : Md) : itemsOf (.f x, m) = .ok (elI x, .own) := rfl
@[simp] theorem itemsOf_t (x : List IV) (m : Md) : itemsOf (.i (.tup x), m) = .ok (elI x, .own) := rfl
@[simp] theorem iRg1_ap (f : FE) (ρ : Env) : iRg1 f ρ = (f ρ).bind fun x => match x.1 with
  | .i (.int j) => if smI j then .ok (rgL 0 j.toNat, .own) else .bad
  | _ => .bad := rfl
@[simp] theorem iRg2_ap (f g : FE) (ρ : Env) : iRg2 f g ρ = (f ρ).bind fun x => (g ρ).bind fun y => match x.1, y.1 with
  | .i (.int i), .i (.int j) => if smI i && smI j then .ok (rgL i (j - i).toNat, .own) else .bad
  | _, _ => .bad := rfl
theorem smI_ok {i : Int} (h1 : -(2 ^ 62) < i) (h2 : i < 2 ^ 62) : smI i = true := decide_eq_true (by omega)
@[simp] theorem eq_int (a b : Int) (m m' : Md) : cEq (.i (.int a), m) (.i (.int b), m') = .ok (.i (.bl (decide (a = b))), .own) := rfl
@[simp] theorem ne_int (a b : Int) (m m' : Md) : cNe (.i (.int a), m) (.i (.int b), m') = .ok (.i (.bl (!decide (a = b))), .own) := rfl
@[simp] theorem eq_bl (a b : Bool) (m m' : Md) : cEq (.i (.bl a), m) (.i (.bl b), m') = .ok (.i (.bl (a == b)), .own) := by cases a <;> cases b <;> rfl
@[simp] theorem ne_bl (a b : Bool) (m m' : Md) : cNe (.i (.bl a), m) (.i (.bl b), m') = .ok (.i (.bl (a != b)), .own) := by cases a <;> cases b <;> rfl
/-! ### integers in a row -/
@[simp] theorem iL_len (xs : List Int) : (iL xs).length = xs.length := List.length_map _
@[simp] theorem iL_app (a b : List Int) : iL a ++ iL b = iL (a ++ b) := (List.map_append).symm
@[simp] theorem iL_snoc (a : List Int) (b : Int) : iL a ++ [.int b] = iL (a ++ [b]) := iL_app a [b]
@[simp] theorem iL_rev (a : List Int) : (iL a).reverse = iL a.reverse := (List.map_reverse).symm
@[simp] theorem iL_cut (a : List Int) (lo hi : Option Int) : cutL (iL a) lo hi = iL (cutL a lo hi) := by
  unfold cutL iL
  rw [List.length_map, List.map_take, List.map_drop]
@[simp] theorem iL_take (a : List Int) (n : Nat) : (iL a).take n = iL (a.take n) := (List.map_take).symm
@[simp] theorem iL_drop (a : List Int) (n : Nat) : (iL a).drop n = iL (a.drop n) := (List.map_drop).symm
@[simp] theorem iL_rep (n : Nat) (a : Int) : List.replicate n (IV.int a) = iL (List.replicate n a) := (List.map_replicate).symm
theorem iL_nil : ([] : List IV) = iL [] := rfl
@[simp] theorem iL_one (a : Int) : [IV.int a] = iL [a] := rfl
@[simp] theorem iL_cons (a : Int) (r : List Int) : IV.int a :: iL r = iL (a :: r) := rfl
@[simp] theorem ints?_ints (a : List Int) : ints? (iL a) = some a := ints?_map a
theorem elI_iL (a : List Int) : elI (iL a) = a.map fun x => (.i (.int x), .own) := by
  unfold elI iL
  rw [List.map_map] <;> rfl
theorem atI_ok {α : Type} {xs : List α} {k : Int} (h0 : 0 ≤ k) (h1 : k < xs.length) : atI xs k = some (xs[k.toNat]'(by omega)) := by
  unfold atI ixN
  rw [if_pos h0, if_pos h1]
  exact List.getElem?_eq_getElem _
theorem atI_iL {xs : List Int} {k : Int} (h0 : 0 ≤ k) (h1 : k < xs.length) : atI (iL xs) k = some (.int (xs.getD k.toNat 0)) := by
  rw [atI_ok h0 (by rw [iL_len]; exact h1)]
  unfold iL
  rw [List.getElem_map, List.getD_eq_getElem?_getD, List.getElem?_eq_getElem (by omega)] <;> rfl
theorem atI_neg {α : Type} {xs : List α} {k : Int} (h0 : k < 0) (h1 : -(xs.length : Int) ≤ k) : atI xs k = some (xs[(k + xs.length).toNat]'(by omega)) := by
  unfold atI ixN
  rw [if_neg (by omega), if_pos h1]
  exact List.getElem?_eq_getElem _
theorem ix_tup {xs : List Int} {k : Int} {m m' : Md} (h0 : 0 ≤ k) (h1 : k < xs.length) : opIx (.i (.tup (iL xs)), m) (.i (.int k), m') = .ok (.i (.int (xs.getD k.toNat 0)), .own) := by
  unfold opIx
  simp only [atI_iL h0 h1]
theorem ix_l {xs : List Int} {k : Int} {m m' : Md} (h0 : 0 ≤ k) (h1 : k < xs.length) : opIx (.l (iL xs), m) (.i (.int k), m') = .ok (.i (.int (xs.getD k.toNat 0)), .own) := by
  unfold opIx
  simp only [atI_iL h0 h1]
theorem ix_t {xs : List IV} {k : Int} {m m' : Md} (h0 : 0 ≤ k) (h1 : k < xs.length) : opIx (.i (.tup xs), m) (.i (.int k), m') = .ok (.i (xs.getD k.toNat .non), .own) := by
  unfold opIx
  simp only [atI_ok h0 h1]
  rw [List.getD_eq_getElem?_getD, List.getElem?_eq_getElem (by omega)] <;> rfl
@[simp] theorem cut_nn {α : Type} (xs : List α) : cutL xs none none = xs := by
  unfold cutL
  simp [HT.sIx]
theorem cut_hi {α : Type} (xs : List α) {k : Int} (h : 0 ≤ k) : cutL xs none (some k) = xs.take k.toNat := by
  unfold cutL
  simp only [HT.sIx, if_neg (show ¬ k < 0 by omega), List.drop_zero, Nat.sub_zero]
  by_cases e : k.toNat ≤ xs.length
  · rw [Nat.min_eq_left e]
  · rw [Nat.min_eq_right (by omega), List.take_length, List.take_of_length_le (by omega)]
theorem cut_lo {α : Type} (xs : List α) {k : Int} (h : 0 ≤ k) : cutL xs (some k) none = xs.drop k.toNat := by
  unfold cutL
  simp only [HT.sIx, if_neg (show ¬ k < 0 by omega)]
  by_cases e : k.toNat ≤ xs.length
  · rw [Nat.min_eq_left e, List.take_of_length_le (by simp)]
  · rw [Nat.min_eq_right (by omega), List.drop_eq_nil_of_le (by omega), List.drop_eq_nil_of_le (by omega)] <;> simp
theorem cut_lh {α : Type} (xs : List α) {i j : Int} (hi : 0 ≤ i) (hj : 0 ≤ j) : cutL xs (some i) (some j) = (xs.take j.toNat).drop i.toNat := by
  unfold cutL
  simp only [HT.sIx, if_neg (show ¬ i < 0 by omega), if_neg (show ¬ j < 0 by omega)]
  rw [List.drop_take]
  by_cases e : i.toNat ≤ xs.length
  · rw [Nat.min_eq_left e]
    by_cases e2 : j.toNat ≤ xs.length
    · rw [Nat.min_eq_left e2]
    · rw [Nat.min_eq_right (by omega), List.take_of_length_le (by simp), List.take_of_length_le (by simp; omega)]
  · rw [Nat.min_eq_right (by omega : xs.length ≤ i.toNat), List.drop_eq_nil_of_le (by omega), List.drop_eq_nil_of_le (by omega)] <;> simp
/-! shapes, == of tuples of integers -/
theorem canLayAll_iff (ds : List PyData) : PyData.canLayAll0 ds = ds.all PyData.canLay0 := by
  induction ds with
  | nil => rfl
  | cons x r ih => unfold PyData.canLayAll0; rw [ih]; rfl
theorem depthAll_le {n : Nat} : ∀ {ds : List PyData}, (∀ d ∈ ds, d.depth ≤ n) → PyData.depthAll ds ≤ n
  | [], _ => Nat.zero_le _
  | x :: r, h => by
    unfold PyData.depthAll
    exact Nat.max_le.mpr ⟨h x List.mem_cons_self, depthAll_le fun d hd => h d (List.mem_cons_of_mem _ hd)⟩
/-- may be compared; how deep -/
def Fit (n : Nat) (x : IV) : Prop := x.py.canLay0 = true ∧ x.py.depth ≤ n
theorem Fit.mono {n k : Nat} {x : IV} (h : Fit n x) (hk : n ≤ k) : Fit k x := ⟨h.1, Nat.le_trans h.2 hk⟩
theorem fit_int {n : Nat} (i : Int) : Fit n (.int i) := ⟨rfl, Nat.zero_le _⟩
theorem fit_bl {n : Nat} (i : Bool) : Fit n (.bl i) := ⟨rfl, Nat.zero_le _⟩
theorem fit_non {n : Nat} : Fit n .non := ⟨rfl, Nat.zero_le _⟩
theorem fit_all {n : Nat} {xs : List IV} (h : ∀ x ∈ xs, Fit n x) : PyData.canLayAll0 (IV.pys xs) = true ∧ PyData.depthAll (IV.pys xs) ≤ n := by
  rw [pys_map, canLayAll_iff]
  refine ⟨List.all_eq_true.mpr fun d hd => ?_, depthAll_le fun d hd => ?_⟩
  · obtain ⟨x, hx, rfl⟩ := List.mem_map.mp hd; exact (h x hx).1
  · obtain ⟨x, hx, rfl⟩ := List.mem_map.mp hd; exact (h x hx).2
theorem fit_tup {n : Nat} {xs : List IV} (h : ∀ x ∈ xs, Fit n x) : Fit (n + 1) (.tup xs) := by
  obtain ⟨h1, h2⟩ := fit_all h
  refine ⟨?_, ?_⟩
  · show PyData.canLay0 (.tuple (IV.pys xs)) = true
    unfold PyData.canLay0
    exact h1
  · show PyData.depth (.tuple (IV.pys xs)) ≤ n + 1
    unfold PyData.depth
    omega
theorem fit_iL (xs : List Int) : Fit 1 (.tup (iL xs)) := fit_tup (n := 0) fun x hx => by
  obtain ⟨i, _, rfl⟩ := List.mem_map.mp hx
  exact fit_int i
theorem shp_of {n : Nat} {x : IV} (h : Fit n x) (hn : n ≤ 64 := by decide) : shp (.i x) = true := by
  show (x.py.canLay0 && decide (x.py.depth ≤ 64)) = true
  rw [h.1, decide_eq_true (Nat.le_trans h.2 hn)] <;> rfl
theorem shp_l {n : Nat} {xs : List IV} (h : ∀ x ∈ xs, Fit n x) (hn : n ≤ 63 := by decide) : shp (.l xs) = true := by
  obtain ⟨h1, h2⟩ := fit_all h
  show (PyData.canLay0 (.list (IV.pys xs)) && decide (PyData.depth (.list (IV.pys xs)) ≤ 64)) = true
  have e1 : PyData.canLay0 (.list (IV.pys xs)) = true := by unfold PyData.canLay0; exact h1
  have e2 : PyData.depth (.list (IV.pys xs)) ≤ 64 := by unfold PyData.depth; omega
  rw [e1, decide_eq_true e2] <;> rfl
theorem eqvAll_iL : ∀ a b : List Int, PyData.eqvAll (IV.pys (iL a)) (IV.pys (iL b)) = decide (a = b)
  | [], [] => rfl
  | [], _ :: _ => rfl
  | _ :: _, [] => rfl
  | x :: a, y :: b => by
    have ih := eqvAll_iL a b
    show (PyData.eqv (.int x) (.int y) && PyData.eqvAll (IV.pys (iL a)) (IV.pys (iL b))) = _
    rw [ih]
    show ((x == y) && decide (a = b)) = _
    by_cases h1 : x = y <;> by_cases h2 : a = b <;> simp [h1, h2]
@[simp] theorem eq_tup (a b : List Int) (m m' : Md) : cEq (.i (.tup (iL a)), m) (.i (.tup (iL b)), m') = .ok (.i (.bl (decide (a = b))), .own) := by
  unfold cEq
  rw [show shp (.i (.tup (iL a))) = true from shp_of (fit_iL a), show shp (.i (.tup (iL b))) = true from shp_of (fit_iL b)]
  show ok1 (.bl (PyData.eqvAll (IV.pys (iL a)) (IV.pys (iL b)))) = _
  rw [eqvAll_iL]
@[simp] theorem ne_tup (a b : List Int) (m m' : Md) : cNe (.i (.tup (iL a)), m) (.i (.tup (iL b)), m') = .ok (.i (.bl (!decide (a = b))), .own) := by
  unfold cNe
  rw [show shp (.i (.tup (iL a))) = true from shp_of (fit_iL a), show shp (.i (.tup (iL b))) = true from shp_of (fit_iL b)]
  show ok1 (.bl (!PyData.eqvAll (IV.pys (iL a)) (IV.pys (iL b)))) = _
  rw [eqvAll_iL]
theorem opAll_map {α : Type} (p : α → Bool) (xs : List α) (m : Md) : opAll (.l (xs.map fun x => .bl (p x)), m) = .ok (.i (.bl (xs.all p)), .own) := by
  have e : (xs.map fun x => IV.bl (p x)) = (xs.map p).map .bl := by rw [List.map_map] <;> rfl
  unfold opAll opOver items?
  simp only [e, bls?_map, List.all_map]
  rfl
theorem opAny_map {α : Type} (p : α → Bool) (xs : List α) (m : Md) : opAny (.l (xs.map fun x => .bl (p x)), m) = .ok (.i (.bl (xs.any p)), .own) := by
  have e : (xs.map fun x => IV.bl (p x)) = (xs.map p).map .bl := by rw [List.map_map] <;> rfl
  unfold opAny opOver items?
  simp only [e, bls?_map, List.any_map]
  rfl
@[simp] theorem opSum_iL (xs : List Int) (m : Md) : opSum (.l (iL xs), m) = .ok (.i (.int xs.sum), .own) := by
  unfold opSum opOver items?
  simp only [ints?_ints]
/-! ### rows: tuples of tuples of integers; displays -/
def rL (xs : List (List Int)) : List IV := xs.map fun r => .tup (iL r)
@[simp] theorem rL_len (xs : List (List Int)) : (rL xs).length = xs.length := List.length_map _
theorem map_row {α : Type} (f : α → List Int) (xs : List α) : xs.map (fun x => IV.tup (iL (f x))) = rL (xs.map f) := by
  unfold rL
  rw [List.map_map] <;> rfl
@[simp] theorem rL_app (a b : List (List Int)) : rL a ++ rL b = rL (a ++ b) := (List.map_append).symm
@[simp] theorem rL_snoc (a : List (List Int)) (b : List Int) : rL a ++ [.tup (iL b)] = rL (a ++ [b]) := rL_app a [b]
@[simp] theorem rL_rev (a : List (List Int)) : (rL a).reverse = rL a.reverse := (List.map_reverse).symm
@[simp] theorem rL_cut (a : List (List Int)) (lo hi : Option Int) : cutL (rL a) lo hi = rL (cutL a lo hi) := by
  unfold cutL rL
  rw [List.length_map, List.map_take, List.map_drop]
@[simp] theorem rL_take (a : List (List Int)) (n : Nat) : (rL a).take n = rL (a.take n) := (List.map_take).symm
@[simp] theorem rL_drop (a : List (List Int)) (n : Nat) : (rL a).drop n = rL (a.drop n) := (List.map_drop).symm
theorem for_rL {t : TF} {b : FS} {D : PD} {xs : List (List Int)} {ρ : Env} (I : Nat → Env → Prop) (h0 : I 0 ρ)
    (hs : ∀ (k : Nat) (hk : k < xs.length) (W : PD) (_ : Hide (I (k + 1)) D W) ρ, I k ρ → (goOn (t (.i (.tup (iL xs[k])), .own) ρ) b).to W) (he : ∀ ρ, I xs.length ρ → D.nx ρ) : (loopF t b (elI (rL xs)) ρ).to D := by
  have e : elI (rL xs) = xs.map fun x => (.i (.tup (iL x)), .own) := by
    unfold elI rL
    rw [List.map_map] <;> rfl
  rw [e]
  exact for_map xs _ ρ I h0 hs he
@[simp] theorem allI_nil : allI [] = some [] := rfl
@[simp] theorem allI_i (x : IV) (m : Md) (r : List (DV × Md)) : allI ((.i x, m) :: r) = (allI r).map (x :: ·) := rfl
@[simp] theorem dLst_ap (xs : List (DV × Md)) : dLst xs = match allI xs with
  | some ys => if ys.length ≤ 16777216 then .ok (.l ys, .own) else .bad
  | none => if xs.length ≤ 16777216 then (match mdL xs with
    | .tmp => .bad
    | m => .ok (.m (xs.map (·.1)), m)) else .bad := rfl
@[simp] theorem dTup_ap (xs : List (DV × Md)) : dTup xs = match allI xs with
  | some ys => if ys.length ≤ 16777216 then ok1 (.tup ys) else .bad
  | none => if xs.length ≤ 16777216 then (match mdL xs with
    | .tmp => .bad
    | .own => .ok (.t (xs.map (·.1)), .loc)
    | m => .ok (.t (xs.map (·.1)), m)) else .bad := rfl
@[simp] theorem ix_0 (x : IV) (r : List IV) (m m' : Md) : opIx (.i (.tup (x :: r)), m) (.i (.int 0), m') = .ok (.i x, .own) := by
  rw [ix_t (by decide) (by simp)] <;> rfl
@[simp] theorem ix_1 (x y : IV) (r : List IV) (m m' : Md) : opIx (.i (.tup (x :: y :: r)), m) (.i (.int 1), m') = .ok (.i y, .own) := by
  rw [ix_t (by decide) (by simp; omega)] <;> rfl
@[simp] theorem ix_2 (x y z : IV) (r : List IV) (m m' : Md) : opIx (.i (.tup (x :: y :: z :: r)), m) (.i (.int 2), m') = .ok (.i z, .own) := by
  rw [ix_t (by decide) (by simp; omega)] <;> rfl
theorem sort2 (x y : IV) : sortI [x, y] = if leI x y then [x, y] else [y, x] := by
  unfold sortI
  simp [List.mergeSort, List.MergeSort.Internal.splitInTwo, List.merge]
theorem inD_rows (a : List Int) (rows : List (List Int)) : inD (.i (.tup (iL a))) (IV.pys (rL rows)) = decide (a ∈ rows) := by
  unfold inD
  rw [pys_map]
  induction rows with
  | nil => rfl
  | cons r rows ih =>
    unfold rL at ih ⊢
    rw [List.map_cons, List.map_cons, List.any_cons, ih]
    show (PyData.eqvAll (IV.pys (iL r)) (IV.pys (iL a)) || _) = _
    rw [eqvAll_iL]
    by_cases h1 : r = a <;> by_cases h2 : a ∈ rows <;> simp [h1, h2, eq_comm]
    · intro h; exact absurd h.symm h1
theorem in_rows (a : List Int) (rows : List (List Int)) (m m' : Md) : cIn false (.i (.tup (iL a)), m) (.l (rL rows), m') = .ok (.i (.bl (decide (a ∈ rows))), .own) := by
  have e1 : shp (.i (.tup (iL a))) = true := shp_of (fit_iL a)
  have e2 : shp (.l (rL rows)) = true := shp_l (n := 1) fun x hx => by
    obtain ⟨r, _, rfl⟩ := List.mem_map.mp hx
    exact fit_iL r
  unfold cIn
  simp only [e1, e2, inD_rows]
  rfl
end L2.Pv

/-! the draws that every law makes of its script -/
namespace L2.Pv
open PySem PySem.Spec PyProof.Rows L2
def B_dr_1 : FS := (sIf (tB (eBin (cInt fun i j => decide (i < j)) (eUn opLen (eVar 2)) (eVar 1)))
  (sSeq (sAsg (eBin opMod (eUn opInt (eBin opAdd (eBin opAdd (eBin opMul (eVar 3) (eC (.int 69621))) (eVar 6)) (eC (.int 1)))) (eC (.int 2147483647))) (tName 3))
  (sApp 2 (eBin opMod (eBin opDiv (eUn opInt (eVar 3)) (eC (.int 7))) (eC (.int 65521)))))
  sNil)
def B_dr_2 : FS := (sIf (tB (eBin (cInt fun i j => decide (j < i)) (eVar 5) (eC (.int 0))))
  (sSeq (sApp 2 (eBin opMod (eUn opInt (eVar 5)) (eC (.int 1009))))
  (sAsg (eBin opDiv (eVar 5) (eC (.int 1009))) (tName 5)))
  sNil)
def B_dr_3 : FS := (sSeq (sAsg (eUn opAbs (eVar 4)) (tName 5))
  (sSeq (sAsg (eBin opMod (eUn opInt (eBin opAdd (eBin opAdd (eBin opMul (eVar 3) (eC (.int 48271))) (eVar 5)) (eC (.int 11)))) (eC (.int 2147483647))) (tName 3))
  (sIf (tB (eBin (cInt fun i j => decide (j ≤ i)) (eVar 5) (eBin opPow (eC (.int 10)) (eC (.int 18)))))
  (sFor [] (iRg1 (eC (.int 60))) (tName 6)
  B_dr_2)
  (sApp 2 (eBin opMod (eBin opDiv (eUn opInt (eBin opAdd (eBin opMul (eVar 3) (eC (.int 16807))) (eC (.int 5)))) (eC (.int 3))) (eC (.int 65521)))))))
def G_dr : FS := (sSeq (sAsg (eLst aNil) (tName 2))
  (sSeq (sAsg (eC (.int 7)) (tName 3))
  (sSeq (sFor [] (iAny (eSlice (eVar 0) oNone (oSome (eC (.int 63))))) (tName 4)
  B_dr_3)
  (sSeq (sFor [] (iRg1 (eVar 1)) (tName 6)
  B_dr_1)
  (sRet (eSlice (eVar 2) oNone (oSome (eVar 1))))))))
def F_dr : FF := runF 7 G_dr
def Dr (ds : List Int) : Prop := ∀ d ∈ ds, 0 ≤ d ∧ d < 65521
theorem Dr.snoc {ds : List Int} {d : Int} (h : Dr ds) (h0 : 0 ≤ d) (h1 : d < 65521) : Dr (ds ++ [d]) := fun x hx => by
  rcases List.mem_append.mp hx with q | q
  · exact h x q
  · rw [List.mem_singleton.mp q]; exact ⟨h0, h1⟩
abbrev oi (i : Int) : Option (DV × Md) := some (.i (.int i), .own)
abbrev ol (ds : List Int) : Option (DV × Md) := some (.l (iL ds), .own)
theorem draws_ok (ns : List Int) (hns : ns.length ≤ 63) (many : Int) (hm0 : 0 ≤ many) (hm1 : many ≤ 1000000) :
    ∃ ds : List Int, ds.length = many.toNat ∧ Dr ds ∧ F_dr [.f (iL ns), .i (.int many)] = .ok (.l (iL ds)) := by
  suffices h : ∃ d, F_dr [.f (iL ns), .i (.int many)] = .ok d ∧ ∃ ds : List Int, ds.length = many.toNat ∧ Dr ds ∧ d = .l (iL ds) by
    obtain ⟨d, h1, ds, h2, h3, rfl⟩ := h
    exact ⟨ds, h2, h3, h1⟩
  refine run_ok _ fun Z hZ => ?_
  have e0 : startE 7 [.f (iL ns), .i (.int many)] = [some (.f (iL ns), .bor), oi many, none, none, none, none, none] := rfl
  rw [e0]
  simp [G_dr, dLst, allI, cut_hi (k := 63) _ (by decide)]
  refine for_iL (fun i ρ => ∃ ds seed c nu k, Dr ds ∧ ds.length ≤ i * 60 ∧ ρ = [some (.f (iL ns), .bor), oi many, ol ds, oi seed, c, nu, k]) ⟨[], 7, none, none, none, fun d h => (nomatch h), by simp, rfl⟩ ?_ ?_
  · rintro i hi W hW ρ ⟨ds, seed, c, nu, k, h1, h2, rfl⟩
    have hi' : i < 63 := by rw [List.length_take] at hi; omega
    generalize (List.take 63 ns)[i] = cell
    simp [B_dr_3]
    generalize (if cell < 0 then -cell else cell) = nn
    by_cases hb : 1000000000000000000 ≤ nn
    · simp [hb, smI_ok]
      refine for_rg (fun j ρ => ∃ ds seed c nu k, Dr ds ∧ ds.length ≤ i * 60 + j ∧ ρ = [some (.f (iL ns), .bor), oi many, ol ds, oi seed, c, oi nu, k]) ⟨ds, _, _, _, _, h1, by omega, rfl⟩ ?_ ?_
      · rintro j hj W hW ρ ⟨ds, seed, c, nu, k, h1, h2, rfl⟩
        by_cases hz : 0 < nu
        · have h1009 : nu % 1009 < 1009 := Int.emod_lt_of_pos _ (by decide)
          have h1010 : 0 ≤ nu % 1009 := Int.emod_nonneg _ (by decide)
          simp [B_dr_2, hz, show ds.length < 16777216 by omega]
          exact hW.nx _ ⟨_, _, _, _, _, h1.snoc h1010 (by omega), by simp; omega, rfl⟩
        · simp [B_dr_2, hz]
          exact hW.nx _ ⟨ds, _, _, _, _, h1, by omega, rfl⟩
      · rintro ρ ⟨ds, seed, c, nu, k, h1, h2, rfl⟩
        exact hW.nx _ ⟨ds, _, _, _, _, h1, by omega, rfl⟩
    · simp [hb, show ds.length < 16777216 by omega]
      exact hW.nx _ ⟨_, _, _, _, _, h1.snoc (Int.emod_nonneg _ (by decide)) (Int.emod_lt_of_pos _ (by decide)), by simp; omega, rfl⟩
  · rintro ρ ⟨ds, seed, c, nu, k, h1, h2, rfl⟩
    have h2' : ds.length ≤ 63 * 60 := by
      rw [List.length_take] at h2
      have : min 63 ns.length ≤ 63 := by omega
      exact Nat.le_trans h2 (Nat.mul_le_mul_right _ this)
    simp [smI_ok (i := many) (by omega) (by omega)]
    refine for_rg (fun j ρ => ∃ ds seed c nu k, Dr ds ∧ ds.length ≤ 3780 + j ∧ (j ≤ ds.length ∨ many.toNat ≤ ds.length) ∧ ρ = [some (.f (iL ns), .bor), oi many, ol ds, oi seed, c, nu, k]) ⟨ds, _, _, _, _, h1, by omega, by simp, rfl⟩ ?_ ?_
    · rintro j hj W hW ρ ⟨ds, seed, c, nu, k, h1, h2, h3, rfl⟩
      by_cases hz : (ds.length : Int) < many
      · simp [B_dr_1, hz, show ds.length < 16777216 by omega]
        exact hW.nx _ ⟨_, _, _, _, _, h1.snoc (Int.emod_nonneg _ (by decide)) (Int.emod_lt_of_pos _ (by decide)), by simp; omega, by simp; omega, rfl⟩
      · simp [B_dr_1, hz]
        exact hW.nx _ ⟨ds, _, _, _, _, h1, by omega, by omega, rfl⟩
    · rintro ρ ⟨ds, seed, c, nu, k, h1, h2, h3, rfl⟩
      simp [cut_hi _ hm0]
      exact hZ _ ⟨ds.take many.toNat, by simp; omega, fun d hd => h1 d (List.mem_of_mem_take hd), rfl⟩
end L2.Pv

/-! more built-ins: len(set(..)) -/
namespace L2.Pv
open PySem PySem.Spec PyProof.Rows L2
def lenSetI (ns : List Int) : R (DV × Md) := if ns.Nodup ∧ ns.length ≤ 4000 then ok1 (.int ns.length) else .bad
def eLenSet (f : FE) : FE := fun ρ => (f ρ).bind (opOver ints? lenSetI)
theorem ints?_inv : ∀ {xs : List IV} {ns : List Int}, ints? xs = some ns → xs = ns.map .int
  | [], ns, h => by cases h; rfl
  | .int i :: r, ns, h => by
    unfold ints? at h
    obtain ⟨ms, h1, h2⟩ := Option.map_eq_some_iff.mp h
    rw [← h2, List.map_cons, ← ints?_inv h1]
  | .non :: r, ns, h => by cases h
  | .bl _ :: r, ns, h => by cases h
  | .str _ :: r, ns, h => by cases h
  | .tup _ :: r, ns, h => by cases h
theorem rps_ints {K : PySem.W.Frag} {H : Hp} : ∀ {vs : List V} {ns : List Int}, RpIs K H vs (ns.map .int) → vs = ns.map V.int
  | _, [], h => by cases h; rfl
  | _, n :: ns, h => by
    cases h with
    | cons a b => cases a; rw [rps_ints b]; rfl
section
variable {X : Cx} {a : Expr} {f : FE} {p p2 q pos : Pos}
theorem ev_lenSet (hc : X.calm = true) (hg : Gl X "len") (hm : X.mg "len" = none) (hg2 : Gl X "set") (hm2 : X.mg "set" = none) (ha : PEv X a f)
    (na : starEach [a] X.env = (false, eval a X.env) :: starEach [] X.env := by rfl) : PEv X (.Call (.Name "len" p) [.Call (.Name "set" p2) [a] [] q] [] pos) (eLenSet f) := fun W tk =>
  PE.imp (RZ.pe_lenSetI hg hm hg2 hm2 (ha W tk) hc na) fun σ H Q h => by
    obtain ⟨H0, Pz, T, ρ, Fs, E, h⟩ := h
    show tev X.K X.mg W f σ H _
    unfold eLenSet at h
    cases e1 : f ρ with
    | bad => simp only [e1, R.bind] at h
    | ex c p => simp only [e1, R.bind] at h; exact tev_ex E e1 h
    | ok x =>
      simp only [e1, R.bind] at h
      refine tev_ok E e1 fun v H1 F s1 E1 r1 o1 => ?_
      cases e2 : opOver ints? lenSetI x with
      | bad => rw [e2] at h; exact h.elim
      | ex c p =>
        exfalso
        obtain ⟨x, m⟩ := x
        unfold opOver at e2
        split at e2
        · split at e2
          · unfold lenSetI at e2
            split at e2 <;> cases e2
          · cases e2
        · cases e2
      | ok z =>
        rw [e2] at h
        obtain ⟨xs, ns, h1, h2, h3⟩ := opOver_ok e2
        obtain ⟨l, vs, rfl, s, t⟩ := items?_rp r1 h1
        unfold lenSetI at h3
        split at h3
        · rename_i hn
          cases h3
          rw [ints?_inv h2] at t
          have ev := rps_ints t
          subst ev
          exact ⟨l, ns, rfl, s, hn.1, hn.2, h _ H1 [] s1 (.i (.int _)) .nil⟩
        · cases h3
end
@[simp] theorem eLenSet_ap (f : FE) (ρ : Env) : eLenSet f ρ = (f ρ).bind (opOver ints? lenSetI) := rfl
theorem lenSet_ok {ns : List Int} {m : Md} (h : ns.Nodup) (hl : ns.length ≤ 4000) : opOver ints? lenSetI (.l (iL ns), m) = .ok (.i (.int ns.length), .own) := by
  unfold opOver items? lenSetI
  simp only [ints?_ints, if_pos (And.intro h hl)]
end L2.Pv

/-! enumerate of lists and tuples, zip -/
namespace PySem
open PySem.W
/-- enumerate(v) makes its two cells -/
theorem pvq_meets {v : Value} {o : Obj} {Hh : Heap → Prop} (B : Begins v o Hh) :
    Meets (Builtin.«enumerate.__new__» ⟨[.type "enumerate", v], []⟩) (fun _ R s => Hh s.heap ∧ R (.ok (.ret (.ref (s.heap.push o).objs.size)))
      { s with heap := (s.heap.push o).push { cls := .type "enumerate", data := .fields #[.none, .bool false, .ref s.heap.objs.size, rawInt 0, .none, .none] } }) := by
  refine .of_wp fun prog w A R s h => ?_
  obtain ⟨hp, g, d, tk, os⟩ := s
  obtain ⟨h1, h⟩ := h
  have hsub := sub_enumerate
  have q1 : ∀ {A' : Around} {E : Value → Shared → Prop} {Q : Value → Shared → Prop}, Q (.ref hp.objs.size) ⟨hp.push o, g, d, tk, os⟩ → wpAny (model prog w) A' (pyIter v) Q E ⟨hp, g, d, tk, os⟩ := fun q => B.iter prog w _ _ ⟨hp, g, d, tk, os⟩ _ h1 q
  wp_walk using q1
  refine wpAny_stack_any fun st => wpAny_pure ?_
  split
  · rename_i c _ _ _ _ _
    cases (c == Value.type "enumerate") <;> (wp_walk using q1; exact ⟨_, rfl, h⟩)
  · wp_walk using q1; exact ⟨_, rfl, h⟩
section
variable {prog : Program} {w : World} {A : Around} {E : Value → Shared → Prop} {s : Shared}
theorem pvq_enum {v : Value} {o : Obj} {Hh : Heap → Prop} {Q : Value → Shared → Prop} (B : Begins v o Hh) (h1 : Hh s.heap)
    (h : ∀ h', IsEnum h' (s.heap.objs.size + 1) s.heap.objs.size 0 .none → h'.get? s.heap.objs.size = some o → h'.objs.size = s.heap.objs.size + 2 → (∀ b o, s.heap.get? b = some o → h'.get? b = some o) →
      Q (.ref (s.heap.objs.size + 1)) { s with heap := h' }) : wpAny (model prog w) A (call (.type "enumerate") [v]) Q E s := by
  refine callType_new F.called_enumerate (by decide) (F.typeCall_enumerate_1 _) (F.newCall_enumerate_1 _) (fun ob => F.args_object_init_2 ob _) F.entry_enumerate_new (pvq_meets B) ⟨h1, ?_⟩
  have sz : (s.heap.push o).objs.size = s.heap.objs.size + 1 := Heap.size_push ..
  show _ ∧ _
  rw [sz]
  have he : IsEnum ((s.heap.push o).push { cls := .type "enumerate", data := .fields #[.none, .bool false, .ref s.heap.objs.size, rawInt 0, .none, .none] }) (s.heap.objs.size + 1) s.heap.objs.size 0 .none := by
    have z := Heap.get?_push_size (s.heap.push o) (o := { cls := .type "enumerate", data := .fields #[.none, .bool false, .ref s.heap.objs.size, rawInt 0, .none, .none] }) rfl
    rw [sz] at z
    exact z
  exact ⟨⟨_, he, rfl⟩, h _ he (Heap.get?_push_of_some _ (Heap.get?_push_size _ B.free)) (by rw [Heap.size_push, sz]) fun b ob x => Heap.get?_push_of_some _ (Heap.get?_push_of_some _ x)⟩
end
end PySem
namespace L2.Pv
open PySem PySem.Spec PyProof.Rows L2
/-- the tuple at a, each item in a new pair behind its number -/
def IteT (K : PySem.W.Frag) (a : Addr) : It where
  go := fun i H => ∃ (xs : List V) (x : V), SqT K H a xs ∧ xs[i]? = some x
  yld := fun i H v H' => ∃ T x, v = .ref T ∧ H T = none ∧ H' = upd H T (.tup [.int (i : Nat), x]) ∧ ∀ xs, SqT K H a xs → xs[i]? = some x
  stop := fun i H => ∃ xs : List V, SqT K H a xs ∧ xs.length = i
theorem turn_enumT {P : Program} {w : World} {K : PySem.W.Frag} {elts : List Expr} {kk : Nat} {tpos : Pos} (a e it : Addr) :
    Turn P w K (.Tuple elts kk tpos) (IteT K a) [e, it] e (fun i h => (∃ old, IsEnum h e it ((i : Nat) : Int) old) ∧ h.IsTupleIter it a i ∧ e ≠ it ∧ a ≠ e ∧ a ≠ it) where
  mem := by simp
  obj := by
    intro i h st b hb
    obtain ⟨⟨old, he⟩, ⟨o, ho, hc, hd⟩, _⟩ := st
    rcases List.mem_cons.mp hb with z | z
    · rw [z]
      exact ⟨_, he, fun v q => nomatch q⟩
    · rw [List.mem_singleton.mp z]
      exact ⟨o, ho, fun v q => by rw [hd] at q; cases q⟩
  keep := fun i h h' ⟨⟨old, he⟩, hi, hne⟩ k => ⟨⟨old, k e (by simp) _ he⟩, hi.at fun o q => k it (by simp) o q, hne⟩
  item := by
    intro X hP hw hK hc i pins s σ H E I hf st hg
    subst hP hw hK
    obtain ⟨⟨old, he⟩, hit, hne, hae, hai⟩ := st
    obtain ⟨xs, x, hq, hx⟩ := hg
    obtain ⟨its, rv, p, hz⟩ := I.tuple hq
    obtain ⟨u, hu, ru⟩ := rv.get hx
    have hel : e < s.heap.objs.size := Heap.lt_size he
    have hil : it < s.heap.objs.size := by
      obtain ⟨_, q, _⟩ := hit
      exact Heap.lt_size q
    have hlt : i < its.toArray.size := by
      have := (List.getElem?_eq_some_iff.mp hu).1
      simpa using this
    have D := Draws.tuple (prog := X.prog) (w := X.w) (A := X.A.in1) (I.ok.hd hc) it a hai its.toArray
    refine wpAny_pyNext_enum_itemD D he ⟨hit, p⟩ hlt hne (by simp; exact ⟨hne, fun z => hae z.symm⟩) fun y h' tk hy ho st' hT hsz hk => ?_
    have hy' : u = y := by
      have z : its.toArray[i]? = some y := hy
      simp only [List.getElem?_toArray] at z
      rw [hu] at z
      exact Option.some.inj z
    subst hy'
    refine ⟨_, rfl, wpAny_letOwnedTupleGo_enum (s := { s with heap := h', toks := tk + 1 }) ho fun h'' he' sb => ?_⟩
    have hT2 : h''.get? s.heap.objs.size = some { cls := .type "tuple", data := .seq #[.int i tk, u] } := (sb.2 _ (Nat.ne_of_gt hel)).trans hT
    have new : ObjOk X.prog X.w (upd H s.heap.objs.size (.tup [.int (i : Nat), x])) h'' s.heap.objs.size (.tup [.int (i : Nat), x]) :=
      ⟨by show 2 ≤ sizeLine; decide, [.int i tk, u], .cons ⟨_, rfl⟩ (.cons ru .nil), ⟨_, hT2, rfl, _, rfl⟩⟩
    have I1 : Inv X pins σ (upd H s.heap.objs.size (.tup [.int (i : Nat), x])) { s with heap := h'', toks := tk + 1 } :=
      I.turnedNew (ch := [e, it]) (fun b ob hb q => (sb.2 b (fun z => hb (by simp [z]))).trans (hk b ob (fun z => hb (by simp [z])) (fun z => hb (by simp [z])) q)) hf (Nat.le_refl _) new
    refine ⟨.ref s.heap.objs.size, _, I1, rfl, ⟨_, x, rfl, I.hok.fresh (Nat.le_refl _), rfl, fun ys hy => by rw [I.tuple_inj hy hq]; exact hx⟩, ⟨⟨u, ?_⟩, st'.1.at fun o q => (sb.2 it (Ne.symm hne)).trans q, hne, hae, hai⟩, fun b hb => ?_⟩
    · rw [show ((i + 1 : Nat) : Int) = (i : Int) + 1 by omega]
      exact he'
    · have hb' : b < s.heap.objs.size := by
        rcases List.mem_cons.mp hb with z | z
        · rw [z]; exact hel
        · rw [List.mem_singleton.mp z]; exact hil
      rw [upd_ne (Nat.ne_of_lt hb')]
      exact (hf b hb).1
  done := by
    intro X hP hw hK hc i pins s σ H E I hf st hg
    subst hP hw hK
    obtain ⟨⟨old, he⟩, hit, hne, hae, hai⟩ := st
    obtain ⟨xs, hq, hx⟩ := hg
    obtain ⟨its, rv, p, hz⟩ := I.tuple hq
    obtain ⟨f0, f1, f2, f3, f4, f5⟩ := hf it (by simp)
    have hl := rv.length
    have hi : i = its.toArray.size := by simp; omega
    have D := Draws.tuple (prog := X.prog) (w := X.w) (A := X.A.in1) (I.ok.hd hc) it a hai its.toArray
    refine wpAny_pyNext_enum_endD D he ⟨hi ▸ hit, p⟩ fun h' eb => ⟨rfl, I.turned (t' := s.toks) (fun b o hb q => eb b o hb q) f0 f1 f3 f4 f5⟩
  self := fun A i s Q E st h => by
    obtain ⟨⟨_, he⟩, _⟩ := st
    exact wpAny_pyIter_enum he h
/-- enumerate of a list or a tuple -/
def iEnumA (K : PySem.W.Frag) (te : TE) : TI := fun σ H R => te σ H fun x H1 => (∃ a, x = .ref a ∧ (∃ xs, SqL K H1 a xs) ∧ R (Ite K a) H1) ∨ ∃ a, x = .ref a ∧ (∃ xs, SqT K H1 a xs) ∧ R (IteT K a) H1
theorem pi_enumA {X : Cx} {e : Expr} {te : TE} {p pos tpos : Pos} {elts : List Expr} {kk : Nat} (hg : Gl X "enumerate") (hm : X.mg "enumerate" = none) (he : PE X e te) (na : starEach [e] X.env = (false, eval e X.env) :: starEach [] X.env := by rfl) :
    PI X (.Tuple elts kk tpos) (.Call (.Name "enumerate" p) [e] [] pos) (iEnumA X.K te) := by
  refine ⟨fun pins s σ H R I h => Call_ (ld_blt I hg hm boot_enumerate (PyProof.Rows.callWith_type1 (PyProof.Rows.args_cons (thn (he.run pins s σ H _ I h) fun v s1 ⟨x, H1, I1, r1, q1⟩ => PyProof.Rows.args_nil ?_) na) na rfl))⟩
  rcases q1 with ⟨a, rfl, ⟨xs, hq⟩, q⟩ | ⟨a, rfl, ⟨xs, hq⟩, q⟩
  · cases r1
    obtain ⟨its, rv, pl, hz⟩ := I1.list hq
    refine call_enumerate_list pl.isList fun h' he hit hsz hk => wpAny_pyIter_enum he ?_
    have I2 : Inv X pins σ H1 { s1 with heap := h' } := I1.kept (t' := s1.toks) hk
    refine ⟨s1.heap.objs.size + 1, [s1.heap.objs.size + 1, s1.heap.objs.size], _, _, H1, rfl, I2, turn_enum a (s1.heap.objs.size + 1) s1.heap.objs.size, ⟨⟨.none, he⟩, hit, Nat.succ_ne_self _⟩, fun b hb => ?_, q⟩
    have hle : s1.heap.objs.size ≤ b := by
      rcases List.mem_cons.mp hb with z | z
      · rw [z]; omega
      · rw [List.mem_singleton.mp z]; omega
    exact I1.fpOk hle (I1.hok.fresh hle)
  · cases r1
    obtain ⟨its, rv, pl, hz⟩ := I1.tuple hq
    have hlt : a < s1.heap.objs.size := by
      obtain ⟨o, ho, _⟩ := pl
      exact Heap.lt_size ho
    refine pvq_enum (begins_tuple a its.toArray) pl fun h' he hit hsz hk => wpAny_pyIter_enum he ?_
    have I2 : Inv X pins σ H1 { s1 with heap := h' } := I1.kept (t' := s1.toks) hk
    refine ⟨s1.heap.objs.size + 1, [s1.heap.objs.size + 1, s1.heap.objs.size], _, _, H1, rfl, I2, turn_enumT a (s1.heap.objs.size + 1) s1.heap.objs.size, ⟨⟨.none, he⟩, ⟨_, hit, rfl, rfl⟩, Nat.succ_ne_self _, Nat.ne_of_lt (Nat.lt_succ_of_lt hlt), Nat.ne_of_lt hlt⟩, fun b hb => ?_, q⟩
    have hle : s1.heap.objs.size ≤ b := by
      rcases List.mem_cons.mp hb with z | z
      · rw [z]; omega
      · rw [List.mem_singleton.mp z]; omega
    exact I1.fpOk hle (I1.hok.fresh hle)
/-! the data -/
def enI (xs : List IV) : List (DV × Md) := xs.zipIdx.map fun p => (.i (.tup [.int (p.2 : Nat), p.1]), .own)
def enumItems : DV × Md → R (List (DV × Md) × Md)
  | (.l xs, m) => .ok (enI xs, m)
  | (.f xs, _) => .ok (enI xs, .own)
  | (.i (.tup xs), _) => .ok (enI xs, .own)
  | _ => .bad
def iEnum (f : FE) : FI := fun ρ => (f ρ).bind enumItems
theorem enI_len (xs : List IV) : (enI xs).length = xs.length := by
  unfold enI
  rw [List.length_map, List.length_zipIdx]
theorem enI_get {xs : List IV} {i : Nat} {it : DV × Md} (h : (enI xs)[i]? = some it) : ∃ x, xs[i]? = some x ∧ it = (.i (.tup [.int (i : Nat), x]), .own) := by
  unfold enI at h
  rw [List.getElem?_map, List.getElem?_zipIdx, Option.map_eq_some_iff] at h
  obtain ⟨p, h1, h2⟩ := h
  obtain ⟨x, h3, h4⟩ := Option.map_eq_some_iff.mp h1
  subst h4
  rw [Nat.zero_add] at h2
  exact ⟨x, h3, h2.symm⟩
section
variable {K : PySem.W.Frag} {H0 Pz H H1 H2 : Hp} {T : Addr → Prop} {σ : St} {ρ : Env} {Fs : Nat → List Addr}
theorem same_new {H : Hp} {p : Addr} {o : HO} (h : H p = none) : Same H (upd H p o) := same_upd h
theorem rp_pair {H : Hp} {p : Addr} {v u : V} {x y : IV} (hp : H p = none) (r1 : RpI K H v x) (r2 : RpI K H u y) : RpI K (upd H p (.tup [v, u])) (.ref p) (.tup [x, y]) :=
  .tup upd_same (.cons (r1.mono (same_tkeep (same_upd hp))) (.cons (r2.mono (same_tkeep (same_upd hp))) .nil))
theorem atEL {a : Addr} {vs : List V} {xs : List IV} {m : Md} (o : ResOk H0 Pz T ρ Fs H1 [a] m) (s : H1 a = some (.lst vs)) (t : RpIs K H1 vs xs) : Walk K H0 Pz T ρ Fs H1 [a] (Ite K a) (enI xs) m where
  dom := fun b h => by cases List.mem_singleton.mp h; exact ⟨_, s⟩
  notops := fun hm => o.notops hm
  go := fun i H2 k h => by
    rw [enI_len] at h
    have hl : i < vs.length := by rw [t.length]; exact h
    exact ⟨vs, vs[i], SqL.of (by rw [k.2 a List.mem_cons_self]; exact s), by simp [hl]⟩
  stop := fun i H2 k h => by
    rw [enI_len] at h
    exact ⟨vs, SqL.of (by rw [k.2 a List.mem_cons_self]; exact s), by rw [t.length, h]; exact Nat.le_refl _⟩
  yld := fun i H2 x H3 k y it hi => by
    obtain ⟨p, v, rfl, hp, rfl, hy⟩ := y
    obtain ⟨z, h1, rfl⟩ := enI_get hi
    obtain ⟨u, h2, h3⟩ := t.get h1
    have e := hy vs (SqL.of (by rw [k.2 a List.mem_cons_self]; exact s))
    rw [h2] at e
    cases e
    exact ⟨same_upd hp, item_I (rp_pair hp (.int _) (h3.mono k.1))⟩
theorem atEF {a : Addr} {vs : List V} {xs : List IV} (s : FzL K H1 a vs) (t : RpIs K H1 vs xs) : Walk K H0 Pz T ρ Fs H1 [] (Ite K a) (enI xs) .own where
  dom := fun _ h => (nomatch h)
  notops := fun _ => noTops_nil
  go := fun i H2 k h => by
    rw [enI_len] at h
    have hl : i < vs.length := by rw [t.length]; exact h
    exact ⟨vs, vs[i], (k.1.fz s).sq, by simp [hl]⟩
  stop := fun i H2 k h => by
    rw [enI_len] at h
    exact ⟨vs, (k.1.fz s).sq, by rw [t.length, h]; exact Nat.le_refl _⟩
  yld := fun i H2 x H3 k y it hi => by
    obtain ⟨p, v, rfl, hp, rfl, hy⟩ := y
    obtain ⟨z, h1, rfl⟩ := enI_get hi
    obtain ⟨u, h2, h3⟩ := t.get h1
    have e := hy vs (k.1.fz s).sq
    rw [h2] at e
    cases e
    exact ⟨same_upd hp, item_I (rp_pair hp (.int _) (h3.mono k.1))⟩
theorem atET {a : Addr} {vs : List V} {xs : List IV} (s : SqT K H1 a vs) (t : RpIs K H1 vs xs) : Walk K H0 Pz T ρ Fs H1 [] (IteT K a) (enI xs) .own where
  dom := fun _ h => (nomatch h)
  notops := fun _ => noTops_nil
  go := fun i H2 k h => by
    rw [enI_len] at h
    have hl : i < vs.length := by rw [t.length]; exact h
    exact ⟨vs, vs[i], k.1.sq s, by simp [hl]⟩
  stop := fun i H2 k h => by
    rw [enI_len] at h
    exact ⟨vs, k.1.sq s, by rw [t.length, h]⟩
  yld := fun i H2 x H3 k y it hi => by
    obtain ⟨p, v, rfl, hp, rfl, hy⟩ := y
    obtain ⟨z, h1, rfl⟩ := enI_get hi
    obtain ⟨u, h2, h3⟩ := t.get h1
    have e := hy vs (k.1.sq s)
    rw [h2] at e
    cases e
    exact ⟨same_upd hp, item_I (rp_pair hp (.int _) (h3.mono k.1))⟩
end
section
variable {X : Cx} {e : Expr} {f : FE} {p pos tpos : Pos} {elts : List Expr} {kk : Nat}
theorem iv_enum (hg : Gl X "enumerate") (hm : X.mg "enumerate" = none) (he : PEv X e f) (na : starEach [e] X.env = (false, eval e X.env) :: starEach [] X.env := by rfl) :
    PIv X (.Tuple elts kk tpos) (.Call (.Name "enumerate" p) [e] [] pos) (iEnum f) := fun W tk =>
  PI.imp (pi_enumA hg hm (he W tk) na) fun σ H Q h => by
    obtain ⟨H0, Pz, T, ρ, Fs, E, h⟩ := h
    show tev X.K X.mg W f σ H _
    cases e1 : f ρ with
    | bad => simp only [iEnum, e1, R.bind] at h
    | ex c p => simp only [iEnum, e1, R.bind] at h; exact tev_ex E e1 h
    | ok x =>
      simp only [iEnum, e1, R.bind] at h
      refine tev_ok E e1 fun v H1 F s1 E1 r1 o1 => ?_
      obtain ⟨x, m⟩ := x
      simp only at r1 o1
      cases r1 with
      | i r =>
        cases r with
        | tup s t => exact .inr ⟨_, rfl, ⟨_, SqT.of s⟩, h _ H1 [] s1 (atET (SqT.of s) t)⟩
        | str z => exact h.elim
        | non => exact h.elim
        | bl b => exact h.elim
        | int i => exact h.elim
      | l s t => exact .inl ⟨_, rfl, ⟨_, SqL.of s⟩, h _ H1 _ s1 (atEL o1 s t)⟩
      | f s t => exact .inl ⟨_, rfl, ⟨_, s.sq⟩, h _ H1 _ s1 (atEF s t)⟩
      | m s t => exact h.elim
      | t s t => exact h.elim
      | k s t => exact h.elim
      | h s t => exact h.elim
end
end L2.Pv

/-! zip of two lists, of two tuples -/
namespace L2.Pv
open PySem PySem.Spec PyProof.Rows L2
def zpI (xs ys : List IV) : List (DV × Md) := (xs.zip ys).map fun p => (.i (.tup [p.1, p.2]), .own)
def zipMd (m m' : Md) : Md := if m = .tmp ∨ m' = .tmp then .tmp else .loc
def zipItems : List (DV × Md) → R (List (DV × Md) × Md)
  | [(.l xs, m), (.l ys, m')] => .ok (zpI xs ys, zipMd m m')
  | [(.i (.tup xs), _), (.i (.tup ys), _)] => .ok (zpI xs ys, .own)
  | _ => .bad
def iZip (g : FA) : FI := fun ρ => (g ρ).bind zipItems
theorem zpI_get {xs ys : List IV} {i : Nat} {it : DV × Md} (h : (zpI xs ys)[i]? = some it) : ∃ x y, xs[i]? = some x ∧ ys[i]? = some y ∧ it = (.i (.tup [x, y]), .own) := by
  unfold zpI at h
  rw [List.getElem?_map, Option.map_eq_some_iff] at h
  obtain ⟨p, h1, h2⟩ := h
  obtain ⟨h3, h4⟩ := List.getElem?_zip_eq_some.mp h1
  exact ⟨_, _, h3, h4, h2.symm⟩
theorem zpI_len (xs ys : List IV) : (zpI xs ys).length = min xs.length ys.length := by
  unfold zpI
  rw [List.length_map, List.length_zip]
section
variable {K : PySem.W.Frag} {H0 Pz H H1 H2 : Hp} {T : Addr → Prop} {σ : St} {ρ : Env} {Fs : Nat → List Addr}
theorem atZL {a b : Addr} {vs us : List V} {xs ys : List IV} {m m' : Md} (o : ResOk H0 Pz T ρ Fs H1 [a] m) (o' : ResOk H0 Pz T ρ Fs H1 [b] m') (s : H1 a = some (.lst vs)) (s' : H1 b = some (.lst us)) (t : RpIs K H1 vs xs) (t' : RpIs K H1 us ys) :
    Walk K H0 Pz T ρ Fs H1 [a, b] (Itz K a b) (zpI xs ys) (zipMd m m') where
  dom := fun c h => by
    rcases List.mem_cons.mp h with z | z
    · rw [z]; exact ⟨_, s⟩
    · rw [List.mem_singleton.mp z]; exact ⟨_, s'⟩
  notops := fun hm => by
    have hm1 : m ≠ .tmp := fun z => hm (by unfold zipMd; rw [if_pos (.inl z)])
    have hm2 : m' ≠ .tmp := fun z => hm (by unfold zipMd; rw [if_pos (.inr z)])
    have n1 := o.notops hm1
    have n2 := o'.notops hm2
    refine ⟨fun k d hk c G e hc => ?_, fun c tc hc => ?_⟩
    · rcases List.mem_cons.mp hc with z | z
      · exact n1.1 k d hk c G e (by rw [z]; exact List.mem_cons_self)
      · exact n2.1 k d hk c G e z
    · rcases List.mem_cons.mp hc with z | z
      · exact n1.2 c tc (by rw [z]; exact List.mem_cons_self)
      · exact n2.2 c tc z
  go := fun i H2 k h => by
    rw [zpI_len] at h
    have h1 : i < vs.length := by rw [t.length]; omega
    have h2 : i < us.length := by rw [t'.length]; omega
    exact ⟨vs, us, vs[i], us[i], SqL.of (by rw [k.2 a List.mem_cons_self]; exact s), SqL.of (by rw [k.2 b (List.mem_cons_of_mem _ List.mem_cons_self)]; exact s'), by simp [h1], by simp [h2]⟩
  stop := fun i H2 k h => by
    rw [zpI_len] at h
    refine ⟨vs, us, SqL.of (by rw [k.2 a List.mem_cons_self]; exact s), SqL.of (by rw [k.2 b (List.mem_cons_of_mem _ List.mem_cons_self)]; exact s'), ?_⟩
    rw [t.length, t'.length]
    omega
  yld := fun i H2 x H3 k y it hi => by
    obtain ⟨p, v, u, rfl, hp, rfl, hy, hy'⟩ := y
    obtain ⟨z, z', h1, h1', rfl⟩ := zpI_get hi
    obtain ⟨v2, h2, h3⟩ := t.get h1
    obtain ⟨u2, h2', h3'⟩ := t'.get h1'
    have e := hy vs (SqL.of (by rw [k.2 a List.mem_cons_self]; exact s))
    have e' := hy' us (SqL.of (by rw [k.2 b (List.mem_cons_of_mem _ List.mem_cons_self)]; exact s'))
    rw [h2] at e
    rw [h2'] at e'
    cases e
    cases e'
    exact ⟨same_upd hp, item_I (rp_pair hp (h3.mono k.1) (h3'.mono k.1))⟩
theorem atZT {a b : Addr} {vs us : List V} {xs ys : List IV} (s : SqT K H1 a vs) (s' : SqT K H1 b us) (t : RpIs K H1 vs xs) (t' : RpIs K H1 us ys) :
    Walk K H0 Pz T ρ Fs H1 [] (RZ.ItzT K a b) (zpI xs ys) .own where
  dom := fun _ h => (nomatch h)
  notops := fun _ => noTops_nil
  go := fun i H2 k h => by
    rw [zpI_len] at h
    have h1 : i < vs.length := by rw [t.length]; omega
    have h2 : i < us.length := by rw [t'.length]; omega
    exact ⟨vs, us, vs[i], us[i], k.1.sq s, k.1.sq s', by simp [h1], by simp [h2]⟩
  stop := fun i H2 k h => by
    rw [zpI_len] at h
    refine ⟨vs, us, k.1.sq s, k.1.sq s', ?_⟩
    rw [t.length, t'.length]
    omega
  yld := fun i H2 x H3 k y it hi => by
    obtain ⟨p, v, u, rfl, hp, rfl, hy, hy'⟩ := y
    obtain ⟨z, z', h1, h1', rfl⟩ := zpI_get hi
    obtain ⟨v2, h2, h3⟩ := t.get h1
    obtain ⟨u2, h2', h3'⟩ := t'.get h1'
    have e := hy vs (k.1.sq s)
    have e' := hy' us (k.1.sq s')
    rw [h2] at e
    rw [h2'] at e'
    cases e
    cases e'
    exact ⟨same_upd hp, item_I (rp_pair hp (h3.mono k.1) (h3'.mono k.1))⟩
end
section
variable {X : Cx} {e e2 : Expr} {g : FA} {p pos tpos : Pos} {elts : List Expr} {kk : Nat}
theorem iv_zip (hg : Gl X "zip") (hm : X.mg "zip" = none) (ha : PAv X [e, e2] g)
    (hs : starEach [e, e2] X.env = (false, eval e X.env) :: starEach [e2] X.env := by rfl) (hpl : (backTo pos (starEach [e2] X.env)).any (·.1) = false := by rfl) :
    PIv X (.Tuple elts kk tpos) (.Call (.Name "zip" p) [e, e2] [] pos) (iZip g) := fun W tk =>
  PI.imp (RZ.pi_zipA hg hm (ha W tk) hs hpl) fun σ H Q h => by
    obtain ⟨H0, Pz, T, ρ, Fs, E, h⟩ := h
    show tav X.K X.mg W g σ H _
    cases e1 : g ρ with
    | bad => simp only [iZip, e1, R.bind] at h
    | ex c p => simp only [iZip, e1, R.bind] at h; exact tav_ex E e1 h
    | ok x =>
      simp only [iZip, e1, R.bind] at h
      refine tav_ok E e1 fun us H1 s1 E1 r1 => ?_
      cases r1 with
      | nil => exact h.elim
      | @cons v vs x xs F r o r1 =>
        cases r1 with
        | nil =>
          exfalso
          have : zipItems [x] = .bad := by
            obtain ⟨d, m⟩ := x
            cases d with
            | i d => cases d <;> rfl
            | l => rfl
            | m => rfl
            | f => rfl
            | t => rfl
            | k => rfl
            | h => rfl
          rw [this] at h
          exact h
        | @cons v' vs x' xs F' r' o' r1 =>
          cases r1 with
          | cons a b c =>
            exfalso
            rename_i x'' _ _ _
            have : ∀ (y : DV × Md) (l : List (DV × Md)), zipItems (x :: x' :: y :: l) = .bad := fun y l => by
              obtain ⟨d, m⟩ := x
              obtain ⟨d', m'⟩ := x'
              cases d with
              | i d => cases d <;> (cases d' with | i d' => cases d' <;> rfl | l => rfl | m => rfl | f => rfl | t => rfl | k => rfl | h => rfl)
              | l => cases d' <;> rfl
              | m => rfl
              | f => rfl
              | t => rfl
              | k => rfl
              | h => rfl
            rw [this] at h
            exact h
          | nil =>
            obtain ⟨d, m⟩ := x
            obtain ⟨d', m'⟩ := x'
            simp only at r o r' o'
            cases r with
            | i r =>
              cases r with
              | tup s t =>
                cases r' with
                | i r' =>
                  cases r' with
                  | tup s' t' => exact ⟨_, _, _, _, rfl, .inr ⟨SqT.of s, SqT.of s', h _ H1 [] s1 (atZT (SqT.of s) (SqT.of s') t t')⟩⟩
                  | str z => exact h.elim
                  | non => exact h.elim
                  | bl b => exact h.elim
                  | int i => exact h.elim
                | l => exact h.elim
                | m => exact h.elim
                | f => exact h.elim
                | t => exact h.elim
                | k => exact h.elim
                | h => exact h.elim
              | str z => exact h.elim
              | non => exact h.elim
              | bl b => exact h.elim
              | int i => exact h.elim
            | l s t =>
              cases r' with
              | l s' t' => exact ⟨_, _, _, _, rfl, .inl ⟨SqL.of s, SqL.of s', h _ H1 _ s1 (atZL o o' s s' t t')⟩⟩
              | i r' => exact h.elim
              | m => exact h.elim
              | f => exact h.elim
              | t => exact h.elim
              | k => exact h.elim
              | h => exact h.elim
            | m => exact h.elim
            | f => exact h.elim
            | t => exact h.elim
            | k => exact h.elim
            | h => exact h.elim
end
/-! evaluating -/
@[simp] theorem iEnum_ap (f : FE) (ρ : Env) : iEnum f ρ = (f ρ).bind enumItems := rfl
@[simp] theorem enumItems_l (xs : List IV) (m : Md) : enumItems (.l xs, m) = .ok (enI xs, m) := rfl
@[simp] theorem enumItems_f (xs : List IV) (m : Md) : enumItems (.f xs, m) = .ok (enI xs, .own) := rfl
@[simp] theorem enumItems_t (xs : List IV) (m : Md) : enumItems (.i (.tup xs), m) = .ok (enI xs, .own) := rfl
@[simp] theorem iZip_ap (g : FA) (ρ : Env) : iZip g ρ = (g ρ).bind zipItems := rfl
@[simp] theorem zipItems_t (xs ys : List IV) (m m' : Md) : zipItems [(.i (.tup xs), m), (.i (.tup ys), m')] = .ok (zpI xs ys, .own) := rfl
@[simp] theorem zipItems_l (xs ys : List IV) (m m' : Md) : zipItems [(.l xs, m), (.l ys, m')] = .ok (zpI xs ys, zipMd m m') := rfl
@[simp] theorem opInt_bl (b : Bool) (m : Md) : opInt (.i (.bl b), m) = .ok (.i (.int (if b then 1 else 0)), .own) := rfl
@[simp] theorem tsCons_iL (t : TF) (ts : TFs) (x : Int) (r : List Int) (ρ : Env) : tsCons t ts (iL (x :: r)) ρ = (t (.i (.int x), .own) ρ).bind (ts (iL r)) := rfl
@[simp] theorem tsNil_iL (ρ : Env) : tsNil (iL []) ρ = some ρ := rfl
theorem iL_set (xs : List Int) (j : Nat) (y : Int) : (iL xs).set j (.int y) = iL (xs.set j y) := by
  unfold iL
  rw [List.map_set]
theorem set_l {xs : List Int} {k y : Int} {m : Md} (h0 : 0 ≤ k) (h1 : k < xs.length) : setD (.l (iL xs)) k (.i (.int y), m) = some (.l (iL (xs.set k.toNat y))) := by
  show (ixN (iL xs).length k).map (fun j => DV.l ((iL xs).set j (.int y))) = _
  unfold ixN
  rw [iL_len, if_pos h0, if_pos h1, Option.map_some, iL_set]
/-- over numbered integers -/
theorem for_en {t : TF} {b : FS} {D : PD} {xs : List Int} {ρ : Env} (I : Nat → Env → Prop) (h0 : I 0 ρ)
    (hs : ∀ (k : Nat) (hk : k < xs.length) (W : PD) (_ : Hide (I (k + 1)) D W) ρ, I k ρ → (goOn (t (.i (.tup [.int (k : Nat), .int xs[k]]), .own) ρ) b).to W) (he : ∀ ρ, I xs.length ρ → D.nx ρ) : (loopF t b (enI (iL xs)) ρ).to D := by
  have e : enI (iL xs) = (List.range xs.length).map fun k => (.i (.tup [.int (k : Nat), .int (xs.getD k 0)]), .own) := by
    refine List.ext_getElem? fun i => ?_
    unfold enI iL
    rw [List.getElem?_map, List.getElem?_zipIdx, List.getElem?_map, List.getElem?_map]
    by_cases h : i < xs.length
    · rw [List.getElem?_range h, List.getElem?_eq_getElem h]
      simp [h]
    · rw [List.getElem?_eq_none (by omega), List.getElem?_eq_none (by simp; omega)] <;> rfl
  rw [e]
  refine for_map (List.range xs.length) _ ρ I h0 (fun k hk W hW ρ h => ?_) (fun ρ h => he ρ (by simpa using h))
  rw [List.getElem_range]
  have hk' : k < xs.length := by simpa using hk
  have z := hs k hk' W hW ρ h
  rw [show xs.getD k 0 = xs[k] by rw [List.getD_eq_getElem?_getD, List.getElem?_eq_getElem hk'] <;> rfl]
  exact z
end L2.Pv

/-! x.extend(list) -/
namespace L2.Pv
open PySem PySem.Spec PyProof.Rows L2
def extD : DV → DV × Md → Option DV
  | .l xs, (.l ys, _) => if xs.length + ys.length ≤ 16777216 then some (.l (xs ++ ys)) else none
  | _, _ => none
def sExt (i : Nat) (f : FE) : FS := fun ρ => match ownAt ρ i with
  | some d => (match f ρ with
    | .ok y => (match extD d y with
      | some d' => .nx (ρ.set i (some (d', .own)))
      | none => .bad)
    | .ex c p => .ex c p ρ
    | .bad => .bad)
  | none => .bad
theorem RpIs.appendL {K : PySem.W.Frag} {H : Hp} : ∀ {vs us : List V} {xs ys : List IV}, RpIs K H vs xs → RpIs K H us ys → RpIs K H (vs ++ us) (xs ++ ys)
  | _, _, [], _, a, b => by cases a; exact b
  | _, _, _ :: _, _, a, b => by
    cases a with
    | cons a1 a2 => exact .cons a1 (RpIs.appendL a2 b)
section
variable {X : Cx} {pos : Pos}
theorem sv_ext {i : Nat} {x : Str} {e : Expr} {f : FE} {px apos cpos : Pos} (he : PEv X e f) (hN : X.N[i]? = some x := by rfl) (hv : Vis X.env.scope x := by first | exact Or.inl rfl | exact Or.inr (Or.inl rfl) | exact Or.inr (Or.inr rfl)) (hd : (x == ("__debug__" : Str)) = false := by decide)
    (hcd : (x == ("__classdict__" : Str)) = false := by decide)
    (hbase : attributeBase (.Name x px) "extend" X.env (eval (.Name x px) X.env) = eval (.Name x px) X.env := by rfl)
    (hfew : ((backTo cpos (starEach (e :: []) X.env)).all (fun x => !x.1) && (backToKw cpos (keywordEach [] X.env)).all (fun x => x.1.isSome)
      && decide ((e :: []).length + ([] : List Keyword).length + (if ([] : List Keyword).isEmpty then 0 else 1) < 30)) = true := by rfl)
    (hline : (apos.endLine == cpos.line) = true := by rfl) (hs : starEach (e :: []) X.env = (false, eval e X.env) :: starEach [] X.env := by rfl) (hplain : (backTo cpos (starEach [] X.env)).any (·.1) = false := by rfl)
    (hsw : swapsWith (.Call (.Attribute (.Name x px) "extend" apos) [e] [] cpos) none pos.line X.env = pure false := by rfl) :
    PSv X (.Expr (.Call (.Attribute (.Name x px) "extend" apos) [e] [] cpos) pos) (sExt i f) := fun W tk =>
  PS.imp (ps_expr (pe_bm PySem.F.plainAttrs_list PySem.F.slot_list_extend PySem.F.type_list_extend mt_extend (pe_var hN hv hd hcd) (pa_cons (he W tk) pa_nil hs) hbase hfew hline hs hplain) hsw) fun D σ H h => by
    obtain ⟨H0, Pz, T, ρ, Fs, E, h⟩ := h
    unfold sExt at h
    cases e2 : ownAt ρ i with
    | none => rw [e2] at h; exact h.elim
    | some d =>
      rw [e2] at h
      obtain ⟨a, vs, A, hv, hF, hl⟩ := E.ownL e2
      refine ⟨_, hv, .inl ⟨rfl, vs, SqL.of hl⟩, ?_⟩
      show tev X.K X.mg W f σ H _
      simp only at h
      cases e1 : f ρ with
      | bad => rw [e1] at h; exact h.elim
      | ex c p => rw [e1] at h; exact ex_of E e1 h
      | ok y =>
        rw [e1] at h
        refine tev_ok E e1 fun v H1 F s1 E1 r1 o1 => ?_
        simp only at h
        cases e3 : extD d y with
        | none => rw [e3] at h; exact h.elim
        | some d' =>
          rw [e3] at h
          obtain ⟨y, my⟩ := y
          unfold extD at e3
          split at e3
          · rename_i xs ys _ q
            cases q
            split at e3
            · rename_i hz
              cases e3
              have hi := ownAt_iff e2
              obtain ⟨w, hw, rd⟩ := E1.at_ i _ .own hi
              rw [hv] at hw
              cases hw
              rw [hF] at rd
              cases rd with
              | l s t =>
                cases r1 with
                | @l b us _ s' t' =>
                  obtain ⟨q1, q2, q3, q4⟩ := E1.old hi hF
                  have E2 := E1.updTop (G' := []) (us := _ ++ us) hi hF hv s (.l upd_same ((t.appendL t').mono (upd_tkeep s))) (fun _ z => (nomatch z)) (fun z => (nomatch z)) (fun _ _ _ _ _ _ _ z => (nomatch z)) (fun _ _ z => (nomatch z))
                  exact ⟨a, b, _, us, rfl, rfl, s, s', by rw [slEq, t.length, t'.length]; exact hz, h σ _ _ E2⟩
            · cases e3
          · cases e3
end
@[simp] theorem sExt_ap (i : Nat) (f : FE) (ρ : Env) : sExt i f ρ = match ownO ρ[i]? with
  | some d => (f ρ).st ρ fun y => (match extD d y with
    | some d' => .nx (ρ.set i (some (d', .own)))
    | none => .bad)
  | none => .bad := by
  unfold sExt R.st
  rw [ownAt_ap]
  cases ownO ρ[i]? with
  | none => rfl
  | some d => simp only; cases f ρ <;> rfl
@[simp] theorem extD_l (xs ys : List IV) (m : Md) : extD (.l xs) (.l ys, m) = if xs.length + ys.length ≤ 16777216 then some (.l (xs ++ ys)) else none := rfl
end L2.Pv

/-! a, b, c = x, y, z -/
namespace L2.Pv
open PySem PySem.Spec PyProof.Rows L2
/-- at most one of the three is a list -/
def par3E (ρ : Env) (i j l : Nat) : List (DV × Md) → Option Env
  | [(.i x, _), (.i y, _), (d, m)] => if m = .tmp then none else some (((ρ.set i (some (.i x, .own))).set j (some (.i y, .own))).set l (some (d, nrmM d m)))
  | [(.i x, _), (d, m), (.i y, _)] => if m = .tmp then none else some (((ρ.set i (some (.i x, .own))).set j (some (d, nrmM d m))).set l (some (.i y, .own)))
  | [(d, m), (.i x, _), (.i y, _)] => if m = .tmp then none else some (((ρ.set i (some (d, nrmM d m))).set j (some (.i x, .own))).set l (some (.i y, .own)))
  | _ => none
def sPar3 (i j l : Nat) (g : FA) : FS := fun ρ => match g ρ with
  | .ok xs => if i < ρ.length ∧ j < ρ.length ∧ l < ρ.length then (match par3E ρ i j l xs with
    | some ρ' => .nx ρ'
    | none => .bad) else .bad
  | .ex c p => .ex c p ρ
  | .bad => .bad
section
variable {X : Cx} {pos : Pos}
theorem nrm_ne {d : DV} {m : Md} (h : ¬ m = .tmp) : nrmM d m ≠ .tmp := by cases d <;> first | exact h | (intro z; cases z)
theorem sv_par3 {i j l : Nat} {x y z : Str} {a b c : Expr} {g : FA} {px py pz pt : Pos} {kt k2 pt2} (hc : X.calm = true) (hN : X.N.Nodup) (hi : X.N[i]? = some x) (hj : X.N[j]? = some y) (hl : X.N[l]? = some z) (hij : i ≠ j) (hil : i ≠ l) (hjl : j ≠ l)
    (hx : X.env.scope.names.lookup x = some .local) (hy : X.env.scope.names.lookup y = some .local) (hz : X.env.scope.names.lookup z = some .local) (ha : PAv X [a, b, c] g)
    (hw : swappedStores [.Tuple [.Name x px, .Name y py, .Name z pz] kt pt] (.Tuple [a, b, c] k2 pt2) X.env = pure (some [x, y, z]))
    (hs : swapsWithSole [.Tuple [.Name x px, .Name y py, .Name z pz] kt pt] (.Tuple [a, b, c] k2 pt2) pos.line X.env = pure false := by rfl) :
    PSv X (.Assign [.Tuple [.Name x px, .Name y py, .Name z pz] kt pt] (.Tuple [a, b, c] k2 pt2) pos) (sPar3 i j l g) := fun W tk =>
  PS.imp (ps_par3 hc hN hi hj hl hij hil hjl hx hy hz (ha W tk) hw hs) fun D σ H h => by
    obtain ⟨H0, Pz, T, ρ, Fs, E, h⟩ := h
    show tav X.K X.mg W g σ H _
    unfold sPar3 at h
    cases e1 : g ρ with
    | bad => rw [e1] at h; exact h.elim
    | ex c p => rw [e1] at h; exact tav_ex E e1 fun C H' d hC s xd => h C d σ H' Fs hC (E.same s) xd
    | ok xs =>
      rw [e1] at h
      refine tav_ok E e1 fun vs H1 s1 E1 r1 => ?_
      simp only at h
      by_cases hlen : i < ρ.length ∧ j < ρ.length ∧ l < ρ.length
      · rw [if_pos hlen] at h
        obtain ⟨hi', hj', hl'⟩ := hlen
        cases e3 : par3E ρ i j l xs with
        | none => rw [e3] at h; exact h.elim
        | some ρ' =>
          rw [e3] at h
          have key : ∀ (x y z : DV) (m1 m2 m3 : Md) (u v w : V) (F G Z : List Addr), m1 ≠ .tmp → m2 ≠ .tmp → m3 ≠ .tmp → RpD X.K H1 u x F → RpD X.K H1 v y G → RpD X.K H1 w z Z → ResOk H0 Pz T ρ Fs H1 F m1 → ResOk H0 Pz T ρ Fs H1 G m2 → ResOk H0 Pz T ρ Fs H1 Z m3 →
              (∀ a ∈ F, a ∉ G) → (∀ a ∈ F, a ∉ Z) → (∀ a ∈ G, a ∉ Z) → EnvR X.K H0 Pz T H1 (((σ.set i (some u)).set j (some v)).set l (some w)) (((ρ.set i (some (x, m1))).set j (some (y, m2))).set l (some (z, m3))) (stF (stF (stF Fs i F) j G) l Z) :=
            fun x y z m1 m2 m3 u v w F G Z h1 h2 h3 r1 r2 r3 o1 o2 o3 d1 d2 d3 => by
              have E2 := E1.set hi' r1 o1 h1
              have o2' := o1.afterSet (d := x) hi' o2 h1 h2 d1
              have o3' := o1.afterSet (d := x) hi' o3 h1 h3 d2
              have hj2 : j < (ρ.set i (some (x, m1))).length := by rw [List.length_set]; exact hj'
              exact (E2.set hj2 r2 o2' h2).set (by rw [List.length_set, List.length_set]; exact hl') r3 (o2'.afterSet (d := y) hj2 o3' h2 h3 d3) h3
          unfold par3E at e3
          split at e3
          · split at e3
            · cases e3
            · rename_i hm
              cases e3
              cases r1 with
              | cons a1 b1 r1 => cases r1 with
                | cons a2 b2 r1 => cases r1 with
                  | cons a3 b3 r1 =>
                    cases r1
                    cases a1 with
                    | i a1 => cases a2 with
                      | i a2 => exact ⟨_, _, _, rfl, h _ H1 _ (key _ _ _ .own .own _ _ _ _ [] [] _ (by intro q; cases q) (by intro q; cases q) (nrm_ne hm) (.i a1) (.i a2) a3 .nil .nil (b3.nrm a3) (fun _ q => (nomatch q)) (fun _ q => (nomatch q)) (fun _ q => (nomatch q)))⟩
          · split at e3
            · cases e3
            · rename_i hm
              cases e3
              cases r1 with
              | cons a1 b1 r1 => cases r1 with
                | cons a2 b2 r1 => cases r1 with
                  | cons a3 b3 r1 =>
                    cases r1
                    cases a1 with
                    | i a1 => cases a3 with
                      | i a3 => exact ⟨_, _, _, rfl, h _ H1 _ (key _ _ _ .own _ .own _ _ _ [] _ [] (by intro q; cases q) (nrm_ne hm) (by intro q; cases q) (.i a1) a2 (.i a3) .nil (b2.nrm a2) .nil (fun _ q => (nomatch q)) (fun _ q => (nomatch q)) (fun _ _ q => (nomatch q)))⟩
          · split at e3
            · cases e3
            · rename_i hm
              cases e3
              cases r1 with
              | cons a1 b1 r1 => cases r1 with
                | cons a2 b2 r1 => cases r1 with
                  | cons a3 b3 r1 =>
                    cases r1
                    cases a2 with
                    | i a2 => cases a3 with
                      | i a3 => exact ⟨_, _, _, rfl, h _ H1 _ (key _ _ _ _ .own .own _ _ _ _ [] [] (nrm_ne hm) (by intro q; cases q) (by intro q; cases q) a1 (.i a2) (.i a3) (b1.nrm a1) .nil .nil (fun _ _ q => (nomatch q)) (fun _ _ q => (nomatch q)) (fun _ q => (nomatch q)))⟩
          · cases e3
      · rw [if_neg hlen] at h; exact h.elim
end
def par3R (i j l : Nat) (ρ : Env) (xs : List (DV × Md)) : RS := if i < ρ.length ∧ j < ρ.length ∧ l < ρ.length then (match par3E ρ i j l xs with
  | some ρ' => .nx ρ'
  | none => .bad) else .bad
@[simp] theorem sPar3_ap (i j l : Nat) (g : FA) (ρ : Env) : sPar3 i j l g ρ = (g ρ).st ρ fun xs => par3R i j l ρ xs := by
  unfold sPar3 R.st par3R
  cases g ρ <;> rfl
@[simp] theorem par3R_i (i j l : Nat) (ρ : Env) (x y z : IV) : par3R i j l ρ [(.i x, .own), (.i y, .own), (.i z, .own)] = if i < ρ.length ∧ j < ρ.length ∧ l < ρ.length then .nx (((ρ.set i (some (.i x, .own))).set j (some (.i y, .own))).set l (some (.i z, .own))) else .bad := by
  unfold par3R par3E nrmM
  simp
end L2.Pv

namespace L2.Pv
open PySem PySem.Spec PyProof.Rows
/-! ## dict comprehensions, keys integers and texts -/
/-- the pairs that a comprehension makes -/
def dcF (t : TF) (tt : FT) (kf vf : FE) (ρw : Env) : List (DV × Md) → List (Key × IV) → R (List (Key × IV))
  | [], acc => .ok acc
  | x :: r, acc => match t x ρw with
    | none => .bad
    | some ρ1 => bindB (tt ρ1) fun b => if b then bindB (kf ρ1) fun y => (match y.1 with
        | .i yk => (match keyI yk with
          | some k => bindB (vf ρ1) fun z => (match z.1 with
            | .i zv => dcF t tt kf vf ρw r (kPut acc k zv)
            | _ => .bad)
          | none => .bad)
        | _ => .bad) else dcF t tt kf vf ρw r acc
def eDC (src : FI) (vs : List Nat) (t : TF) (tt : FT) (kf vf : FE) : FE := fun ρ => (src ρ).bind fun it => if it.1.length ≤ 16777216 then bindB (dcF t tt kf vf (wipeE ρ vs) it.1 []) fun kvs => .ok (.k kvs, .own) else .bad
theorem kPut_len {κ : Type} [DecidableEq κ] (kvs : List (κ × IV)) (k : κ) (x : IV) : (kPut kvs k x).length ≤ kvs.length + 1 := by
  unfold kPut
  split
  · rw [List.length_map]; omega
  · rw [List.length_append]; simp
theorem dc_imp {K : PySem.W.Frag} {mg : MG} {W : WX} {src : FI} {vs : List Nat} {t : TF} {tt : FT} {kf vf : FE} (σ : St) (H : Hp) (Q : VK) (h : tev K mg W (eDC src vs t tt kf vf) σ H Q) :
    tDc (tiv K mg W src) (tgv K vs t) (ttv K mg (fun _ _ _ _ => False) tt) (tev K mg (fun _ _ _ _ => False) kf) (tev K mg (fun _ _ _ _ => False) vf) vs σ H Q := by
  obtain ⟨H0, Pz, T, ρ, Fs, E, h⟩ := h
  refine ⟨H0, Pz, T, ρ, Fs, E, ?_⟩
  cases e1 : src ρ with
  | bad => simp only [eDC, e1, R.bind] at h
  | ex c p => simp only [eDC, e1, R.bind] at h; exact h
  | ok it =>
    obtain ⟨items, m⟩ := it
    simp only [eDC, e1, R.bind] at h
    by_cases hlen : items.length ≤ 16777216
    · rw [if_pos hlen] at h
      cases e2 : dcF t tt kf vf (wipeE ρ vs) items [] with
      | bad => rw [e2] at h; exact h.elim
      | ex c p => rw [e2] at h; exact h.elim
      | ok total =>
        rw [e2] at h
        have h : ∀ v H' F, Same H H' → RpD K H' v (.k total) F → ResOk H0 Pz T ρ Fs H' F .own → Q v H' := h
        intro J H1 P s1 wk D hD
        have E1 := E.same s1
        have hPD : Pz D = none := by
          cases q : Pz D with
          | none => rfl
          | some o => rw [E1.pz _ _ q] at hD; cases hD
        have hFD : ∀ j, D ∉ Fs j := fun j hj => by
          obtain ⟨o, q⟩ := E1.dom j D hj
          rw [hD] at q; cases q
        have hDP : D ∉ P := fun hj => by
          obtain ⟨o, q⟩ := wk.dom D hj
          rw [hD] at q; cases q
        refine ⟨fun i mm Hc => mm = items.length - i ∧ i ≤ items.length ∧ Same H1 Hc ∧ ∃ kvs acc, Hc D = some (.dK kvs) ∧ RpK K Hc kvs acc ∧ acc.length ≤ i ∧ dcF t tt kf vf (wipeE ρ vs) (items.drop i) acc = .ok total,
          ⟨items.length, by simp, Nat.zero_le _, same_upd hD, [], [], upd_same, .nil, Nat.zero_le _, e2⟩, ?_⟩
        rintro i mm Hc ⟨rfl, hi, sc, kvs, acc, hDc, ra, hal, er⟩
        have kp : Keep H1 Hc P := .of_same sc wk.dom
        by_cases hlt : i < items.length
        · right
          refine ⟨wk.go i Hc kp hlt, fun H' => ∃ mm', mm' < items.length - i ∧ (mm' = items.length - (i + 1) ∧ i + 1 ≤ items.length ∧ Same H1 H' ∧ ∃ kvs acc, H' D = some (.dK kvs) ∧ RpK K H' kvs acc ∧ acc.length ≤ i + 1 ∧ dcF t tt kf vf (wipeE ρ vs) (items.drop (i + 1)) acc = .ok total), fun H' z => z, fun x H' y => ?_⟩
          have hget : items[i]? = some items[i] := List.getElem?_eq_getElem hlt
          obtain ⟨s2, ⟨F, r2, o2, hFP, hw, hnt⟩⟩ := wk.yld i Hc x H' kp y items[i] hget
          have hdrop : items.drop i = items[i] :: items.drop (i + 1) := List.drop_eq_getElem_cons hlt
          rw [hdrop] at er
          have E2 := (E1.same sc).same s2
          refine ⟨H0, Pz, TB T ρ Fs vs D, wipeE ρ vs, wF Fs vs, items[i], F, E2.blk (mb_k (s2 _ _ hDc)) hPD hFD, r2, o2.inBlk (fun z => hDP (hFP D z)) hnt hw, hnt, ?_⟩
          unfold dcF at er
          cases q0 : t items[i] (wipeE ρ vs) with
          | none => rw [q0] at er; cases er
          | some ρ1 =>
            rw [q0] at er
            simp only at er
            intro σ3 H3 Fs3 s3 E3 A3
            refine ⟨wipe_agr (by rw [A3.len, wipe_length]) fun j hj => by rw [(A3.at_ j hj).1, wipe_at, if_neg hj], ?_⟩
            cases q1 : tt ρ1 with
            | bad => rw [q1] at er; cases er
            | ex c p => rw [q1] at er; cases er
            | ok b =>
              rw [q1] at er
              simp only [bindB] at er
              refine ttv_ok E3 q1 fun H4 s4 E4 => ?_
              have S4 : Same Hc H4 := s2.trans (s3.trans s4)
              have hD4 : H4 D = some (.dK kvs) := S4 _ _ hDc
              cases b with
              | false =>
                simp only [Bool.false_eq_true, if_false] at er ⊢
                exact ⟨items.length - (i + 1), by omega, rfl, hlt, sc.trans S4, kvs, acc, hD4, ra.mono (same_tkeep S4), by omega, er⟩
              | true =>
                simp only [if_true] at er ⊢
                cases q2 : kf ρ1 with
                | bad => rw [q2] at er; cases er
                | ex c p => rw [q2] at er; cases er
                | ok z =>
                  rw [q2] at er
                  simp only at er
                  refine tev_ok E4 q2 fun v H5 G s5 E5 r5 o5 => ?_
                  obtain ⟨z, mz⟩ := z
                  simp only at er r5
                  split at er
                  · rename_i yk
                    cases r5 with
                    | i r5 =>
                      cases qk : keyI yk with
                      | none => rw [qk] at er; cases er
                      | some k =>
                        rw [qk] at er
                        simp only at er
                        cases q3 : vf ρ1 with
                        | bad => rw [q3] at er; cases er
                        | ex c p => rw [q3] at er; cases er
                        | ok w =>
                          rw [q3] at er
                          simp only at er
                          refine tev_ok E5 q3 fun u H6 G6 s6 E6 r6 o6 => ?_
                          obtain ⟨w, mw⟩ := w
                          simp only at er r6
                          split at er
                          · rename_i zv
                            cases r6 with
                            | i r6 =>
                              have hD6 : H6 D = some (.dK kvs) := s6 _ _ (s5 _ _ hD4)
                              have S6 : Same Hc H6 := S4.trans (s5.trans s6)
                              have ra6 : RpK K H6 kvs acc := ra.mono (same_tkeep S6)
                              refine ⟨kvs, k, r5.key qk, hD6, by rw [slEq, ra6.length]; omega, items.length - (i + 1), by omega, rfl, hlt, fun b o e => ?_, putK kvs k u, kPut acc k zv, upd_same, (ra6.put r6 k).mono (upd_tkeep' (mb_k hD6)), by have := kPut_len acc k zv; omega, er⟩
                              have nb : b ≠ D := fun z => by rw [z, hD] at e; cases e
                              rw [upd_ne nb]
                              exact S6 _ _ (sc _ _ e)
                          · cases er
                  · cases er
        · left
          have ei : i = items.length := by omega
          subst ei
          rw [List.drop_length] at er
          cases er
          refine ⟨wk.stop _ Hc kp rfl, h _ Hc [D] (s1.trans sc) (.k hDc ra) (.new E1 (fun a ha => ?_) fun a G e => ?_)⟩
          · cases List.mem_singleton.mp ha
            exact ⟨hD, mb_k hDc⟩
          · cases e; intro z; cases z
    · rw [if_neg hlen] at h; exact h.elim
section
variable {X : Cx}
theorem ev_dc {kx vx tg iter : Expr} {ifs : List Expr} {scope : Scope} {own : List (Str × Nat)} {pos : Pos} {src : FI} {t : TF} {tt : FT} {kf vf : FE} (hc : X.calm = true) (hN : X.N.Nodup) (hi : PIv X tg iter src) (ok : BlkOk X.N X.env.scope scope own)
    (hg : ∀ (s : Shared) (H : Hp) (C : Addr) (cl : List (Str × Addr)) (fp : List Addr), PGv (X.blk s H scope (compEnvC scope cl C X.env) fp) (own.map (·.2)) tg t)
    (ht : ∀ (s : Shared) (H : Hp) (C : Addr) (cl : List (Str × Addr)) (fp : List Addr), PTsv (X.blk s H scope (compEnvC scope cl C X.env) fp) ifs tt)
    (hk : ∀ (s : Shared) (H : Hp) (C : Addr) (cl : List (Str × Addr)) (fp : List Addr), PEv (X.blk s H scope (compEnvC scope cl C X.env) fp) kx kf)
    (he : ∀ (s : Shared) (H : Hp) (C : Addr) (cl : List (Str × Addr)) (fp : List Addr), PEv (X.blk s H scope (compEnvC scope cl C X.env) fp) vx vf) (hs : ∀ x, foldedSetIterable iter X.env x = pure x := by intro _; rfl) :
    PEv X (.DictComp kx vx [⟨tg, iter, ifs, 0⟩] scope pos) (eDC src (own.map (·.2)) t tt kf vf) := fun W tk =>
  PE.imp (pe_dc (g := tgv X.K (List.map (fun x : Str × Nat => x.2) own) t) hc hN (hi W tk) ok hg (fun s H C cl fp => ht s H C cl fp _ takes0) (fun s H C cl fp => hk s H C cl fp _ takes0) (fun s H C cl fp => he s H C cl fp _ takes0) hs) fun σ H Q h => dc_imp σ H Q h
end
section
variable {X : Cx} {pos : Pos}
/-- y = {..}, y a local that no comprehension captures -/
theorem ps_setDc {i : Nat} {y : Str} {py : Pos} {kx vx tg iter : Expr} {ifs : List Expr} {scope : Scope} {own : List (Str × Nat)} {pos spos : Pos} {wi : TI} {g : TG} {tt : TT} {tk tv : TE} (hc : X.calm = true) (hN : X.N.Nodup) (hy : X.N[i]? = some y) (hyl : X.env.scope.names.lookup y = some .local)
    (hsw : swapsWith (.DictComp kx vx [⟨tg, iter, ifs, 0⟩] scope pos) (some (.Name y py)) spos.line X.env = pure true) (hi : PI X tg iter wi) (ok : BlkOk X.N X.env.scope scope own)
    (hg : ∀ (s : Shared) (H : Hp) (C : Addr) (cl : List (Str × Addr)) (fp : List Addr), PG (X.blk s H scope (compEnvC scope cl C X.env) fp) tg g) (ht : ∀ (s : Shared) (H : Hp) (C : Addr) (cl : List (Str × Addr)) (fp : List Addr), PTs (X.blk s H scope (compEnvC scope cl C X.env) fp) ifs tt)
    (hk : ∀ (s : Shared) (H : Hp) (C : Addr) (cl : List (Str × Addr)) (fp : List Addr), PE (X.blk s H scope (compEnvC scope cl C X.env) fp) kx tk)
    (he : ∀ (s : Shared) (H : Hp) (C : Addr) (cl : List (Str × Addr)) (fp : List Addr), PE (X.blk s H scope (compEnvC scope cl C X.env) fp) vx tv) (hs : ∀ x, foldedSetIterable iter X.env x = pure x := by intro _; rfl) :
    PS X (.Assign [.Name y py] (.DictComp kx vx [⟨tg, iter, ifs, 0⟩] scope pos) spos) (tAsg (tDc wi g tt tk tv (own.map (·.2))) (gName i)) := by
  refine ⟨fun pins s σ H D I h => ?_⟩
  rw [exec_Assign_Name_used _ _ _ _ hsw]
  refine wpAny_bind (wpAny_standAt (wpAny_bind ?_))
  show wpAny _ X.A (do let _ ← comprehension (.DictComp kx vx [⟨tg, iter, ifs, 0⟩] scope pos) scope X.env (firstIterPos [⟨tg, iter, ifs, 0⟩] pos) newDict false (eval iter X.env) (some (assign (.Name y py) X.env))) _ _ s
  have h : tDc wi g tt tk tv (own.map (·.2)) σ H (fun x H1 => gName i x σ H1 D.nx) := h
  refine wpAny_bind (thn (dc_core (Qf := fun _ s' => SP X pins D .next s') hc hN I hi ok hg ht hk he hs h fun L C s' m H' I' q hn f => ?_) fun _ s' hq => wpAny_pure (wpAny_pure hq))
  show wpAny _ _ (assign (.Name y py) X.env (.ref L)) _ _ _
  refine wpAny_assign_Name (store_ok2 (v := V.ref L) I' hN hy (.inl hyl) rfl (fun s2 I2 ⟨a, sb, ha⟩ => ?_) (.inr hyl))
  obtain ⟨f0, f1, f2, f3, f4, f5⟩ := f
  have haC : C ≠ a := by
    rcases ha with z | z
    · rw [z]; exact f1
    · exact fun e => f4 y a z e.symm
  refine ⟨m, hn.sameBut sb haC, fun h3 sb3 => ?_⟩
  exact ⟨_, H', I2.turned (t' := s2.toks) (fun b o hb e => (sb3.2 b hb).trans e) f0 f1 f3 f4 f5, q⟩
theorem sw_trueD {kx vx : Expr} {gs : List Comprehension} {scope : Scope} {pos py : Pos} {y : Str} {l : Nat} {env : PySem.Env} (hk : env.scope.kind = .function) (hy : env.scope.names.lookup y = some .local) (hl : (py.line == pos.line) = true)
    (ha : (scope.names.any fun (n, k) => n == y && (k == .local || k == .cell)) = false) : swapsWith (.DictComp kx vx gs scope pos) (some (.Name y py)) l env = pure true := by
  have ky : env.kindOf y = some .local := hy
  have hb : env.blockKind = .function := by unfold Env.blockKind; rw [hk]; rfl
  unfold swapsWith
  simp only [hb, ky, ha, Expr.pos, hl]
  rfl
theorem sv_setDC {i : Nat} {y : Str} {py : Pos} {kx vx tg iter : Expr} {ifs : List Expr} {scope : Scope} {own : List (Str × Nat)} {pos' : Pos} {src : FI} {tc : TF} {tt : FT} {kf vf : FE} (hc : X.calm = true) (hN : X.N.Nodup) (hy : X.N[i]? = some y) (hyl : X.env.scope.names.lookup y = some .local)
    (hsw : swapsWith (.DictComp kx vx [⟨tg, iter, ifs, 0⟩] scope pos') (some (.Name y py)) pos.line X.env = pure true) (hi : PIv X tg iter src) (ok : BlkOk X.N X.env.scope scope own)
    (hg : ∀ (s : Shared) (H : Hp) (C : Addr) (cl : List (Str × Addr)) (fp : List Addr), PGv (X.blk s H scope (compEnvC scope cl C X.env) fp) (own.map (·.2)) tg tc)
    (ht : ∀ (s : Shared) (H : Hp) (C : Addr) (cl : List (Str × Addr)) (fp : List Addr), PTsv (X.blk s H scope (compEnvC scope cl C X.env) fp) ifs tt)
    (hk : ∀ (s : Shared) (H : Hp) (C : Addr) (cl : List (Str × Addr)) (fp : List Addr), PEv (X.blk s H scope (compEnvC scope cl C X.env) fp) kx kf)
    (he : ∀ (s : Shared) (H : Hp) (C : Addr) (cl : List (Str × Addr)) (fp : List Addr), PEv (X.blk s H scope (compEnvC scope cl C X.env) fp) vx vf) (hs : ∀ x, foldedSetIterable iter X.env x = pure x := by intro _; rfl) :
    PSv X (.Assign [.Name y py] (.DictComp kx vx [⟨tg, iter, ifs, 0⟩] scope pos') pos) (sAsg (eDC src (own.map (·.2)) tc tt kf vf) (tName i)) := fun W tk =>
  PS.imp (ps_setDc (g := tgv X.K (List.map (fun x : Str × Nat => x.2) own) tc) (tt := ttv X.K X.mg (fun _ _ _ _ => False) tt) (tk := tev X.K X.mg (fun _ _ _ _ => False) kf) (tv := tev X.K X.mg (fun _ _ _ _ => False) vf) hc hN hy hyl hsw (hi W tk) ok hg (fun s H C cl fp => ht s H C cl fp _ takes0) (fun s H C cl fp => hk s H C cl fp _ takes0) (fun s H C cl fp => he s H C cl fp _ takes0) hs) fun D σ H h => by
    have q := asg_imp (vs := [i]) D σ H h
    show tDc _ _ _ _ _ _ σ H _
    refine dc_imp (mg := X.mg) (W := W) (tt := tt) (kf := kf) (vf := vf) σ H _ ?_
    obtain ⟨H0', Pz', T', ρ', Fs', E', q⟩ := q
    refine ⟨H0', Pz', T', ρ', Fs', E', ?_⟩
    cases e1 : eDC src (own.map (·.2)) tc tt kf vf ρ' with
    | bad => rw [e1] at q; exact q
    | ex c p => rw [e1] at q; exact q
    | ok z =>
      rw [e1] at q
      intro v H1 F s1 r1 o1
      obtain ⟨H2, Pz2, T2, ρ2, Fs2, z2, F2, E2, r2, o2, hm, q2⟩ := q v H1 F s1 r1 o1
      unfold tName at q2
      by_cases hl : i < ρ2.length
      · rw [if_pos hl] at q2
        refine q2 _ H1 _ (fun _ _ z => z) (E2.set hl r2 (o2.nrm r2) ?_) ⟨by rw [List.length_set], fun j hj => ?_⟩
        · cases z2 with
          | mk d m => cases d <;> first | exact hm | (intro z; cases z)
        · have ne : i ≠ j := fun z => hj (by rw [← z]; exact List.mem_singleton.mpr rfl)
          rw [List.getElem?_set_ne ne, List.getElem?_set_ne ne, stF_ne (fun z => ne z.symm)]
          exact ⟨rfl, rfl, rfl⟩
      · rw [if_neg hl] at q2; exact q2.elim
end
/-! ## sorted(set(a tuple of integers)) -/
/-- into its place, once -/
def insU (x : Int) : List Int → List Int
  | [] => [x]
  | y :: r => if x < y then x :: y :: r else if x = y then y :: r else y :: insU x r
/-- ascending, each once -/
def sortU (xs : List Int) : List Int := xs.foldr insU []
theorem insU_mem (x z : Int) : ∀ ys : List Int, z ∈ insU x ys ↔ z = x ∨ z ∈ ys
  | [] => by simp [insU]
  | y :: r => by
    have ih := insU_mem x z r
    unfold insU
    split
    · simp
    · split
      · rename_i h1 h2
        subst h2
        simp
      · simp only [List.mem_cons, ih]
        constructor
        · rintro (h | h | h) <;> simp [h]
        · rintro (h | h | h) <;> simp [h]
theorem insU_sorted (x : Int) : ∀ ys : List Int, ys.Pairwise (· < ·) → (insU x ys).Pairwise (· < ·)
  | [], _ => by simp [insU]
  | y :: r, h => by
    obtain ⟨h1, h2⟩ := List.pairwise_cons.mp h
    unfold insU
    split
    · rename_i q
      refine List.pairwise_cons.mpr ⟨fun z hz => ?_, h⟩
      rcases List.mem_cons.mp hz with e | hz
      · rw [e]; exact q
      · have := h1 z hz; omega
    · split
      · exact h
      · rename_i q1 q2
        refine List.pairwise_cons.mpr ⟨fun z hz => ?_, insU_sorted x r h2⟩
        rcases (insU_mem x z r).mp hz with e | hz
        · omega
        · exact h1 z hz
theorem sortU_mem (z : Int) : ∀ xs : List Int, z ∈ sortU xs ↔ z ∈ xs
  | [] => by simp [sortU]
  | x :: r => by
    have ih := sortU_mem z r
    unfold sortU at *
    rw [List.foldr_cons, insU_mem, ih, List.mem_cons]
theorem sortU_sorted : ∀ xs : List Int, (sortU xs).Pairwise (· < ·)
  | [] => List.Pairwise.nil
  | x :: r => insU_sorted x _ (sortU_sorted r)
/-- a row that ascends is told by what it holds -/
theorem asc_unique : ∀ {a b : List Int}, a.Pairwise (· < ·) → b.Pairwise (· < ·) → (∀ z, z ∈ a ↔ z ∈ b) → a = b
  | [], [], _, _, _ => rfl
  | [], y :: b, _, _, h => nomatch (h y).mpr List.mem_cons_self
  | x :: a, [], _, _, h => nomatch (h x).mp List.mem_cons_self
  | x :: a, y :: b, h1, h2, h => by
    obtain ⟨p1, q1⟩ := List.pairwise_cons.mp h1
    obtain ⟨p2, q2⟩ := List.pairwise_cons.mp h2
    have e : x = y := by
      rcases List.mem_cons.mp ((h x).mp List.mem_cons_self) with e | e
      · exact e
      · rcases List.mem_cons.mp ((h y).mpr List.mem_cons_self) with e' | e'
        · exact e'.symm
        · have := p1 y e'; have := p2 x e; omega
    subst e
    congr 1
    refine asc_unique q1 q2 fun z => ⟨fun hz => ?_, fun hz => ?_⟩
    · rcases List.mem_cons.mp ((h z).mp (List.mem_cons_of_mem _ hz)) with e | e
      · have := p1 z hz; omega
      · exact e
    · rcases List.mem_cons.mp ((h z).mpr (List.mem_cons_of_mem _ hz)) with e | e
      · have := p2 z hz; omega
      · exact e
def sortSet : DV × Md → R (DV × Md)
  | (.i (.tup xs), _) => (match ints? xs with
    | some ns => if ns.length < 64 then .ok (.l ((sortU ns).map .int), .own) else .bad
    | none => .bad)
  | _ => .bad
def eSortSet (f : FE) : FE := fun ρ => (f ρ).bind sortSet
/-- len(set(..)) of integers -/
def lenSetT : DV × Md → R (DV × Md)
  | (.i (.tup xs), _) => (match ints? xs with
    | some ns => if ns.length < 64 then ok1 (.int (sortU ns).length) else .bad
    | none => .bad)
  | _ => .bad
section
variable {X : Cx}
theorem ev_sortSet {a : Expr} {f : FE} {p p2 q pos : Pos} (hc : X.calm = true) (hg : Gl X "sorted") (hm : X.mg "sorted" = none) (hg2 : Gl X "set") (hm2 : X.mg "set" = none) (ha : PEv X a f)
    (na : starEach [a] X.env = (false, eval a X.env) :: starEach [] X.env := by rfl) : PEv X (.Call (.Name "sorted" p) [.Call (.Name "set" p2) [a] [] q] [] pos) (eSortSet f) := fun W tk => by
  refine ⟨fun pins s σ H Q I h => ?_⟩
  obtain ⟨H0, Pz, T, ρ, Fs, E, h⟩ := h
  refine Call_ (ld_blt I hg hm (show bootBuiltins "sorted" = some (.builtin "sorted") from by decide +kernel) ?_)
  refine PyProof.Rows.callWith_builtin1 (PyProof.Rows.args_cons ?_ rfl) rfl rfl
  refine Call_ (ld_blt I hg2 hm2 PyProof.Rows.boot_set ?_)
  have t : tev X.K X.mg W f σ H fun x H1 => ∃ (l : Addr) (ns : List Int), x = V.ref l ∧ SqT X.K H1 l (ns.map V.int) ∧ ns.length < 64 ∧ ∀ p, H1 p = none → Q (.ref p) (upd H1 p (.lst ((sortU ns).map V.int))) := by
    cases e1 : f ρ with
    | bad => simp only [eSortSet, e1, R.bind] at h
    | ex c p => simp only [eSortSet, e1, R.bind] at h; exact tev_ex E e1 h
    | ok x =>
      simp only [eSortSet, e1, R.bind] at h
      refine tev_ok E e1 fun v H1 F s1 E1 r1 o1 => ?_
      obtain ⟨x, m⟩ := x
      unfold sortSet at h
      split at h
      · rename_i z q
        split at q
        · rename_i q0
          cases q0
          split at q
          · rename_i ns hn
            split at q
            · rename_i h64
              cases q
              cases r1 with
              | i r =>
                cases r with
                | tup s t =>
                  rw [ints?_some hn] at t
                  rw [t.ints] at s
                  exact ⟨_, ns, rfl, SqT.of s, h64, fun p hp => h _ _ _ (s1.trans (same_upd hp)) (new_lst hp (rp_ints _)) (new_ok E1 hp)⟩
            · cases q
          · cases q
        · cases q
      · rename_i c p q
        exfalso
        split at q
        · split at q
          · split at q <;> cases q
          · cases q
        · cases q
      · exact h.elim
  refine PyProof.Rows.callWith_type1 (PyProof.Rows.args_cons (thn ((ha W tk).run pins s σ H _ I t) fun v s1 ⟨x, H1, I1, r1, q1⟩ => PyProof.Rows.args_nil ?_) na) na rfl
  obtain ⟨l, ns, rfl, hq, h1, q1⟩ := q1
  cases r1
  obtain ⟨its, r, pl, hz⟩ := I1.tuple hq
  have hn : H1 s1.heap.objs.size = none := I1.hok.fresh (Nat.le_refl _)
  refine call_set_tupI ns (I1.ok.hd hc) pl (by simpa using r.ints) (by unfold scanBound; omega) fun h' tk2 c R hcl k => PyProof.Rows.args_nil ?_
  have I2 : Inv X pins σ (upd H1 s1.heap.objs.size (SetO X.w s1.heap.objs.size (fun j => decide (j ∈ ns)) c)) { s1 with heap := h', toks := tk2 } := I1.laid (t' := tk2) k (Nat.le_refl _) (setO_new R)
  have I3 : Inv X pins σ H1 { s1 with heap := h', toks := tk2 } := I1.kept fun b o e => k b o e
  refine sorted_set R (I2.ok.hd hc) (by omega) fun s' p out c2 ns2 k2 g o hp hg2 hi hs hm2 hl => ?_
  generalize ({ s1 with heap := h', toks := tk2 } : Shared) = s2 at I3 k2 g o hp ⊢
  have es : ns2 = sortU ns := asc_unique hs (sortU_sorted ns) fun z => by rw [hm2 z, sortU_mem, decide_eq_true_eq]
  subst es
  have hlen : ((sortU ns).map V.int).length ≤ sizeLine := by rw [List.length_map, hl, sizeLine_eq]; omega
  have hnp : H1 p = none := I3.hok.fresh hp
  have J : Inv X pins σ (upd H1 p (.lst ((sortU ns).map V.int))) { s2 with heap := s'.heap, gens := s'.gens, drawn := s'.drawn, toks := s'.toks } :=
    I3.call (ch := []) (Un.laid k2 hp hnp) (I3.hok.laid k2 hp ⟨hlen, out.toList, c2, vals_of_ints hi, hg2⟩) (by rw [g]; exact I3.bare) (fun _ z => nomatch z)
  have e : s' = { s2 with heap := s'.heap, gens := s'.gens, drawn := s'.drawn, toks := s'.toks } := by
    cases s'
    cases s2
    cases o
    rfl
  rw [e]
  exact ⟨.ref p, _, J, rfl, q1 p hnp⟩
end
end L2.Pv
namespace L2.Pv
open PySem PySem.Spec PyProof.Rows
/-! ## what is never reached: nothing is said of it -/
def sBad : FS := fun _ => .bad
def eBad : FE := fun _ => .bad
section
variable {X : Cx}
theorem sv_bad {s : Stmt} : PSv X s sBad := fun W tk => ⟨fun pins sh σ H D I h => by
  obtain ⟨H0, Pz, T, ρ, Fs, E, h⟩ := h
  exact h.elim⟩
theorem ev_bad {e : Expr} : PEv X e eBad := fun W tk => ⟨fun pins sh σ H Q I h => by
  obtain ⟨H0, Pz, T, ρ, Fs, E, h⟩ := h
  exact h.elim⟩
end
end L2.Pv

namespace L2.Pv
open PySem PySem.Spec PyProof.Rows
/-! evaluating: == of any plain values -/
mutual
theorem eqv_self : ∀ x : IV, PyData.eqv x.py x.py = true
  | .non => rfl
  | .bl b => by show (b == b) = true; simp
  | .int i => by show (i == i) = true; simp
  | .str s => by show (s == s) = true; simp
  | .tup xs => eqvs_self xs
theorem eqvs_self : ∀ xs : List IV, PyData.eqvAll (IV.pys xs) (IV.pys xs) = true
  | [] => rfl
  | x :: xs => by
    show (PyData.eqv x.py x.py && PyData.eqvAll (IV.pys xs) (IV.pys xs)) = true
    rw [eqv_self x, eqvs_self xs] <;> rfl
end
def IV.same (x y : IV) : Bool := PyData.eqv x.py y.py
def sameAll (xs ys : List IV) : Bool := PyData.eqvAll (IV.pys xs) (IV.pys ys)
theorem same_refl (x : IV) : x.same x = true := eqv_self x
theorem eq_iv {x y : IV} (m m' : Md) (hx : shp (.i x) = true) (hy : shp (.i y) = true) : cEq (.i x, m) (.i y, m') = .ok (.i (.bl (x.same y)), .own) := by
  unfold cEq
  rw [hx, hy] <;> rfl
theorem ne_iv {x y : IV} (m m' : Md) (hx : shp (.i x) = true) (hy : shp (.i y) = true) : cNe (.i x, m) (.i y, m') = .ok (.i (.bl (!x.same y)), .own) := by
  unfold cNe
  rw [hx, hy] <;> rfl
theorem eq_refl {x : IV} {m m' : Md} (hx : shp (.i x) = true) : cEq (.i x, m) (.i x, m') = .ok (.i (.bl true), .own) := by
  rw [eq_iv m m' hx hx, same_refl]
theorem ne_refl {x : IV} {m m' : Md} (hx : shp (.i x) = true) : cNe (.i x, m) (.i x, m') = .ok (.i (.bl false), .own) := by
  rw [ne_iv m m' hx hx, same_refl] <;> rfl
@[simp] theorem same_int (a b : Int) : IV.same (.int a) (.int b) = decide (a = b) := by
  show (a == b) = _
  by_cases h : a = b <;> simp [h]
@[simp] theorem same_str (a b : Str) : IV.same (.str a) (.str b) = (a == b) := rfl
@[simp] theorem same_non : IV.same .non .non = true := rfl
@[simp] theorem same_non_tup (xs : List IV) : IV.same .non (.tup xs) = false := rfl
@[simp] theorem same_tup_non (xs : List IV) : IV.same (.tup xs) .non = false := rfl
@[simp] theorem same_tup (xs ys : List IV) : IV.same (.tup xs) (.tup ys) = sameAll xs ys := rfl
@[simp] theorem sameAll_nil : sameAll [] [] = true := rfl
@[simp] theorem sameAll_nc (y : IV) (ys : List IV) : sameAll [] (y :: ys) = false := rfl
@[simp] theorem sameAll_cn (x : IV) (xs : List IV) : sameAll (x :: xs) [] = false := rfl
@[simp] theorem sameAll_cons (x y : IV) (xs ys : List IV) : sameAll (x :: xs) (y :: ys) = (x.same y && sameAll xs ys) := rfl
/-- a row of plain values in a list: in, by what is the same -/
theorem in_ivs (neg : Bool) (x : IV) (xs : List IV) (m m' : Md) (hx : shp (.i x) = true) (hy : shp (.i (.tup xs)) = true) : cIn neg (.i x, m) (.i (.tup xs), m') = .ok (.i (.bl (if neg then !(xs.any fun z => z.same x) else xs.any fun z => z.same x)), .own) := by
  unfold cIn
  have e : inD (.i x) (IV.pys xs) = xs.any fun z => z.same x := by
    unfold inD
    rw [pys_map, List.any_map]
    rfl
  simp only [hx, hy, e]
  rfl
/-! dicts, tuples that hold lists: looked at -/
@[simp] theorem look_ko (x : List (Key × IV)) : look (some (some (.k x, .own))) = .ok (.k x, .tmp) := rfl
@[simp] theorem look_kl (x : List (Key × IV)) : look (some (some (.k x, .loc))) = .ok (.k x, .loc) := rfl
@[simp] theorem look_kb (x : List (Key × IV)) : look (some (some (.k x, .bor))) = .ok (.k x, .bor) := rfl
@[simp] theorem look_ho (x : List (List Key × IV)) : look (some (some (.h x, .own))) = .ok (.h x, .tmp) := rfl
@[simp] theorem look_hl (x : List (List Key × IV)) : look (some (some (.h x, .loc))) = .ok (.h x, .loc) := rfl
@[simp] theorem look_hb (x : List (List Key × IV)) : look (some (some (.h x, .bor))) = .ok (.h x, .bor) := rfl
@[simp] theorem look_tl (x : List DV) : look (some (some (.t x, .loc))) = .ok (.t x, .loc) := rfl
@[simp] theorem look_tb (x : List DV) : look (some (some (.t x, .bor))) = .ok (.t x, .bor) := rfl
@[simp] theorem tName_k (i : Nat) (x : List (Key × IV)) (m : Md) (ρ : Env) : tName i (.k x, m) ρ = if i < ρ.length then some (ρ.set i (some (.k x, m))) else none := rfl
@[simp] theorem tName_h (i : Nat) (x : List (List Key × IV)) (m : Md) (ρ : Env) : tName i (.h x, m) ρ = if i < ρ.length then some (ρ.set i (some (.h x, m))) else none := rfl
@[simp] theorem tName_t (i : Nat) (x : List DV) (m : Md) (ρ : Env) : tName i (.t x, m) ρ = if i < ρ.length then some (ρ.set i (some (.t x, m))) else none := rfl
@[simp] theorem retOk_t (x : List DV) : retOk (.t x, .loc) = true := rfl
@[simp] theorem retOk_k (x : List (Key × IV)) : retOk (.k x, .own) = true := rfl
@[simp] theorem retV_k (x : List (Key × IV)) : retV (some (some (.k x, .own))) = some (.k x) := rfl
/-! dicts -/
@[simp] theorem opLen_k (x : List (Key × IV)) (m : Md) : opLen (.k x, m) = .ok (.i (.int x.length), .own) := rfl
@[simp] theorem keyI_int (i : Int) : keyI (.int i) = some (.inl i) := rfl
@[simp] theorem keyI_str (x : Str) : keyI (.str x) = some (.inr x) := rfl
theorem in_k (neg : Bool) {x : IV} {k : Key} (kvs : List (Key × IV)) (m m' : Md) (h : keyI x = some k) : cIn neg (.i x, m) (.k kvs, m') = .ok (.i (.bl (if neg then !(kGet kvs k).isSome else (kGet kvs k).isSome)), .own) := by
  unfold cIn
  simp only [h]
theorem kGet_put {κ : Type} [DecidableEq κ] (kvs : List (κ × IV)) (k j : κ) (y : IV) : kGet (kPut kvs k y) j = if j = k then some y else kGet kvs j := by
  have any : ∀ kvs : List (κ × IV), (kvs.any fun p => decide (p.1 = k)) = (kGet kvs k).isSome := by
    intro kvs
    induction kvs with
    | nil => rfl
    | cons p r ih =>
      rw [List.any_cons]
      by_cases e : p.1 = k
      · rw [kGet_pos e, decide_eq_true e] <;> rfl
      · rw [kGet_neg e, decide_eq_false e, ih] <;> rfl
  have mp : ∀ kvs : List (κ × IV), kGet (kvs.map fun p => if p.1 = k then (p.1, y) else p) j = (kGet kvs j).map fun x => if j = k then y else x := by
    intro kvs
    induction kvs with
    | nil => rfl
    | cons p r ih =>
      rw [List.map_cons]
      by_cases h : p.1 = k
      · rw [if_pos h]
        by_cases e : p.1 = j
        · rw [kGet_pos (p := (p.1, y)) e, kGet_pos e, Option.map_some, if_pos (e.symm.trans h)]
        · rw [kGet_neg (p := (p.1, y)) e, kGet_neg e, ih]
      · rw [if_neg h]
        by_cases e : p.1 = j
        · rw [kGet_pos (p := p) e, kGet_pos e, Option.map_some, if_neg (fun z => h (e.trans z))]
        · rw [kGet_neg (p := p) e, kGet_neg e, ih]
  have sn : ∀ kvs : List (κ × IV), kGet kvs k = none → kGet (kvs ++ [(k, y)]) j = if j = k then some y else kGet kvs j := by
    intro kvs
    induction kvs with
    | nil =>
      intro _
      by_cases e : k = j
      · rw [if_pos e.symm]; exact kGet_pos (p := (k, y)) e
      · rw [if_neg (fun z => e z.symm)]; exact kGet_neg (p := (k, y)) e
    | cons p r ih =>
      intro hn
      rw [List.cons_append]
      have hk : ¬ p.1 = k := fun z => by rw [kGet_pos z] at hn; cases hn
      rw [kGet_neg hk] at hn
      by_cases e : p.1 = j
      · rw [kGet_pos e, kGet_pos e, if_neg (fun z => hk (e.trans z))]
      · rw [kGet_neg e, kGet_neg e, ih hn]
  unfold kPut
  by_cases a : (kvs.any fun p => decide (p.1 = k)) = true
  · rw [if_pos a, mp]
    rw [any] at a
    by_cases e : j = k
    · obtain ⟨x, hx⟩ := Option.isSome_iff_exists.mp a
      rw [if_pos e, e, hx, Option.map_some, if_pos rfl]
    · rw [if_neg e]
      cases kGet kvs j with
      | none => rfl
      | some x => rw [Option.map_some, if_neg e]
  · rw [if_neg a]
    refine sn kvs ?_
    rw [any] at a
    cases q : kGet kvs k with
    | none => rfl
    | some x => rw [q] at a; exact (a rfl).elim
/-- {f x: g x for x in xs}: a fold -/
theorem dc_map {α : Type} {src : FI} {vs : List Nat} {t : TF} {tt : FT} {kf vf : FE} {ρ : Env} {m : Md} {xs : List α} {it : α → DV × Md} (f : α → Key) (g : α → IV)
    (hs : src ρ = .ok (xs.map it, m)) (hl : xs.length ≤ 16777216) (h : ∀ x ∈ xs, ∃ ρ1 yk mk mv, t (it x) (wipeE ρ vs) = some ρ1 ∧ tt ρ1 = .ok true ∧ kf ρ1 = .ok (.i yk, mk) ∧ keyI yk = some (f x) ∧ vf ρ1 = .ok (.i (g x), mv)) :
    eDC src vs t tt kf vf ρ = .ok (.k (xs.foldl (fun acc x => kPut acc (f x) (g x)) []), .own) := by
  unfold eDC
  rw [hs]
  simp only [R_ok, List.length_map, if_pos hl]
  have go : ∀ (ys : List α), (∀ x ∈ ys, x ∈ xs) → ∀ acc, dcF t tt kf vf (wipeE ρ vs) (ys.map it) acc = .ok (ys.foldl (fun acc x => kPut acc (f x) (g x)) acc) := by
    intro ys
    induction ys with
    | nil => intro _ acc; rfl
    | cons y ys ih =>
      intro hy acc
      obtain ⟨ρ1, yk, mk, mv, h1, h2, h3, h4, h5⟩ := h y (hy y List.mem_cons_self)
      rw [List.map_cons]
      unfold dcF
      simp only [h1, h2, bindB, if_true, h3, h4, h5]
      exact ih (fun x hx => hy x (List.mem_cons_of_mem _ hx)) _
  rw [go xs (fun _ h => h) []]
  rfl
theorem kGet_fold {α κ : Type} [DecidableEq κ] (f : α → κ) (g : α → IV) (k : κ) : ∀ (xs : List α) (acc : List (κ × IV)), (kGet (xs.foldl (fun acc x => kPut acc (f x) (g x)) acc) k).isSome = ((xs.any fun x => decide (k = f x)) || (kGet acc k).isSome)
  | [], acc => by simp
  | x :: xs, acc => by
    rw [List.foldl_cons, kGet_fold f g k xs, kGet_put, List.any_cons]
    by_cases e : k = f x
    · rw [if_pos e, decide_eq_true e]; simp
    · rw [if_neg e, decide_eq_false e]; simp
theorem inD_iL (x : Int) (xs : List Int) : inD (.i (.int x)) (IV.pys (iL xs)) = decide (x ∈ xs) := by
  unfold inD
  rw [pys_map]
  induction xs with
  | nil => rfl
  | cons y xs ih =>
    unfold iL at ih ⊢
    rw [List.map_cons, List.map_cons, List.any_cons, ih]
    show ((y == x) || _) = _
    have h3 : (y == x) = decide (x = y) := by
      by_cases h1 : x = y
      · rw [decide_eq_true h1, h1]; simp
      · rw [decide_eq_false h1]
        exact beq_false_of_ne fun z => h1 z.symm
    rw [h3]
    by_cases h1 : x = y <;> by_cases h2 : x ∈ xs <;> simp [h1, h2]
theorem in_iT (neg : Bool) (x : Int) (xs : List Int) (m m' : Md) : cIn neg (.i (.int x), m) (.i (.tup (iL xs)), m') = .ok (.i (.bl (if neg then !decide (x ∈ xs) else decide (x ∈ xs))), .own) := by
  have e2 : shp (.i (.tup (iL xs))) = true := shp_of (fit_iL xs)
  unfold cIn
  simp only [show shp (.i (.int x)) = true from rfl, e2, inD_iL]
  rfl
theorem in_iLst (neg : Bool) (x : Int) (xs : List Int) (m m' : Md) : cIn neg (.i (.int x), m) (.l (iL xs), m') = .ok (.i (.bl (if neg then !decide (x ∈ xs) else decide (x ∈ xs))), .own) := by
  have e2 : shp (.l (iL xs)) = true := shp_l (n := 0) fun y hy => by
    obtain ⟨r, _, rfl⟩ := List.mem_map.mp hy
    exact fit_int r
  unfold cIn
  simp only [show shp (.i (.int x)) = true from rfl, e2, inD_iL]
  rfl
theorem shp_iLst (xs : List Int) : shp (.l (iL xs)) = true := shp_l (n := 0) fun y hy => by
  obtain ⟨r, _, rfl⟩ := List.mem_map.mp hy
  exact fit_int r
@[simp] theorem eq_lst (a b : List Int) (m m' : Md) : cEq (.l (iL a), m) (.l (iL b), m') = .ok (.i (.bl (decide (a = b))), .own) := by
  unfold cEq
  rw [shp_iLst, shp_iLst]
  show ok1 (.bl (PyData.eqvAll (IV.pys (iL a)) (IV.pys (iL b)))) = _
  rw [eqvAll_iL]
@[simp] theorem ne_lst (a b : List Int) (m m' : Md) : cNe (.l (iL a), m) (.l (iL b), m') = .ok (.i (.bl (!decide (a = b))), .own) := by
  unfold cNe
  rw [shp_iLst, shp_iLst]
  show ok1 (.bl (!PyData.eqvAll (IV.pys (iL a)) (IV.pys (iL b)))) = _
  rw [eqvAll_iL]
theorem eqvAll_rL : ∀ a b : List (List Int), PyData.eqvAll (IV.pys (rL a)) (IV.pys (rL b)) = decide (a = b)
  | [], [] => rfl
  | [], _ :: _ => rfl
  | _ :: _, [] => rfl
  | x :: a, y :: b => by
    have ih := eqvAll_rL a b
    show (PyData.eqvAll (IV.pys (iL x)) (IV.pys (iL y)) && PyData.eqvAll (IV.pys (rL a)) (IV.pys (rL b))) = _
    rw [ih, eqvAll_iL]
    by_cases h1 : x = y <;> by_cases h2 : a = b <;> simp [h1, h2]
theorem shp_rL (a : List (List Int)) : shp (.i (.tup (rL a))) = true := shp_of (n := 2) (fit_tup (n := 1) fun x hx => by
  obtain ⟨r, _, rfl⟩ := List.mem_map.mp hx
  exact fit_iL r)
theorem ne_rL (a b : List (List Int)) (m m' : Md) : cNe (.i (.tup (rL a)), m) (.i (.tup (rL b)), m') = .ok (.i (.bl (!decide (a = b))), .own) := by
  unfold cNe
  rw [shp_rL, shp_rL]
  show ok1 (.bl (!PyData.eqvAll (IV.pys (rL a)) (IV.pys (rL b)))) = _
  rw [eqvAll_rL]
theorem eq_rL (a b : List (List Int)) (m m' : Md) : cEq (.i (.tup (rL a)), m) (.i (.tup (rL b)), m') = .ok (.i (.bl (decide (a = b))), .own) := by
  unfold cEq
  rw [shp_rL, shp_rL]
  show ok1 (.bl (PyData.eqvAll (IV.pys (rL a)) (IV.pys (rL b)))) = _
  rw [eqvAll_rL]
theorem cutL_len {α : Type} (xs : List α) (lo hi : Option Int) : (cutL xs lo hi).length ≤ xs.length := by
  unfold cutL
  rw [List.length_take, List.length_drop]
  omega
theorem insU_len (x : Int) : ∀ ys : List Int, (insU x ys).length ≤ ys.length + 1
  | [] => Nat.le_refl _
  | y :: r => by
    have := insU_len x r
    unfold insU
    split
    · simp
    · split
      · simp
      · simp only [List.length_cons]; omega
theorem sortU_len : ∀ xs : List Int, (sortU xs).length ≤ xs.length
  | [] => Nat.le_refl _
  | x :: r => by
    have h1 := sortU_len r
    have h2 := insU_len x (sortU r)
    show (insU x (sortU r)).length ≤ r.length + 1
    omega
/-- over a list that holds lists, item by item -/
theorem elM_map (m : Md) (xs : List DV) : elM m xs = xs.map fun d => (d, match d with | .i _ => .own | _ => if m = .bor then .bor else .loc) := by
  induction xs with
  | nil => rfl
  | cons d r ih =>
    cases d <;> (rw [List.map_cons, ← ih] <;> rfl)
theorem for_m {t : TF} {b : FS} {D : PD} {xs : List DV} {md : Md} {ρ : Env} (I : Nat → Env → Prop) (h0 : I 0 ρ)
    (hs : ∀ (k : Nat) (hk : k < xs.length) (W : PD) (_ : Hide (I (k + 1)) D W) ρ (m : Md), m ≠ .tmp → I k ρ → (goOn (t (xs[k], m) ρ) b).to W) (he : ∀ ρ, I xs.length ρ → D.nx ρ) : (loopF t b (elM md xs) ρ).to D := by
  rw [elM_map]
  refine for_map xs _ ρ I h0 (fun k hk W hW ρ h => hs k hk W hW ρ _ ?_ h) he
  split
  · intro z; cases z
  · split <;> (intro z; cases z)
@[simp] theorem allI_l (x : List IV) (m : Md) (r : List (DV × Md)) : allI ((.l x, m) :: r) = none := rfl
@[simp] theorem allI_m (x : List DV) (m : Md) (r : List (DV × Md)) : allI ((.m x, m) :: r) = none := rfl
@[simp] theorem allI_t (x : List DV) (m : Md) (r : List (DV × Md)) : allI ((.t x, m) :: r) = none := rfl
@[simp] theorem mdL_nil : mdL [] = .own := rfl
@[simp] theorem mdL_own (x : DV) (r : List (DV × Md)) : mdL ((x, .own) :: r) = mdL r := rfl
@[simp] theorem mdL_loc (x : DV) (r : List (DV × Md)) : mdL ((x, .loc) :: r) = mdL r := rfl
@[simp] theorem mdL_bor (x : DV) (r : List (DV × Md)) : mdL ((x, .bor) :: r) = (match mdL r with
  | .tmp => .tmp
  | _ => .bor) := rfl
@[simp] theorem mdL_tmp (x : DV) (r : List (DV × Md)) : mdL ((x, .tmp) :: r) = .tmp := rfl
@[simp] theorem rgI_iL (a b : Int) : rgI a b = iL ((List.range (b - a).toNat).map fun i : Nat => a + (i : Int)) := by
  unfold rgI iL
  rw [List.map_map] <;> rfl
def tupRg (x y : DV × Md) : R (DV × Md) := match x.1, y.1 with
  | .i (.int a), .i (.int b) => if rgOkB a b then ok1 (.tup (rgI a b)) else .bad
  | _, _ => .bad
def lstRg (x y : DV × Md) : R (DV × Md) := match x.1, y.1 with
  | .i (.int a), .i (.int b) => if rgOkB a b then .ok (.l (rgI a b), .own) else .bad
  | _, _ => .bad
def tupRg1 (x : DV × Md) : R (DV × Md) := match x.1 with
  | .i (.int b) => if rgOkB 0 b then ok1 (.tup (rgI 0 b)) else .bad
  | _ => .bad
def lstRg1 (x : DV × Md) : R (DV × Md) := match x.1 with
  | .i (.int b) => if rgOkB 0 b then .ok (.l (rgI 0 b), .own) else .bad
  | _ => .bad
@[simp] theorem eTupleRg2_ap (f g : FE) (ρ : Env) : eTupleRg2 f g ρ = (f ρ).bind fun x => (g ρ).bind fun y => tupRg x y := rfl
@[simp] theorem eListRg2_ap (f g : FE) (ρ : Env) : eListRg2 f g ρ = (f ρ).bind fun x => (g ρ).bind fun y => lstRg x y := rfl
@[simp] theorem eTupleRg1_ap (f : FE) (ρ : Env) : eTupleRg1 f ρ = (f ρ).bind tupRg1 := rfl
@[simp] theorem eListRg1_ap (f : FE) (ρ : Env) : eListRg1 f ρ = (f ρ).bind lstRg1 := rfl
@[simp] theorem tupRg_int (a b : Int) (m m' : Md) : tupRg (.i (.int a), m) (.i (.int b), m') = if rgOkB a b then .ok (.i (.tup (rgI a b)), .own) else .bad := rfl
@[simp] theorem lstRg_int (a b : Int) (m m' : Md) : lstRg (.i (.int a), m) (.i (.int b), m') = if rgOkB a b then .ok (.l (rgI a b), .own) else .bad := rfl
@[simp] theorem tupRg1_int (b : Int) (m : Md) : tupRg1 (.i (.int b), m) = if rgOkB 0 b then .ok (.i (.tup (rgI 0 b)), .own) else .bad := rfl
@[simp] theorem lstRg1_int (b : Int) (m : Md) : lstRg1 (.i (.int b), m) = if rgOkB 0 b then .ok (.l (rgI 0 b), .own) else .bad := rfl
theorem rgOk_of {a b : Int} (ha : a.natAbs < 4611686018427387904) (hb : b.natAbs < 4611686018427387904) (h : (b - a).toNat ≤ 16777216) : rgOkB a b = true := by
  unfold rgOkB smI
  rw [decide_eq_true (by omega), decide_eq_true (by omega), decide_eq_true h] <;> rfl
/-- x[-1:], x[:-1] -/
theorem cut_last {α : Type} (xs : List α) : cutL xs (some (-1)) none = xs.drop (xs.length - 1) := by
  unfold cutL
  simp only [HT.sIx]
  rw [if_pos (by omega)]
  have : ((-1 + (xs.length : Int)).toNat) = xs.length - 1 := by omega
  rw [this, List.take_of_length_le (by simp)]
theorem cut_init {α : Type} (xs : List α) : cutL xs none (some (-1)) = xs.take (xs.length - 1) := by
  unfold cutL
  simp only [HT.sIx]
  rw [if_pos (by omega)]
  have : ((-1 + (xs.length : Int)).toNat) = xs.length - 1 := by omega
  rw [this]
  simp
/-! comprehensions over any plain values -/
theorem comp_el {src : FI} {vs : List Nat} {t : TF} {tt : FT} {el : FE} {ρ : Env} {m : Md} {xs : List IV} (f : IV → IV)
    (hs : src ρ = .ok (elI xs, m)) (hl : xs.length ≤ 16777216) (h : ∀ x ∈ xs, ∃ ρ1, t (.i x, .own) (wipeE ρ vs) = some ρ1 ∧ tt ρ1 = .ok true ∧ el ρ1 = .ok (.i (f x), .own)) :
    eComp src vs t tt el finI ρ = .ok (.l (xs.map f), .own) :=
  comp_map (m := m) (it := fun x : IV => (.i x, .own)) f hs hl h
@[simp] theorem eSortSet_ap (f : FE) (ρ : Env) : eSortSet f ρ = (f ρ).bind sortSet := rfl
theorem sortSet_iL {ns : List Int} {m : Md} (h : ns.length < 64) : sortSet (.i (.tup (iL ns)), m) = .ok (.l (iL (sortU ns)), .own) := by
  unfold sortSet
  have e : ints? (iL ns) = some ns := ints?_map ns
  simp only [e, if_pos h]
  rfl
theorem sortU_asc {ns : List Int} (h : ns.Pairwise (· < ·)) : sortU ns = ns := asc_unique (sortU_sorted ns) h fun z => sortU_mem z ns
/-- a row is ascending if each is less than the next one -/
theorem zip_asc : ∀ ns : List Int, ((ns.zip ns.tail).all fun p => decide (p.1 < p.2)) = true ↔ ns.Pairwise (· < ·)
  | [] => by simp
  | [x] => by simp
  | x :: y :: r => by
    have ih := zip_asc (y :: r)
    simp only [List.tail_cons, List.zip_cons_cons, List.all_cons, Bool.and_eq_true, decide_eq_true_eq] at ih ⊢
    rw [show (y :: r).zip r = (y :: r).zip (y :: r).tail from rfl] at *
    rw [List.pairwise_cons]
    constructor
    · rintro ⟨h1, h2⟩
      have p := ih.mp h2
      refine ⟨fun z hz => ?_, p⟩
      rcases List.mem_cons.mp hz with e | hz
      · rw [e]; exact h1
      · have := (List.pairwise_cons.mp p).1 z hz; omega
    · rintro ⟨h1, h2⟩
      exact ⟨h1 y List.mem_cons_self, ih.mpr h2⟩
/-- any plain values: all of them integers, or not -/
theorem ints_or (xs : List IV) : (∃ ns, xs = iL ns) ∨ ∃ x ∈ xs, ∀ i, x ≠ .int i := by
  induction xs with
  | nil => exact .inl ⟨[], rfl⟩
  | cons x r ih =>
    rcases ih with ⟨ns, rfl⟩ | ⟨y, h1, h2⟩
    · cases x with
      | int i => exact .inl ⟨i :: ns, rfl⟩
      | _ => exact .inr ⟨_, List.mem_cons_self, fun i z => nomatch z⟩
    · exact .inr ⟨y, List.mem_cons_of_mem _ h1, h2⟩
end L2.Pv
namespace L2.Pv
open PySem PySem.Spec PyProof.Rows
/-! try, by what is wanted -/
def tryD (xs : List Str) (sub : Str → Str → Bool) (hs : List Hd) (D : PD) : PD := ⟨D.nx, D.bk, D.ct, D.rt, fun c p => c ∈ xs ∧ ∀ ρ', (handleF sub c p hs ρ').to D⟩
@[simp] theorem tryD_nx (xs : List Str) (sub : Str → Str → Bool) (hs : List Hd) (D : PD) (ρ : Env) : (tryD xs sub hs D).nx ρ = D.nx ρ := rfl
@[simp] theorem tryD_bk (xs : List Str) (sub : Str → Str → Bool) (hs : List Hd) (D : PD) (ρ : Env) : (tryD xs sub hs D).bk ρ = D.bk ρ := rfl
@[simp] theorem tryD_ct (xs : List Str) (sub : Str → Str → Bool) (hs : List Hd) (D : PD) (ρ : Env) : (tryD xs sub hs D).ct ρ = D.ct ρ := rfl
@[simp] theorem tryD_rt (xs : List Str) (sub : Str → Str → Bool) (hs : List Hd) (D : PD) (d : DV) : (tryD xs sub hs D).rt d = D.rt d := rfl
@[simp] theorem tryD_ex (xs : List Str) (sub : Str → Str → Bool) (hs : List Hd) (D : PD) (c : Str) (p : Exn) : (tryD xs sub hs D).ex c p = (c ∈ xs ∧ ∀ ρ', (handleF sub c p hs ρ').to D) := rfl
theorem sTry_to {xs : List Str} {sub : Str → Str → Bool} {body : FS} {hs : List Hd} {ρ : Env} {D : PD} (h : (body ρ).to (tryD xs sub hs D)) : (sTry xs sub body hs ρ).to D := by
  have h := h.h
  refine ⟨?_⟩
  unfold sTry
  cases e : body ρ with
  | ex c p ρ' =>
    rw [e] at h
    simp only
    have h : c ∈ xs ∧ ∀ ρ', (handleF sub c p hs ρ').to D := h
    rw [if_pos h.1]
    exact (h.2 ρ').h
  | nx ρ' => rw [e] at h; exact h
  | rt d => rw [e] at h; exact h
  | bk ρ' => rw [e] at h; exact h
  | ct ρ' => rw [e] at h; exact h
  | bad => rw [e] at h; exact h
theorem handle_no {sub : Str → Str → Bool} {c : Str} {p : Exn} {x : Str} {i : Option Nat} {su : SU} {r : List Hd} {ρ : Env} (h : sub c x = false) : handleF sub c p (⟨x, i, su⟩ :: r) ρ = handleF sub c p r ρ := by
  show (if sub c x = true then (if inE i ρ then offE i (su c p (onE i ρ)) else .bad) else handleF sub c p r ρ) = _
  rw [h] <;> rfl
theorem handle_yes {sub : Str → Str → Bool} {c : Str} {p : Exn} {x : Str} {su : SU} {r : List Hd} {ρ : Env} (h : sub c x = true) : handleF sub c p (⟨x, none, su⟩ :: r) ρ = offE none (su c p ρ) := by
  show (if sub c x = true then (if inE none ρ then offE none (su c p (onE none ρ)) else .bad) else handleF sub c p r ρ) = _
  rw [h] <;> rfl
theorem opMul_tup {a : List IV} {k : Int} (m m' : Md) (ha : a ≠ []) (hk : 2 ≤ k) (hk2 : k.natAbs ≤ 1000) (hl : a.length ≤ 1000) : opMul (.i (.tup a), m) (.i (.int k), m') = .ok (.i (.tup (List.replicate k.toNat a).flatten), .own) := by
  unfold opMul
  simp only
  rw [if_pos ⟨ha, hk, hk2, hl⟩] <;> rfl
@[simp] theorem opLen_td (x : List DV) (m : Md) : opLen (.t x, m) = .ok (.i (.int x.length), .own) := rfl
@[simp] theorem demO_t (ρ : Env) (i : Nat) (x : List DV) (m : Md) : demO ρ i (some (some (.t x, m))) = ρ := rfl
@[simp] theorem demO_k (ρ : Env) (i : Nat) (x : List (Key × IV)) (m : Md) : demO ρ i (some (some (.k x, m))) = ρ := rfl
@[simp] theorem itemsOf_m (x : List DV) (m : Md) : itemsOf (.m x, m) = .ok (elM m x, m) := rfl
@[simp] theorem itemsOf_tb (x : List DV) : itemsOf (.t x, .bor) = .ok (elM .bor x, .bor) := rfl
@[simp] theorem itemsOf_tl (x : List DV) : itemsOf (.t x, .loc) = .ok (elM .loc x, .loc) := rfl
@[simp] theorem offE_rt (d : DV) : offE none (.rt d) = .rt d := rfl
@[simp] theorem offE_nx (ρ : Env) : offE none (.nx ρ) = .nx ρ := rfl
end L2.Pv

namespace L2.Pv
open PySem PySem.Spec PyProof.Rows
/-! ## min, max of a list of any alike values -/
mutual
theorem py_inj : ∀ x y : IV, x.py = y.py → x = y
  | .non, y, h => by cases y <;> first | rfl | cases h
  | .bl b, y, h => by cases y <;> first | (injection h with e; rw [e]) | cases h
  | .int b, y, h => by cases y <;> first | (injection h with e; rw [e]) | cases h
  | .str b, y, h => by cases y <;> first | (injection h with e; rw [e]) | cases h
  | .tup xs, y, h => by
    cases y with
    | tup ys =>
      have h : PyData.tuple (IV.pys xs) = PyData.tuple (IV.pys ys) := h
      injection h with e
      rw [pys_inj xs ys e]
    | _ => cases h
theorem pys_inj : ∀ xs ys : List IV, IV.pys xs = IV.pys ys → xs = ys
  | [], [], _ => rfl
  | [], _ :: _, h => by cases h
  | _ :: _, [], h => by cases h
  | x :: xs, y :: ys, h => by
    have h : x.py :: IV.pys xs = y.py :: IV.pys ys := h
    injection h with h1 h2
    rw [py_inj x y h1, pys_inj xs ys h2]
end
def ltI (x y : IV) : Bool := PySem.W.dataLt x.py y.py
def minI (x : IV) (xs : List IV) : IV := xs.foldl (fun a y => if ltI y a then y else a) x
def maxI (x : IV) (xs : List IV) : IV := xs.foldl (fun a y => if ltI a y then y else a) x
theorem minI_py : ∀ (xs : List IV) (x : IV), (minI x xs).py = PySem.W.minD x.py (xs.map IV.py)
  | [], x => rfl
  | y :: xs, x => by
    have ih := minI_py xs (if ltI y x then y else x)
    show (minI (if ltI y x then y else x) xs).py = PySem.W.minD (if PySem.W.dataLt y.py x.py then y.py else x.py) (xs.map IV.py)
    rw [ih]
    unfold ltI
    split <;> rfl
def notNon : IV → Bool
  | .non => false
  | _ => true
def okMin (xs : List IV) : Bool := (xs.all fun a => xs.all fun b => PySem.W.alike a.py b.py) && xs.all fun x => notNon x && x.py.canLay0 && decide (x.py.depth ≤ 64)
theorem okMin_iff {xs : List IV} (h : okMin xs = true) : PySem.W.AlikeAll (xs.map IV.py) ∧ ∀ b ∈ xs, b.py.canLay0 = true ∧ b.py.depth ≤ 64 := by
  unfold okMin at h
  rw [Bool.and_eq_true] at h
  obtain ⟨h1, h2⟩ := h
  refine ⟨⟨fun d hd d' hd' => ?_, fun d hd => ?_⟩, fun b hb => ?_⟩
  · obtain ⟨a, ha, rfl⟩ := List.mem_map.mp hd
    obtain ⟨b, hb, rfl⟩ := List.mem_map.mp hd'
    exact List.all_eq_true.mp (List.all_eq_true.mp h1 a ha) b hb
  · obtain ⟨a, ha, rfl⟩ := List.mem_map.mp hd
    have := List.all_eq_true.mp h2 a ha
    rw [Bool.and_eq_true, Bool.and_eq_true] at this
    intro z
    cases a with
    | non => cases this.1.1
    | _ => cases z
  · have := List.all_eq_true.mp h2 b hb
    rw [Bool.and_eq_true, Bool.and_eq_true, decide_eq_true_eq] at this
    exact ⟨this.1.2, this.2⟩
def rMinD (K : PySem.W.Frag) : List V → Hp → VK → Prop := fun vs H Q => ∃ (a : Addr) (us : List V) (x : IV) (xs : List IV), vs = [V.ref a] ∧ SqL K H a us ∧ RpIs K H us (x :: xs) ∧ okMin (x :: xs) = true ∧
  ∀ v, RpI K H v (minI x xs) → Q v H
section
variable {X : Cx}
theorem dpAll_reads {pins : List (Addr × Obj)} {σ : St} {H : Hp} {s : Shared} (I : Inv X pins σ H s) : ∀ {us : List V} {xs : List IV} {its : List Value}, RpIs X.K H us xs → Vals us its → ∃ as, ReadsAll s.heap its (xs.map IV.py) as
  | _, [], _, h, r => by cases h; cases r; exact ⟨_, .nil⟩
  | _, x :: xs, _, h, r => by
    cases h with
    | cons a b =>
      cases r with
      | cons r1 r2 =>
        obtain ⟨as, h1⟩ := Dp.reads I _ _ _ a.dp r1
        obtain ⟨bs, h2⟩ := dpAll_reads I b r2
        exact ⟨_, .cons h1 h2⟩
theorem cr_minD (hc : X.calm = true) (hu : X.A.units + 70 < cLine) : CallR X (.builtin "min") (rMinD X.K) := by
  intro pins s σ H vs us Q I r h
  obtain ⟨a, ws, x, xs, rfl, hs, hr, hk, q⟩ := h
  obtain ⟨its, rv, hl, hz⟩ := I.list hs
  rw [Vals.ref1 r]
  obtain ⟨k1, k2⟩ := okMin_iff hk
  obtain ⟨as, hra⟩ := dpAll_reads I hr rv
  have hd : PyData.depthAll ((x :: xs).map IV.py) ≤ 64 := depthAll_le fun d hd => by
    obtain ⟨b, hb, rfl⟩ := List.mem_map.mp hd
    exact (k2 b hb).2
  refine PySem.W.min_list_data (I.ok.hd hc) hl.isList (by simpa using hra) k1 (by rw [← List.map_cons]; omega) fun i v h' tk bs hv hrd keep => ?_
  have hv : its[i]? = some v := by simpa using hv
  obtain ⟨w, hw, rw'⟩ : ∃ w, ws[i]? = some w ∧ RelV w v := by
    have len := rv.length
    have hi : i < its.length := (List.getElem?_eq_some_iff.mp hv).1
    obtain ⟨u, h1, h2⟩ := Vals.get rv (List.getElem?_eq_getElem (by omega : i < ws.length))
    rw [hv] at h1
    cases h1
    exact ⟨_, List.getElem?_eq_getElem (by omega), h2⟩
  obtain ⟨z, hz1, hz2⟩ : ∃ z, (x :: xs)[i]? = some z ∧ RpI X.K H w z := by
    have hi : i < (x :: xs).length := by rw [← hr.length]; exact (List.getElem?_eq_some_iff.mp hw).1
    obtain ⟨w', h1, h2⟩ := hr.get (List.getElem?_eq_getElem hi)
    rw [hw] at h1
    cases h1
    exact ⟨_, List.getElem?_eq_getElem hi, h2⟩
  have zin : z ∈ x :: xs := List.mem_of_getElem? hz1
  obtain ⟨cs, hrz⟩ := Dp.reads I _ _ _ hz2.dp rw'
  have e := SeqAt.Reads.unique _ _ _ _ _ (k2 z zin).1 (Reads.keeps keep hrz) hrd
  rw [← minI_py] at e
  have e := py_inj _ _ e
  subst e
  exact ⟨w, H, I.kept (t' := tk) fun b o e => keep b o e, rw', q w hz2⟩
theorem maxI_py : ∀ (xs : List IV) (x : IV), (maxI x xs).py = PySem.W.maxD x.py (xs.map IV.py)
  | [], x => rfl
  | y :: xs, x => by
    have ih := maxI_py xs (if ltI x y then y else x)
    show (maxI (if ltI x y then y else x) xs).py = PySem.W.maxD (if PySem.W.dataLt x.py y.py then y.py else x.py) (xs.map IV.py)
    rw [ih]
    unfold ltI
    split <;> rfl
def rMaxD (K : PySem.W.Frag) : List V → Hp → VK → Prop := fun vs H Q => ∃ (a : Addr) (us : List V) (x : IV) (xs : List IV), vs = [V.ref a] ∧ SqL K H a us ∧ RpIs K H us (x :: xs) ∧ okMin (x :: xs) = true ∧
  ∀ v, RpI K H v (maxI x xs) → Q v H
theorem cr_maxD (hc : X.calm = true) (hu : X.A.units + 70 < cLine) : CallR X (.builtin "max") (rMaxD X.K) := by
  intro pins s σ H vs us Q I r h
  obtain ⟨a, ws, x, xs, rfl, hs, hr, hk, q⟩ := h
  obtain ⟨its, rv, hl, hz⟩ := I.list hs
  rw [Vals.ref1 r]
  obtain ⟨k1, k2⟩ := okMin_iff hk
  obtain ⟨as, hra⟩ := dpAll_reads I hr rv
  have hd : PyData.depthAll ((x :: xs).map IV.py) ≤ 64 := depthAll_le fun d hd => by
    obtain ⟨b, hb, rfl⟩ := List.mem_map.mp hd
    exact (k2 b hb).2
  refine PySem.W.max_list_data (I.ok.hd hc) hl.isList (by simpa using hra) k1 (by rw [← List.map_cons]; omega) fun i v h' tk bs hv hrd keep => ?_
  have hv : its[i]? = some v := by simpa using hv
  obtain ⟨w, hw, rw'⟩ : ∃ w, ws[i]? = some w ∧ RelV w v := by
    have len := rv.length
    have hi : i < its.length := (List.getElem?_eq_some_iff.mp hv).1
    obtain ⟨u, h1, h2⟩ := Vals.get rv (List.getElem?_eq_getElem (by omega : i < ws.length))
    rw [hv] at h1
    cases h1
    exact ⟨_, List.getElem?_eq_getElem (by omega), h2⟩
  obtain ⟨z, hz1, hz2⟩ : ∃ z, (x :: xs)[i]? = some z ∧ RpI X.K H w z := by
    have hi : i < (x :: xs).length := by rw [← hr.length]; exact (List.getElem?_eq_some_iff.mp hw).1
    obtain ⟨w', h1, h2⟩ := hr.get (List.getElem?_eq_getElem hi)
    rw [hw] at h1
    cases h1
    exact ⟨_, List.getElem?_eq_getElem hi, h2⟩
  have zin : z ∈ x :: xs := List.mem_of_getElem? hz1
  obtain ⟨cs, hrz⟩ := Dp.reads I _ _ _ hz2.dp rw'
  have e := SeqAt.Reads.unique _ _ _ _ _ (k2 z zin).1 (Reads.keeps keep hrz) hrd
  rw [← maxI_py] at e
  have e := py_inj _ _ e
  subst e
  exact ⟨w, H, I.kept (t' := tk) fun b o e => keep b o e, rw', q w hz2⟩
end
def opMinA (x : DV × Md) : R (DV × Md) := match opMin x with
  | .ok z => .ok z
  | _ => (match items? x.1 with
    | some (y :: ys) => if okMin (y :: ys) then ok1 (minI y ys) else .bad
    | _ => .bad)
def opMaxA (x : DV × Md) : R (DV × Md) := match opMax x with
  | .ok z => .ok z
  | _ => (match items? x.1 with
    | some (y :: ys) => if okMin (y :: ys) then ok1 (maxI y ys) else .bad
    | _ => .bad)
theorem opMinA_nx : NoEx1 opMinA := noex1_of fun x => by
  unfold opMinA
  split
  · exact .inl ⟨_, rfl⟩
  · split
    · split
      · exact .inl ⟨_, rfl⟩
      · exact .inr rfl
    · exact .inr rfl
theorem opMaxA_nx : NoEx1 opMaxA := noex1_of fun x => by
  unfold opMaxA
  split
  · exact .inl ⟨_, rfl⟩
  · split
    · split
      · exact .inl ⟨_, rfl⟩
      · exact .inr rfl
    · exact .inr rfl
abbrev rMinA (K : PySem.W.Frag) : List V → Hp → VK → Prop := fun vs H Q => rMin K vs H Q ∨ rMinD K vs H Q
abbrev rMaxA (K : PySem.W.Frag) : List V → Hp → VK → Prop := fun vs H Q => rMax K vs H Q ∨ rMaxD K vs H Q
theorem cr_minA {X : Cx} (hc : X.calm = true) (hu : X.A.units + 70 < cLine) : CallR X (.builtin "min") (rMinA X.K) := by
  intro pins s σ H vs us Q I r h
  rcases h with h | h
  · exact cr_min hc pins s σ H vs us Q I r h
  · exact cr_minD hc hu pins s σ H vs us Q I r h
theorem cr_maxA {X : Cx} (hc : X.calm = true) (hu : X.A.units + 70 < cLine) : CallR X (.builtin "max") (rMaxA X.K) := by
  intro pins s σ H vs us Q I r h
  rcases h with h | h
  · exact cr_max hc pins s σ H vs us Q I r h
  · exact cr_maxD hc hu pins s σ H vs us Q I r h
theorem uMinA {K : PySem.W.Frag} : UOk1 K (rMinA K) opMinA := by
  intro H0 Pz H T σ ρ Fs x z v F Q E r1 o1 e h
  unfold opMinA at e
  split at e
  · rename_i z' e1
    cases e
    exact .inl (uMin H0 Pz H T σ ρ Fs x z v F Q E r1 o1 e1 h)
  · split at e
    · rename_i y ys e2
      split at e
      · rename_i hk
        cases e
        obtain ⟨a, vs, rfl, s, t⟩ := items?_rp r1 e2
        exact .inr ⟨a, vs, y, ys, rfl, s, t, hk, fun v r => fin1 h r⟩
      · cases e
    · cases e
theorem uMaxA {K : PySem.W.Frag} : UOk1 K (rMaxA K) opMaxA := by
  intro H0 Pz H T σ ρ Fs x z v F Q E r1 o1 e h
  unfold opMaxA at e
  split at e
  · rename_i z' e1
    cases e
    exact .inl (uMax H0 Pz H T σ ρ Fs x z v F Q E r1 o1 e1 h)
  · split at e
    · rename_i y ys e2
      split at e
      · rename_i hk
        cases e
        obtain ⟨a, vs, rfl, s, t⟩ := items?_rp r1 e2
        exact .inr ⟨a, vs, y, ys, rfl, s, t, hk, fun v r => fin1 h r⟩
      · cases e
    · cases e
theorem opMinA_i {xs : List Int} {k : Int} {m : Md} (h : xs.min? = some k) : opMinA (.l (iL xs), m) = .ok (.i (.int k), .own) := by
  have e : opMin (.l (iL xs), m) = .ok (.i (.int k), .own) := by
    unfold opMin opOver items?
    simp only [show ints? (iL xs) = some xs from ints?_map xs, h]
  unfold opMinA
  rw [e]
theorem opMaxA_i {xs : List Int} {k : Int} {m : Md} (h : xs.max? = some k) : opMaxA (.l (iL xs), m) = .ok (.i (.int k), .own) := by
  have e : opMax (.l (iL xs), m) = .ok (.i (.int k), .own) := by
    unfold opMax opOver items?
    simp only [show ints? (iL xs) = some xs from ints?_map xs, h]
  unfold opMaxA
  rw [e]
theorem opMinA_d {x : IV} {xs : List IV} {m : Md} (h : ints? (x :: xs) = none) (hk : okMin (x :: xs) = true) : opMinA (.l (x :: xs), m) = .ok (.i (minI x xs), .own) := by
  have e : opMin (.l (x :: xs), m) = .bad := by
    unfold opMin opOver items?
    simp only [h]
  unfold opMinA
  rw [e]
  simp only [items?, hk, if_true]
theorem opMaxA_d {x : IV} {xs : List IV} {m : Md} (h : ints? (x :: xs) = none) (hk : okMin (x :: xs) = true) : opMaxA (.l (x :: xs), m) = .ok (.i (maxI x xs), .own) := by
  have e : opMax (.l (x :: xs), m) = .bad := by
    unfold opMax opOver items?
    simp only [h]
  unfold opMaxA
  rw [e]
  simp only [items?, hk, if_true]
/-! ## tuple * integer, the rest -/
theorem tuple_mulS (l : Addr) (items : Array Value) (n : Nat) (dd : Option Addr) (sl : Array (Option Value)) (x : Int) (u : Tok) (c0 : (decide (x < -(2 ^ 63)) || decide (x ≥ 2 ^ 63)) = false) (c1 : (items.isEmpty || x == 1) = true) :
    Meets (Builtin.«tuple.__mul__» ⟨[.ref l, .int x u], []⟩) (fun _ R s => s.heap.get? l = some { cls := .type "tuple", dict := dd, data := .seq items n, slots := sl } ∧ R (.ok (.ret (Value.ref l))) s) :=
  .of_wp fun prog w A R s h => by
    obtain ⟨hp, g, d, tk, os⟩ := s
    obtain ⟨hl, h⟩ := h
    have f1 := AutoSeq1.idx_int
    wp_walk using wpAny_loadPart' hl
    repeat (first
      | (refine wpAny_ite_false (decide_eq_false (by rw [c0]; exact Bool.false_ne_true)) ?_; wp_walk using wpAny_loadPart' hl)
      | (refine wpAny_ite_true (decide_eq_true c1) ?_; wp_walk using wpAny_loadPart' hl))
    exact ⟨_, rfl, h⟩
theorem tuple_mulZ (l : Addr) (items : Array Value) (n : Nat) (dd : Option Addr) (sl : Array (Option Value)) (x : Int) (u : Tok) (c0 : (decide (x < -(2 ^ 63)) || decide (x ≥ 2 ^ 63)) = false) (c1 : (items.isEmpty || x == 1) = false) (c2 : (decide (x ≤ 0) || items.isEmpty) = true) :
    Meets (Builtin.«tuple.__mul__» ⟨[.ref l, .int x u], []⟩) (fun _ R s => s.heap.get? l = some { cls := .type "tuple", dict := dd, data := .seq items n, slots := sl } ∧
      R (.ok (.ret (Value.ref s.heap.objs.size))) { s with heap := s.heap.push { cls := Value.type "tuple", data := Data.seq #[] }, toks := s.toks }) :=
  .of_wp fun prog w A R s h => by
    obtain ⟨hp, g, d, tk, os⟩ := s
    obtain ⟨hl, h⟩ := h
    have f1 := AutoSeq1.idx_int
    wp_walk using wpAny_loadPart' hl
    repeat (first
      | (refine wpAny_ite_false (decide_eq_false (by rw [c0]; exact Bool.false_ne_true)) ?_; wp_walk using wpAny_loadPart' hl)
      | (refine wpAny_ite_false (decide_eq_false (by rw [c1]; exact Bool.false_ne_true)) ?_; wp_walk using wpAny_loadPart' hl)
      | (refine wpAny_ite_true (decide_eq_true c2) ?_; wp_walk using wpAny_loadPart' hl))
    exact ⟨_, rfl, h⟩
/-- nothing, or once: itself; not more than 0 times: none -/
def rRepS (K : PySem.W.Frag) : R2 := fun x y H Q => ∃ l k xs, x = .ref l ∧ y = .int k ∧ SqT K H l xs ∧ k.natAbs < 2 ^ 63 ∧
  ((xs = [] ∨ k = 1) ∧ Q (.ref l) H ∨ xs ≠ [] ∧ k ≤ 0 ∧ ∀ p, H p = none → Q (.ref p) (upd H p (.tup [])))
theorem op_repS {X : Cx} : OpR X (binaryOp .Mult) (rRepS X.K) := by
  intro pins s σ H x y v u Q I rx ry h
  obtain ⟨l, k, xs, rfl, rfl, hT, hk, h⟩ := h
  cases rx
  obtain ⟨t, rfl⟩ := ry
  obtain ⟨its, r, ⟨⟨cls, dd, data, sl⟩, ho, hc, n, hd⟩, hs⟩ := I.tuple hT
  simp only at hc hd
  subst hc hd
  have hle : its.length = xs.length := r.length.symm
  have c0 : (decide (k < -(2 ^ 63)) || decide (k ≥ 2 ^ 63)) = false := by
    rw [decide_eq_false (by omega), decide_eq_false (by omega)] <;> rfl
  have road : ∀ {Q' : Value → Shared → Prop}, wpAny (model X.prog X.w) X.A (call (.builtin "tuple.__mul__") [.ref l, .int k t]) Q' X.xe s → wpAny (model X.prog X.w) X.A (binaryOp .Mult (.ref l) (.int k t)) Q' X.xe s := fun {Q'} z =>
    wpAny_binaryOp_repeat_ref (T := "tuple") (U := "int") (by decide) ⟨_, ho, rfl⟩ (fun s' => typeIs_int s' k t) noFill_tuple_mul F.fills_int_mul F.slot_int_rmul repeat_tuple F.slot_int_index.lookup
      (call_meets F.slot_int_rmul (typeIs_int s k t) F.entry_int_rmul (F.args_int_rmul_2 _ _) (int_rmul_tuple k t l its.toArray n dd sl)
        ⟨ho, rfl, ⟨_, ho, rfl⟩, z⟩)
  rcases h with ⟨h1, q⟩ | ⟨h1, h2, q⟩
  · refine road (call_meets F.slot_tuple_mul ⟨_, ho, rfl⟩ F.entry_tuple_mul (F.args_tuple_mul_2 _ _) (tuple_mulS l its.toArray n dd sl k t c0 ?_) ⟨ho, ?_⟩)
    · rcases h1 with h1 | h1
      · subst h1
        have : its = [] := List.eq_nil_of_length_eq_zero hle
        subst this; rfl
      · subst h1
        rw [Bool.or_eq_true]; exact .inr rfl
    · exact ⟨.ref l, H, I.tok _, rfl, q⟩
  · have hi : its.toArray.isEmpty = false := by
      cases its with
      | nil => exact absurd (List.eq_nil_of_length_eq_zero hle.symm) h1
      | cons a b => rfl
    refine road (call_meets F.slot_tuple_mul ⟨_, ho, rfl⟩ F.entry_tuple_mul (F.args_tuple_mul_2 _ _) (tuple_mulZ l its.toArray n dd sl k t c0 ?_ ?_) ⟨ho, ?_⟩)
    · rw [hi, Bool.false_or]; exact beq_eq_false_iff_ne.mpr (by omega)
    · rw [decide_eq_true h2] <;> rfl
    · exact ⟨.ref s.heap.objs.size, _, I.laid (t' := s.toks) (o := .tup []) (fun b ob q => Heap.get?_push_of_some _ q) (Nat.le_refl _) ⟨by rw [sizeLine_eq]; decide, [], .nil, IsTup.new _ _⟩, rfl, q _ (I.hok.fresh (Nat.le_refl _))⟩
def mulT (x y : DV × Md) : R (DV × Md) := match x.1, y.1 with
  | .i (.tup a), .i (.int k) => if k.natAbs < 9223372036854775808 then (if a.isEmpty = true ∨ k = 1 then ok1 (.tup a) else if k ≤ 0 then ok1 (.tup []) else .bad) else .bad
  | _, _ => .bad
def opMulA (x y : DV × Md) : R (DV × Md) := match opMul x y with
  | .ok z => .ok z
  | _ => mulT x y
theorem opMulA_nx : NoEx opMulA := noex_of fun x y => by
  unfold opMulA
  split
  · exact .inl ⟨_, rfl⟩
  · unfold mulT
    split
    · split
      · split
        · exact .inl ⟨_, rfl⟩
        · split
          · exact .inl ⟨_, rfl⟩
          · exact .inr rfl
      · exact .inr rfl
    · exact .inr rfl
abbrev rMulA (K : PySem.W.Frag) : R2 := fun x y H Q => rMulAll K x y H Q ∨ rRepS K x y H Q
theorem or_mulA {X : Cx} : OpR X (binaryOp .Mult) (rMulA X.K) := or_mulAll.or op_repS
theorem bMulA {K : PySem.W.Frag} : BOk K (rMulA K) opMulA := by
  intro H0 Pz H T σ ρ Fs x y z v u F G Q E r1 o1 r2 o2 e h
  unfold opMulA at e
  split at e
  · rename_i z' e1
    cases e
    exact .inl (bMul H0 Pz H T σ ρ Fs x y z v u F G Q E r1 o1 r2 o2 e1 h)
  · obtain ⟨x, mx⟩ := x
    obtain ⟨y, my⟩ := y
    unfold mulT at e
    simp only at e r1 r2
    split at e
    · rename_i a k _
      split at e
      · rename_i hk
        cases r1 with
        | i r1 =>
          cases r1 with
          | tup s t =>
            cases r2 with
            | i r2 =>
              cases r2
              split at e
              · rename_i hc
                cases e
                refine .inr ⟨_, k, _, rfl, rfl, SqT.of s, hk, .inl ⟨?_, fin1 h (.tup s t)⟩⟩
                rcases hc with hc | hc
                · left
                  have := t.length
                  cases a with
                  | nil => exact List.eq_nil_of_length_eq_zero this
                  | cons p q => cases hc
                · exact .inr hc
              · rename_i hc
                split at e
                · rename_i h0
                  cases e
                  refine .inr ⟨_, k, _, rfl, rfl, SqT.of s, hk, .inr ⟨?_, h0, fun p hp => h _ _ _ (same_upd hp) (new_tup hp .nil) .nil⟩⟩
                  intro z
                  subst z
                  cases t
                  exact hc (.inl rfl)
                · cases e
      · cases e
    · cases e
@[simp] theorem opMulA_int (a b : Int) (m m' : Md) : opMulA (.i (.int a), m) (.i (.int b), m') = if a.natAbs < 18446744073709551616 ∨ b.natAbs < 18446744073709551616 then .ok (.i (.int (a * b)), .own) else .bad := by
  unfold opMulA
  have e : opMul (.i (.int a), m) (.i (.int b), m') = if a.natAbs < 18446744073709551616 ∨ b.natAbs < 18446744073709551616 then .ok (.i (.int (a * b)), .own) else .bad := rfl
  rw [e]
  split
  · rename_i z h
    split at h
    · rename_i q; rw [if_pos q]; exact h.symm
    · cases h
  · rename_i h
    split at h
    · rename_i q; exact absurd rfl (h _)
    · rename_i q; rw [if_neg q] <;> rfl
theorem opMulA_of {x y z : DV × Md} (h : opMul x y = .ok z) : opMulA x y = .ok z := by
  unfold opMulA
  rw [h]
theorem opMulA_tup {a : List IV} {k : Int} (m m' : Md) (hk : 0 ≤ k) (hk2 : k ≤ 1000) (hl : a.length ≤ 1000) : opMulA (.i (.tup a), m) (.i (.int k), m') = .ok (.i (.tup (List.replicate k.toNat a).flatten), .own) := by
  have bad : ¬ (a ≠ [] ∧ 2 ≤ k) → opMul (.i (.tup a), m) (.i (.int k), m') = .bad := fun h => by
    unfold opMul
    simp only
    rw [if_neg fun z => h ⟨z.1, z.2.1⟩]
  by_cases h : a ≠ [] ∧ 2 ≤ k
  · exact opMulA_of (opMul_tup m m' h.1 h.2 (by omega) hl)
  · unfold opMulA
    rw [bad h]
    unfold mulT
    simp only
    rw [if_pos (by omega)]
    by_cases h1 : a.isEmpty = true ∨ k = 1
    · rw [if_pos h1]
      rcases h1 with h1 | h1
      · cases a with
        | nil => simp [ok1]
        | cons p q => cases h1
      · subst h1; simp [ok1]
    · rw [if_neg h1]
      have h0 : k ≤ 0 := by
        have : a ≠ [] := fun z => h1 (.inl (by rw [z] <;> rfl))
        have : ¬ 2 ≤ k := fun z => h ⟨this, z⟩
        have : k ≠ 1 := fun z => h1 (.inr z)
        omega
      rw [if_pos h0, show k = 0 by omega]
      rfl
@[simp] theorem opMulA_l (a : List IV) (k : Int) (m m' : Md) : opMulA (.l a, m) (.i (.int k), m') = if k.natAbs < 9223372036854775808 ∧ a.length * k.toNat ≤ 16777216 then .ok (.l (List.replicate k.toNat a).flatten, .own) else .bad := by
  unfold opMulA
  have e : opMul (.l a, m) (.i (.int k), m') = if k.natAbs < 9223372036854775808 ∧ a.length * k.toNat ≤ 16777216 then .ok (.l (List.replicate k.toNat a).flatten, .own) else .bad := rfl
  rw [e]
  split
  · rename_i z h
    split at h
    · rename_i q; rw [if_pos q]; exact h.symm
    · cases h
  · rename_i h
    split at h
    · rename_i q; exact absurd rfl (h _)
    · rename_i q; rw [if_neg q] <;> rfl
@[simp] theorem ix1_s (x : IV) (a : Int) (r : List Int) (m m' : Md) : opIx (.i (.tup (x :: iL (a :: r))), m) (.i (.int 1), m') = .ok (.i (.int a), .own) := by
  rw [ix_t (by decide) (by simp <;> omega)] <;> rfl
@[simp] theorem ix2_s (x : IV) (a b : Int) (r : List Int) (m m' : Md) : opIx (.i (.tup (x :: iL (a :: b :: r))), m) (.i (.int 2), m') = .ok (.i (.int b), .own) := by
  rw [ix_t (by decide) (by simp <;> omega)] <;> rfl
@[simp] theorem ix0_iL (a : Int) (r : List Int) (m m' : Md) : opIx (.i (.tup (iL (a :: r))), m) (.i (.int 0), m') = .ok (.i (.int a), .own) := by
  rw [ix_t (by decide) (by simp <;> omega)] <;> rfl
@[simp] theorem ix1_iL (a b : Int) (r : List Int) (m m' : Md) : opIx (.i (.tup (iL (a :: b :: r))), m) (.i (.int 1), m') = .ok (.i (.int b), .own) := by
  rw [ix_t (by decide) (by simp <;> omega)] <;> rfl
@[simp] theorem ix2_iL (a b c : Int) (r : List Int) (m m' : Md) : opIx (.i (.tup (iL (a :: b :: c :: r))), m) (.i (.int 2), m') = .ok (.i (.int c), .own) := by
  rw [ix_t (by decide) (by simp <;> omega)] <;> rfl
end L2.Pv

/-! return of a tuple of lists; a, b, c = a tuple that holds lists -/
namespace L2.Pv
open PySem PySem.Spec PyProof.Rows L2
/-- the lists of some slots may be shared from now on -/
def sDem (ds : List Nat) (s : FS) : FS := fun ρ => s (demL ρ ds)
@[simp] theorem sDem_ap (ds : List Nat) (s : FS) (ρ : Env) : sDem ds s ρ = s (demL ρ ds) := rfl
theorem sv_dem {X : Cx} (ds : List Nat) {st : Stmt} {s : FS} (h : PSv X st s) : PSv X st (sDem ds s) := fun W tk => PS.imp (h W tk) fun D σ H q => by
  obtain ⟨H0, Pz, T, ρ, Fs, E, q⟩ := q
  exact ⟨H0, Pz, T, demL ρ ds, Fs, E.demL, q⟩
/-- names, one by one -/
def tNames : List Nat → List (DV × Md) → Env → Option Env
  | [], [], ρ => some ρ
  | i :: is, x :: xs, ρ => (tName i x ρ).bind (tNames is xs)
  | _, _, _ => none
def tTupN (n : Nat) (is : List Nat) (ts : TFs) : TF := fun x ρ => match x with
  | (.t xs, m) => if (m = .bor ∨ m = .loc) ∧ xs.length = n then tNames is (elM m xs) ρ else none
  | x => tTupT n ts x ρ
section
variable {X : Cx} {pos : Pos} {vs : List Nat}
def tgnv (K : PySem.W.Frag) (vs : List Nat) (is : List Nat) : TGs := fun us σ H Q => ∃ H0 Pz T ρ Fs ys F m, (m = Md.bor ∨ m = Md.loc) ∧ EnvR K H0 Pz T H σ ρ Fs ∧ RpDs K H us ys F ∧ ResOk H0 Pz T ρ Fs H F m ∧ match tNames is (elM m ys) ρ with
  | some ρ' => ∀ σ' H' Fs', Same H H' → EnvR K H0 Pz T H' σ' ρ' Fs' → Agr vs σ σ' ρ ρ' Fs Fs' → Q σ' H'
  | none => False
def PGsn (X : Cx) (vs : List Nat) (ts : List Expr) (is : List Nat) : Prop := PGs X ts (tgnv X.K vs is)
theorem gsn_nil : PGsn X vs [] [] := PGs.imp pgs_nil fun us σ H Q h => by
  obtain ⟨H0, Pz, T, ρ, Fs, ys, F, m, hm, E, r, o, h⟩ := h
  cases r with
  | nil => exact ⟨rfl, h σ H Fs (fun _ _ z => z) E .refl⟩
  | @cons v us y ys F G a b =>
    cases y <;> exact h.elim
theorem Agr.weak {vs vs' : List Nat} {σ σ' : St} {ρ ρ' : Env} {Fs Fs' : Nat → List Addr} (h : ∀ j ∈ vs, j ∈ vs') (a : Agr vs σ σ' ρ ρ' Fs Fs') : Agr vs' σ σ' ρ ρ' Fs Fs' :=
  ⟨a.len, fun j hj => a.at_ j fun z => hj (h j z)⟩
theorem elM_cons (m : Md) (y : DV) (ys : List DV) (hm : m = .bor ∨ m = .loc) : ∃ m1, elM m (y :: ys) = (y, m1) :: elM m ys ∧ ((m1 = m ∧ nrmM y m1 = m) ∨ ∃ x, y = .i x ∧ m1 = .own) := by
  cases y <;> rcases hm with rfl | rfl <;> first | exact ⟨_, rfl, .inl ⟨rfl, rfl⟩⟩ | exact ⟨_, rfl, .inr ⟨_, rfl, rfl⟩⟩
theorem gsn_cons {e : Expr} {es : List Expr} {i : Nat} {is : List Nat} (h1 : PGv X [i] e (tName i)) (h2 : PGsn X vs es is) (hi : i ∈ vs)
    (hs : (assignEach (e :: es) X.env).map (·.2) = assign e X.env :: (assignEach es X.env).map (·.2) := by rfl) : PGsn X vs (e :: es) (i :: is) :=
  PGs.imp (pgs_cons h1 h2 hs) fun us σ H Q h => by
    obtain ⟨H0, Pz, T, ρ, Fs, ys, FF, m, hm, E, r, o, h⟩ := h
    cases r with
    | nil => exact h.elim
    | @cons v us y ys F G a b =>
      obtain ⟨m1, e1, e2⟩ := elM_cons m y ys hm
      rw [e1] at h
      have nt : m ≠ .tmp := by rcases hm with rfl | rfl <;> (intro z; cases z)
      have no : m ≠ .own := by rcases hm with rfl | rfl <;> (intro z; cases z)
      have oF : ∀ A : List Addr, (∀ a ∈ A, a ∈ F ++ G) → ResOk H0 Pz T ρ Fs H A m := fun A hA => ⟨fun z a ha => o.fresh z a (hA a ha), fun z => absurd z no, fun z => ⟨fun k d hk a B e ha => (o.notops z).1 k d hk a B e (hA a ha), fun a ta ha => (o.notops z).2 a ta (hA a ha)⟩, fun z => absurd z nt⟩
      have o1 : ResOk H0 Pz T ρ Fs H F m1 := by
        rcases e2 with ⟨rfl, _⟩ | ⟨x, rfl, rfl⟩
        · exact oF F fun a ha => List.mem_append_left _ ha
        · cases a; exact .nil
      refine ⟨v, us, rfl, H0, Pz, T, ρ, Fs, (y, m1), F, E, a, o1, (by rcases e2 with ⟨rfl, _⟩ | ⟨x, rfl, rfl⟩ <;> first | exact nt | (intro z; cases z)), ?_⟩
      have h' : match (tName i (y, m1) ρ).bind (tNames is (elM m ys)) with
        | some ρ' => ∀ σ' H' Fs', Same H H' → EnvR X.K H0 Pz T H' σ' ρ' Fs' → Agr vs σ σ' ρ ρ' Fs Fs' → Q σ' H'
        | none => False := h
      cases e3 : tName i (y, m1) ρ with
      | none => rw [e3] at h'; exact h'
      | some ρ1 =>
        rw [e3] at h'
        refine fun σ1 H1 Fs1 s1 E1 A1 => ⟨H0, Pz, T, ρ1, Fs1, ys, G, m, hm, E1, b.same s1, ?_, ?_⟩
        · have oG := (oF G fun a ha => List.mem_append_right _ ha).same s1
          refine ⟨oG.fresh, fun z => absurd z no, fun z => ⟨fun k d hk a B e ha => ?_, fun a ta ha => (oG.notops z).2 a ta ha⟩, fun z => absurd z nt⟩
          by_cases hki : k = i
          · subst hki
            unfold tName at e3
            by_cases hl : k < ρ.length
            · rw [if_pos hl] at e3
              cases e3
              rw [List.getElem?_set_self hl] at hk
              rcases e2 with ⟨rfl, e2⟩ | ⟨x, rfl, rfl⟩
              · simp only [e2] at hk
                cases hk
                exact no rfl
              · obtain ⟨v', _, r'⟩ := E1.at_ k _ _ (List.getElem?_set_self hl)
                generalize Fs1 k = A at r' e
                cases r'
                cases e
            · rw [if_neg hl] at e3; cases e3
          · have q := (A1.at_ k (by simpa using hki))
            rw [q.2.1] at hk
            rw [q.2.2] at e
            exact (oG.notops z).1 k d hk a B e ha
        · have h'' : match tNames is (elM m ys) ρ1 with
            | some ρ' => ∀ σ' H' Fs', Same H H' → EnvR X.K H0 Pz T H' σ' ρ' Fs' → Agr vs σ σ' ρ ρ' Fs Fs' → Q σ' H'
            | none => False := h'
          cases e4 : tNames is (elM m ys) ρ1 with
          | none => rw [e4] at h''; exact h''
          | some ρ2 =>
            rw [e4] at h''
            exact fun σ' H' Fs' s' E' A' => h'' σ' H' Fs' (s1.trans s') E' ((A1.weak fun j hj => by rw [List.mem_singleton.mp hj]; exact hi).trans A')
theorem gv_tupN {es : List Expr} {k n : Nat} {is : List Nat} {ts : TFs} (hc : X.calm = true) (h0 : PGsv X vs es ts) (h : PGsn X vs es is)
    (hn : (assignEach es X.env).length = n := by rfl) (hst : (assignEach es X.env).findIdx? (·.1) = none := by rfl) : PGv X vs (.Tuple es k pos) (tTupN n is ts) := by
  have go : PG X (.Tuple es k pos) (fun v σ H Q => gTup X.K n (tgnv X.K vs is) v σ H Q ∨ tgv X.K vs (tTupT n ts) v σ H Q) := ⟨fun pins s σ H v u Q I r q => by
    rcases q with q | q
    · exact (pg_tup hc h hn hst).run pins s σ H v u Q I r q
    · exact (gv_tup hc h0 hn hst).run pins s σ H v u Q I r q⟩
  refine PG.imp go fun v σ H Q h => ?_
  obtain ⟨H0, Pz, T, ρ, Fs, x, F, E, r, o, hm, h⟩ := h
  obtain ⟨x, m⟩ := x
  by_cases ht : ∃ xs, x = .t xs
  · obtain ⟨xs, rfl⟩ := ht
    have h' : match (if (m = .bor ∨ m = .loc) ∧ xs.length = n then tNames is (elM m xs) ρ else none) with
      | some ρ' => ∀ σ' H' Fs', Same H H' → EnvR X.K H0 Pz T H' σ' ρ' Fs' → Agr vs σ σ' ρ ρ' Fs Fs' → Q σ' H'
      | none => False := h
    by_cases hl : (m = .bor ∨ m = .loc) ∧ xs.length = n
    · rw [if_pos hl] at h'
      cases r with
      | t s t => exact .inl ⟨_, _, rfl, SqT.of s, by rw [t.length]; exact hl.2, H0, Pz, T, ρ, Fs, _, _, m, hl.1, E, t, o, h'⟩
    · rw [if_neg hl] at h'; exact h'.elim
  · refine .inr ⟨H0, Pz, T, ρ, Fs, (x, m), F, E, r, o, hm, ?_⟩
    have e : tTupN n is ts (x, m) ρ = tTupT n ts (x, m) ρ := by
      unfold tTupN
      split
      · rename_i q; cases q; exact absurd ⟨_, rfl⟩ ht
      · rfl
    rw [e] at h
    exact h
end
@[simp] theorem tTupN_i (n : Nat) (is : List Nat) (ts : TFs) (x : IV) (m : Md) (ρ : Env) : tTupN n is ts (.i x, m) ρ = tTupT n ts (.i x, m) ρ := rfl
@[simp] theorem tTupN_l (n : Nat) (is : List Nat) (ts : TFs) (x : List IV) (m : Md) (ρ : Env) : tTupN n is ts (.l x, m) ρ = tTupT n ts (.l x, m) ρ := rfl
@[simp] theorem tTupN_tl (n : Nat) (is : List Nat) (ts : TFs) (x : List DV) (ρ : Env) : tTupN n is ts (.t x, .loc) ρ = if x.length = n then tNames is (elM .loc x) ρ else none := by
  unfold tTupN; simp
@[simp] theorem tNames_nil (ρ : Env) : tNames [] [] ρ = some ρ := rfl
@[simp] theorem tNames_cons (i : Nat) (is : List Nat) (x : DV × Md) (xs : List (DV × Md)) (ρ : Env) : tNames (i :: is) (x :: xs) ρ = (tName i x ρ).bind (tNames is xs) := rfl
/-! ranges by steps -/
def rg3V (c : Int) (x y : DV × Md) : R (List (DV × Md) × Md) := match x.1, y.1 with
  | .i (.int i), .i (.int j) => if smI i && smI j && decide (c ≠ 0) && decide (c.natAbs < 1073741824) && Builtin.Range.small i j c then .ok (rgC i c (Builtin.Range.rangeSize i j c).toNat, .own) else .bad
  | _, _ => .bad
@[simp] theorem iRg3_ap (f g : FE) (c : Int) (ρ : Env) : iRg3 f g c ρ = (f ρ).bind fun x => (g ρ).bind fun y => rg3V c x y := rfl
theorem rg3_down {i j : Int} {m m' : Md} (hi : smI i = true) (hj : smI j = true) : rg3V (-1) (.i (.int i), m) (.i (.int j), m') = .ok (rgC i (-1) (i - j).toNat, .own) := by
  have h1 := smI_iff hi
  have h2 := smI_iff hj
  have hs := PySem.W.small_down h1.1 h1.2 h2.1 h2.2
  have e := PySem.W.rangeSize_downNat i j
  unfold rg3V
  simp only [hi, hj, hs, Bool.and_self, Bool.and_true, Bool.true_and]
  rw [if_pos (by decide), e, Int.toNat_natCast]
/-! x[k], y[l] = a, b -/
def putV (i : Nat) (k : FE) (y : DV × Md) (ρ : Env) : RS := match ownAt ρ i with
  | some d => (match k ρ with
    | .ok z => (match asI z with
      | .ok (some n) => (match setD d n y with
        | some d' => .nx (ρ.set i (some (d', .own)))
        | none => .bad)
      | _ => .bad)
    | .ex c p => .ex c p ρ
    | .bad => .bad)
  | none => .bad
def put2V (i : Nat) (k : FE) (j : Nat) (l : FE) (x : DV × Md) (ρ : Env) : RS := match x.1 with
  | .i (.tup [u, v]) => (putV i k (.i u, .own) ρ).seq (putV j l (.i v, .own))
  | _ => .bad
def sPut2 (i : Nat) (k : FE) (j : Nat) (l : FE) (f : FE) : FS := fun ρ => (f ρ).st ρ fun x => put2V i k j l x ρ
section
variable {X : Cx} {pos : Pos}
def putQ (K : PySem.W.Frag) (mg : MG) (W : WX) (σ : St) (H0 Pz : Hp) (T : Addr → Prop) (H : Hp) (r : RS) (Q : St → Hp → Prop) : Prop := match r with
  | .nx ρ' => ∀ H' Fs', TKeep H H' → EnvR K H0 Pz T H' σ ρ' Fs' → Q σ H'
  | .ex c p ρ' => ∀ C d σ' H' Fs', mg c = some (.ref C) → EnvR K H0 Pz T H' σ' ρ' Fs' → ExD K H' d p → W (.ref C) d σ' H'
  | _ => False
theorem put_imp {K : PySem.W.Frag} {mg : MG} {W : WX} {σ : St} {H0 Pz H : Hp} {T : Addr → Prop} {ρ : Env} {Fs : Nat → List Addr} {i : Nat} {k : FE} {v : V} {u : IV} {Q : St → Hp → Prop} (E : EnvR K H0 Pz T H σ ρ Fs) (r : RpI K H v u)
    (h : putQ K mg W σ H0 Pz T H (putV i k (.i u, .own) ρ) Q) : gSub (tVar i) (tev K mg W k) rSetL v σ H Q := by
  unfold putV at h
  cases e2 : ownAt ρ i with
  | none => rw [e2] at h; exact h.elim
  | some d =>
    rw [e2] at h
    obtain ⟨a, vs, A, hv, hF, hl⟩ := E.ownL e2
    refine ⟨_, hv, ?_⟩
    show tev K mg W k σ H _
    simp only at h
    cases e3 : k ρ with
    | bad => rw [e3] at h; exact h.elim
    | ex c p => rw [e3] at h; exact ex_of E e3 h
    | ok z =>
      rw [e3] at h
      refine tev_ok E e3 fun w H2 G s2 E2 r2 o2 => ?_
      simp only at h
      cases e4 : asI z with
      | bad => rw [e4] at h; exact h.elim
      | ex c p => exact absurd e4 asI_noex
      | ok n =>
        obtain ⟨n', hz, hn⟩ := asI_ok e4
        subst hn
        rw [e4] at h
        simp only at h
        rw [hz] at r2
        cases r2 with
        | i r2 =>
          cases r2
          cases e5 : setD d n' (.i u, .own) with
          | none => rw [e5] at h; exact h.elim
          | some d' =>
            rw [e5] at h
            obtain ⟨a', vs', j, Fs', hv', hl', hj, E'⟩ := set_env E2 (ownAt_iff e2) (.i (r.same s2)) .nil e5
            rw [hv] at hv'
            cases hv'
            exact ⟨a, vs', n', j, rfl, rfl, hl', hj, h _ Fs' ((same_tkeep s2).trans (upd_tkeep hl')) E'⟩
theorem sv_put2 {i j : Nat} {x y : Str} {e ke le : Expr} {f k l : FE} {px py tp1 tp2 tpos : Pos} {kt : Nat} (he : PEv X e f) (hk : PEv X ke k) (hl : PEv X le l) (hc : X.calm = true) (hN : X.N[i]? = some x := by rfl) (hN2 : X.N[j]? = some y := by rfl)
    (hv : Vis X.env.scope x := by first | exact Or.inl rfl | exact Or.inr (Or.inl rfl) | exact Or.inr (Or.inr rfl)) (hv2 : Vis X.env.scope y := by first | exact Or.inl rfl | exact Or.inr (Or.inl rfl) | exact Or.inr (Or.inr rfl))
    (hd : (x == ("__debug__" : Str)) = false := by decide) (hcd : (x == ("__classdict__" : Str)) = false := by decide) (hd2 : (y == ("__debug__" : Str)) = false := by decide) (hcd2 : (y == ("__classdict__" : Str)) = false := by decide)
    (ha : ∀ v, assign (.Subscript (.Name x px) ke tp1) X.env v = (do
      let ov ← holding [v] (eval (.Name x px) X.env)
      let iv ← holding [v, ov] (eval ke X.env)
      standAt tp1
      holding [v, ov, iv] (setItem ov iv v)
      release [v, ov, iv] []) := by intro _; rfl)
    (ha2 : ∀ v, assign (.Subscript (.Name y py) le tp2) X.env v = (do
      let ov ← holding [v] (eval (.Name y py) X.env)
      let iv ← holding [v, ov] (eval le X.env)
      standAt tp2
      holding [v, ov, iv] (setItem ov iv v)
      release [v, ov, iv] []) := by intro _; rfl)
    (hs : swapsWithSole [.Tuple [.Subscript (.Name x px) ke tp1, .Subscript (.Name y py) le tp2] kt tpos] e pos.line X.env = pure false := by rfl) (hw : swappedStores [.Tuple [.Subscript (.Name x px) ke tp1, .Subscript (.Name y py) le tp2] kt tpos] e X.env = pure none := by rfl)
    (h1 : (assignEach [.Tuple [.Subscript (.Name x px) ke tp1, .Subscript (.Name y py) le tp2] kt tpos] X.env).map (·.2) = [assign (.Tuple [.Subscript (.Name x px) ke tp1, .Subscript (.Name y py) le tp2] kt tpos) X.env] := by rfl)
    (hn : (assignEach [.Subscript (.Name x px) ke tp1, .Subscript (.Name y py) le tp2] X.env).length = 2 := by rfl) (hst : (assignEach [.Subscript (.Name x px) ke tp1, .Subscript (.Name y py) le tp2] X.env).findIdx? (·.1) = none := by rfl)
    (hs1 : (assignEach [.Subscript (.Name x px) ke tp1, .Subscript (.Name y py) le tp2] X.env).map (·.2) = assign (.Subscript (.Name x px) ke tp1) X.env :: (assignEach [.Subscript (.Name y py) le tp2] X.env).map (·.2) := by rfl)
    (hs2 : (assignEach [.Subscript (.Name y py) le tp2] X.env).map (·.2) = assign (.Subscript (.Name y py) le tp2) X.env :: (assignEach [] X.env).map (·.2) := by rfl) :
    PSv X (.Assign [.Tuple [.Subscript (.Name x px) ke tp1, .Subscript (.Name y py) le tp2] kt tpos] e pos) (sPut2 i k j l f) := fun W tk =>
  PS.imp (ps_asg (he W tk) (pg_tup hc (pgs_cons (pg_sub (pe_var hN hv hd hcd) (hk W tk) set_list ha) (pgs_cons (pg_sub (pe_var hN2 hv2 hd2 hcd2) (hl W tk) set_list ha2) pgs_nil hs2) hs1) hn hst) hs hw h1) fun D σ H h => by
    obtain ⟨H0, Pz, T, ρ, Fs, E, h⟩ := h
    show tev X.K X.mg W f σ H _
    unfold sPut2 at h
    cases e1 : f ρ with
    | bad => rw [e1] at h; exact h.elim
    | ex c p => rw [e1] at h; exact ex_of E e1 h
    | ok z =>
      rw [e1] at h
      refine tev_ok E e1 fun w H1 F s1 E1 r1 o1 => ?_
      obtain ⟨z, mz⟩ := z
      have h : Post X.K X.mg W H0 Pz T D (put2V i k j l (z, mz) ρ) := h
      unfold put2V at h
      simp only at h r1
      split at h
      · rename_i u v h0
        cases r1 with
        | i r1 =>
          cases r1 with
          | tup st t =>
            cases t with
            | @cons v1 _ _ _ ra t =>
              cases t with
              | @cons v2 _ _ _ rb t =>
                cases t
                refine ⟨_, [v1, v2], rfl, SqT.of st, rfl, v1, [v2], rfl, ?_⟩
                refine put_imp E1 ra ?_
                cases e2 : putV i k (.i u, .own) ρ with
                | nx ρ' =>
                  rw [e2] at h
                  intro H2 Fs2 k2 E2
                  refine ⟨v2, [], rfl, ?_⟩
                  refine put_imp E2 (rb.mono k2) ?_
                  have h : Post X.K X.mg W H0 Pz T D (putV j l (.i v, .own) ρ') := h
                  cases e3 : putV j l (.i v, .own) ρ' with
                  | nx ρ2 => rw [e3] at h; exact fun H3 Fs3 k3 E3 => ⟨rfl, h σ H3 Fs3 E3⟩
                  | ex c p ρ2 => rw [e3] at h; exact h
                  | bk ρ2 => exact absurd e3 (by unfold putV; repeat (first | split | (intro q; cases q)))
                  | ct ρ2 => exact absurd e3 (by unfold putV; repeat (first | split | (intro q; cases q)))
                  | rt d => exact absurd e3 (by unfold putV; repeat (first | split | (intro q; cases q)))
                  | bad => rw [e3] at h; exact h.elim
                | ex c p ρ2 => rw [e2] at h; exact h
                | bk ρ2 => exact absurd e2 (by unfold putV; repeat (first | split | (intro q; cases q)))
                | ct ρ2 => exact absurd e2 (by unfold putV; repeat (first | split | (intro q; cases q)))
                | rt d => exact absurd e2 (by unfold putV; repeat (first | split | (intro q; cases q)))
                | bad => rw [e2] at h; exact h.elim
      · exact h.elim
end
@[simp] theorem sPut2_ap (i : Nat) (k : FE) (j : Nat) (l : FE) (f : FE) (ρ : Env) : sPut2 i k j l f ρ = (f ρ).st ρ fun x => put2V i k j l x ρ := rfl
@[simp] theorem put2V_tup (i : Nat) (k : FE) (j : Nat) (l : FE) (u v : IV) (m : Md) (ρ : Env) : put2V i k j l (.i (.tup [u, v]), m) ρ = (putV i k (.i u, .own) ρ).seq (putV j l (.i v, .own)) := rfl
@[simp] theorem put2V_iL (i : Nat) (k : FE) (j : Nat) (l : FE) (u v : Int) (m : Md) (ρ : Env) : put2V i k j l (.i (.tup (iL [u, v])), m) ρ = (putV i k (.i (.int u), .own) ρ).seq (putV j l (.i (.int v), .own)) := rfl
@[simp] theorem putV_ap (i : Nat) (k : FE) (y : DV × Md) (ρ : Env) : putV i k y ρ = match ownO ρ[i]? with
  | some d => (k ρ).st ρ fun z => (match asI z with
    | .ok (some n) => (match setD d n y with
      | some d' => .nx (ρ.set i (some (d', .own)))
      | none => .bad)
    | _ => .bad)
  | none => .bad := by
  unfold putV R.st
  rw [ownAt_ap]
  cases ownO ρ[i]? with
  | none => rfl
  | some d => simp only; cases k ρ <;> rfl
/-! a, b, c = x, y, z: three new lists -/
def par3L (ρ : Env) (i j l : Nat) : DV × Md → DV × Md → DV × Md → Option Env
  | (.l a, .own), (.l b, .own), (.l c, .own) => some (((ρ.set i (some (.l a, .own))).set j (some (.l b, .own))).set l (some (.l c, .own)))
  | _, _, _ => none
def par3LR (i j l : Nat) (ρ : Env) (x y z : DV × Md) : RS := if i < ρ.length ∧ j < ρ.length ∧ l < ρ.length then (match par3L ρ i j l x y z with
  | some ρ' => .nx ρ'
  | none => .bad) else .bad
def sPar3L (i j l : Nat) (f g h : FE) : FS := fun ρ => (f ρ).st ρ fun x => (g ρ).st ρ fun y => (h ρ).st ρ fun z => par3LR i j l ρ x y z
section
variable {X : Cx} {pos : Pos}
theorem sv_par3L {i j l : Nat} {x y z : Str} {a b c : Expr} {f g hh : FE} {px py pz pt : Pos} {kt k2 pt2} (hc : X.calm = true) (hN : X.N.Nodup) (hi : X.N[i]? = some x) (hj : X.N[j]? = some y) (hl : X.N[l]? = some z) (hij : i ≠ j) (hil : i ≠ l) (hjl : j ≠ l)
    (hx : X.env.scope.names.lookup x = some .local) (hy : X.env.scope.names.lookup y = some .local) (hz : X.env.scope.names.lookup z = some .local) (ha : PEv X a f) (hb : PEv X b g) (hcc : PEv X c hh)
    (hw : swappedStores [.Tuple [.Name x px, .Name y py, .Name z pz] kt pt] (.Tuple [a, b, c] k2 pt2) X.env = pure (some [x, y, z]))
    (hs : swapsWithSole [.Tuple [.Name x px, .Name y py, .Name z pz] kt pt] (.Tuple [a, b, c] k2 pt2) pos.line X.env = pure false := by rfl)
    (he : starEach (a :: [b, c]) X.env = (false, eval a X.env) :: starEach [b, c] X.env := by rfl) (he2 : starEach (b :: [c]) X.env = (false, eval b X.env) :: starEach [c] X.env := by rfl) (he3 : starEach (c :: []) X.env = (false, eval c X.env) :: starEach [] X.env := by rfl) :
    PSv X (.Assign [.Tuple [.Name x px, .Name y py, .Name z pz] kt pt] (.Tuple [a, b, c] k2 pt2) pos) (sPar3L i j l f g hh) := fun W tk =>
  PS.imp (ps_par3 hc hN hi hj hl hij hil hjl hx hy hz (pa_cons (ha W tk) (pa_cons (hb W tk) (pa_cons (hcc W tk) pa_nil he3) he2) he) hw hs) fun D σ H h => by
    obtain ⟨H0, Pz, T, ρ, Fs, E, h⟩ := h
    show tev X.K X.mg W f σ H _
    unfold sPar3L at h
    cases e1 : f ρ with
    | bad => rw [e1] at h; exact h.elim
    | ex c p => rw [e1] at h; exact ex_of E e1 h
    | ok x =>
      rw [e1] at h
      refine tev_ok E e1 fun v H1 F s1 E1 r1 o1 => ?_
      show tev X.K X.mg W g σ H1 _
      cases e2 : g ρ with
      | bad => simp only [R.st, e2] at h
      | ex c p => simp only [R.st, e2] at h; exact ex_of E1 e2 h
      | ok y =>
        have h : Post X.K X.mg W H0 Pz T D ((hh ρ).st ρ fun z => par3LR i j l ρ x y z) := by simp only [R.st, e2] at h; exact h
        by_cases hxy : ∃ a b, x = (.l a, .own) ∧ y = (.l b, .own)
        · obtain ⟨a1, b1, rfl, rfl⟩ := hxy
          cases r1 with
          | @l aa vs1 _ p1 t1 =>
            have tp := o1.top rfl aa [] rfl
            have E1' := E1.moreT tp.1 (mb_l p1) tp.2.2
            refine tev_ok E1' e2 fun u H2 G s2 E2 r2 o2 => ?_
            show tev X.K X.mg W hh σ H2 _
            have p1' := s2 _ _ p1
            cases r2 with
            | @l bb vs2 _ p2 t2 =>
              have tp2 := o2.top rfl bb [] rfl
              have hab : bb ≠ aa := fun z => (o2.notops (by intro q; cases q)).2 aa (.inr rfl) (by rw [z]; exact List.mem_cons_self)
              cases e3 : hh ρ with
              | bad => rw [e3] at h; exact h.elim
              | ex c p => rw [e3] at h; exact ex_of (E2.lessT (T' := T) fun b tb => .inl tb) e3 h
              | ok z =>
                rw [e3] at h
                have E2' := E2.moreT tp2.1 (mb_l p2) tp2.2.2
                refine tev_ok E2' e3 fun w H3 Z s3 E3 r3 o3 => ?_
                have h : Post X.K X.mg W H0 Pz T D (par3LR i j l ρ (.l a1, .own) (.l b1, .own) z) := h
                unfold par3LR at h
                by_cases hlen : i < ρ.length ∧ j < ρ.length ∧ l < ρ.length
                · rw [if_pos hlen] at h
                  obtain ⟨hil', hjl', hll'⟩ := hlen
                  cases e4 : par3L ρ i j l (.l a1, .own) (.l b1, .own) z with
                  | none => rw [e4] at h; exact h.elim
                  | some ρ' =>
                    rw [e4] at h
                    unfold par3L at e4
                    split at e4
                    · rename_i a2 b2 c2 q1 q2
                      cases q1
                      cases q2
                      cases e4
                      have n3 := (o3.notops (by intro z; cases z)).2
                      have d2 : ∀ c ∈ [aa], c ∉ Z := fun c hc => by
                        rw [List.mem_singleton.mp hc]; exact n3 aa (.inl (.inr rfl))
                      have d3 : ∀ c ∈ [bb], c ∉ Z := fun c hc => by
                        rw [List.mem_singleton.mp hc]; exact n3 bb (.inr rfl)
                      have d1 : ∀ c ∈ [aa], c ∉ [bb] := fun c hc hb => by
                        simp only [List.mem_singleton] at hc hb
                        exact hab (hb.symm.trans hc)
                      have E4 := E3.lessT (T' := T) fun b tb => .inl (.inl tb)
                      have o1' := ((o1.same s2).same s3)
                      have o2' := (o2.lessT (T' := T) fun b tb => .inl tb).same s3
                      have o3' := o3.lessT (T' := T) fun b tb => .inl (.inl tb)
                      have r1' : RpD X.K H3 (.ref aa) (.l a1) [aa] := .l (s3 _ _ p1') ((t1.same s2).same s3)
                      have r2' : RpD X.K H3 (.ref bb) (.l b1) [bb] := .l (s3 _ _ p2) (t2.same s3)
                      have nt : Md.own ≠ Md.tmp := by intro z; cases z
                      have E5 := E4.set hil' r1' o1' nt
                      have o2a := o1'.afterSet (d := .l a1) hil' o2' nt nt d1
                      have o3a := o1'.afterSet (d := .l a1) hil' o3' nt nt d2
                      have hj2 : j < (ρ.set i (some (.l a1, .own))).length := by rw [List.length_set]; exact hjl'
                      exact ⟨_, _, _, rfl, h _ H3 _ ((E5.set hj2 r2' o2a nt).set (by rw [List.length_set, List.length_set]; exact hll') r3 (o2a.afterSet (d := .l b1) hj2 o3a nt nt d3) nt)⟩
                    · cases e4
                · rw [if_neg hlen] at h; exact h.elim
        · refine tev_ok E1 e2 fun u H2 G s2 E2 r2 o2 => ?_
          show tev X.K X.mg W hh σ H2 _
          cases e3 : hh ρ with
          | bad => rw [e3] at h; exact h.elim
          | ex c p => rw [e3] at h; exact ex_of E2 e3 h
          | ok z =>
            rw [e3] at h
            have h : Post X.K X.mg W H0 Pz T D (par3LR i j l ρ x y z) := h
            have : par3LR i j l ρ x y z = .bad := by
              unfold par3LR
              split
              · have : par3L ρ i j l x y z = none := by
                  unfold par3L
                  split
                  · exact absurd ⟨_, _, rfl, rfl⟩ hxy
                  · rfl
                rw [this]
              · rfl
            rw [this] at h
            exact h.elim
end
@[simp] theorem sPar3L_ap (i j l : Nat) (f g h : FE) (ρ : Env) : sPar3L i j l f g h ρ = (f ρ).st ρ fun x => (g ρ).st ρ fun y => (h ρ).st ρ fun z => par3LR i j l ρ x y z := rfl
@[simp] theorem par3LR_l (i j l : Nat) (ρ : Env) (a b c : List IV) : par3LR i j l ρ (.l a, .own) (.l b, .own) (.l c, .own) = if i < ρ.length ∧ j < ρ.length ∧ l < ρ.length then .nx (((ρ.set i (some (.l a, .own))).set j (some (.l b, .own))).set l (some (.l c, .own))) else .bad := rfl
end L2.Pv

/-! {} , d[k] = e, len(set(a tuple of integers)) -/
namespace L2.Pv
open PySem PySem.Spec PyProof.Rows L2
/-! ### {} -/
def eNewK : FE := fun _ => .ok (.k [], .own)
def eNewT : FE := fun _ => .ok (.h [], .own)
section
variable {X : Cx} {pos : Pos}
theorem ev_newK : PEv X (.Dict [] [] pos) eNewK := fun W tk => PE.imp pe_dnewK fun σ H Q h => by
  obtain ⟨H0, Pz, T, ρ, Fs, E, h⟩ := h
  intro p hp
  exact h (.ref p) _ [p] (same_upd hp) (.k upd_same .nil) (.new E (fun a ha => by
    cases List.mem_singleton.mp ha
    exact ⟨hp, mb_k upd_same⟩) fun a G e => by cases e; intro z; cases z)
theorem ev_newT : PEv X (.Dict [] [] pos) eNewT := fun W tk => PE.imp pe_dnewT fun σ H Q h => by
  obtain ⟨H0, Pz, T, ρ, Fs, E, h⟩ := h
  intro p hp
  exact h (.ref p) _ [p] (same_upd hp) (.h upd_same .nil) (.new E (fun a ha => by
    cases List.mem_singleton.mp ha
    exact ⟨hp, mb_h upd_same⟩) fun a G e => by cases e; intro z; cases z)
end
/-! ### d[k] = e -/
/-- the dict with the new item -/
def putD : DV → IV → IV → Option DV
  | .k kvs, x, y => (match keyI x with
    | some k => if kvs.length < 16777216 then some (.k (kPut kvs k y)) else none
    | none => none)
  | .h kvs, .tup xs, y => (match keysI xs with
    | some k => if kvs.length < 16777216 then some (.h (kPut kvs k y)) else none
    | none => none)
  | _, _, _ => none
def ownD : Option (Option (DV × Md)) → Option DV
  | some (some (.k kvs, .own)) => some (.k kvs)
  | some (some (.h kvs, .own)) => some (.h kvs)
  | _ => none
def sPutK (i : Nat) (k f : FE) : FS := fun ρ => (f ρ).st ρ fun y => match y.1 with
  | .i yv => (match ownD ρ[i]? with
    | some d => (k ρ).st ρ fun z => (match z.1 with
      | .i kx => (match putD d kx yv with
        | some d' => .nx (ρ.set i (some (d', .own)))
        | none => .bad)
      | _ => .bad)
    | none => .bad)
  | _ => .bad
section
variable {X : Cx} {pos : Pos}
theorem sv_putK {i : Nat} {x : Str} {e ke : Expr} {f k : FE} {px tpos : Pos} (hu : X.A.units + 1 < cLine) (he : PEv X e f) (hk : PEv X ke k) (hN : X.N[i]? = some x := by rfl) (hv : Vis X.env.scope x := by first | exact Or.inl rfl | exact Or.inr (Or.inl rfl) | exact Or.inr (Or.inr rfl)) (hd : (x == ("__debug__" : Str)) = false := by decide)
    (hcd : (x == ("__classdict__" : Str)) = false := by decide)
    (ha : ∀ v, assign (.Subscript (.Name x px) ke tpos) X.env v = (do
      let ov ← holding [v] (eval (.Name x px) X.env)
      let iv ← holding [v, ov] (eval ke X.env)
      standAt tpos
      holding [v, ov, iv] (setItem ov iv v)
      release [v, ov, iv] []) := by intro _; rfl)
    (hs : swapsWithSole [.Subscript (.Name x px) ke tpos] e pos.line X.env = pure false := by rfl) (hw : swappedStores [.Subscript (.Name x px) ke tpos] e X.env = pure none := by rfl)
    (h1 : (assignEach [.Subscript (.Name x px) ke tpos] X.env).map (·.2) = [assign (.Subscript (.Name x px) ke tpos) X.env] := by rfl) :
    PSv X (.Assign [.Subscript (.Name x px) ke tpos] e pos) (sPutK i k f) := fun W tk =>
  PS.imp (ps_asg (he W tk) (pg_sub (pe_var hN hv hd hcd) (hk W tk) (set_dict hu) ha) hs hw h1) fun D σ H h => by
    obtain ⟨H0, Pz, T, ρ, Fs, E, h⟩ := h
    show tev X.K X.mg W f σ H _
    unfold sPutK at h
    cases e1 : f ρ with
    | bad => rw [e1] at h; exact h.elim
    | ex c p => rw [e1] at h; exact ex_of E e1 h
    | ok y =>
      rw [e1] at h
      refine tev_ok E e1 fun v H1 F s1 E1 r1 o1 => ?_
      obtain ⟨y, my⟩ := y
      simp only [R.st] at h
      cases y with
      | i yv =>
        simp only at h
        cases r1 with
        | i r1 =>
          cases e2 : ownD ρ[i]? with
          | none => rw [e2] at h; exact h.elim
          | some d =>
            rw [e2] at h
            simp only at h
            have hi : ρ[i]? = some (some (d, .own)) := by
              unfold ownD at e2
              split at e2
              · rename_i q; cases e2; exact q
              · rename_i q; cases e2; exact q
              · cases e2
            obtain ⟨w, hvw, rd⟩ := E1.at_ i d .own hi
            refine ⟨w, hvw, ?_⟩
            show tev X.K X.mg W k σ H1 _
            cases e3 : k ρ with
            | bad => rw [e3] at h; exact h.elim
            | ex c p => rw [e3] at h; exact ex_of E1 e3 h
            | ok z =>
              rw [e3] at h
              refine tev_ok E1 e3 fun u H2 G s2 E2 r2 o2 => ?_
              obtain ⟨z, mz⟩ := z
              simp only [R.st] at h
              cases z with
              | i kx =>
                simp only at h
                cases r2 with
                | i r2 =>
                  cases e4 : putD d kx yv with
                  | none => rw [e4] at h; exact h.elim
                  | some d' =>
                    rw [e4] at h
                    obtain ⟨w2, hvw2, rd2⟩ := E2.at_ i d .own hi
                    rw [hvw] at hvw2
                    cases hvw2
                    obtain ⟨Fi, hFi⟩ : ∃ Fi, Fi = Fs i := ⟨_, rfl⟩
                    rw [← hFi] at rd2
                    have rv := r1.same s2
                    unfold putD at e4
                    split at e4
                    · split at e4
                      · rename_i kk hkk
                        split at e4
                        · rename_i hlen
                          cases e4
                          cases rd2 with
                          | @k a vs _ sa t =>
                            have EE := E2.updTop' (d' := .k (kPut _ kk yv)) (q := .dK (putK vs kk v)) (G := []) (G' := []) trivial hi hFi.symm hvw (mb_k sa) (.k upd_same ((t.put rv kk).mono (upd_tkeep' (mb_k sa)))) (fun _ z => nomatch z) (fun z => nomatch z) (fun _ _ _ _ _ _ _ z => nomatch z) (fun _ _ z => nomatch z)
                            exact ⟨a, _, rfl, .inl ⟨vs, kk, sa, r2.key hkk, by rw [slEq, t.length]; exact hlen, rfl⟩, h _ _ _ EE⟩
                        · cases e4
                      · cases e4
                    · split at e4
                      · rename_i kk hkk
                        split at e4
                        · rename_i hlen
                          cases e4
                          cases rd2 with
                          | @h a vs _ sa t =>
                            cases r2 with
                            | tup sb tb =>
                              have EE := E2.updTop' (d' := .h (kPut _ kk yv)) (q := .dT (putK vs kk v)) (G := []) (G' := []) trivial hi hFi.symm hvw (mb_h sa) (.h upd_same ((t.put rv kk).mono (upd_tkeep' (mb_h sa)))) (fun _ z => nomatch z) (fun z => nomatch z) (fun _ _ _ _ _ _ _ z => nomatch z) (fun _ _ z => nomatch z)
                              exact ⟨a, _, rfl, .inr ⟨vs, kk, _, sa, rfl, by rw [← tb.keys hkk]; exact sb, by rw [slEq, t.length]; exact hlen, rfl⟩, h _ _ _ EE⟩
                        · cases e4
                      · cases e4
                    · cases e4
              | _ => exact h.elim
      | _ => exact h.elim
end
/-! ### len(set(..)) of a tuple of integers, that may repeat -/
def eLenSetT (f : FE) : FE := fun ρ => (f ρ).bind lenSetT
theorem len_same : ∀ {a b : List Int}, a.Nodup → b.Nodup → (∀ x, x ∈ a ↔ x ∈ b) → a.length = b.length
  | [], [], _, _, _ => rfl
  | [], y :: b, _, _, h => absurd ((h y).mpr List.mem_cons_self) (by simp)
  | x :: a, b, ha, hb, h => by
    have hx : x ∈ b := (h x).mp List.mem_cons_self
    rw [List.nodup_cons] at ha
    have e := len_same (a := a) (b := b.erase x) ha.2 (hb.erase x) (fun z => by
      rw [hb.mem_erase_iff]
      constructor
      · intro hz
        exact ⟨fun q => ha.1 (q ▸ hz), (h z).mp (List.mem_cons_of_mem _ hz)⟩
      · rintro ⟨q1, q2⟩
        rcases List.mem_cons.mp ((h z).mpr q2) with q | q
        · exact absurd q q1
        · exact q)
    rw [List.length_cons, e, List.length_erase_of_mem hx]
    have := List.length_pos_of_mem hx
    omega
section
variable {X : Cx}
theorem ev_lenSetT {a : Expr} {f : FE} {p p2 q pos : Pos} (hc : X.calm = true) (hg : Gl X "len") (hm : X.mg "len" = none) (hg2 : Gl X "set") (hm2 : X.mg "set" = none) (ha : PEv X a f)
    (na : starEach [a] X.env = (false, eval a X.env) :: starEach [] X.env := by rfl) : PEv X (.Call (.Name "len" p) [.Call (.Name "set" p2) [a] [] q] [] pos) (eLenSetT f) := fun W tk => by
  refine ⟨fun pins s σ H Q I h => ?_⟩
  obtain ⟨H0, Pz, T, ρ, Fs, E, h⟩ := h
  refine Call_ (ld_blt I hg hm PySem.boot_len ?_)
  refine PyProof.Rows.callWith_builtin1 (PyProof.Rows.args_cons ?_ rfl) rfl rfl
  refine Call_ (ld_blt I hg2 hm2 PyProof.Rows.boot_set ?_)
  have t : tev X.K X.mg W f σ H fun x H1 => ∃ (l : Addr) (ns : List Int), x = V.ref l ∧ SqT X.K H1 l (ns.map V.int) ∧ ns.length < 64 ∧ Q (.int (sortU ns).length) H1 := by
    cases e1 : f ρ with
    | bad => simp only [eLenSetT, e1, R.bind] at h
    | ex c p => simp only [eLenSetT, e1, R.bind] at h; exact tev_ex E e1 h
    | ok x =>
      simp only [eLenSetT, e1, R.bind] at h
      refine tev_ok E e1 fun v H1 F s1 E1 r1 o1 => ?_
      obtain ⟨x, m⟩ := x
      unfold lenSetT at h
      split at h
      · rename_i z q
        split at q
        · rename_i q0
          cases q0
          split at q
          · rename_i ns hn
            split at q
            · rename_i h64
              cases q
              cases r1 with
              | i r =>
                cases r with
                | tup s t =>
                  rw [ints?_some hn] at t
                  rw [t.ints] at s
                  exact ⟨_, ns, rfl, SqT.of s, h64, h _ _ _ s1 (.i (.int _)) .nil⟩
            · cases q
          · cases q
        · cases q
      · rename_i c p q
        exfalso
        split at q
        · split at q
          · split at q <;> cases q
          · cases q
        · cases q
      · exact h.elim
  refine PyProof.Rows.callWith_type1 (PyProof.Rows.args_cons (thn ((ha W tk).run pins s σ H _ I t) fun v s1 ⟨x, H1, I1, r1, q1⟩ => PyProof.Rows.args_nil ?_) na) na rfl
  obtain ⟨l, ns, rfl, hq, h1, q1⟩ := q1
  cases r1
  obtain ⟨its, r, pl, hz⟩ := I1.tuple hq
  have hn : H1 s1.heap.objs.size = none := I1.hok.fresh (Nat.le_refl _)
  refine call_set_tupI ns (I1.ok.hd hc) pl (by simpa using r.ints) (by unfold scanBound; omega) fun h' tk2 c R hcl k => PyProof.Rows.args_nil ?_
  obtain ⟨o, es, ep, t, ho, hex, hd, _, hnd, hmem, _, hf, hn, _⟩ := R
  have hlen : es.size = (sortU ns).length := by
    have e := len_same hnd ((sortU_sorted ns).imp fun h => Int.ne_of_lt h) (fun z => by rw [← hmem z, sortU_mem, decide_eq_true_eq])
    rw [← e, List.length_map, Array.length_toList]
  have I2 : Inv X pins σ H1 { s1 with heap := h', toks := tk2 } := I1.kept fun b o e => k b o e
  exact call_len_set ho hex hd hf (by rw [hn] <;> omega) ⟨.int (sortU ns).length, H1, I2.tok _, ⟨_, by rw [hlen]⟩, q1⟩
end
/-! ### evaluation -/
@[simp] theorem eNewK_ap (ρ : Env) : eNewK ρ = .ok (.k [], .own) := rfl
@[simp] theorem eNewT_ap (ρ : Env) : eNewT ρ = .ok (.h [], .own) := rfl
@[simp] theorem eLenSetT_ap (f : FE) (ρ : Env) : eLenSetT f ρ = (f ρ).bind lenSetT := rfl
theorem lenSetT_iL {ns : List Int} {m : Md} (h : ns.length < 64) : lenSetT (.i (.tup (iL ns)), m) = .ok (.i (.int (sortU ns).length), .own) := by
  unfold lenSetT
  simp only [ints?_ints, if_pos h]
def putR (ρ : Env) (i : Nat) : Option DV → RS
  | some d' => .nx (ρ.set i (some (d', .own)))
  | none => .bad
def putKR (ρ : Env) (i : Nat) (k : FE) (yv : IV) : Option DV → RS
  | some d => (k ρ).st ρ fun z => (match z.1 with
      | .i kx => putR ρ i (putD d kx yv)
      | _ => .bad)
  | none => .bad
def putYR (ρ : Env) (i : Nat) (k : FE) (y : DV × Md) : RS := match y.1 with
  | .i yv => putKR ρ i k yv (ownD ρ[i]?)
  | _ => .bad
@[simp] theorem sPutK_ap (i : Nat) (k f : FE) (ρ : Env) : sPutK i k f ρ = (f ρ).st ρ fun y => putYR ρ i k y := by
  unfold sPutK putYR putKR putR
  rfl
@[simp] theorem putYR_i (ρ : Env) (i : Nat) (k : FE) (x : IV) (m : Md) : putYR ρ i k (.i x, m) = putKR ρ i k x (ownD ρ[i]?) := rfl
@[simp] theorem ownD_k (kvs : List (Key × IV)) : ownD (some (some (.k kvs, .own))) = some (.k kvs) := rfl
@[simp] theorem ownD_h (kvs : List (List Key × IV)) : ownD (some (some (.h kvs, .own))) = some (.h kvs) := rfl
def putZR (ρ : Env) (i : Nat) (d : DV) (yv : IV) (z : DV × Md) : RS := match z.1 with
  | .i kx => putR ρ i (putD d kx yv)
  | _ => .bad
@[simp] theorem putKR_some (ρ : Env) (i : Nat) (k : FE) (x : IV) (d : DV) : putKR ρ i k x (some d) = (k ρ).st ρ fun z => putZR ρ i d x z := rfl
@[simp] theorem putZR_i (ρ : Env) (i : Nat) (d : DV) (x y : IV) (m : Md) : putZR ρ i d x (.i y, m) = putR ρ i (putD d y x) := rfl
@[simp] theorem putD_int (kvs : List (Key × IV)) (i : Int) (y : IV) : putD (.k kvs) (.int i) y = if kvs.length < 16777216 then some (.k (kPut kvs (.inl i) y)) else none := rfl
@[simp] theorem putR_some (ρ : Env) (i : Nat) (d : DV) : putR ρ i (some d) = .nx (ρ.set i (some (d, .own))) := rfl
end L2.Pv

/-! sorted(a tuple) -/
namespace L2.Pv
open PySem PySem.Spec PyProof.Rows L2
section
variable {prog : Program} {w : World} {A : Around} {E : Value → Shared → Prop} {s : Shared} {β : Type} {vs : List Value} {bs : List β} {enc : β → PyData} {R : Value → β → Prop}
theorem sorted_dataT {l : Addr} {Q : Value → Shared → Prop} (hl : s.heap.IsTuple l vs.toArray) (e : PySem.W.EachIs R vs bs) (er : PySem.W.EachIs (fun v b => ∃ as, Reads s.heap v (enc b) as) vs bs) (hal : PySem.W.AllAlike (bs.map enc)) (hk : PySem.W.Sortable (bs.map enc)) (hL : bs.length ≤ sizeLine)
    (hu : ∀ b, b ∈ bs → A.units + 2 + (enc b).depth < cLine) (h : ∀ h' : Heap, (∀ b o, s.heap.get? b = some o → h'.get? b = some o) → ∀ out, out.length = bs.length → PySem.W.EachIs R out (bs.mergeSort (PySem.W.dataLe false enc)) →
      Q (.ref h'.objs.size) { s with heap := sortedHeap (h'.push (seqObj "list" vs.toArray 0)) h'.objs.size vs (List.toArray out) }) :
    wpAny (model prog w) A (call (.builtin "sorted") [.ref l]) Q E s := by
  obtain ⟨o, ho, hc, n, hd⟩ := hl
  have hL' : vs.length ≤ sizeLine := by rw [e.length]; exact hL
  refine call_function_entry_kw kind_sorted plain_sorted entry_sorted (args_sorted1 _) ?_
  unfold Builtin.«sorted»
  refine wpAny_bind (m := checkCount "sorted" 1 1 _) (wpAny_pure ?_)
  refine wpAny_bind (wpAny_collect_seq l (.inr rfl) ho hc hd (fun h' kp => ?_) (by simpa using hL'))
  refine wpAny_bind (wpAny_newList ?_ (by simpa using hL'))
  have hat : (h'.push (seqObj "list" vs.toArray 0)).get? h'.objs.size = some (seqObj "list" vs.toArray 0) := Heap.get?_push_size _ rfl
  show wpAny _ _ _ _ _ { s with heap := h'.push (seqObj "list" vs.toArray 0) }
  refine wpAny_bind (wpAny_holding (wpAny_call_entry_kw slot_list_sort ⟨_, hat, rfl⟩ entry_list_sort ?body (args_list_sort _)))
  case body =>
    show wpAny (model prog w) A.in1.in1 (Builtin.«list.sort» ⟨[.ref h'.objs.size], []⟩) _ _ _
    have er' : PySem.W.EachIs (fun v b => ∃ as, Reads (PySem.W.sortingHeap (h'.push (seqObj "list" vs.toArray 0)) h'.objs.size vs) v (enc b) as) vs bs := er.mono fun _ _ ⟨as, r⟩ => ⟨as, PyProof.Rows.Reads.keeps (fun b o q => PySem.W.sortingHeap_old (Nat.ne_of_lt (Heap.lt_size (kp b o q))) (Heap.get?_push_of_some _ (kp b o q))) r⟩
    refine PySem.W.list_sort_vals (s := { s with heap := h'.push (seqObj "list" vs.toArray 0) }) hat (PySem.W.SortsAt.data (s := { s with heap := PySem.W.sortingHeap (h'.push (seqObj "list" vs.toArray 0)) h'.objs.size vs }) (PySem.W.each_map (R := fun v d => ∃ as, Reads (PySem.W.sortingHeap (h'.push (seqObj "list" vs.toArray 0)) h'.objs.size vs) v d as) enc er') hal hk (PySem.W.bound_map hu)) hL' ?_
    exact ⟨_, rfl, wpAny_pure ⟨_, rfl, h h' kp _ (by rw [PySem.W.sortVals_length false rfl]; exact e.length) (PySem.W.sortVals_data false e er' hal)⟩⟩
end
def rSortedDT (K : PySem.W.Frag) : List V → Hp → VK → Prop := fun vs H Q => ∃ (a : Addr) (us : List V) (xs : List IV), vs = [V.ref a] ∧ SqT K H a us ∧ RpIs K H us xs ∧ okSort xs = true ∧
  ∀ (p : Addr) (ws : List V), H p = none → RpIs K H ws (sortI xs) → Q (.ref p) (upd H p (.lst ws))
theorem cr_sortedVT {X : Cx} (hu : X.A.units + 70 < cLine) : CallR X (.builtin "sorted") (rSortedDT X.K) := by
  intro pins s σ H vs us Q I r h
  obtain ⟨a, ws, xs, rfl, hs, hr, hk, q⟩ := h
  obtain ⟨its, rv, hl, hz⟩ := I.tuple hs
  rw [Vals.ref1 r]
  obtain ⟨k1, k2, k3⟩ := okSort_iff hk
  have e0 := each_of hr rv
  have e1 : PySem.W.EachIs (fun v b => ∃ as, Reads s.heap v (IV.py b) as) its xs := e0.mono fun u x ⟨v, h1, h2⟩ => Dp.reads I _ v u h2.dp h1
  refine sorted_dataT (enc := IV.py) hl e0 e1 k1 k2 (by rw [← hr.length]; exact hz) (fun b hb => by have := k3 b hb; omega) fun h' kp out h1 h2 => ?_
  obtain ⟨us2, q1, q2⟩ := of_each h2
  have hat : (h'.push (seqObj "list" its.toArray 0)).get? h'.objs.size = some (seqObj "list" its.toArray 0) := Heap.get?_push_size _ rfl
  obtain ⟨ep, he'⟩ := sortedHeap_at (vs := its) (out := out.toArray) hat
  have hlen : us2.length ≤ sizeLine := by rw [q2.length, h1, ← hr.length]; exact hz
  have I2 : Inv X pins σ H { s with heap := h' } := I.kept (t' := s.toks) kp
  exact ⟨.ref _, upd H h'.objs.size (.lst us2), I2.laid (t' := s.toks) (fun b u hb => by
    rw [sortedHeap_old (Nat.ne_of_lt (Heap.lt_size hb)) (by rw [size_push']; exact Nat.lt_succ_of_lt (Heap.lt_size hb)), Heap.get?_push_ne _ _ _ (Nat.ne_of_lt (Heap.lt_size hb))]
    exact hb) (Nat.le_refl _) ⟨hlen, out, ep, q2, he'⟩, rfl, q _ _ (I2.hok.fresh (Nat.le_refl _)) q1⟩
theorem perm_le1 {α : Type} {out its : List α} (li : its.length ≤ 1) (pm : out.Perm its) : out = its := by
  cases its with
  | nil => exact pm.eq_nil
  | cons y r =>
    cases r with
    | nil => exact List.perm_singleton.mp pm
    | cons z r => simp at li
/-- one item, or none -/
def rSorted1 (K : PySem.W.Frag) : List V → Hp → VK → Prop := fun vs H Q => ∃ (a : Addr) (us : List V) (xs : List IV), vs = [V.ref a] ∧ SqL K H a us ∧ RpIs K H us xs ∧ xs.length ≤ 1 ∧
  ∀ p : Addr, H p = none → Q (.ref p) (upd H p (.lst us))
theorem cr_sorted1 {X : Cx} : CallR X (.builtin "sorted") (rSorted1 X.K) := by
  intro pins s σ H vs us Q I r h
  obtain ⟨a, ws, xs, rfl, hs, hr, hk, q⟩ := h
  obtain ⟨its, rv, hl, hz⟩ := I.list hs
  rw [Vals.ref1 r]
  have li : its.length ≤ 1 := by rw [← rv.length, hr.length]; exact hk
  refine Srt.sorted_any hl.isList (by rw [← rv.length]; exact hz) (fun h2 => absurd h2 (by omega)) fun out pm => ?_
  have eo : out = its := perm_le1 li pm
  subst eo
  obtain ⟨ep, he'⟩ := PyProof.Rows.sortedAll_at s.heap out out.toArray
  exact ⟨.ref _, upd H (s.heap.objs.size + 1) (.lst ws), I.laid (t' := s.toks) (fun _ _ => PyProof.Rows.sortedAll_old) (Nat.le_succ _) ⟨hz, out, ep, rv, he'⟩, rfl, q _ (I.hok.fresh (Nat.le_succ _))⟩
/-- sorted(x), x a list or a tuple -/
def opSortedA (x : DV × Md) : R (DV × Md) := match x.1 with
  | .i (.tup xs) => if okSort xs then .ok (.l (sortI xs), .own) else .bad
  | .l xs => if xs.length ≤ 1 then .ok (.l xs, .own) else opSorted x
  | _ => opSorted x
theorem opSorted_r (x : DV × Md) : (∃ z, opSorted x = .ok z) ∨ opSorted x = .bad := by
  unfold opSorted
  split
  · split
    · exact .inl ⟨_, rfl⟩
    · exact .inr rfl
  · exact .inr rfl
theorem opSortedA_nx : NoEx1 opSortedA := noex1_of fun x => by
  unfold opSortedA
  split
  · split
    · exact .inl ⟨_, rfl⟩
    · exact .inr rfl
  · split
    · exact .inl ⟨_, rfl⟩
    · exact opSorted_r x
  · unfold opSorted
    split
    · split
      · exact .inl ⟨_, rfl⟩
      · exact .inr rfl
    · exact .inr rfl
abbrev rSortedA (K : PySem.W.Frag) : List V → Hp → VK → Prop := fun vs H Q => (rSortedD K vs H Q ∨ rSortedDT K vs H Q) ∨ rSorted1 K vs H Q
theorem cr_sortedA {X : Cx} (hu : X.A.units + 70 < cLine) : CallR X (.builtin "sorted") (rSortedA X.K) := by
  intro pins s σ H vs us Q I r h
  rcases h with (h | h) | h
  · exact cr_sortedV hu pins s σ H vs us Q I r h
  · exact cr_sortedVT hu pins s σ H vs us Q I r h
  · exact cr_sorted1 pins s σ H vs us Q I r h
theorem uSortedA {K : PySem.W.Frag} : UOk1 K (rSortedA K) opSortedA := by
  intro H0 Pz H T σ ρ Fs x z v F Q E r1 o1 e h
  obtain ⟨x, m⟩ := x
  unfold opSortedA at e
  split at e
  · rename_i xs q
    simp only at q
    subst q
    split at e
    · rename_i hk
      cases e
      cases r1 with
      | i r =>
        cases r with
        | tup s t => exact .inl (.inr ⟨_, _, xs, rfl, SqT.of s, t, hk, fun p ws hp hw => h _ _ _ (same_upd hp) (new_lst hp hw) (new_ok E hp)⟩)
    · cases e
  · rename_i xs q
    simp only at q
    subst q
    split at e
    · rename_i hk
      cases e
      cases r1 with
      | l s t => exact .inr ⟨_, _, xs, rfl, SqL.of s, t, hk, fun p hp => h _ _ _ (same_upd hp) (new_lst hp t) (new_ok E hp)⟩
    · exact .inl (.inl (uSorted H0 Pz H T σ ρ Fs (.l xs, m) z v F Q E r1 o1 e h))
  · exact .inl (.inl (uSorted H0 Pz H T σ ρ Fs (x, m) z v F Q E r1 o1 e h))
theorem opSortedA_l (xs : List IV) (m : Md) : opSortedA (.l xs, m) = if xs.length ≤ 1 then .ok (.l xs, .own) else opSorted (.l xs, m) := rfl
theorem leI_int (x y : Int) : leI (.int x) (.int y) = decide (x ≤ y) := by
  have e : leI (.int x) (.int y) = !(decide (y < x) || (!decide (x < y) && false)) := by kernel_rfl
  rw [e]
  by_cases q : x ≤ y
  · rw [decide_eq_true q, decide_eq_false (by omega)]; simp
  · rw [decide_eq_false q, decide_eq_true (by omega)]; rfl
theorem sorted_iL (ls : List Int) (m : Md) : ∃ ss : List Int, opSortedA (.i (.tup (iL ls)), m) = .ok (.l (iL ss), .own) ∧ (ls = ss → ls.Pairwise (· ≤ ·)) := by
  have ok : okSort (iL ls) = true := by
    unfold okSort
    have h1 : (iL ls).all (fun a => (iL ls).all fun b => PySem.W.alike a.py b.py) = true := List.all_eq_true.mpr fun x hx => List.all_eq_true.mpr fun y hy => by
      obtain ⟨x', _, rfl⟩ := List.mem_map.mp hx
      obtain ⟨y', _, rfl⟩ := List.mem_map.mp hy
      rfl
    have h2 : (iL ls).all plainK = true := List.all_eq_true.mpr fun x hx => by
      obtain ⟨x', _, rfl⟩ := List.mem_map.mp hx
      rfl
    have h3 : (iL ls).all (fun x => decide (x.py.depth ≤ 64)) = true := List.all_eq_true.mpr fun x hx => by
      obtain ⟨x', _, rfl⟩ := List.mem_map.mp hx
      rfl
    rw [h1, h2, h3, Bool.or_true] <;> rfl
  have e : sortI (iL ls) = iL (ls.mergeSort fun x y => leI (.int x) (.int y)) := by
    unfold sortI iL
    exact (List.map_mergeSort (f := IV.int) (r := fun x y => leI (.int x) (.int y)) (s := leI) (l := ls) fun _ _ _ _ => rfl).symm
  refine ⟨ls.mergeSort fun x y => leI (.int x) (.int y), ?_, fun h => ?_⟩
  · unfold opSortedA
    simp only [ok, if_true, e]
  · have := List.pairwise_mergeSort (le := fun x y : Int => leI (.int x) (.int y)) (fun a b c h1 h2 => by rw [leI_int, decide_eq_true_eq] at *; omega) (fun a b => by
      rw [leI_int, leI_int]
      by_cases q : a ≤ b
      · rw [decide_eq_true q]; rfl
      · rw [decide_eq_false q, decide_eq_true (by omega)]; rfl) ls
    rw [← h] at this
    exact this.imp fun h => by rw [leI_int, decide_eq_true_eq] at h; exact h
/-! ### t = x.pop() -/
def popR (i : Nat) (t : TF) (ρ : Env) : Option DV → RS
  | some (.l xs) => (match xs[xs.length - 1]? with
    | some y => (match t (.i y, .own) (ρ.set i (some (.l xs.dropLast, .own))) with
      | some ρ' => .nx ρ'
      | none => .bad)
    | none => .bad)
  | _ => .bad
def sPop (i : Nat) (t : TF) : FS := fun ρ => popR i t ρ (ownAt ρ i)
theorem RpIs.dropLast {K : PySem.W.Frag} {H : Hp} : ∀ {vs : List V} {xs : List IV}, RpIs K H vs xs → RpIs K H vs.dropLast xs.dropLast
  | _, [], h => by cases h; exact .nil
  | _, [x], h => by
    cases h with
    | cons a b => cases b; exact .nil
  | _, x :: y :: xs, h => by
    cases h with
    | cons a b =>
      cases b with
      | cons b c => exact .cons a (RpIs.dropLast (xs := y :: xs) (.cons b c))
section
variable {X : Cx} {pos : Pos} {vs0 : List Nat}
theorem sv_pop {i : Nat} {x : Str} {tg : Expr} {t : TF} {px apos cpos : Pos} (hg : PGv X vs0 tg t) (hN : X.N[i]? = some x := by rfl) (hv : Vis X.env.scope x := by first | exact Or.inl rfl | exact Or.inr (Or.inl rfl) | exact Or.inr (Or.inr rfl)) (hd : (x == ("__debug__" : Str)) = false := by decide)
    (hcd : (x == ("__classdict__" : Str)) = false := by decide)
    (hbase : attributeBase (.Name x px) "pop" X.env (eval (.Name x px) X.env) = eval (.Name x px) X.env := by rfl) (hline : (apos.endLine == cpos.line) = true := by rfl)
    (hs : swapsWithSole [tg] (.Call (.Attribute (.Name x px) "pop" apos) [] [] cpos) pos.line X.env = pure false := by rfl) (hw : swappedStores [tg] (.Call (.Attribute (.Name x px) "pop" apos) [] [] cpos) X.env = pure none := by rfl)
    (h1 : (assignEach [tg] X.env).map (·.2) = [assign tg X.env] := by rfl) :
    PSv X (.Assign [tg] (.Call (.Attribute (.Name x px) "pop" apos) [] [] cpos) pos) (sPop i t) := fun W tk =>
  PS.imp (ps_asg (pe_bm0 PySem.F.plainAttrs_list PySem.F.slot_list_pop PySem.F.type_list_pop mt_pop (pe_var hN hv hd hcd) hbase hline) hg hs hw h1) fun D σ H h => by
    obtain ⟨H0, Pz, T, ρ, Fs, E, h⟩ := h
    unfold sPop at h
    cases e2 : ownAt ρ i with
    | none => rw [e2] at h; exact h.elim
    | some d =>
      rw [e2] at h
      have hi := ownAt_iff e2
      cases d with
      | l xs =>
        unfold popR at h
        simp only at h
        cases e3 : xs[xs.length - 1]? with
        | none => rw [e3] at h; exact h.elim
        | some y =>
          rw [e3] at h
          simp only at h
          obtain ⟨w, hvw, rd⟩ := E.at_ i _ .own hi
          obtain ⟨Fi, hFi⟩ : ∃ Fi, Fi = Fs i := ⟨_, rfl⟩
          rw [← hFi] at rd
          cases rd with
          | @l a us _ sa r =>
            obtain ⟨u, hu, ru⟩ := r.get e3
            refine ⟨_, hvw, .inl ⟨rfl, us, SqL.of sa⟩, a, us, u, rfl, rfl, sa, by rw [r.length]; exact hu, ?_⟩
            have kp := upd_tkeep (o := .lst us.dropLast) sa
            have EE := E.updTop (d' := .l xs.dropLast) (G := []) (G' := []) (us := us.dropLast) hi hFi.symm hvw sa (.l upd_same (r.dropLast.mono kp)) (fun _ z => nomatch z) (fun z => nomatch z) (fun _ _ _ _ _ _ _ z => nomatch z) (fun _ _ z => nomatch z)
            refine ⟨H0, Pz, T, _, _, (.i y, .own), [], EE, .i (ru.mono kp), .nil, (by intro z; cases z), ?_⟩
            cases e4 : t (.i y, .own) (ρ.set i (some (.l xs.dropLast, .own))) with
            | none => rw [e4] at h; exact h.elim
            | some ρ' =>
              rw [e4] at h
              exact fun σ' H' Fs' s' E' _ => h σ' H' Fs' E'
      | _ => exact h.elim
end
@[simp] theorem sPop_ap (i : Nat) (t : TF) (ρ : Env) : sPop i t ρ = popR i t ρ (ownO ρ[i]?) := by
  unfold sPop; rw [ownAt_ap]
def popT (t : TF) (y : IV) (ρ : Env) : RS := match t (.i y, .own) ρ with
  | some ρ' => .nx ρ'
  | none => .bad
theorem popR_snoc (i : Nat) (t : TF) (ρ : Env) (xs : List IV) (y : IV) : popR i t ρ (some (.l (xs ++ [y]))) = popT t y (ρ.set i (some (.l xs, .own))) := by
  unfold popR popT
  simp
/-! ### xs.index(x), whole numbers -/
def idxL (xs : List IV) (y : DV × Md) : R (DV × Md) := match y.1 with
  | .i (.int k) => (match ints? xs with
    | some ns => if k ∈ ns then ok1 (.int (ns.idxOf k)) else .bad
    | none => .bad)
  | _ => .bad
def idxX (x : DV × Md) (g : FE) (ρ : Env) : R (DV × Md) := match x.1 with
  | .l xs => (g ρ).bind fun y => idxL xs y
  | _ => .bad
def eIdx (f g : FE) : FE := fun ρ => (f ρ).bind fun x => idxX x g ρ
theorem idxL_ok {xs : List IV} {y z : DV × Md} (h : idxL xs y = .ok z) : ∃ ns k, ints? xs = some ns ∧ y.1 = .i (.int k) ∧ k ∈ ns ∧ z = (.i (.int (ns.idxOf k)), .own) := by
  obtain ⟨y, my⟩ := y
  unfold idxL at h
  simp only at h
  split at h
  · split at h
    · rename_i ns hn
      split at h
      · rename_i hk
        cases h
        exact ⟨ns, _, hn, rfl, hk, rfl⟩
      · cases h
    · cases h
  · cases h
theorem idxL_nx {xs : List IV} {y : DV × Md} {c : Str} {p : Exn} : idxL xs y ≠ .ex c p := by
  obtain ⟨y, my⟩ := y
  unfold idxL
  simp only
  intro h
  split at h
  · split at h
    · split at h <;> cases h
    · cases h
  · cases h
theorem idx_no : ∀ (ns : List Int) (k : Int) (m : Nat), m < ns.idxOf k → ns[m]? ≠ some k
  | [], k, m, h => by simp
  | x :: xs, k, m, h => by
    rw [List.idxOf_cons] at h
    by_cases q : x = k
    · rw [q] at h
      simp at h
    · have hb : (x == k) = false := beq_eq_false_iff_ne.mpr q
      rw [hb] at h
      cases m with
      | zero =>
        intro z
        exact q (Option.some.inj z)
      | succ m =>
        have h : m + 1 < xs.idxOf k + 1 := h
        show xs[m]? ≠ some k
        exact idx_no xs k m (by omega)
section
variable {X : Cx}
theorem ev_idx {o e : Expr} {f g : FE} {apos cpos : Pos} (ho : PEv X o f) (he : PEv X e g)
    (hbase : attributeBase o "index" X.env (eval o X.env) = eval o X.env := by rfl)
    (hfew : ((backTo cpos (starEach (e :: []) X.env)).all (fun x => !x.1) && (backToKw cpos (keywordEach [] X.env)).all (fun x => x.1.isSome)
      && decide ((e :: []).length + ([] : List Keyword).length + (if ([] : List Keyword).isEmpty then 0 else 1) < 30)) = true := by rfl)
    (hline : (apos.endLine == cpos.line) = true := by rfl) (hs : starEach (e :: []) X.env = (false, eval e X.env) :: starEach [] X.env := by rfl) (hplain : (backTo cpos (starEach [] X.env)).any (·.1) = false := by rfl) :
    PEv X (.Call (.Attribute o "index" apos) [e] [] cpos) (eIdx f g) := fun W tk =>
  PE.imp (pe_bm PySem.F.plainAttrs_list PySem.F.slot_list_index PySem.F.type_list_index mt_index (ho W tk) (pa_cons (he W tk) pa_nil hs) hbase hfew hline hs hplain) fun σ H Q h => by
    obtain ⟨H0, Pz, T, ρ, Fs, E, h⟩ := h
    show tev X.K X.mg W f σ H _
    unfold eIdx at h
    cases e1 : f ρ with
    | bad => simp only [e1, R.bind] at h
    | ex c p => simp only [e1, R.bind] at h; exact tev_ex E e1 h
    | ok x =>
      simp only [e1, R.bind] at h
      refine tev_ok E e1 fun v H1 F s1 E1 r1 o1 => ?_
      obtain ⟨x, mx⟩ := x
      cases x with
      | l xs =>
        cases r1 with
        | @l a us _ sa r =>
          refine ⟨.inl ⟨rfl, us, SqL.of sa⟩, ?_⟩
          show tev X.K X.mg W g σ H1 _
          unfold idxX at h
          simp only at h
          cases e2 : g ρ with
          | bad => simp only [e2, R.bind] at h
          | ex c p => simp only [e2, R.bind] at h; exact tev_ex E1 e2 (h.of s1)
          | ok y =>
            simp only [e2, R.bind] at h
            refine tev_ok E1 e2 fun w H2 G s2 E2 r2 o2 => ?_
            cases e3 : idxL xs y with
            | bad => rw [e3] at h; exact h.elim
            | ex c p => exact absurd e3 idxL_nx
            | ok z =>
              rw [e3] at h
              obtain ⟨ns, k, h1, h2, h3, rfl⟩ := idxL_ok e3
              rw [h2] at r2
              cases r2 with
              | i r2 =>
                cases r2
                rw [ints?_inv h1] at r
                have ev := rps_ints r
                subst ev
                have hlt := List.idxOf_lt_length_of_mem h3
                refine ⟨a, _, .int k, ns.idxOf k, .int k, rfl, rfl, SqL.of (s2 _ _ sa), rfl, ?_, ?_, ?_, ?_, h _ H2 [] (s1.trans s2) (.i (.int _)) .nil⟩
                · rw [List.all_eq_true]
                  intro z hz
                  obtain ⟨i, _, rfl⟩ := List.mem_map.mp hz
                  rfl
                · rw [List.getElem?_map, List.getElem?_eq_getElem hlt, List.getElem_idxOf hlt] <;> rfl
                · show (k == k) = true
                  simp
                · intro m z' hm hz
                  rw [List.getElem?_map] at hz
                  cases q : ns[m]? with
                  | none => rw [q] at hz; cases hz
                  | some i =>
                    rw [q] at hz
                    cases hz
                    show (i == k) = false
                    rw [beq_eq_false_iff_ne]
                    rintro rfl
                    exact idx_no ns i m hm q
      | _ => exact h.elim
end
@[simp] theorem eIdx_ap (f g : FE) (ρ : Env) : eIdx f g ρ = (f ρ).bind fun x => idxX x g ρ := rfl
@[simp] theorem idxX_l (xs : List IV) (m : Md) (g : FE) (ρ : Env) : idxX (.l xs, m) g ρ = (g ρ).bind fun y => idxL xs y := rfl
theorem idxL_iL {ns : List Int} {k : Int} {m : Md} (h : k ∈ ns) : idxL (iL ns) (.i (.int k), m) = .ok (.i (.int (ns.idxOf k)), .own) := by
  unfold idxL
  simp only [ints?_ints, if_pos h]
end L2.Pv

namespace L2.Pv.T
open PySem PySem.Spec PyProof.Rows L2 L2.Pv
def topS (i : Nat) : Stmt := PySem.Challenge.pw_archivewright_k15_whole_cheapest_rows.main.body.getD i (.Pass ⟨0, 0, 0, 0⟩)
def exs : List Str := ["ArchiveError", "BadContent", "BadRow", "BadPrices"]
def exPairs : List (Str × Str) := [("ArchiveError", "ArchiveError"), ("BadContent", "ArchiveError"), ("BadContent", "BadContent"), ("BadRow", "ArchiveError"), ("BadRow", "BadRow"), ("BadPrices", "ArchiveError"), ("BadPrices", "BadPrices")]
def exSub (a b : Str) : Bool := exPairs.contains (a, b)
/-! ### is_whole -/
abbrev s_is_whole : Stmt := topS 12
abbrev N_is_whole : List Str := ["value", "least", "most"]
theorem sc_is_whole : FnScope ["value", "least", "most"] ["value", "least", "most"] (defScope s_is_whole) := ⟨rfl, rfl, rfl, by decide +kernel, rfl, by decide +kernel, by decide +kernel⟩
def G_is_whole : FS := (sRet (eAndF (eUn (opIsi "int") (eVar 0)) (eAndF (eNotF (eUn (opIsi "bool") (eVar 0))) (eChain (cInt fun i j => decide (i ≤ j)) (cInt fun i j => decide (i ≤ j)) (eVar 1) (eVar 0) (eVar 2)))))
def F_is_whole : FF := runF 3 G_is_whole
/-! ### check_content -/
abbrev s_check_content : Stmt := topS 13
abbrev N_check_content : List Str := ["value", "one"]
theorem sc_check_content : FnScope ["value", "one"] ["value"] (defScope s_check_content) := ⟨rfl, rfl, rfl, by decide +kernel, rfl, by decide +kernel, by decide +kernel⟩
def C_check_content_1 : FE := (eComp (iAny (eVar 0)) [1] (tName 1) tYesF (eCall F_is_whole (aCons (eVar 1) (aCons (eC (.int 0)) (aCons (eC (.int 255)) aNil)))) finI)
def G_check_content : FS := (sIf (tOrF (tNotF (tB (eUn (opIsi "tuple") (eVar 0)))) (tOrF (tB (eBin (cInt fun i j => decide (j < i)) (eUn opLen (eVar 0)) (eC (.int 60)))) (tNotF (tB (eUn opAll C_check_content_1)))))
  (sRaise "BadContent")
  sNil)
def F_check_content : FF := runF 2 G_check_content
/-! ### _are_prices -/
abbrev s__are_prices : Stmt := topS 14
abbrev N__are_prices : List Str := ["value", "most", "one"]
theorem sc__are_prices : FnScope ["value", "most", "one"] ["value", "most"] (defScope s__are_prices) := ⟨rfl, rfl, rfl, by decide +kernel, rfl, by decide +kernel, by decide +kernel⟩
def C__are_prices_1 : FE := (eComp (iAny (eVar 0)) [2] (tName 2) tYesF (eCall F_is_whole (aCons (eVar 2) (aCons (eC (.int 0)) (aCons (eC (.int 1000)) aNil)))) finI)
def G__are_prices : FS := (sSeq (sIf (tOrF (tNotF (tB (eUn (opIsi "tuple") (eVar 0)))) (tB (eBin (cInt fun i j => decide (j < i)) (eUn opLen (eVar 0)) (eVar 1))))
  (sRet (eC (.bl false)))
  sNil)
  (sRet (eUn opAll C__are_prices_1)))
def F__are_prices : FF := runF 3 G__are_prices
/-! ### check_prices -/
abbrev s_check_prices : Stmt := topS 15
abbrev N_check_prices : List Str := ["value"]
theorem sc_check_prices : FnScope ["value"] ["value"] (defScope s_check_prices) := ⟨rfl, rfl, rfl, by decide +kernel, rfl, by decide +kernel, by decide +kernel⟩
def G_check_prices : FS := (sSeq (sIf (tOrF (tNotF (tB (eUn (opIsi "tuple") (eVar 0)))) (tOrF (tB (eBin cNe (eUn opLen (eVar 0)) (eC (.int 3)))) (tNotF (tB (eCall F_is_whole (aCons (eBin opIx (eVar 0) (eC (.int 0))) (aCons (eC (.int 0)) (aCons (eC (.int 1000)) aNil))))))))
  (sRaise "BadPrices")
  sNil)
  (sIf (tOrF (tNotF (tB (eCall F__are_prices (aCons (eBin opIx (eVar 0) (eC (.int 1))) (aCons (eBin opSub (eC (.int 60)) (eC (.int 1))) aNil))))) (tNotF (tB (eCall F__are_prices (aCons (eBin opIx (eVar 0) (eC (.int 2))) (aCons (eC (.int 60)) aNil))))))
  (sRaise "BadPrices")
  sNil))
def F_check_prices : FF := runF 1 G_check_prices
/-! ### is_step -/
abbrev s_is_step : Stmt := topS 16
abbrev N_is_step : List Str := ["value"]
theorem sc_is_step : FnScope ["value"] ["value"] (defScope s_is_step) := ⟨rfl, rfl, rfl, by decide +kernel, rfl, by decide +kernel, by decide +kernel⟩
def G_is_step : FS := (sSeq (sIf (tOrF (tNotF (tB (eUn (opIsi "tuple") (eVar 0)))) (tOrF (tB (eBin (cIn true) (eUn opLen (eVar 0)) (eTup (aCons (eC (.int 2)) (aCons (eC (.int 3)) aNil))))) (tNotF (tB (eUn (opIsi "str") (eBin opIx (eVar 0) (eC (.int 0))))))))
  (sRet (eC (.bl false)))
  sNil)
  (sSeq (sIf (tB (eBin cEq (eUn opLen (eVar 0)) (eC (.int 2))))
  (sRet (eAndF (eBin cEq (eBin opIx (eVar 0) (eC (.int 0))) (eC (.str "one"))) (eCall F_is_whole (aCons (eBin opIx (eVar 0) (eC (.int 1))) (aCons (eC (.int 0)) (aCons (eC (.int 255)) aNil))))))
  sNil)
  (sRet (eAndF (eBin cEq (eBin opIx (eVar 0) (eC (.int 0))) (eC (.str "copy"))) (eAndF (eCall F_is_whole (aCons (eBin opIx (eVar 0) (eC (.int 1))) (aCons (eC (.int 2)) (aCons (eC (.int 60)) aNil)))) (eCall F_is_whole (aCons (eBin opIx (eVar 0) (eC (.int 2))) (aCons (eC (.int 1)) (aCons (eC (.int 60)) aNil)))))))))
def F_is_step : FF := runF 1 G_is_step
/-! ### copied -/
abbrev s_copied : Stmt := topS 17
abbrev N_copied : List Str := ["octets", "length", "distance", "found", "_octet"]
theorem sc_copied : FnScope ["octets", "length", "distance", "found", "_octet"] ["octets", "length", "distance"] (defScope s_copied) := ⟨rfl, rfl, rfl, by decide +kernel, rfl, by decide +kernel, by decide +kernel⟩
def B_copied_1 : FS := (sApp 3 (eBin opIx (eVar 3) (eBin opSub (eUn opLen (eVar 3)) (eVar 2))))
def G_copied : FS := (sSeq (sAsg (eUn opList (eVar 0)) (tName 3))
  (sSeq (sFor [] (iRg1 (eVar 1)) (tName 4)
  B_copied_1)
  (sRet (eUn opTuple (eVar 3)))))
def F_copied : FF := runF 5 G_copied
/-! ### _given -/
abbrev s__given : Stmt := topS 18
abbrev N__given : List Str := ["row", "step", "found"]
theorem sc__given : FnScope ["row", "step", "found"] ["row"] (defScope s__given) := ⟨rfl, rfl, rfl, by decide +kernel, rfl, by decide +kernel, by decide +kernel⟩
def B__given_1 : FS := (sSeq (sIf (tB (eBin cEq (eBin opIx (eVar 1) (eC (.int 0))) (eC (.str "one"))))
  (sAsg (eBin opAdd (eVar 2) (eTup (aCons (eBin opIx (eVar 1) (eC (.int 1))) aNil))) (tName 2))
  (sIf (tB (eBin (cInt fun i j => decide (j < i)) (eBin opIx (eVar 1) (eC (.int 2))) (eUn opLen (eVar 2))))
  (sRaise "BadRow")
  (sAsg (eCall F_copied (aCons (eVar 2) (aCons (eBin opIx (eVar 1) (eC (.int 1))) (aCons (eBin opIx (eVar 1) (eC (.int 2))) aNil)))) (tName 2))))
  (sIf (tB (eBin (cInt fun i j => decide (j < i)) (eUn opLen (eVar 2)) (eC (.int 60))))
  (sRaise "BadRow")
  sNil))
def C__given_2 : FE := (eComp (iAny (eVar 0)) [1] (tName 1) tYesF (eCall F_is_step (aCons (eVar 1) aNil)) finI)
def G__given : FS := (sSeq (sIf (tOrF (tNotF (tB (eUn (opIsi "tuple") (eVar 0)))) (tOrF (tB (eBin (cInt fun i j => decide (j < i)) (eUn opLen (eVar 0)) (eC (.int 60)))) (tNotF (tB (eUn opAll C__given_2)))))
  (sRaise "BadRow")
  sNil)
  (sSeq (sAsg (eTup aNil) (tName 2))
  (sSeq (sFor [0] (iAny (eVar 0)) (tName 1)
  B__given_1)
  (sRetV 2))))
def F__given : FF := runF 3 G__given
/-! ### written_out -/
abbrev s_written_out : Stmt := topS 19
abbrev N_written_out : List Str := ["row"]
theorem sc_written_out : FnScope ["row"] ["row"] (defScope s_written_out) := ⟨rfl, rfl, rfl, by decide +kernel, rfl, by decide +kernel, by decide +kernel⟩
def G_written_out : FS := (sRet (eCall F__given (aCons (eVar 0) aNil)))
def F_written_out : FF := runF 1 G_written_out
/-! ### is_usable -/
abbrev s_is_usable : Stmt := topS 20
abbrev N_is_usable : List Str := ["prices", "step"]
theorem sc_is_usable : FnScope ["prices", "step"] ["prices", "step"] (defScope s_is_usable) := ⟨rfl, rfl, rfl, by decide +kernel, rfl, by decide +kernel, by decide +kernel⟩
def G_is_usable : FS := (sSeq (sIf (tB (eBin cEq (eBin opIx (eVar 1) (eC (.int 0))) (eC (.str "one"))))
  (sRet (eC (.bl true)))
  sNil)
  (sRet (eAndF (eBin (cInt fun i j => decide (i < j)) (eBin opSub (eBin opIx (eVar 1) (eC (.int 1))) (eC (.int 2))) (eUn opLen (eBin opIx (eVar 0) (eC (.int 1))))) (eBin (cInt fun i j => decide (i ≤ j)) (eBin opIx (eVar 1) (eC (.int 2))) (eUn opLen (eBin opIx (eVar 0) (eC (.int 2))))))))
def F_is_usable : FF := runF 2 G_is_usable
/-! ### step_price -/
abbrev s_step_price : Stmt := topS 21
abbrev N_step_price : List Str := ["prices", "step"]
theorem sc_step_price : FnScope ["prices", "step"] ["prices", "step"] (defScope s_step_price) := ⟨rfl, rfl, rfl, by decide +kernel, rfl, by decide +kernel, by decide +kernel⟩
def G_step_price : FS := (sSeq (sIf (tB (eBin cEq (eBin opIx (eVar 1) (eC (.int 0))) (eC (.str "one"))))
  (sRet (eBin opIx (eVar 0) (eC (.int 0))))
  sNil)
  (sRet (eBin opAdd (eBin opIx (eBin opIx (eVar 0) (eC (.int 1))) (eBin opSub (eBin opIx (eVar 1) (eC (.int 1))) (eC (.int 2)))) (eBin opIx (eBin opIx (eVar 0) (eC (.int 2))) (eBin opSub (eBin opIx (eVar 1) (eC (.int 2))) (eC (.int 1)))))))
def F_step_price : FF := runF 2 G_step_price
/-! ### price -/
abbrev s_price : Stmt := topS 22
abbrev N_price : List Str := ["prices", "row", "step"]
theorem sc_price : FnScope ["prices", "row", "step"] ["prices", "row"] (defScope s_price) := ⟨rfl, rfl, rfl, by decide +kernel, rfl, by decide +kernel, by decide +kernel⟩
def C_price_1 : FE := (eComp (iAny (eVar 1)) [2] (tName 2) tYesF (eCall F_step_price (aCons (eVar 0) (aCons (eVar 2) aNil))) finI)
def C_price_2 : FE := (eComp (iAny (eVar 1)) [2] (tName 2) tYesF (eCall F_is_usable (aCons (eVar 0) (aCons (eVar 2) aNil))) finI)
def G_price : FS := (sSeq (sExpr (eCall F_check_prices (aCons (eVar 0) aNil)))
  (sSeq (sExpr (eCall F__given (aCons (eVar 1) aNil)))
  (sSeq (sIf (tNotF (tB (eUn opAll C_price_2)))
  (sRaise "BadRow")
  sNil)
  (sRet (eUn opSum C_price_1)))))
def F_price : FF := runF 3 G_price
/-! ### row_fault -/
abbrev s_row_fault : Stmt := topS 23
abbrev N_row_fault : List Str := ["octets", "prices", "row", "step", "place", "number"]
theorem sc_row_fault : FnScope ["octets", "prices", "row", "step", "place", "number"] ["octets", "prices", "row"] (defScope s_row_fault) := ⟨rfl, rfl, rfl, by decide +kernel, rfl, by decide +kernel, by decide +kernel⟩
def B_row_fault_1 : FS := (sIf (tB (eBin cEq (eBin opIx (eVar 3) (eC (.int 0))) (eC (.str "one"))))
  (sSeq (sIf (tB (eBin cNe (eSlice (eVar 0) (oSome (eVar 4)) (oSome (eBin opAdd (eVar 4) (eC (.int 1))))) (eSlice (eVar 3) (oSome (eC (.int 1))) oNone)))
  (sRet (eTup (aCons (eC (.str "step")) (aCons (eVar 5) aNil))))
  sNil)
  (sAug 4 opIAdd (eC (.int 1))))
  (sSeq (sIf (tOrF (tB (eBin (cInt fun i j => decide (j < i)) (eBin opIx (eVar 3) (eC (.int 2))) (eVar 4))) (tB (eBin cNe (eCall F_copied (aCons (eSlice (eVar 0) oNone (oSome (eVar 4))) (aCons (eBin opIx (eVar 3) (eC (.int 1))) (aCons (eBin opIx (eVar 3) (eC (.int 2))) aNil)))) (eSlice (eVar 0) oNone (oSome (eBin opAdd (eVar 4) (eBin opIx (eVar 3) (eC (.int 1)))))))))
  (sRet (eTup (aCons (eC (.str "step")) (aCons (eVar 5) aNil))))
  sNil)
  (sAug 4 opIAdd (eBin opIx (eVar 3) (eC (.int 1))))))
def C_row_fault_2 : FE := (eComp (iAny (eVar 2)) [3] (tName 3) tYesF (eAndF (eCall F_is_step (aCons (eVar 3) aNil)) (eCall F_is_usable (aCons (eVar 1) (aCons (eVar 3) aNil)))) finI)
def G_row_fault : FS := (sSeq (sExpr (eCall F_check_content (aCons (eVar 0) aNil)))
  (sSeq (sExpr (eCall F_check_prices (aCons (eVar 1) aNil)))
  (sSeq (sIf (tOrF (tNotF (tB (eUn (opIsi "tuple") (eVar 2)))) (tNotF (tB (eUn opAll C_row_fault_2))))
  (sRet (eTup (aCons (eC (.str "form")) aNil)))
  sNil)
  (sSeq (sAsg (eC (.int 0)) (tName 4))
  (sSeq (sFor [2] (iEnum (eVar 2)) (tTupT 2 (tsCons (tName 5) (tsCons (tName 3) tsNil)))
  B_row_fault_1)
  (sRet (eIfF (tB (eBin cEq (eVar 4) (eUn opLen (eVar 0)))) (eC .non) (eTup (aCons (eC (.str "end")) (aCons (eVar 4) aNil))))))))))
def F_row_fault : FF := runF 6 G_row_fault
/-! ### copy_length -/
abbrev s_copy_length : Stmt := topS 24
abbrev N_copy_length : List Str := ["octets", "place", "distance", "length"]
theorem sc_copy_length : FnScope ["octets", "place", "distance", "length"] ["octets", "place", "distance"] (defScope s_copy_length) := ⟨rfl, rfl, rfl, by decide +kernel, rfl, by decide +kernel, by decide +kernel⟩
def B_copy_length_1 : FS := (sAug 3 opIAdd (eC (.int 1)))
def G_copy_length : FS := (sSeq (sAsg (eC (.int 0)) (tName 3))
  (sSeq (sWhile (tAndF (tB (eBin (cInt fun i j => decide (i < j)) (eBin opAdd (eVar 1) (eVar 3)) (eUn opLen (eVar 0)))) (tB (eBin cEq (eBin opIx (eVar 0) (eBin opAdd (eVar 1) (eVar 3))) (eBin opIx (eVar 0) (eBin opSub (eBin opAdd (eVar 1) (eVar 3)) (eVar 2))))))
  B_copy_length_1)
  (sRetV 3)))
def F_copy_length : FF := runF 4 G_copy_length
/-! ### _steps -/
abbrev s__steps : Stmt := topS 26
abbrev N__steps : List Str := ["octets", "prices", "place", "found", "distance", "most", "length"]
theorem sc__steps : FnScope ["octets", "prices", "place", "found", "distance", "most", "length"] ["octets", "prices", "place"] (defScope s__steps) := ⟨rfl, rfl, rfl, by decide +kernel, rfl, by decide +kernel, by decide +kernel⟩
def C__steps_1 : FE := (eComp (iRg2 (eC (.int 2)) (eBin opAdd (eVar 5) (eC (.int 1)))) [6] (tName 6) tYesF (eTup (aCons (eC (.str "copy")) (aCons (eVar 6) (aCons (eVar 4) aNil)))) finI)
def B__steps_2 : FS := (sSeq (sAsg (eBin opMin2 (eCall F_copy_length (aCons (eVar 0) (aCons (eVar 2) (aCons (eVar 4) aNil)))) (eBin opSub (eBin opAdd (eUn opLen (eBin opIx (eVar 1) (eC (.int 1)))) (eC (.int 2))) (eC (.int 1)))) (tName 5))
  (sExt 3 C__steps_1))
def G__steps : FS := (sSeq (sIf (tB (eBin cEq (eVar 2) (eUn opLen (eVar 0))))
  (sRet (eLst aNil))
  sNil)
  (sSeq (sAsg (eLst aNil) (tName 3))
  (sSeq (sFor [] (iRg2 (eC (.int 1)) (eBin opAdd (eBin opMin2 (eUn opLen (eBin opIx (eVar 1) (eC (.int 2)))) (eVar 2)) (eC (.int 1)))) (tName 4)
  B__steps_2)
  (sRet (eBin opAdd (eUn opSorted (eVar 3)) (eLst (aCons (eTup (aCons (eC (.str "one")) (aCons (eBin opIx (eVar 0) (eVar 2)) aNil))) aNil)))))))
def F__steps : FF := runF 7 G__steps
/-! ### _size -/
abbrev s__size : Stmt := topS 27
abbrev N__size : List Str := ["step"]
theorem sc__size : FnScope ["step"] ["step"] (defScope s__size) := ⟨rfl, rfl, rfl, by decide +kernel, rfl, by decide +kernel, by decide +kernel⟩
def G__size : FS := (sRet (eIfF (tB (eBin cEq (eBin opIx (eVar 0) (eC (.int 0))) (eC (.str "one")))) (eC (.int 1)) (eBin opIx (eVar 0) (eC (.int 1)))))
def F__size : FF := runF 1 G__size
/-! ### _levels -/
abbrev s__levels : Stmt := topS 28
abbrev N__levels : List Str := ["octets", "prices", "found", "place", "step", "goal", "cost"]
theorem sc__levels : FnScope ["octets", "prices", "found", "place", "step", "goal", "cost"] ["octets", "prices"] (defScope s__levels) := ⟨rfl, rfl, rfl, by decide +kernel, rfl, by decide +kernel, by decide +kernel⟩
def B__levels_1 : FS := (sSeq (sAsg (eBin opAdd (eVar 3) (eCall F__size (aCons (eVar 4) aNil))) (tName 5))
  (sSeq (sAsg (eBin opAdd (eBin opIx (eVar 2) (eVar 3)) (eCall F_step_price (aCons (eVar 1) (aCons (eVar 4) aNil)))) (tName 6))
  (sIf (tOrF (tB (eBin cIsN (eBin opIx (eVar 2) (eVar 5)) (eC .non))) (tB (eBin (cInt fun i j => decide (i < j)) (eVar 6) (eBin opIx (eVar 2) (eVar 5)))))
  (sPut 2 (eVar 5) (eVar 6))
  sNil)))
def B__levels_2 : FS := (sFor [] (iAny (eCall F__steps (aCons (eVar 0) (aCons (eVar 1) (aCons (eVar 3) aNil))))) (tName 4)
  B__levels_1)
def G__levels : FS := (sSeq (sAsg (eBin opAdd (eLst (aCons (eC (.int 0)) aNil)) (eBin opMulA (eLst (aCons (eC .non) aNil)) (eUn opLen (eVar 0)))) (tName 2))
  (sSeq (sFor [] (iRg1 (eUn opLen (eVar 0))) (tName 3)
  B__levels_2)
  (sRet (eUn opTuple (eVar 2)))))
def F__levels : FF := runF 7 G__levels
/-! ### _behind -/
abbrev s__behind : Stmt := topS 29
abbrev N__behind : List Str := ["octets", "prices", "costs", "least", "every", "place", "steps", "rows", "step", "cost", "_goal", "goal", "_cost"]
theorem sc__behind : FnScope ["octets", "prices", "costs", "least", "every", "place", "steps", "rows", "step", "cost", "_goal", "goal", "_cost"] ["octets", "prices"] (defScope s__behind) := ⟨rfl, rfl, rfl, by decide +kernel, rfl, by decide +kernel, by decide +kernel⟩
def C__behind_1 : FE := (eComp (iAny (eVar 7)) [12, 11] (tTupT 2 (tsCons (tName 12) (tsCons (tName 11) tsNil))) tYesF (eBin opIx (eVar 4) (eVar 11)) finI)
def C__behind_2 : FE := (eComp (iAny (eVar 7)) [9, 11] (tTupT 2 (tsCons (tName 9) (tsCons (tName 11) tsNil))) (tB (eBin cEq (eVar 9) (eBin opIx (eVar 2) (eVar 5)))) (eBin opIx (eVar 3) (eVar 11)) finI)
def C__behind_3 : FE := (eComp (iAny (eVar 7)) [9, 10] (tTupT 2 (tsCons (tName 9) (tsCons (tName 10) tsNil))) tYesF (eVar 9) finI)
def C__behind_4 : FE := (eComp (iAny (eVar 6)) [8] (tName 8) tYesF (eTup (aCons (eBin opAdd (eCall F_step_price (aCons (eVar 1) (aCons (eVar 8) aNil))) (eBin opIx (eVar 2) (eBin opAdd (eVar 5) (eCall F__size (aCons (eVar 8) aNil))))) (aCons (eBin opAdd (eVar 5) (eCall F__size (aCons (eVar 8) aNil))) aNil))) finI)
def B__behind_5 : FS := (sSeq (sAsg (eCall F__steps (aCons (eVar 0) (aCons (eVar 1) (aCons (eVar 5) aNil)))) (tName 6))
  (sSeq (sAsg C__behind_4 (tName 7))
  (sSeq (sPut 2 (eVar 5) (eUn opMinA C__behind_3))
  (sSeq (sPut 3 (eVar 5) (eUn opSum C__behind_2))
  (sPut 4 (eVar 5) (eUn opSum C__behind_1))))))
def G__behind : FS := (sSeq (sAsg (eBin opMulA (eLst (aCons (eC (.int 0)) aNil)) (eBin opAdd (eUn opLen (eVar 0)) (eC (.int 1)))) (tName 2))
  (sSeq (sAsg (eBin opMulA (eLst (aCons (eC (.int 1)) aNil)) (eBin opAdd (eUn opLen (eVar 0)) (eC (.int 1)))) (tName 3))
  (sSeq (sAsg (eBin opMulA (eLst (aCons (eC (.int 1)) aNil)) (eBin opAdd (eUn opLen (eVar 0)) (eC (.int 1)))) (tName 4))
  (sSeq (sFor [] (iRg3 (eBin opSub (eUn opLen (eVar 0)) (eC (.int 1))) (eUn opNeg (eC (.int 1))) (-1)) (tName 5)
  B__behind_5)
  (sDem [2, 3, 4] (sRet (eTup (aCons (eVar 2) (aCons (eVar 3) (aCons (eVar 4) aNil))))))))))
def F__behind : FF := runF 13 G__behind
/-! ### _check -/
abbrev s__check : Stmt := topS 30
abbrev N__check : List Str := ["octets", "prices"]
theorem sc__check : FnScope ["octets", "prices"] ["octets", "prices"] (defScope s__check) := ⟨rfl, rfl, rfl, by decide +kernel, rfl, by decide +kernel, by decide +kernel⟩
def G__check : FS := (sSeq (sExpr (eCall F_check_content (aCons (eVar 0) aNil)))
  (sExpr (eCall F_check_prices (aCons (eVar 1) aNil))))
def F__check : FF := runF 2 G__check
/-! ### cheapest -/
abbrev s_cheapest : Stmt := topS 31
abbrev N_cheapest : List Str := ["octets", "prices", "costs", "row", "place", "step"]
theorem sc_cheapest : FnScope ["octets", "prices", "costs", "row", "place", "step"] ["octets", "prices"] (defScope s_cheapest) := ⟨rfl, rfl, rfl, by decide +kernel, rfl, by decide +kernel, by decide +kernel⟩
def B_cheapest_1 : FS := (sIf (tB (eBin cEq (eBin opAdd (eCall F_step_price (aCons (eVar 1) (aCons (eVar 5) aNil))) (eBin opIx (eVar 2) (eBin opAdd (eVar 4) (eCall F__size (aCons (eVar 5) aNil))))) (eBin opIx (eVar 2) (eVar 4))))
  (sSeq (sApp 3 (eVar 5))
  (sSeq (sAug 4 opIAdd (eCall F__size (aCons (eVar 5) aNil)))
  sBreak))
  sNil)
def B_cheapest_2 : FS := (sFor [] (iAny (eCall F__steps (aCons (eVar 0) (aCons (eVar 1) (aCons (eVar 4) aNil))))) (tName 5)
  B_cheapest_1)
def G_cheapest : FS := (sSeq (sExpr (eCall F__check (aCons (eVar 0) (aCons (eVar 1) aNil))))
  (sSeq (sAsg (eBin opIx (eCall F__behind (aCons (eVar 0) (aCons (eVar 1) aNil))) (eC (.int 0))) (tName 2))
  (sSeq (sAsg (eLst aNil) (tName 3))
  (sSeq (sAsg (eC (.int 0)) (tName 4))
  (sSeq (sWhile (tB (eBin (cInt fun i j => decide (i < j)) (eVar 4) (eUn opLen (eVar 0))))
  B_cheapest_2)
  (sRet (eTup (aCons (eBin opIx (eVar 2) (eC (.int 0))) (aCons (eUn opTuple (eVar 3)) (aCons (eCall F__levels (aCons (eVar 0) (aCons (eVar 1) aNil))) aNil))))))))))
def F_cheapest : FF := runF 6 G_cheapest
/-! ### levels_fault -/
abbrev s_levels_fault : Stmt := topS 32
abbrev N_levels_fault : List Str := ["octets", "prices", "levels", "place", "step", "one"]
theorem sc_levels_fault : FnScope ["octets", "prices", "levels", "place", "step", "one"] ["octets", "prices", "levels"] (defScope s_levels_fault) := ⟨rfl, rfl, rfl, by decide +kernel, rfl, by decide +kernel, by decide +kernel⟩
def B_levels_fault_1 : FS := (sIf (tB (eBin (cInt fun i j => decide (j < i)) (eBin opIx (eVar 2) (eBin opAdd (eVar 3) (eCall F__size (aCons (eVar 4) aNil)))) (eBin opAdd (eBin opIx (eVar 2) (eVar 3)) (eCall F_step_price (aCons (eVar 1) (aCons (eVar 4) aNil))))))
  (sRet (eTup (aCons (eC (.str "step")) (aCons (eVar 3) (aCons (eVar 4) aNil)))))
  sNil)
def B_levels_fault_2 : FS := (sFor [] (iAny (eCall F__steps (aCons (eVar 0) (aCons (eVar 1) (aCons (eVar 3) aNil))))) (tName 4)
  B_levels_fault_1)
def C_levels_fault_3 : FE := (eComp (iAny (eVar 2)) [5] (tName 5) tYesF (eAndF (eUn (opIsi "int") (eVar 5)) (eNotF (eUn (opIsi "bool") (eVar 5)))) finI)
def G_levels_fault : FS := (sSeq (sExpr (eCall F__check (aCons (eVar 0) (aCons (eVar 1) aNil))))
  (sSeq (sIf (tOrF (tNotF (tB (eUn (opIsi "tuple") (eVar 2)))) (tB (eBin cNe (eUn opLen (eVar 2)) (eBin opAdd (eUn opLen (eVar 0)) (eC (.int 1))))))
  (sRet (eTup (aCons (eC (.str "form")) aNil)))
  sNil)
  (sSeq (sIf (tNotF (tB (eUn opAll C_levels_fault_3)))
  (sRet (eTup (aCons (eC (.str "form")) aNil)))
  sNil)
  (sSeq (sIf (tB (eBin (cInt fun i j => decide (j < i)) (eBin opIx (eVar 2) (eC (.int 0))) (eC (.int 0))))
  (sRet (eTup (aCons (eC (.str "start")) aNil)))
  sNil)
  (sSeq (sFor [] (iRg1 (eUn opLen (eVar 0))) (tName 3)
  B_levels_fault_2)
  (sRet (eC .non)))))))
def F_levels_fault : FF := runF 6 G_levels_fault
/-! ### count_rows -/
abbrev s_count_rows : Stmt := topS 33
abbrev N_count_rows : List Str := ["octets", "prices", "_costs", "least", "every"]
theorem sc_count_rows : FnScope ["octets", "prices", "_costs", "least", "every"] ["octets", "prices"] (defScope s_count_rows) := ⟨rfl, rfl, rfl, by decide +kernel, rfl, by decide +kernel, by decide +kernel⟩
def G_count_rows : FS := (sSeq (sExpr (eCall F__check (aCons (eVar 0) (aCons (eVar 1) aNil))))
  (sSeq (sAsg (eCall F__behind (aCons (eVar 0) (aCons (eVar 1) aNil))) (tTupN 3 [2, 3, 4] (tsCons (tName 2) (tsCons (tName 3) (tsCons (tName 4) tsNil)))))
  (sRet (eTup (aCons (eBin opIx (eVar 4) (eC (.int 0))) (aCons (eBin opIx (eVar 3) (eC (.int 0))) aNil))))))
def F_count_rows : FF := runF 5 G_count_rows
/-! ### _law_draws -/
abbrev s__law_draws : Stmt := topS 35
abbrev N__law_draws : List Str := ["script", "many", "draws", "seed", "cell", "number", "k"]
theorem sc__law_draws : FnScope ["script", "many", "draws", "seed", "cell", "number", "k"] ["script", "many"] (defScope s__law_draws) := ⟨rfl, rfl, rfl, by decide +kernel, rfl, by decide +kernel, by decide +kernel⟩
def B__law_draws_1 : FS := (sIf (tB (eBin (cInt fun i j => decide (i < j)) (eUn opLen (eVar 2)) (eVar 1)))
  (sSeq (sAsg (eBin opMod (eUn opInt (eBin opAdd (eBin opAdd (eBin opMul (eVar 3) (eC (.int 69621))) (eVar 6)) (eC (.int 1)))) (eC (.int 2147483647))) (tName 3))
  (sApp 2 (eBin opMod (eBin opDiv (eUn opInt (eVar 3)) (eC (.int 7))) (eC (.int 65521)))))
  sNil)
def B__law_draws_2 : FS := (sIf (tB (eBin (cInt fun i j => decide (j < i)) (eVar 5) (eC (.int 0))))
  (sSeq (sApp 2 (eBin opMod (eUn opInt (eVar 5)) (eC (.int 1009))))
  (sAsg (eBin opDiv (eVar 5) (eC (.int 1009))) (tName 5)))
  sNil)
def B__law_draws_3 : FS := (sSeq (sAsg (eUn opAbs (eVar 4)) (tName 5))
  (sSeq (sAsg (eBin opMod (eUn opInt (eBin opAdd (eBin opAdd (eBin opMul (eVar 3) (eC (.int 48271))) (eVar 5)) (eC (.int 11)))) (eC (.int 2147483647))) (tName 3))
  (sIf (tB (eBin (cInt fun i j => decide (j ≤ i)) (eVar 5) (eBin opPow (eC (.int 10)) (eC (.int 18)))))
  (sFor [] (iRg1 (eC (.int 60))) (tName 6)
  B__law_draws_2)
  (sApp 2 (eBin opMod (eBin opDiv (eUn opInt (eBin opAdd (eBin opMul (eVar 3) (eC (.int 16807))) (eC (.int 5)))) (eC (.int 3))) (eC (.int 65521)))))))
def G__law_draws : FS := (sSeq (sAsg (eLst aNil) (tName 2))
  (sSeq (sAsg (eC (.int 7)) (tName 3))
  (sSeq (sFor [] (iAny (eSlice (eVar 0) oNone (oSome (eC (.int 63))))) (tName 4)
  B__law_draws_3)
  (sSeq (sFor [] (iRg1 (eVar 1)) (tName 6)
  B__law_draws_1)
  (sRet (eSlice (eVar 2) oNone (oSome (eVar 1))))))))
def F__law_draws : FF := runF 7 G__law_draws
/-! ### _law_octets -/
abbrev s__law_octets : Stmt := topS 36
abbrev N__law_octets : List Str := ["draws", "at", "most", "size", "kind", "found", "k", "draw"]
theorem sc__law_octets : FnScope ["draws", "at", "most", "size", "kind", "found", "k", "draw"] ["draws", "at", "most"] (defScope s__law_octets) := ⟨rfl, rfl, rfl, by decide +kernel, rfl, by decide +kernel, by decide +kernel⟩
def B__law_octets_1 : FS := (sSeq (sAsg (eBin opDiv (eUn opInt (eBin opIx (eVar 0) (eBin opAdd (eBin opAdd (eVar 1) (eC (.int 1))) (eBin opMod (eVar 6) (eC (.int 14)))))) (eBin opAdd (eC (.int 1)) (eBin opDiv (eVar 6) (eC (.int 14))))) (tName 7))
  (sIf (tAndF (tB (eBin cEq (eVar 4) (eC (.int 3)))) (tAndF (tB (eBin (cInt fun i j => decide (j < i)) (eVar 6) (eC (.int 2)))) (tB (eBin (cInt fun i j => decide (j < i)) (eBin opMod (eVar 7) (eC (.int 3))) (eC (.int 0))))))
  (sAsg (eBin opAdd (eVar 5) (eTup (aCons (eBin opIx (eVar 5) (eBin opSub (eBin opSub (eVar 6) (eC (.int 1))) (eBin opMod (eBin opDiv (eVar 7) (eC (.int 3))) (eBin opMin2 (eVar 6) (eC (.int 6)))))) aNil))) (tName 5))
  (sAsg (eBin opAdd (eVar 5) (eTup (aCons (eBin opMod (eBin opDiv (eVar 7) (eC (.int 8))) (eBin opIx (eLst (aCons (eC (.int 2)) (aCons (eC (.int 3)) (aCons (eC (.int 256)) (aCons (eC (.int 4)) aNil))))) (eVar 4))) aNil))) (tName 5))))
def G__law_octets : FS := (sSeq (sPar3 3 4 5 (aCons (eBin opMod (eUn opInt (eBin opIx (eVar 0) (eVar 1))) (eBin opAdd (eVar 2) (eC (.int 1)))) (aCons (eBin opMod (eBin opDiv (eUn opInt (eBin opIx (eVar 0) (eVar 1))) (eC (.int 64))) (eC (.int 4))) (aCons (eTup aNil) aNil))))
  (sSeq (sFor [] (iRg1 (eVar 3)) (tName 6)
  B__law_octets_1)
  (sRetV 5)))
def F__law_octets : FF := runF 8 G__law_octets
/-! ### _law_prices -/
abbrev s__law_prices : Stmt := topS 37
abbrev N__law_prices : List Str := ["draws", "at", "kind", "many", "far", "one", "lengths", "k"]
theorem sc__law_prices : FnScope ["draws", "at", "kind", "many", "far", "one", "lengths", "k"] ["draws", "at"] (defScope s__law_prices) := ⟨rfl, rfl, rfl, by decide +kernel, rfl, by decide +kernel, by decide +kernel⟩
def C__law_prices_1 : FE := (eComp (iRg1 (eVar 4)) [7] (tName 7) tYesF (eBin opIx (eLst (aCons (eBin opAdd (eC (.int 1)) (eBin opDiv (eVar 7) (eC (.int 2)))) (aCons (eC (.int 0)) (aCons (eBin opMod (eUn opInt (eBin opIx (eVar 0) (eBin opAdd (eBin opAdd (eVar 1) (eC (.int 5))) (eBin opMod (eVar 7) (eC (.int 6)))))) (eC (.int 20))) (aCons (eC (.int 1)) aNil))))) (eVar 2)) finI)
def C__law_prices_2 : FE := (eComp (iRg1 (eVar 3)) [7] (tName 7) tYesF (eBin opIx (eLst (aCons (eBin opAdd (eC (.int 3)) (eBin opDiv (eVar 7) (eC (.int 3)))) (aCons (eC (.int 5)) (aCons (eBin opMod (eUn opInt (eBin opIx (eVar 0) (eBin opAdd (eBin opAdd (eVar 1) (eC (.int 4))) (eBin opMod (eVar 7) (eC (.int 6)))))) (eC (.int 30))) (aCons (eBin opAdd (eC (.int 2)) (eVar 7)) aNil))))) (eVar 2)) finI)
def G__law_prices : FS := (sSeq (sAsg (eTup (aCons (eBin opMod (eUn opInt (eBin opIx (eVar 0) (eVar 1))) (eC (.int 4))) (aCons (eBin opMod (eUn opInt (eBin opIx (eVar 0) (eBin opAdd (eVar 1) (eC (.int 1))))) (eC (.int 12))) (aCons (eBin opMod (eUn opInt (eBin opIx (eVar 0) (eBin opAdd (eVar 1) (eC (.int 2))))) (eC (.int 14))) aNil)))) (tTupT 3 (tsCons (tName 2) (tsCons (tName 3) (tsCons (tName 4) tsNil)))))
  (sSeq (sAsg (eBin opAdd (eBin opIx (eLst (aCons (eC (.int 9)) (aCons (eC (.int 1)) (aCons (eC (.int 20)) (aCons (eC (.int 0)) aNil))))) (eVar 2)) (eBin opMod (eUn opInt (eBin opIx (eVar 0) (eBin opAdd (eVar 1) (eC (.int 3))))) (eC (.int 7)))) (tName 5))
  (sSeq (sAsg (eUn opTuple C__law_prices_2) (tName 6))
  (sRet (eTup (aCons (eVar 5) (aCons (eVar 6) (aCons (eUn opTuple C__law_prices_1) aNil))))))))
def F__law_prices : FF := runF 8 G__law_prices
/-! ### _law_steps -/
abbrev s__law_steps : Stmt := topS 38
abbrev N__law_steps : List Str := ["octets", "prices", "place", "found", "distance", "length", "k"]
theorem sc__law_steps : FnScope ["octets", "prices", "place", "found", "distance", "length", "k"] ["octets", "prices", "place"] (defScope s__law_steps) := ⟨rfl, rfl, rfl, by decide +kernel, rfl, by decide +kernel, by decide +kernel⟩
def C__law_steps_1 : FE := (eComp (iRg1 (eVar 5)) [6] (tName 6) tYesF (eBin cEq (eBin opIx (eVar 0) (eBin opAdd (eVar 2) (eVar 6))) (eBin opIx (eVar 0) (eBin opSub (eBin opAdd (eVar 2) (eVar 6)) (eVar 4)))) finI)
def B__law_steps_2 : FS := (sIf (tAndF (tB (eBin (cInt fun i j => decide (i ≤ j)) (eBin opAdd (eVar 2) (eVar 5)) (eUn opLen (eVar 0)))) (tB (eUn opAll C__law_steps_1)))
  (sApp 3 (eTup (aCons (eC (.str "copy")) (aCons (eVar 5) (aCons (eVar 4) aNil)))))
  sNil)
def B__law_steps_3 : FS := (sFor [] (iRg2 (eC (.int 2)) (eBin opAdd (eUn opLen (eBin opIx (eVar 1) (eC (.int 1)))) (eC (.int 2)))) (tName 5)
  B__law_steps_2)
def G__law_steps : FS := (sSeq (sAsg (eLst aNil) (tName 3))
  (sSeq (sFor [] (iRg2 (eC (.int 1)) (eBin opAdd (eBin opMin2 (eVar 2) (eUn opLen (eBin opIx (eVar 1) (eC (.int 2))))) (eC (.int 1)))) (tName 4)
  B__law_steps_3)
  (sRet (eBin opAdd (eUn opSorted (eVar 3)) (eLst (aCons (eTup (aCons (eC (.str "one")) (aCons (eBin opIx (eVar 0) (eVar 2)) aNil))) aNil))))))
def F__law_steps : FF := runF 7 G__law_steps
/-! ### _law_size -/
abbrev s__law_size : Stmt := topS 39
abbrev N__law_size : List Str := ["step"]
theorem sc__law_size : FnScope ["step"] ["step"] (defScope s__law_size) := ⟨rfl, rfl, rfl, by decide +kernel, rfl, by decide +kernel, by decide +kernel⟩
def G__law_size : FS := (sRet (eIfF (tB (eBin cEq (eBin opIx (eVar 0) (eC (.int 0))) (eC (.str "one")))) (eC (.int 1)) (eBin opIx (eVar 0) (eC (.int 1)))))
def F__law_size : FF := runF 1 G__law_size
/-! ### _law_price -/
abbrev s__law_price : Stmt := topS 40
abbrev N__law_price : List Str := ["prices", "step"]
theorem sc__law_price : FnScope ["prices", "step"] ["prices", "step"] (defScope s__law_price) := ⟨rfl, rfl, rfl, by decide +kernel, rfl, by decide +kernel, by decide +kernel⟩
def G__law_price : FS := (sRet (eIfF (tB (eBin cEq (eBin opIx (eVar 1) (eC (.int 0))) (eC (.str "one")))) (eBin opIx (eVar 0) (eC (.int 0))) (eBin opAdd (eBin opIx (eBin opIx (eVar 0) (eC (.int 1))) (eBin opSub (eBin opIx (eVar 1) (eC (.int 1))) (eC (.int 2)))) (eBin opIx (eBin opIx (eVar 0) (eC (.int 2))) (eBin opSub (eBin opIx (eVar 1) (eC (.int 2))) (eC (.int 1)))))))
def F__law_price : FF := runF 2 G__law_price
/-! ### _law_rows -/
abbrev s__law_rows : Stmt := topS 41
abbrev N__law_rows : List Str := ["octets", "prices", "found", "left", "turn", "row", "place", "step"]
theorem sc__law_rows : FnScope ["octets", "prices", "found", "left", "turn", "row", "place", "step"] ["octets", "prices"] (defScope s__law_rows) := ⟨rfl, rfl, rfl, by decide +kernel, rfl, by decide +kernel, by decide +kernel⟩
def C__law_rows_1 : FE := (eComp (iAny (eCall F__law_steps (aCons (eVar 0) (aCons (eVar 1) (aCons (eVar 6) aNil))))) [7] (tName 7) tYesF (eTup (aCons (eBin opAdd (eVar 5) (eTup (aCons (eVar 7) aNil))) (aCons (eBin opAdd (eVar 6) (eCall F__law_size (aCons (eVar 7) aNil))) aNil))) finI)
def B__law_rows_2 : FS := (sSeq (sIf (tB (eBin cEq (eUn opLen (eVar 3)) (eC (.int 0))))
  (sRet (eUn opSortedA (eVar 2)))
  sNil)
  (sSeq (sPop 3 (tTupT 2 (tsCons (tName 5) (tsCons (tName 6) tsNil))))
  (sIf (tB (eBin cEq (eVar 6) (eUn opLen (eVar 0))))
  (sApp 2 (eVar 5))
  (sAsg (eBin opAdd (eVar 3) C__law_rows_1) (tName 3)))))
def G__law_rows : FS := (sSeq (sParL 2 3 (eLst aNil) (eLst (aCons (eTup (aCons (eTup aNil) (aCons (eC (.int 0)) aNil))) aNil)))
  (sSeq (sFor [] (iRg1 (eC (.int 20000))) (tName 4)
  B__law_rows_2)
  (sRet (eC .non))))
def F__law_rows : FF := runF 8 G__law_rows
/-! ### law -/
abbrev s_law : Stmt := topS 42
abbrev N_law : List Str := ["script", "draws", "turn", "octets", "prices", "cost", "row", "levels", "step", "best", "place", "goal", "rows", "costs", "size", "told", "one"]
theorem sc_law : FnScope ["script", "draws", "turn", "octets", "prices", "cost", "row", "levels", "step", "best", "place", "goal", "rows", "costs", "size", "told", "one"] ["script"] (defScope s_law) := ⟨rfl, rfl, rfl, by decide +kernel, rfl, by decide +kernel, by decide +kernel⟩
def B_law_1 : FS := (sIf (tB (eBin cNe (eBin opIx (eCall F_cheapest (aCons (eSlice (eVar 3) oNone (oSome (eVar 14))) (aCons (eVar 4) aNil))) (eC (.int 2))) (eSlice (eVar 7) oNone (oSome (eBin opAdd (eVar 14) (eC (.int 1)))))))
  (sRet (eC (.bl false)))
  sNil)
def C_law_2 : FE := (eComp (iAny (eVar 13)) [16] (tName 16) (tB (eBin cEq (eVar 16) (eVar 5))) (eVar 16) finI)
def C_law_3 : FE := (eComp (iAny (eVar 16)) [8] (tName 8) tYesF (eCall F__law_price (aCons (eVar 4) (aCons (eVar 8) aNil))) finI)
def C_law_4 : FE := (eComp (iAny (eVar 12)) [16] (tName 16) tYesF (eUn opSum C_law_3) finI)
def B_law_5 : FS := (sSeq (sAsg (eBin opAdd (eVar 10) (eCall F__law_size (aCons (eVar 8) aNil))) (tName 11))
  (sPut 9 (eVar 11) (eBin opMin2 (eBin opIx (eVar 9) (eVar 11)) (eBin opAdd (eBin opIx (eVar 9) (eVar 10)) (eCall F__law_price (aCons (eVar 4) (aCons (eVar 8) aNil)))))))
def B_law_6 : FS := (sFor [] (iAny (eCall F__law_steps (aCons (eVar 3) (aCons (eVar 4) (aCons (eVar 10) aNil))))) (tName 8)
  B_law_5)
def C_law_7 : FE := (eComp (iAny (eVar 6)) [8] (tName 8) tYesF (eCall F__law_price (aCons (eVar 4) (aCons (eVar 8) aNil))) finI)
def B_law_8 : FS := (sSeq (sAsg (eTup (aCons (eCall F__law_octets (aCons (eVar 1) (aCons (eBin opMulA (eC (.int 16)) (eVar 2)) (aCons (eBin opIx (eLst (aCons (eC (.int 7)) (aCons (eC (.int 40)) (aCons (eC (.int 20)) aNil)))) (eVar 2)) aNil)))) (aCons (eCall F__law_prices (aCons (eVar 1) (aCons (eBin opAdd (eC (.int 48)) (eBin opMulA (eC (.int 4)) (eVar 2))) aNil))) aNil))) (tTupT 2 (tsCons (tName 3) (tsCons (tName 4) tsNil))))
  (sSeq (sAsg (eCall F_cheapest (aCons (eVar 3) (aCons (eVar 4) aNil))) (tTupT 3 (tsCons (tName 5) (tsCons (tName 6) (tsCons (tName 7) tsNil)))))
  (sSeq (sIf (tOrF (tB (eUn (opIsi "bool") (eVar 5))) (tOrF (tNotF (tB (eUn (opIsi "tuple") (eVar 6)))) (tOrF (tNotF (tB (eUn (opIsi "tuple") (eVar 7)))) (tB (eBin cNe (eCall F_written_out (aCons (eVar 6) aNil)) (eVar 3))))))
  (sRet (eC (.bl false)))
  sNil)
  (sSeq (sIf (tOrF (tB (eBin cNe (eCall F_price (aCons (eVar 4) (aCons (eVar 6) aNil))) (eVar 5))) (tB (eBin cNotN (eCall F_row_fault (aCons (eVar 3) (aCons (eVar 4) (aCons (eVar 6) aNil)))) (eC .non))))
  (sRet (eC (.bl false)))
  sNil)
  (sSeq (sIf (tOrF (tB (eBin cNe (eUn opSum C_law_7) (eVar 5))) (tOrF (tB (eBin cNe (eUn opLen (eVar 7)) (eBin opAdd (eUn opLen (eVar 3)) (eC (.int 1))))) (tOrF (tB (eBin cNe (eBin opIx (eVar 7) (eC (.int 0))) (eC (.int 0)))) (tOrF (tB (eBin cNe (eBin opIx (eVar 7) (eUn opNeg (eC (.int 1)))) (eVar 5))) (tB (eBin cNotN (eCall F_levels_fault (aCons (eVar 3) (aCons (eVar 4) (aCons (eVar 7) aNil)))) (eC .non)))))))
  (sRet (eC (.bl false)))
  sNil)
  (sSeq (sAsg (eBin opAdd (eLst (aCons (eC (.int 0)) aNil)) (eBin opMulA (eLst (aCons (eBin opPow (eC (.int 10)) (eC (.int 9))) aNil)) (eUn opLen (eVar 3)))) (tName 9))
  (sSeq (sFor [] (iRg1 (eUn opLen (eVar 3))) (tName 10)
  B_law_6)
  (sSeq (sIf (tB (eBin cNe (eUn opList (eVar 7)) (eVar 9)))
  (sRet (eC (.bl false)))
  sNil)
  (sSeq (sIf (tB (eBin cEq (eVar 2) (eC (.int 0))))
  (sSeq (sAsg (eCall F__law_rows (aCons (eVar 3) (aCons (eVar 4) aNil))) (tName 12))
  (sIf (tB (eBin cNotN (eVar 12) (eC .non)))
  (sSeq (sAsg C_law_4 (tName 13))
  (sIf (tOrF (tB (eBin cNe (eUn opMinA (eVar 13)) (eVar 5))) (tOrF (tB (eBin cNe (eBin opIx (eVar 12) (eIdx (eVar 13) (eVar 5))) (eVar 6))) (tB (eBin cNe (eCall F_count_rows (aCons (eVar 3) (aCons (eVar 4) aNil))) (eTup (aCons (eUn opLen (eVar 12)) (aCons (eUn opLen C_law_2) aNil)))))))
  (sRet (eC (.bl false)))
  sNil))
  sNil))
  sNil)
  (sFor [] (iAny (eLst (aCons (eBin opDiv (eUn opLen (eVar 3)) (eC (.int 2))) (aCons (eBin opDiv (eUn opLen (eVar 3)) (eC (.int 3))) aNil)))) (tName 14)
  B_law_1))))))))))
def G_law : FS := (sSeq (sAsg (eCall F__law_draws (aCons (eVar 0) (aCons (eC (.int 70)) aNil))) (tName 1))
  (sSeq (sFor [] (iRg1 (eC (.int 3))) (tName 2)
  B_law_8)
  (sSeq (sAsg (eCall F_cheapest (aCons (eTup (aCons (eC (.int 7)) (aCons (eC (.int 8)) (aCons (eC (.int 7)) (aCons (eC (.int 8)) (aCons (eC (.int 7)) (aCons (eC (.int 8)) aNil))))))) (aCons (eTup (aCons (eC (.int 9)) (aCons (eTup (aCons (eC (.int 5)) (aCons (eC (.int 5)) (aCons (eC (.int 5)) (aCons (eC (.int 5)) aNil))))) (aCons (eTup (aCons (eC (.int 1)) (aCons (eC (.int 2)) (aCons (eC (.int 3)) aNil)))) aNil)))) aNil))) (tName 15))
  (sRet (eAndF (eBin cEq (eSlice (eVar 15) oNone (oSome (eC (.int 2)))) (eTup (aCons (eC (.int 25)) (aCons (eTup (aCons (eTup (aCons (eC (.str "one")) (aCons (eC (.int 7)) aNil))) (aCons (eTup (aCons (eC (.str "one")) (aCons (eC (.int 8)) aNil))) (aCons (eTup (aCons (eC (.str "copy")) (aCons (eC (.int 4)) (aCons (eC (.int 2)) aNil)))) aNil)))) aNil)))) (eBin cEq (eCall F_cheapest (aCons (eTup aNil) (aCons (eTup (aCons (eC (.int 1)) (aCons (eTup aNil) (aCons (eTup aNil) aNil)))) aNil))) (eTup (aCons (eC (.int 0)) (aCons (eTup aNil) (aCons (eTup (aCons (eC (.int 0)) aNil)) aNil))))))))))
def F_law : FF := runF 17 G_law
structure Base (K : PySem.W.Frag) (mg : MG) : Prop where
  n_abs : mg "abs" = none
  n_all : mg "all" = none
  n_bool : mg "bool" = none
  n_enumerate : mg "enumerate" = none
  n_int : mg "int" = none
  n_isinstance : mg "isinstance" = none
  n_len : mg "len" = none
  n_list : mg "list" = none
  n_min : mg "min" = none
  n_range : mg "range" = none
  n_sorted : mg "sorted" = none
  n_str : mg "str" = none
  n_sum : mg "sum" = none
  n_tuple : mg "tuple" = none
  c_MOST_OCTETS : ∃ t, mg "MOST_OCTETS" = some (.int 60 t)
  c_MOST_PRICE : ∃ t, mg "MOST_PRICE" = some (.int 1000 t)
  c_LEAST_COPY : ∃ t, mg "LEAST_COPY" = some (.int 2 t)
  c_ONE : ∃ t, mg "ONE" = some (.str "one" t)
  c_COPY : ∃ t, mg "COPY" = some (.str "copy" t)
  c_FORM : ∃ t, mg "FORM" = some (.str "form" t)
  e_ArchiveError : Exc K mg "ArchiveError"
  e_BadContent : Exc K mg "BadContent"
  e_BadRow : Exc K mg "BadRow"
  e_BadPrices : Exc K mg "BadPrices"
  ex : ExFacts K mg exs exSub
  d_is_whole : Def K mg "is_whole" s_is_whole
  d_check_content : Def K mg "check_content" s_check_content
  d__are_prices : Def K mg "_are_prices" s__are_prices
  d_check_prices : Def K mg "check_prices" s_check_prices
  d_is_step : Def K mg "is_step" s_is_step
  d_copied : Def K mg "copied" s_copied
  d__given : Def K mg "_given" s__given
  d_written_out : Def K mg "written_out" s_written_out
  d_is_usable : Def K mg "is_usable" s_is_usable
  d_step_price : Def K mg "step_price" s_step_price
  d_price : Def K mg "price" s_price
  d_row_fault : Def K mg "row_fault" s_row_fault
  d_copy_length : Def K mg "copy_length" s_copy_length
  d__steps : Def K mg "_steps" s__steps
  d__size : Def K mg "_size" s__size
  d__levels : Def K mg "_levels" s__levels
  d__behind : Def K mg "_behind" s__behind
  d__check : Def K mg "_check" s__check
  d_cheapest : Def K mg "cheapest" s_cheapest
  d_levels_fault : Def K mg "levels_fault" s_levels_fault
  d_count_rows : Def K mg "count_rows" s_count_rows
  d__law_draws : Def K mg "_law_draws" s__law_draws
  d__law_octets : Def K mg "_law_octets" s__law_octets
  d__law_prices : Def K mg "_law_prices" s__law_prices
  d__law_steps : Def K mg "_law_steps" s__law_steps
  d__law_size : Def K mg "_law_size" s__law_size
  d__law_price : Def K mg "_law_price" s__law_price
  d__law_rows : Def K mg "_law_rows" s__law_rows
  d_law : Def K mg "law" s_law
theorem body_is_whole {P : Program} {w : World} {K : PySem.W.Frag} {mg : MG} {base : Heap} (B : Base K mg) (f : Addr) (cdv : Value) (A : Around) (outer : List PySem.Env) (s : Shared) (H : Hp) (E : XK) (hr : Room 0 (A.deeper (envOfC "is_whole" (defScope s_is_whole) s.heap.objs.size f cdv))) :
    PSsv (cxOf (L2.CX P w) P w K mg base ["value", "least", "most"] "is_whole" (defScope s_is_whole) f cdv A outer s H E) (defBody s_is_whole) G_is_whole :=
    (sv_one (sv_ret (ev_and (ev_isi kit_int (by rfl) B.n_isinstance (by decide +kernel) (by rfl) B.n_int (by decide +kernel) (ev_var 0)) (ev_and (ev_not (ev_isi kit_bool (by rfl) B.n_isinstance (by decide +kernel) (by rfl) B.n_bool (by decide +kernel) (ev_var 0))) (ev_one (ev_chain op_le bCInt cInt_nx op_le bCInt cInt_nx (ev_var 1) (ev_var 0) (ev_var 2)))))))
theorem ok_is_whole {P : Program} {w : World} {K : PySem.W.Frag} {mg : MG} {base : Heap} (B : Base K mg) : Has P w K mg base "is_whole" 1 3 F_is_whole :=
  has_of (N := ["value", "least", "most"]) (ps := ["value", "least", "most"]) (k := 0) (g := G_is_whole) B.d_is_whole sc_is_whole (fun _ _ _ _ _ _ us hl => match us, hl with | [_, _, _], _ => rfl) fun f cdv A outer s H E hr => body_is_whole B f cdv A outer s H E hr
theorem body_check_content {P : Program} {w : World} {K : PySem.W.Frag} {mg : MG} {base : Heap} (B : Base K mg) (f : Addr) (cdv : Value) (A : Around) (outer : List PySem.Env) (s : Shared) (H : Hp) (E : XK) (hr : Room 1 (A.deeper (envOfC "check_content" (defScope s_check_content) s.heap.objs.size f cdv))) :
    PSsv (cxOf (L2.CX P w) P w K mg base ["value", "one"] "check_content" (defScope s_check_content) f cdv A outer s H E) (defBody s_check_content) G_check_content :=
    (sv_one (sv_if (wv_pt (wv_or (tv_not (tv_val (ev_isi kit_tuple (by rfl) B.n_isinstance (by decide +kernel) (by rfl) B.n_tuple (by decide +kernel) (ev_var 0)))) (wv_or (tv_cmp op_gt bCInt cInt_nx (ev_b1 call_lenA uLen opLen_nx (by rfl) B.n_len (by decide +kernel) (ev_var 0)) (ev_gint (by rfl) B.c_MOST_OCTETS) (nomark _)) (wv_or1 (tv_not (tv_val (ev_b1 (cr_all rfl) uAll opAll_nx (by rfl) B.n_all (by decide +kernel) (ev_comp (own := [("one", 1)]) finI_ok rfl sc_check_content.nd (iv_any (ev_var 0)) (blkOk_by (by show blkC N_check_content (defScope s_check_content) _ _ = true; decide +kernel)) (fun _ _ _ _ _ => (gv_name (i := 1) sc_check_content.nd rfl (by first | exact .inl rfl | exact .inr rfl) (by decide))) (fun _ _ _ _ _ => tsv_nil) (fun _ _ _ _ _ => (ev_callH (ok_is_whole B) (hr.mono (by decide)) (by rfl) rfl (av_cons (ev_var 1) (av_cons ev_int (av_cons ev_int av_nil))) (aCons_len (aCons_len (aCons_len aNil_len)))))))))))))
    (sv_one (sv_raiseH B.e_BadContent rfl (by rfl)))
    sv_nil))
theorem ok_check_content {P : Program} {w : World} {K : PySem.W.Frag} {mg : MG} {base : Heap} (B : Base K mg) : Has P w K mg base "check_content" 2 1 F_check_content :=
  has_of (N := ["value", "one"]) (ps := ["value"]) (k := 1) (g := G_check_content) B.d_check_content sc_check_content (fun _ _ _ _ _ _ us hl => match us, hl with | [_], _ => rfl) fun f cdv A outer s H E hr => body_check_content B f cdv A outer s H E hr
theorem body__are_prices {P : Program} {w : World} {K : PySem.W.Frag} {mg : MG} {base : Heap} (B : Base K mg) (f : Addr) (cdv : Value) (A : Around) (outer : List PySem.Env) (s : Shared) (H : Hp) (E : XK) (hr : Room 1 (A.deeper (envOfC "_are_prices" (defScope s__are_prices) s.heap.objs.size f cdv))) :
    PSsv (cxOf (L2.CX P w) P w K mg base ["value", "most", "one"] "_are_prices" (defScope s__are_prices) f cdv A outer s H E) (defBody s__are_prices) G__are_prices :=
    (sv_cons (sv_if (wv_pt (wv_or (tv_not (tv_val (ev_isi kit_tuple (by rfl) B.n_isinstance (by decide +kernel) (by rfl) B.n_tuple (by decide +kernel) (ev_var 0)))) (wv_or1 (tv_cmp op_gt bCInt cInt_nx (ev_b1 call_lenA uLen opLen_nx (by rfl) B.n_len (by decide +kernel) (ev_var 0)) (ev_var 1) (nomark _)))))
    (sv_one (sv_ret ev_bl))
    sv_nil)
    (sv_one (sv_ret (ev_b1 (cr_all rfl) uAll opAll_nx (by rfl) B.n_all (by decide +kernel) (ev_comp (own := [("one", 2)]) finI_ok rfl sc__are_prices.nd (iv_any (ev_var 0)) (blkOk_by (by show blkC N__are_prices (defScope s__are_prices) _ _ = true; decide +kernel)) (fun _ _ _ _ _ => (gv_name (i := 2) sc__are_prices.nd rfl (by first | exact .inl rfl | exact .inr rfl) (by decide))) (fun _ _ _ _ _ => tsv_nil) (fun _ _ _ _ _ => (ev_callH (ok_is_whole B) (hr.mono (by decide)) (by rfl) rfl (av_cons (ev_var 2) (av_cons ev_int (av_cons (ev_gint (by rfl) B.c_MOST_PRICE) av_nil))) (aCons_len (aCons_len (aCons_len aNil_len))))))))))
theorem ok__are_prices {P : Program} {w : World} {K : PySem.W.Frag} {mg : MG} {base : Heap} (B : Base K mg) : Has P w K mg base "_are_prices" 2 2 F__are_prices :=
  has_of (N := ["value", "most", "one"]) (ps := ["value", "most"]) (k := 1) (g := G__are_prices) B.d__are_prices sc__are_prices (fun _ _ _ _ _ _ us hl => match us, hl with | [_, _], _ => rfl) fun f cdv A outer s H E hr => body__are_prices B f cdv A outer s H E hr
theorem body_check_prices {P : Program} {w : World} {K : PySem.W.Frag} {mg : MG} {base : Heap} (B : Base K mg) (f : Addr) (cdv : Value) (A : Around) (outer : List PySem.Env) (s : Shared) (H : Hp) (E : XK) (hr : Room 2 (A.deeper (envOfC "check_prices" (defScope s_check_prices) s.heap.objs.size f cdv))) :
    PSsv (cxOf (L2.CX P w) P w K mg base ["value"] "check_prices" (defScope s_check_prices) f cdv A outer s H E) (defBody s_check_prices) G_check_prices :=
    (sv_cons (sv_if (wv_pt (wv_or (tv_not (tv_val (ev_isi kit_tuple (by rfl) B.n_isinstance (by decide +kernel) (by rfl) B.n_tuple (by decide +kernel) (ev_var 0)))) (wv_or (tv_cmp (op_neD hr.units) bNe cNe_nx (ev_b1 call_lenA uLen opLen_nx (by rfl) B.n_len (by decide +kernel) (ev_var 0)) ev_int (nomark _)) (wv_or1 (tv_not (tv_val (ev_callH (ok_is_whole B) (hr.mono (by decide)) (by rfl) rfl (av_cons (ev_ix hr (ev_var 0) ev_int (fun _ _ => rfl)) (av_cons ev_int (av_cons (ev_gint (by rfl) B.c_MOST_PRICE) av_nil))) (aCons_len (aCons_len (aCons_len aNil_len))))))))))
    (sv_one (sv_raiseH B.e_BadPrices rfl (by rfl)))
    sv_nil)
    (sv_one (sv_if (wv_pt (wv_or (tv_not (tv_val (ev_callH (ok__are_prices B) (hr.mono (by decide)) (by rfl) rfl (av_cons (ev_ix hr (ev_var 0) ev_int (fun _ _ => rfl)) (av_cons (ev_bin op_sub bSub opSub_nx (ev_gint (by rfl) B.c_MOST_OCTETS) ev_int) av_nil)) (aCons_len (aCons_len aNil_len))))) (wv_or1 (tv_not (tv_val (ev_callH (ok__are_prices B) (hr.mono (by decide)) (by rfl) rfl (av_cons (ev_ix hr (ev_var 0) ev_int (fun _ _ => rfl)) (av_cons (ev_gint (by rfl) B.c_MOST_OCTETS) av_nil)) (aCons_len (aCons_len aNil_len))))))))
    (sv_one (sv_raiseH B.e_BadPrices rfl (by rfl)))
    sv_nil)))
theorem ok_check_prices {P : Program} {w : World} {K : PySem.W.Frag} {mg : MG} {base : Heap} (B : Base K mg) : Has P w K mg base "check_prices" 3 1 F_check_prices :=
  has_of (N := ["value"]) (ps := ["value"]) (k := 2) (g := G_check_prices) B.d_check_prices sc_check_prices (fun _ _ _ _ _ _ us hl => match us, hl with | [_], _ => rfl) fun f cdv A outer s H E hr => body_check_prices B f cdv A outer s H E hr
theorem body_is_step {P : Program} {w : World} {K : PySem.W.Frag} {mg : MG} {base : Heap} (B : Base K mg) (f : Addr) (cdv : Value) (A : Around) (outer : List PySem.Env) (s : Shared) (H : Hp) (E : XK) (hr : Room 1 (A.deeper (envOfC "is_step" (defScope s_is_step) s.heap.objs.size f cdv))) :
    PSsv (cxOf (L2.CX P w) P w K mg base ["value"] "is_step" (defScope s_is_step) f cdv A outer s H E) (defBody s_is_step) G_is_step :=
    (sv_cons (sv_if (wv_pt (wv_or (tv_not (tv_val (ev_isi kit_tuple (by rfl) B.n_isinstance (by decide +kernel) (by rfl) B.n_tuple (by decide +kernel) (ev_var 0)))) (wv_or (tv_cmp (op_notInAll hr) bNotIn cIn_nx (ev_b1 call_lenA uLen opLen_nx (by rfl) B.n_len (by decide +kernel) (ev_var 0)) (ev_tup (av_cons ev_int (av_cons ev_int av_nil))) (by rfl)) (wv_or1 (tv_not (tv_val (ev_isi kit_str (by rfl) B.n_isinstance (by decide +kernel) (by rfl) B.n_str (by decide +kernel) (ev_ix hr (ev_var 0) ev_int (fun _ _ => rfl)))))))))
    (sv_one (sv_ret ev_bl))
    sv_nil)
    (sv_cons (sv_if (tv_cmp (op_eqD hr.units) bEq cEq_nx (ev_b1 call_lenA uLen opLen_nx (by rfl) B.n_len (by decide +kernel) (ev_var 0)) ev_int (nomark _))
    (sv_one (sv_ret (ev_and (ev_cmp (op_eqD hr.units) bEq cEq_nx (ev_ix hr (ev_var 0) ev_int (fun _ _ => rfl)) (ev_gstr (by rfl) B.c_ONE) (nomark _)) (ev_one (ev_callH (ok_is_whole B) (hr.mono (by decide)) (by rfl) rfl (av_cons (ev_ix hr (ev_var 0) ev_int (fun _ _ => rfl)) (av_cons ev_int (av_cons ev_int av_nil))) (aCons_len (aCons_len (aCons_len aNil_len))))))))
    sv_nil)
    (sv_one (sv_ret (ev_and (ev_cmp (op_eqD hr.units) bEq cEq_nx (ev_ix hr (ev_var 0) ev_int (fun _ _ => rfl)) (ev_gstr (by rfl) B.c_COPY) (nomark _)) (ev_and (ev_callH (ok_is_whole B) (hr.mono (by decide)) (by rfl) rfl (av_cons (ev_ix hr (ev_var 0) ev_int (fun _ _ => rfl)) (av_cons (ev_gint (by rfl) B.c_LEAST_COPY) (av_cons (ev_gint (by rfl) B.c_MOST_OCTETS) av_nil))) (aCons_len (aCons_len (aCons_len aNil_len)))) (ev_one (ev_callH (ok_is_whole B) (hr.mono (by decide)) (by rfl) rfl (av_cons (ev_ix hr (ev_var 0) ev_int (fun _ _ => rfl)) (av_cons ev_int (av_cons (ev_gint (by rfl) B.c_MOST_OCTETS) av_nil))) (aCons_len (aCons_len (aCons_len aNil_len)))))))))))
theorem ok_is_step {P : Program} {w : World} {K : PySem.W.Frag} {mg : MG} {base : Heap} (B : Base K mg) : Has P w K mg base "is_step" 2 1 F_is_step :=
  has_of (N := ["value"]) (ps := ["value"]) (k := 1) (g := G_is_step) B.d_is_step sc_is_step (fun _ _ _ _ _ _ us hl => match us, hl with | [_], _ => rfl) fun f cdv A outer s H E hr => body_is_step B f cdv A outer s H E hr
theorem body_copied {P : Program} {w : World} {K : PySem.W.Frag} {mg : MG} {base : Heap} (B : Base K mg) (f : Addr) (cdv : Value) (A : Around) (outer : List PySem.Env) (s : Shared) (H : Hp) (E : XK) (hr : Room 0 (A.deeper (envOfC "copied" (defScope s_copied) s.heap.objs.size f cdv))) :
    PSsv (cxOf (L2.CX P w) P w K mg base ["octets", "length", "distance", "found", "_octet"] "copied" (defScope s_copied) f cdv A outer s H E) (defBody s_copied) G_copied :=
    (sv_cons (sv_set (i := 3) sc_copied.nd rfl (.inl rfl) (ev_t1 call_list_of uList opList_nx (by rfl) B.n_list (by decide +kernel) (ev_var 0)))
    (sv_cons (sv_for (vs := [4]) [] (passes_of rfl) rfl (iv_rg1 (by rfl) B.n_range (ev_var 1)) (gv_name (i := 4) sc_copied.nd rfl (.inl rfl) (by decide))
    (sv_one (sv_app (i := 3) (ev_ix hr (ev_var 3) (ev_bin op_sub bSub opSub_nx (ev_b1 call_lenA uLen opLen_nx (by rfl) B.n_len (by decide +kernel) (ev_var 3)) (ev_var 2)) (fun _ _ => rfl)))))
    (sv_one (sv_ret (ev_t1 call_tuple_of uTuple opTuple_nx (by rfl) B.n_tuple (by decide +kernel) (ev_var 3))))))
theorem ok_copied {P : Program} {w : World} {K : PySem.W.Frag} {mg : MG} {base : Heap} (B : Base K mg) : Has P w K mg base "copied" 1 3 F_copied :=
  has_of (N := ["octets", "length", "distance", "found", "_octet"]) (ps := ["octets", "length", "distance"]) (k := 0) (g := G_copied) B.d_copied sc_copied (fun _ _ _ _ _ _ us hl => match us, hl with | [_, _, _], _ => rfl) fun f cdv A outer s H E hr => body_copied B f cdv A outer s H E hr
theorem body__given {P : Program} {w : World} {K : PySem.W.Frag} {mg : MG} {base : Heap} (B : Base K mg) (f : Addr) (cdv : Value) (A : Around) (outer : List PySem.Env) (s : Shared) (H : Hp) (E : XK) (hr : Room 2 (A.deeper (envOfC "_given" (defScope s__given) s.heap.objs.size f cdv))) :
    PSsv (cxOf (L2.CX P w) P w K mg base ["row", "step", "found"] "_given" (defScope s__given) f cdv A outer s H E) (defBody s__given) G__given :=
    (sv_cons (sv_if (wv_pt (wv_or (tv_not (tv_val (ev_isi kit_tuple (by rfl) B.n_isinstance (by decide +kernel) (by rfl) B.n_tuple (by decide +kernel) (ev_var 0)))) (wv_or (tv_cmp op_gt bCInt cInt_nx (ev_b1 call_lenA uLen opLen_nx (by rfl) B.n_len (by decide +kernel) (ev_var 0)) (ev_gint (by rfl) B.c_MOST_OCTETS) (nomark _)) (wv_or1 (tv_not (tv_val (ev_b1 (cr_all rfl) uAll opAll_nx (by rfl) B.n_all (by decide +kernel) (ev_comp (own := [("step", 1)]) finI_ok rfl sc__given.nd (iv_any (ev_var 0)) (blkOk_by (by show blkC N__given (defScope s__given) _ _ = true; decide +kernel)) (fun _ _ _ _ _ => (gv_name (i := 1) sc__given.nd rfl (by first | exact .inl rfl | exact .inr rfl) (by decide))) (fun _ _ _ _ _ => tsv_nil) (fun _ _ _ _ _ => (ev_callH (ok_is_step B) (hr.mono (by decide)) (by rfl) rfl (av_cons (ev_var 1) av_nil) (aCons_len aNil_len)))))))))))
    (sv_one (sv_raiseH B.e_BadRow rfl (by rfl)))
    sv_nil)
    (sv_cons (sv_set (i := 2) sc__given.nd rfl (.inl rfl) (ev_tup av_nil))
    (sv_cons (sv_for (vs := [1]) [0] (passes_of rfl) rfl (iv_any (ev_var 0)) (gv_name (i := 1) sc__given.nd rfl (.inl rfl) (by decide))
    (sv_cons (sv_if (tv_cmp (op_eqD hr.units) bEq cEq_nx (ev_ix hr (ev_var 1) ev_int (fun _ _ => rfl)) (ev_gstr (by rfl) B.c_ONE) (nomark _))
    (sv_one (sv_set (i := 2) sc__given.nd rfl (.inl rfl) (ev_bin or_addAll bAdd opAdd_nx (ev_var 2) (ev_tup (av_cons (ev_ix hr (ev_var 1) ev_int (fun _ _ => rfl)) av_nil)))))
    (sv_one (sv_if (tv_cmp op_gt bCInt cInt_nx (ev_ix hr (ev_var 1) ev_int (fun _ _ => rfl)) (ev_b1 call_lenA uLen opLen_nx (by rfl) B.n_len (by decide +kernel) (ev_var 2)) (nomark _))
    (sv_one (sv_raiseH B.e_BadRow rfl (by rfl)))
    (sv_one (sv_set (i := 2) sc__given.nd rfl (.inl rfl) (ev_callH (ok_copied B) (hr.mono (by decide)) (by rfl) rfl (av_cons (ev_var 2) (av_cons (ev_ix hr (ev_var 1) ev_int (fun _ _ => rfl)) (av_cons (ev_ix hr (ev_var 1) ev_int (fun _ _ => rfl)) av_nil))) (aCons_len (aCons_len (aCons_len aNil_len)))))))))
    (sv_one (sv_if (tv_cmp op_gt bCInt cInt_nx (ev_b1 call_lenA uLen opLen_nx (by rfl) B.n_len (by decide +kernel) (ev_var 2)) (ev_gint (by rfl) B.c_MOST_OCTETS) (nomark _))
    (sv_one (sv_raiseH B.e_BadRow rfl (by rfl)))
    sv_nil))))
    (sv_one (sv_retV 2)))))
theorem ok__given {P : Program} {w : World} {K : PySem.W.Frag} {mg : MG} {base : Heap} (B : Base K mg) : Has P w K mg base "_given" 3 1 F__given :=
  has_of (N := ["row", "step", "found"]) (ps := ["row"]) (k := 2) (g := G__given) B.d__given sc__given (fun _ _ _ _ _ _ us hl => match us, hl with | [_], _ => rfl) fun f cdv A outer s H E hr => body__given B f cdv A outer s H E hr
theorem body_written_out {P : Program} {w : World} {K : PySem.W.Frag} {mg : MG} {base : Heap} (B : Base K mg) (f : Addr) (cdv : Value) (A : Around) (outer : List PySem.Env) (s : Shared) (H : Hp) (E : XK) (hr : Room 3 (A.deeper (envOfC "written_out" (defScope s_written_out) s.heap.objs.size f cdv))) :
    PSsv (cxOf (L2.CX P w) P w K mg base ["row"] "written_out" (defScope s_written_out) f cdv A outer s H E) (defBody s_written_out) G_written_out :=
    (sv_one (sv_ret (ev_callH (ok__given B) (hr.mono (by decide)) (by rfl) rfl (av_cons (ev_var 0) av_nil) (aCons_len aNil_len))))
theorem ok_written_out {P : Program} {w : World} {K : PySem.W.Frag} {mg : MG} {base : Heap} (B : Base K mg) : Has P w K mg base "written_out" 4 1 F_written_out :=
  has_of (N := ["row"]) (ps := ["row"]) (k := 3) (g := G_written_out) B.d_written_out sc_written_out (fun _ _ _ _ _ _ us hl => match us, hl with | [_], _ => rfl) fun f cdv A outer s H E hr => body_written_out B f cdv A outer s H E hr
theorem body_is_usable {P : Program} {w : World} {K : PySem.W.Frag} {mg : MG} {base : Heap} (B : Base K mg) (f : Addr) (cdv : Value) (A : Around) (outer : List PySem.Env) (s : Shared) (H : Hp) (E : XK) (hr : Room 0 (A.deeper (envOfC "is_usable" (defScope s_is_usable) s.heap.objs.size f cdv))) :
    PSsv (cxOf (L2.CX P w) P w K mg base ["prices", "step"] "is_usable" (defScope s_is_usable) f cdv A outer s H E) (defBody s_is_usable) G_is_usable :=
    (sv_cons (sv_if (tv_cmp (op_eqD hr.units) bEq cEq_nx (ev_ix hr (ev_var 1) ev_int (fun _ _ => rfl)) (ev_gstr (by rfl) B.c_ONE) (nomark _))
    (sv_one (sv_ret ev_bl))
    sv_nil)
    (sv_one (sv_ret (ev_and (ev_cmp op_lt bCInt cInt_nx (ev_bin op_sub bSub opSub_nx (ev_ix hr (ev_var 1) ev_int (fun _ _ => rfl)) (ev_gint (by rfl) B.c_LEAST_COPY)) (ev_b1 call_lenA uLen opLen_nx (by rfl) B.n_len (by decide +kernel) (ev_ix hr (ev_var 0) ev_int (fun _ _ => rfl))) (nomark _)) (ev_one (ev_cmp op_le bCInt cInt_nx (ev_ix hr (ev_var 1) ev_int (fun _ _ => rfl)) (ev_b1 call_lenA uLen opLen_nx (by rfl) B.n_len (by decide +kernel) (ev_ix hr (ev_var 0) ev_int (fun _ _ => rfl))) (nomark _)))))))
theorem ok_is_usable {P : Program} {w : World} {K : PySem.W.Frag} {mg : MG} {base : Heap} (B : Base K mg) : Has P w K mg base "is_usable" 1 2 F_is_usable :=
  has_of (N := ["prices", "step"]) (ps := ["prices", "step"]) (k := 0) (g := G_is_usable) B.d_is_usable sc_is_usable (fun _ _ _ _ _ _ us hl => match us, hl with | [_, _], _ => rfl) fun f cdv A outer s H E hr => body_is_usable B f cdv A outer s H E hr
theorem body_step_price {P : Program} {w : World} {K : PySem.W.Frag} {mg : MG} {base : Heap} (B : Base K mg) (f : Addr) (cdv : Value) (A : Around) (outer : List PySem.Env) (s : Shared) (H : Hp) (E : XK) (hr : Room 0 (A.deeper (envOfC "step_price" (defScope s_step_price) s.heap.objs.size f cdv))) :
    PSsv (cxOf (L2.CX P w) P w K mg base ["prices", "step"] "step_price" (defScope s_step_price) f cdv A outer s H E) (defBody s_step_price) G_step_price :=
    (sv_cons (sv_if (tv_cmp (op_eqD hr.units) bEq cEq_nx (ev_ix hr (ev_var 1) ev_int (fun _ _ => rfl)) (ev_gstr (by rfl) B.c_ONE) (nomark _))
    (sv_one (sv_ret (ev_ix hr (ev_var 0) ev_int (fun _ _ => rfl))))
    sv_nil)
    (sv_one (sv_ret (ev_bin or_addAll bAdd opAdd_nx (ev_ix hr (ev_ix hr (ev_var 0) ev_int (fun _ _ => rfl)) (ev_bin op_sub bSub opSub_nx (ev_ix hr (ev_var 1) ev_int (fun _ _ => rfl)) (ev_gint (by rfl) B.c_LEAST_COPY)) (fun _ _ => rfl)) (ev_ix hr (ev_ix hr (ev_var 0) ev_int (fun _ _ => rfl)) (ev_bin op_sub bSub opSub_nx (ev_ix hr (ev_var 1) ev_int (fun _ _ => rfl)) ev_int) (fun _ _ => rfl))))))
theorem ok_step_price {P : Program} {w : World} {K : PySem.W.Frag} {mg : MG} {base : Heap} (B : Base K mg) : Has P w K mg base "step_price" 1 2 F_step_price :=
  has_of (N := ["prices", "step"]) (ps := ["prices", "step"]) (k := 0) (g := G_step_price) B.d_step_price sc_step_price (fun _ _ _ _ _ _ us hl => match us, hl with | [_, _], _ => rfl) fun f cdv A outer s H E hr => body_step_price B f cdv A outer s H E hr
theorem body_price {P : Program} {w : World} {K : PySem.W.Frag} {mg : MG} {base : Heap} (B : Base K mg) (f : Addr) (cdv : Value) (A : Around) (outer : List PySem.Env) (s : Shared) (H : Hp) (E : XK) (hr : Room 3 (A.deeper (envOfC "price" (defScope s_price) s.heap.objs.size f cdv))) :
    PSsv (cxOf (L2.CX P w) P w K mg base ["prices", "row", "step"] "price" (defScope s_price) f cdv A outer s H E) (defBody s_price) G_price :=
    (sv_cons (sv_expr (ev_callH (ok_check_prices B) (hr.mono (by decide)) (by rfl) rfl (av_cons (ev_var 0) av_nil) (aCons_len aNil_len)))
    (sv_cons (sv_expr (ev_callH (ok__given B) (hr.mono (by decide)) (by rfl) rfl (av_cons (ev_var 1) av_nil) (aCons_len aNil_len)))
    (sv_cons (sv_if (tv_not (tv_val (ev_b1 (cr_all rfl) uAll opAll_nx (by rfl) B.n_all (by decide +kernel) (ev_comp (own := [("step", 2)]) finI_ok rfl sc_price.nd (iv_any (ev_var 1)) (blkOk_by (by show blkC N_price (defScope s_price) _ _ = true; decide +kernel)) (fun _ _ _ _ _ => (gv_name (i := 2) sc_price.nd rfl (by first | exact .inl rfl | exact .inr rfl) (by decide))) (fun _ _ _ _ _ => tsv_nil) (fun _ _ _ _ _ => (ev_callH (ok_is_usable B) (hr.mono (by decide)) (by rfl) rfl (av_cons (ev_var 0) (av_cons (ev_var 2) av_nil)) (aCons_len (aCons_len aNil_len))))))))
    (sv_one (sv_raiseH B.e_BadRow rfl (by rfl)))
    sv_nil)
    (sv_one (sv_ret (ev_b1 (cr_sum rfl) uSum opSum_nx (by rfl) B.n_sum (by decide +kernel) (ev_comp (own := [("step", 2)]) finI_ok rfl sc_price.nd (iv_any (ev_var 1)) (blkOk_by (by show blkC N_price (defScope s_price) _ _ = true; decide +kernel)) (fun _ _ _ _ _ => (gv_name (i := 2) sc_price.nd rfl (by first | exact .inl rfl | exact .inr rfl) (by decide))) (fun _ _ _ _ _ => tsv_nil) (fun _ _ _ _ _ => (ev_callH (ok_step_price B) (hr.mono (by decide)) (by rfl) rfl (av_cons (ev_var 0) (av_cons (ev_var 2) av_nil)) (aCons_len (aCons_len aNil_len)))))))))))
theorem ok_price {P : Program} {w : World} {K : PySem.W.Frag} {mg : MG} {base : Heap} (B : Base K mg) : Has P w K mg base "price" 4 2 F_price :=
  has_of (N := ["prices", "row", "step"]) (ps := ["prices", "row"]) (k := 3) (g := G_price) B.d_price sc_price (fun _ _ _ _ _ _ us hl => match us, hl with | [_, _], _ => rfl) fun f cdv A outer s H E hr => body_price B f cdv A outer s H E hr
theorem body_row_fault {P : Program} {w : World} {K : PySem.W.Frag} {mg : MG} {base : Heap} (B : Base K mg) (f : Addr) (cdv : Value) (A : Around) (outer : List PySem.Env) (s : Shared) (H : Hp) (E : XK) (hr : Room 3 (A.deeper (envOfC "row_fault" (defScope s_row_fault) s.heap.objs.size f cdv))) :
    PSsv (cxOf (L2.CX P w) P w K mg base ["octets", "prices", "row", "step", "place", "number"] "row_fault" (defScope s_row_fault) f cdv A outer s H E) (defBody s_row_fault) G_row_fault :=
    (sv_cons (sv_expr (ev_callH (ok_check_content B) (hr.mono (by decide)) (by rfl) rfl (av_cons (ev_var 0) av_nil) (aCons_len aNil_len)))
    (sv_cons (sv_expr (ev_callH (ok_check_prices B) (hr.mono (by decide)) (by rfl) rfl (av_cons (ev_var 1) av_nil) (aCons_len aNil_len)))
    (sv_cons (sv_if (wv_pt (wv_or (tv_not (tv_val (ev_isi kit_tuple (by rfl) B.n_isinstance (by decide +kernel) (by rfl) B.n_tuple (by decide +kernel) (ev_var 2)))) (wv_or1 (tv_not (tv_val (ev_b1 (cr_all rfl) uAll opAll_nx (by rfl) B.n_all (by decide +kernel) (ev_comp (own := [("step", 3)]) finI_ok rfl sc_row_fault.nd (iv_any (ev_var 2)) (blkOk_by (by show blkC N_row_fault (defScope s_row_fault) _ _ = true; decide +kernel)) (fun _ _ _ _ _ => (gv_name (i := 3) sc_row_fault.nd rfl (by first | exact .inl rfl | exact .inr rfl) (by decide))) (fun _ _ _ _ _ => tsv_nil) (fun _ _ _ _ _ => (ev_and (ev_callH (ok_is_step B) (hr.mono (by decide)) (by rfl) rfl (av_cons (ev_var 3) av_nil) (aCons_len aNil_len)) (ev_one (ev_callH (ok_is_usable B) (hr.mono (by decide)) (by rfl) rfl (av_cons (ev_var 1) (av_cons (ev_var 3) av_nil)) (aCons_len (aCons_len aNil_len)))))))))))))
    (sv_one (sv_ret (ev_tup (av_cons (ev_gstr (by rfl) B.c_FORM) av_nil))))
    sv_nil)
    (sv_cons (sv_set (i := 4) sc_row_fault.nd rfl (.inl rfl) ev_int)
    (sv_cons (sv_for (vs := [5, 3]) [2] (passes_of rfl) rfl (iv_enum (by rfl) B.n_enumerate (ev_var 2)) (gv_tup rfl (gsv_cons (gv_name (i := 5) sc_row_fault.nd rfl (.inl rfl) (by decide)) (gsv_cons (gv_name (i := 3) sc_row_fault.nd rfl (.inl rfl) (by decide)) gsv_nil)))
    (sv_one (sv_if (tv_cmp (op_eqD hr.units) bEq cEq_nx (ev_ix hr (ev_var 3) ev_int (fun _ _ => rfl)) (ev_gstr (by rfl) B.c_ONE) (nomark _))
    (sv_cons (sv_if (tv_cmp (op_neD hr.units) bNe cNe_nx (ev_slice (ev_var 0) (ov_some (ev_var 4)) (ov_some (ev_bin or_addAll bAdd opAdd_nx (ev_var 4) ev_int))) (ev_slice (ev_var 3) (ov_some ev_int) ov_none) (nomark _))
    (sv_one (sv_ret (ev_tup (av_cons ev_str (av_cons (ev_var 5) av_nil)))))
    sv_nil)
    (sv_one (sv_aug (i := 4) sc_row_fault.nd rfl (.inl rfl) or_iadd bIAdd ev_int)))
    (sv_cons (sv_if (wv_pt (wv_or (tv_cmp op_gt bCInt cInt_nx (ev_ix hr (ev_var 3) ev_int (fun _ _ => rfl)) (ev_var 4) (nomark _)) (wv_or1 (tv_cmp (op_neD hr.units) bNe cNe_nx (ev_callH (ok_copied B) (hr.mono (by decide)) (by rfl) rfl (av_cons (ev_slice (ev_var 0) ov_none (ov_some (ev_var 4))) (av_cons (ev_ix hr (ev_var 3) ev_int (fun _ _ => rfl)) (av_cons (ev_ix hr (ev_var 3) ev_int (fun _ _ => rfl)) av_nil))) (aCons_len (aCons_len (aCons_len aNil_len)))) (ev_slice (ev_var 0) ov_none (ov_some (ev_bin or_addAll bAdd opAdd_nx (ev_var 4) (ev_ix hr (ev_var 3) ev_int (fun _ _ => rfl))))) (nomark _)))))
    (sv_one (sv_ret (ev_tup (av_cons ev_str (av_cons (ev_var 5) av_nil)))))
    sv_nil)
    (sv_one (sv_aug (i := 4) sc_row_fault.nd rfl (.inl rfl) or_iadd bIAdd (ev_ix hr (ev_var 3) ev_int (fun _ _ => rfl))))))))
    (sv_one (sv_ret (ev_if (tv_cmp (op_eqD hr.units) bEq cEq_nx (ev_var 4) (ev_b1 call_lenA uLen opLen_nx (by rfl) B.n_len (by decide +kernel) (ev_var 0)) (nomark _)) ev_non (ev_tup (av_cons ev_str (av_cons (ev_var 4) av_nil)))))))))))
theorem ok_row_fault {P : Program} {w : World} {K : PySem.W.Frag} {mg : MG} {base : Heap} (B : Base K mg) : Has P w K mg base "row_fault" 4 3 F_row_fault :=
  has_of (N := ["octets", "prices", "row", "step", "place", "number"]) (ps := ["octets", "prices", "row"]) (k := 3) (g := G_row_fault) B.d_row_fault sc_row_fault (fun _ _ _ _ _ _ us hl => match us, hl with | [_, _, _], _ => rfl) fun f cdv A outer s H E hr => body_row_fault B f cdv A outer s H E hr
theorem body_copy_length {P : Program} {w : World} {K : PySem.W.Frag} {mg : MG} {base : Heap} (B : Base K mg) (f : Addr) (cdv : Value) (A : Around) (outer : List PySem.Env) (s : Shared) (H : Hp) (E : XK) (hr : Room 0 (A.deeper (envOfC "copy_length" (defScope s_copy_length) s.heap.objs.size f cdv))) :
    PSsv (cxOf (L2.CX P w) P w K mg base ["octets", "place", "distance", "length"] "copy_length" (defScope s_copy_length) f cdv A outer s H E) (defBody s_copy_length) G_copy_length :=
    (sv_cons (sv_set (i := 3) sc_copy_length.nd rfl (.inl rfl) ev_int)
    (sv_cons (sv_while (passes_of rfl) (wv_pt (wv_and (tv_cmp op_lt bCInt cInt_nx (ev_bin or_addAll bAdd opAdd_nx (ev_var 1) (ev_var 3)) (ev_b1 call_lenA uLen opLen_nx (by rfl) B.n_len (by decide +kernel) (ev_var 0)) (nomark _)) (wv_and1 (tv_cmp (op_eqD hr.units) bEq cEq_nx (ev_ix hr (ev_var 0) (ev_bin or_addAll bAdd opAdd_nx (ev_var 1) (ev_var 3)) (fun _ _ => rfl)) (ev_ix hr (ev_var 0) (ev_bin op_sub bSub opSub_nx (ev_bin or_addAll bAdd opAdd_nx (ev_var 1) (ev_var 3)) (ev_var 2)) (fun _ _ => rfl)) (nomark _)))))
    (sv_one (sv_aug (i := 3) sc_copy_length.nd rfl (.inl rfl) or_iadd bIAdd ev_int)))
    (sv_one (sv_retV 3))))
theorem ok_copy_length {P : Program} {w : World} {K : PySem.W.Frag} {mg : MG} {base : Heap} (B : Base K mg) : Has P w K mg base "copy_length" 1 3 F_copy_length :=
  has_of (N := ["octets", "place", "distance", "length"]) (ps := ["octets", "place", "distance"]) (k := 0) (g := G_copy_length) B.d_copy_length sc_copy_length (fun _ _ _ _ _ _ us hl => match us, hl with | [_, _, _], _ => rfl) fun f cdv A outer s H E hr => body_copy_length B f cdv A outer s H E hr
theorem body__steps {P : Program} {w : World} {K : PySem.W.Frag} {mg : MG} {base : Heap} (B : Base K mg) (f : Addr) (cdv : Value) (A : Around) (outer : List PySem.Env) (s : Shared) (H : Hp) (E : XK) (hr : Room 1 (A.deeper (envOfC "_steps" (defScope s__steps) s.heap.objs.size f cdv))) :
    PSsv (cxOf (L2.CX P w) P w K mg base ["octets", "prices", "place", "found", "distance", "most", "length"] "_steps" (defScope s__steps) f cdv A outer s H E) (defBody s__steps) G__steps :=
    (sv_cons (sv_if (tv_cmp (op_eqD hr.units) bEq cEq_nx (ev_var 2) (ev_b1 call_lenA uLen opLen_nx (by rfl) B.n_len (by decide +kernel) (ev_var 0)) (nomark _))
    (sv_one (sv_ret (ev_lst av_nil)))
    sv_nil)
    (sv_cons (sv_set (i := 3) sc__steps.nd rfl (.inl rfl) (ev_lst av_nil))
    (sv_cons (sv_for (vs := [4]) [] (passes_of rfl) rfl (iv_rg2 (by rfl) B.n_range ev_int (ev_bin or_addAll bAdd opAdd_nx (ev_b2 (call_min2 rfl) bMin2 opMin2_nx (by rfl) B.n_min (by decide +kernel) (ev_b1 call_lenA uLen opLen_nx (by rfl) B.n_len (by decide +kernel) (ev_ix hr (ev_var 1) ev_int (fun _ _ => rfl))) (ev_var 2)) ev_int)) (gv_name (i := 4) sc__steps.nd rfl (.inr rfl) (by decide))
    (sv_cons (sv_set (i := 5) sc__steps.nd rfl (.inl rfl) (ev_b2 (call_min2 rfl) bMin2 opMin2_nx (by rfl) B.n_min (by decide +kernel) (ev_callH (ok_copy_length B) (hr.mono (by decide)) (by rfl) rfl (av_cons (ev_var 0) (av_cons (ev_var 2) (av_cons (ev_var 4) av_nil))) (aCons_len (aCons_len (aCons_len aNil_len)))) (ev_bin op_sub bSub opSub_nx (ev_bin or_addAll bAdd opAdd_nx (ev_b1 call_lenA uLen opLen_nx (by rfl) B.n_len (by decide +kernel) (ev_ix hr (ev_var 1) ev_int (fun _ _ => rfl))) (ev_gint (by rfl) B.c_LEAST_COPY)) ev_int)))
    (sv_one (sv_ext (i := 3) (ev_comp (own := [("length", 6)]) finI_ok rfl sc__steps.nd (iv_rg2 (by rfl) B.n_range (ev_gint (by rfl) B.c_LEAST_COPY) (ev_bin or_addAll bAdd opAdd_nx (ev_var 5) ev_int)) (blkOk_by (by show blkC N__steps (defScope s__steps) _ _ = true; decide +kernel)) (fun _ _ _ _ _ => (gv_name (i := 6) sc__steps.nd rfl (by first | exact .inl rfl | exact .inr rfl) (by decide))) (fun _ _ _ _ _ => tsv_nil) (fun _ _ _ _ _ => (ev_tup (av_cons (ev_gstr (by rfl) B.c_COPY) (av_cons (ev_var 6) (av_cons (ev_var 4) av_nil))))))))))
    (sv_one (sv_ret (ev_bin or_addAll bAdd opAdd_nx (ev_b1 (cr_sortedV (un2_of hr)) uSorted opSorted_nx (by rfl) B.n_sorted (by decide +kernel) (ev_var 3)) (ev_lst (av_cons (ev_tup (av_cons (ev_gstr (by rfl) B.c_ONE) (av_cons (ev_ix hr (ev_var 0) (ev_var 2) (fun _ _ => rfl)) av_nil))) av_nil))))))))
theorem ok__steps {P : Program} {w : World} {K : PySem.W.Frag} {mg : MG} {base : Heap} (B : Base K mg) : Has P w K mg base "_steps" 2 3 F__steps :=
  has_of (N := ["octets", "prices", "place", "found", "distance", "most", "length"]) (ps := ["octets", "prices", "place"]) (k := 1) (g := G__steps) B.d__steps sc__steps (fun _ _ _ _ _ _ us hl => match us, hl with | [_, _, _], _ => rfl) fun f cdv A outer s H E hr => body__steps B f cdv A outer s H E hr
theorem body__size {P : Program} {w : World} {K : PySem.W.Frag} {mg : MG} {base : Heap} (B : Base K mg) (f : Addr) (cdv : Value) (A : Around) (outer : List PySem.Env) (s : Shared) (H : Hp) (E : XK) (hr : Room 0 (A.deeper (envOfC "_size" (defScope s__size) s.heap.objs.size f cdv))) :
    PSsv (cxOf (L2.CX P w) P w K mg base ["step"] "_size" (defScope s__size) f cdv A outer s H E) (defBody s__size) G__size :=
    (sv_one (sv_ret (ev_if (tv_cmp (op_eqD hr.units) bEq cEq_nx (ev_ix hr (ev_var 0) ev_int (fun _ _ => rfl)) (ev_gstr (by rfl) B.c_ONE) (nomark _)) ev_int (ev_ix hr (ev_var 0) ev_int (fun _ _ => rfl)))))
theorem ok__size {P : Program} {w : World} {K : PySem.W.Frag} {mg : MG} {base : Heap} (B : Base K mg) : Has P w K mg base "_size" 1 1 F__size :=
  has_of (N := ["step"]) (ps := ["step"]) (k := 0) (g := G__size) B.d__size sc__size (fun _ _ _ _ _ _ us hl => match us, hl with | [_], _ => rfl) fun f cdv A outer s H E hr => body__size B f cdv A outer s H E hr
theorem body__levels {P : Program} {w : World} {K : PySem.W.Frag} {mg : MG} {base : Heap} (B : Base K mg) (f : Addr) (cdv : Value) (A : Around) (outer : List PySem.Env) (s : Shared) (H : Hp) (E : XK) (hr : Room 2 (A.deeper (envOfC "_levels" (defScope s__levels) s.heap.objs.size f cdv))) :
    PSsv (cxOf (L2.CX P w) P w K mg base ["octets", "prices", "found", "place", "step", "goal", "cost"] "_levels" (defScope s__levels) f cdv A outer s H E) (defBody s__levels) G__levels :=
    (sv_cons (sv_set (i := 2) sc__levels.nd rfl (.inl rfl) (ev_bin or_addAll bAdd opAdd_nx (ev_lst (av_cons ev_int av_nil)) (ev_bin or_mulA bMulA opMulA_nx (ev_lst (av_cons ev_non av_nil)) (ev_b1 call_lenA uLen opLen_nx (by rfl) B.n_len (by decide +kernel) (ev_var 0)))))
    (sv_cons (sv_for (vs := [3]) [] (passes_of rfl) rfl (iv_rg1 (by rfl) B.n_range (ev_b1 call_lenA uLen opLen_nx (by rfl) B.n_len (by decide +kernel) (ev_var 0))) (gv_name (i := 3) sc__levels.nd rfl (.inl rfl) (by decide))
    (sv_one (sv_for (vs := [4]) [] (passes_of rfl) rfl (iv_any (ev_callH (ok__steps B) (hr.mono (by decide)) (by rfl) rfl (av_cons (ev_var 0) (av_cons (ev_var 1) (av_cons (ev_var 3) av_nil))) (aCons_len (aCons_len (aCons_len aNil_len))))) (gv_name (i := 4) sc__levels.nd rfl (.inl rfl) (by decide))
    (sv_cons (sv_set (i := 5) sc__levels.nd rfl (.inl rfl) (ev_bin or_addAll bAdd opAdd_nx (ev_var 3) (ev_callH (ok__size B) (hr.mono (by decide)) (by rfl) rfl (av_cons (ev_var 4) av_nil) (aCons_len aNil_len))))
    (sv_cons (sv_set (i := 6) sc__levels.nd rfl (.inl rfl) (ev_bin or_addAll bAdd opAdd_nx (ev_ix hr (ev_var 2) (ev_var 3) (fun _ _ => rfl)) (ev_callH (ok_step_price B) (hr.mono (by decide)) (by rfl) rfl (av_cons (ev_var 1) (av_cons (ev_var 4) av_nil)) (aCons_len (aCons_len aNil_len)))))
    (sv_one (sv_if (wv_pt (wv_or (tv_cmp op_isN bIsN cIsN_nx (ev_ix hr (ev_var 2) (ev_var 5) (fun _ _ => rfl)) ev_non (nomark _)) (wv_or1 (tv_cmp op_lt bCInt cInt_nx (ev_var 6) (ev_ix hr (ev_var 2) (ev_var 5) (fun _ _ => rfl)) (nomark _)))))
    (sv_one (sv_put (i := 2) (ev_var 6) (ev_var 5)))
    sv_nil)))))))
    (sv_one (sv_ret (ev_t1 call_tuple_of uTuple opTuple_nx (by rfl) B.n_tuple (by decide +kernel) (ev_var 2))))))
theorem ok__levels {P : Program} {w : World} {K : PySem.W.Frag} {mg : MG} {base : Heap} (B : Base K mg) : Has P w K mg base "_levels" 3 2 F__levels :=
  has_of (N := ["octets", "prices", "found", "place", "step", "goal", "cost"]) (ps := ["octets", "prices"]) (k := 2) (g := G__levels) B.d__levels sc__levels (fun _ _ _ _ _ _ us hl => match us, hl with | [_, _], _ => rfl) fun f cdv A outer s H E hr => body__levels B f cdv A outer s H E hr
theorem body__behind {P : Program} {w : World} {K : PySem.W.Frag} {mg : MG} {base : Heap} (B : Base K mg) (f : Addr) (cdv : Value) (A : Around) (outer : List PySem.Env) (s : Shared) (H : Hp) (E : XK) (hr : Room 2 (A.deeper (envOfC "_behind" (defScope s__behind) s.heap.objs.size f cdv))) :
    PSsv (cxOf (L2.CX P w) P w K mg base ["octets", "prices", "costs", "least", "every", "place", "steps", "rows", "step", "cost", "_goal", "goal", "_cost"] "_behind" (defScope s__behind) f cdv A outer s H E) (defBody s__behind) G__behind :=
    (sv_cons (sv_set (i := 2) sc__behind.nd rfl (.inr rfl) (ev_bin or_mulA bMulA opMulA_nx (ev_lst (av_cons ev_int av_nil)) (ev_bin or_addAll bAdd opAdd_nx (ev_b1 call_lenA uLen opLen_nx (by rfl) B.n_len (by decide +kernel) (ev_var 0)) ev_int)))
    (sv_cons (sv_set (i := 3) sc__behind.nd rfl (.inr rfl) (ev_bin or_mulA bMulA opMulA_nx (ev_lst (av_cons ev_int av_nil)) (ev_bin or_addAll bAdd opAdd_nx (ev_b1 call_lenA uLen opLen_nx (by rfl) B.n_len (by decide +kernel) (ev_var 0)) ev_int)))
    (sv_cons (sv_set (i := 4) sc__behind.nd rfl (.inr rfl) (ev_bin or_mulA bMulA opMulA_nx (ev_lst (av_cons ev_int av_nil)) (ev_bin or_addAll bAdd opAdd_nx (ev_b1 call_lenA uLen opLen_nx (by rfl) B.n_len (by decide +kernel) (ev_var 0)) ev_int)))
    (sv_cons (sv_for (vs := [5]) [] (passes_of rfl) rfl (iv_rg3 (by rfl) B.n_range (ev_bin op_sub bSub opSub_nx (ev_b1 call_lenA uLen opLen_nx (by rfl) B.n_len (by decide +kernel) (ev_var 0)) ev_int) (ev_un un_neg uNeg opNeg_nx ev_int) (ev_un un_neg uNeg opNeg_nx ev_int)) (gv_name (i := 5) sc__behind.nd rfl (.inr rfl) (by decide))
    (sv_cons (sv_set (i := 6) sc__behind.nd rfl (.inl rfl) (ev_callH (ok__steps B) (hr.mono (by decide)) (by rfl) rfl (av_cons (ev_var 0) (av_cons (ev_var 1) (av_cons (ev_var 5) av_nil))) (aCons_len (aCons_len (aCons_len aNil_len)))))
    (sv_cons (sv_setComp (i := 7) (own := [("step", 8)]) finI_ok rfl sc__behind.nd rfl rfl (sw_true rfl rfl rfl (by decide +kernel)) (iv_any (ev_var 6)) (blkOk_by (by show blkC N__behind (defScope s__behind) _ _ = true; decide +kernel)) (fun _ _ _ _ _ => (gv_name (i := 8) sc__behind.nd rfl (by first | exact .inl rfl | exact .inr rfl) (by decide))) (fun _ _ _ _ _ => tsv_nil) (fun _ _ _ _ _ => (ev_tup (av_cons (ev_bin or_addAll bAdd opAdd_nx (ev_callH (ok_step_price B) (hr.mono (by decide)) (by rfl) rfl (av_cons (ev_var 1) (av_cons (ev_var 8) av_nil)) (aCons_len (aCons_len aNil_len))) (ev_ix hr (ev_var 2) (ev_bin or_addAll bAdd opAdd_nx (ev_var 5) (ev_callH (ok__size B) (hr.mono (by decide)) (by rfl) rfl (av_cons (ev_var 8) av_nil) (aCons_len aNil_len))) (fun _ _ => rfl))) (av_cons (ev_bin or_addAll bAdd opAdd_nx (ev_var 5) (ev_callH (ok__size B) (hr.mono (by decide)) (by rfl) rfl (av_cons (ev_var 8) av_nil) (aCons_len aNil_len))) av_nil)))))
    (sv_cons (sv_put (i := 2) (ev_b1 (cr_minA rfl (un2_of hr)) uMinA opMinA_nx (by rfl) B.n_min (by decide +kernel) (ev_comp (own := [("cost", 9), ("_goal", 10)]) finI_ok rfl sc__behind.nd (iv_any (ev_var 7)) (blkOk_by (by show blkC N__behind (defScope s__behind) _ _ = true; decide +kernel)) (fun _ _ _ _ _ => (gv_tup rfl (gsv_cons (gv_name (i := 9) sc__behind.nd rfl (by first | exact .inl rfl | exact .inr rfl) (by decide)) (gsv_cons (gv_name (i := 10) sc__behind.nd rfl (by first | exact .inl rfl | exact .inr rfl) (by decide)) gsv_nil)))) (fun _ _ _ _ _ => tsv_nil) (fun _ _ _ _ _ => (ev_var 9)))) (ev_var 5))
    (sv_cons (sv_put (i := 3) (ev_b1 (cr_sum rfl) uSum opSum_nx (by rfl) B.n_sum (by decide +kernel) (ev_comp (own := [("cost", 9), ("goal", 11)]) finI_ok rfl sc__behind.nd (iv_any (ev_var 7)) (blkOk_by (by show blkC N__behind (defScope s__behind) _ _ = true; decide +kernel)) (fun _ _ _ _ _ => (gv_tup rfl (gsv_cons (gv_name (i := 9) sc__behind.nd rfl (by first | exact .inl rfl | exact .inr rfl) (by decide)) (gsv_cons (gv_name (i := 11) sc__behind.nd rfl (by first | exact .inl rfl | exact .inr rfl) (by decide)) gsv_nil)))) (fun _ _ _ _ _ => (tsv_one (tv_cmp (op_eqD hr.units) bEq cEq_nx (ev_var 9) (ev_ix hr (ev_var 2) (ev_var 5) (fun _ _ => rfl)) (nomark _)))) (fun _ _ _ _ _ => (ev_ix hr (ev_var 3) (ev_var 11) (fun _ _ => rfl))))) (ev_var 5))
    (sv_one (sv_put (i := 4) (ev_b1 (cr_sum rfl) uSum opSum_nx (by rfl) B.n_sum (by decide +kernel) (ev_comp (own := [("_cost", 12), ("goal", 11)]) finI_ok rfl sc__behind.nd (iv_any (ev_var 7)) (blkOk_by (by show blkC N__behind (defScope s__behind) _ _ = true; decide +kernel)) (fun _ _ _ _ _ => (gv_tup rfl (gsv_cons (gv_name (i := 12) sc__behind.nd rfl (by first | exact .inl rfl | exact .inr rfl) (by decide)) (gsv_cons (gv_name (i := 11) sc__behind.nd rfl (by first | exact .inl rfl | exact .inr rfl) (by decide)) gsv_nil)))) (fun _ _ _ _ _ => tsv_nil) (fun _ _ _ _ _ => (ev_ix hr (ev_var 4) (ev_var 11) (fun _ _ => rfl))))) (ev_var 5))))))))
    (sv_one (sv_dem [2, 3, 4] (sv_ret (ev_tup (av_cons (ev_var 2) (av_cons (ev_var 3) (av_cons (ev_var 4) av_nil)))))))))))
theorem ok__behind {P : Program} {w : World} {K : PySem.W.Frag} {mg : MG} {base : Heap} (B : Base K mg) : Has P w K mg base "_behind" 3 2 F__behind :=
  has_of (N := ["octets", "prices", "costs", "least", "every", "place", "steps", "rows", "step", "cost", "_goal", "goal", "_cost"]) (ps := ["octets", "prices"]) (k := 2) (g := G__behind) B.d__behind sc__behind (fun _ _ _ _ _ _ us hl => match us, hl with | [_, _], _ => rfl) fun f cdv A outer s H E hr => body__behind B f cdv A outer s H E hr
theorem body__check {P : Program} {w : World} {K : PySem.W.Frag} {mg : MG} {base : Heap} (B : Base K mg) (f : Addr) (cdv : Value) (A : Around) (outer : List PySem.Env) (s : Shared) (H : Hp) (E : XK) (hr : Room 3 (A.deeper (envOfC "_check" (defScope s__check) s.heap.objs.size f cdv))) :
    PSsv (cxOf (L2.CX P w) P w K mg base ["octets", "prices"] "_check" (defScope s__check) f cdv A outer s H E) (defBody s__check) G__check :=
    (sv_cons (sv_expr (ev_callH (ok_check_content B) (hr.mono (by decide)) (by rfl) rfl (av_cons (ev_var 0) av_nil) (aCons_len aNil_len)))
    (sv_one (sv_expr (ev_callH (ok_check_prices B) (hr.mono (by decide)) (by rfl) rfl (av_cons (ev_var 1) av_nil) (aCons_len aNil_len)))))
theorem ok__check {P : Program} {w : World} {K : PySem.W.Frag} {mg : MG} {base : Heap} (B : Base K mg) : Has P w K mg base "_check" 4 2 F__check :=
  has_of (N := ["octets", "prices"]) (ps := ["octets", "prices"]) (k := 3) (g := G__check) B.d__check sc__check (fun _ _ _ _ _ _ us hl => match us, hl with | [_, _], _ => rfl) fun f cdv A outer s H E hr => body__check B f cdv A outer s H E hr
theorem body_cheapest {P : Program} {w : World} {K : PySem.W.Frag} {mg : MG} {base : Heap} (B : Base K mg) (f : Addr) (cdv : Value) (A : Around) (outer : List PySem.Env) (s : Shared) (H : Hp) (E : XK) (hr : Room 4 (A.deeper (envOfC "cheapest" (defScope s_cheapest) s.heap.objs.size f cdv))) :
    PSsv (cxOf (L2.CX P w) P w K mg base ["octets", "prices", "costs", "row", "place", "step"] "cheapest" (defScope s_cheapest) f cdv A outer s H E) (defBody s_cheapest) G_cheapest :=
    (sv_cons (sv_expr (ev_callH (ok__check B) (hr.mono (by decide)) (by rfl) rfl (av_cons (ev_var 0) (av_cons (ev_var 1) av_nil)) (aCons_len (aCons_len aNil_len))))
    (sv_cons (sv_set (i := 2) sc_cheapest.nd rfl (.inl rfl) (ev_ix hr (ev_callH (ok__behind B) (hr.mono (by decide)) (by rfl) rfl (av_cons (ev_var 0) (av_cons (ev_var 1) av_nil)) (aCons_len (aCons_len aNil_len))) ev_int (fun _ _ => rfl)))
    (sv_cons (sv_set (i := 3) sc_cheapest.nd rfl (.inl rfl) (ev_lst av_nil))
    (sv_cons (sv_set (i := 4) sc_cheapest.nd rfl (.inl rfl) ev_int)
    (sv_cons (sv_while (passes_of rfl) (tv_cmp op_lt bCInt cInt_nx (ev_var 4) (ev_b1 call_lenA uLen opLen_nx (by rfl) B.n_len (by decide +kernel) (ev_var 0)) (nomark _))
    (sv_one (sv_for (vs := [5]) [] (passes_of rfl) rfl (iv_any (ev_callH (ok__steps B) (hr.mono (by decide)) (by rfl) rfl (av_cons (ev_var 0) (av_cons (ev_var 1) (av_cons (ev_var 4) av_nil))) (aCons_len (aCons_len (aCons_len aNil_len))))) (gv_name (i := 5) sc_cheapest.nd rfl (.inl rfl) (by decide))
    (sv_one (sv_if (tv_cmp (op_eqD hr.units) bEq cEq_nx (ev_bin or_addAll bAdd opAdd_nx (ev_callH (ok_step_price B) (hr.mono (by decide)) (by rfl) rfl (av_cons (ev_var 1) (av_cons (ev_var 5) av_nil)) (aCons_len (aCons_len aNil_len))) (ev_ix hr (ev_var 2) (ev_bin or_addAll bAdd opAdd_nx (ev_var 4) (ev_callH (ok__size B) (hr.mono (by decide)) (by rfl) rfl (av_cons (ev_var 5) av_nil) (aCons_len aNil_len))) (fun _ _ => rfl))) (ev_ix hr (ev_var 2) (ev_var 4) (fun _ _ => rfl)) (nomark _))
    (sv_cons (sv_app (i := 3) (ev_var 5))
    (sv_cons (sv_aug (i := 4) sc_cheapest.nd rfl (.inl rfl) or_iadd bIAdd (ev_callH (ok__size B) (hr.mono (by decide)) (by rfl) rfl (av_cons (ev_var 5) av_nil) (aCons_len aNil_len)))
    (sv_one sv_break)))
    sv_nil)))))
    (sv_one (sv_ret (ev_tup (av_cons (ev_ix hr (ev_var 2) ev_int (fun _ _ => rfl)) (av_cons (ev_t1 call_tuple_of uTuple opTuple_nx (by rfl) B.n_tuple (by decide +kernel) (ev_var 3)) (av_cons (ev_callH (ok__levels B) (hr.mono (by decide)) (by rfl) rfl (av_cons (ev_var 0) (av_cons (ev_var 1) av_nil)) (aCons_len (aCons_len aNil_len))) av_nil)))))))))))
theorem ok_cheapest {P : Program} {w : World} {K : PySem.W.Frag} {mg : MG} {base : Heap} (B : Base K mg) : Has P w K mg base "cheapest" 5 2 F_cheapest :=
  has_of (N := ["octets", "prices", "costs", "row", "place", "step"]) (ps := ["octets", "prices"]) (k := 4) (g := G_cheapest) B.d_cheapest sc_cheapest (fun _ _ _ _ _ _ us hl => match us, hl with | [_, _], _ => rfl) fun f cdv A outer s H E hr => body_cheapest B f cdv A outer s H E hr
theorem body_levels_fault {P : Program} {w : World} {K : PySem.W.Frag} {mg : MG} {base : Heap} (B : Base K mg) (f : Addr) (cdv : Value) (A : Around) (outer : List PySem.Env) (s : Shared) (H : Hp) (E : XK) (hr : Room 4 (A.deeper (envOfC "levels_fault" (defScope s_levels_fault) s.heap.objs.size f cdv))) :
    PSsv (cxOf (L2.CX P w) P w K mg base ["octets", "prices", "levels", "place", "step", "one"] "levels_fault" (defScope s_levels_fault) f cdv A outer s H E) (defBody s_levels_fault) G_levels_fault :=
    (sv_cons (sv_expr (ev_callH (ok__check B) (hr.mono (by decide)) (by rfl) rfl (av_cons (ev_var 0) (av_cons (ev_var 1) av_nil)) (aCons_len (aCons_len aNil_len))))
    (sv_cons (sv_if (wv_pt (wv_or (tv_not (tv_val (ev_isi kit_tuple (by rfl) B.n_isinstance (by decide +kernel) (by rfl) B.n_tuple (by decide +kernel) (ev_var 2)))) (wv_or1 (tv_cmp (op_neD hr.units) bNe cNe_nx (ev_b1 call_lenA uLen opLen_nx (by rfl) B.n_len (by decide +kernel) (ev_var 2)) (ev_bin or_addAll bAdd opAdd_nx (ev_b1 call_lenA uLen opLen_nx (by rfl) B.n_len (by decide +kernel) (ev_var 0)) ev_int) (nomark _)))))
    (sv_one (sv_ret (ev_tup (av_cons (ev_gstr (by rfl) B.c_FORM) av_nil))))
    sv_nil)
    (sv_cons (sv_if (tv_not (tv_val (ev_b1 (cr_all rfl) uAll opAll_nx (by rfl) B.n_all (by decide +kernel) (ev_comp (own := [("one", 5)]) finI_ok rfl sc_levels_fault.nd (iv_any (ev_var 2)) (blkOk_by (by show blkC N_levels_fault (defScope s_levels_fault) _ _ = true; decide +kernel)) (fun _ _ _ _ _ => (gv_name (i := 5) sc_levels_fault.nd rfl (by first | exact .inl rfl | exact .inr rfl) (by decide))) (fun _ _ _ _ _ => tsv_nil) (fun _ _ _ _ _ => (ev_and (ev_isi kit_int (by rfl) B.n_isinstance (by decide +kernel) (by rfl) B.n_int (by decide +kernel) (ev_var 5)) (ev_one (ev_not (ev_isi kit_bool (by rfl) B.n_isinstance (by decide +kernel) (by rfl) B.n_bool (by decide +kernel) (ev_var 5))))))))))
    (sv_one (sv_ret (ev_tup (av_cons (ev_gstr (by rfl) B.c_FORM) av_nil))))
    sv_nil)
    (sv_cons (sv_if (tv_cmp op_gt bCInt cInt_nx (ev_ix hr (ev_var 2) ev_int (fun _ _ => rfl)) ev_int (nomark _))
    (sv_one (sv_ret (ev_tup (av_cons ev_str av_nil))))
    sv_nil)
    (sv_cons (sv_for (vs := [3]) [] (passes_of rfl) rfl (iv_rg1 (by rfl) B.n_range (ev_b1 call_lenA uLen opLen_nx (by rfl) B.n_len (by decide +kernel) (ev_var 0))) (gv_name (i := 3) sc_levels_fault.nd rfl (.inl rfl) (by decide))
    (sv_one (sv_for (vs := [4]) [] (passes_of rfl) rfl (iv_any (ev_callH (ok__steps B) (hr.mono (by decide)) (by rfl) rfl (av_cons (ev_var 0) (av_cons (ev_var 1) (av_cons (ev_var 3) av_nil))) (aCons_len (aCons_len (aCons_len aNil_len))))) (gv_name (i := 4) sc_levels_fault.nd rfl (.inl rfl) (by decide))
    (sv_one (sv_if (tv_cmp op_gt bCInt cInt_nx (ev_ix hr (ev_var 2) (ev_bin or_addAll bAdd opAdd_nx (ev_var 3) (ev_callH (ok__size B) (hr.mono (by decide)) (by rfl) rfl (av_cons (ev_var 4) av_nil) (aCons_len aNil_len))) (fun _ _ => rfl)) (ev_bin or_addAll bAdd opAdd_nx (ev_ix hr (ev_var 2) (ev_var 3) (fun _ _ => rfl)) (ev_callH (ok_step_price B) (hr.mono (by decide)) (by rfl) rfl (av_cons (ev_var 1) (av_cons (ev_var 4) av_nil)) (aCons_len (aCons_len aNil_len)))) (nomark _))
    (sv_one (sv_ret (ev_tup (av_cons ev_str (av_cons (ev_var 3) (av_cons (ev_var 4) av_nil))))))
    sv_nil)))))
    (sv_one (sv_ret ev_non)))))))
theorem ok_levels_fault {P : Program} {w : World} {K : PySem.W.Frag} {mg : MG} {base : Heap} (B : Base K mg) : Has P w K mg base "levels_fault" 5 3 F_levels_fault :=
  has_of (N := ["octets", "prices", "levels", "place", "step", "one"]) (ps := ["octets", "prices", "levels"]) (k := 4) (g := G_levels_fault) B.d_levels_fault sc_levels_fault (fun _ _ _ _ _ _ us hl => match us, hl with | [_, _, _], _ => rfl) fun f cdv A outer s H E hr => body_levels_fault B f cdv A outer s H E hr
theorem body_count_rows {P : Program} {w : World} {K : PySem.W.Frag} {mg : MG} {base : Heap} (B : Base K mg) (f : Addr) (cdv : Value) (A : Around) (outer : List PySem.Env) (s : Shared) (H : Hp) (E : XK) (hr : Room 4 (A.deeper (envOfC "count_rows" (defScope s_count_rows) s.heap.objs.size f cdv))) :
    PSsv (cxOf (L2.CX P w) P w K mg base ["octets", "prices", "_costs", "least", "every"] "count_rows" (defScope s_count_rows) f cdv A outer s H E) (defBody s_count_rows) G_count_rows :=
    (sv_cons (sv_expr (ev_callH (ok__check B) (hr.mono (by decide)) (by rfl) rfl (av_cons (ev_var 0) (av_cons (ev_var 1) av_nil)) (aCons_len (aCons_len aNil_len))))
    (sv_cons (sv_asg (vs := [2, 3, 4]) (ev_callH (ok__behind B) (hr.mono (by decide)) (by rfl) rfl (av_cons (ev_var 0) (av_cons (ev_var 1) av_nil)) (aCons_len (aCons_len aNil_len))) (gv_tupN rfl (gsv_cons (gv_name (i := 2) sc_count_rows.nd rfl (.inl rfl) (by decide)) (gsv_cons (gv_name (i := 3) sc_count_rows.nd rfl (.inl rfl) (by decide)) (gsv_cons (gv_name (i := 4) sc_count_rows.nd rfl (.inl rfl) (by decide)) gsv_nil))) (gsn_cons (gv_name (i := 2) sc_count_rows.nd rfl (.inl rfl) (by decide)) (gsn_cons (gv_name (i := 3) sc_count_rows.nd rfl (.inl rfl) (by decide)) (gsn_cons (gv_name (i := 4) sc_count_rows.nd rfl (.inl rfl) (by decide)) gsn_nil (by decide)) (by decide)) (by decide))))
    (sv_one (sv_ret (ev_tup (av_cons (ev_ix hr (ev_var 4) ev_int (fun _ _ => rfl)) (av_cons (ev_ix hr (ev_var 3) ev_int (fun _ _ => rfl)) av_nil)))))))
theorem ok_count_rows {P : Program} {w : World} {K : PySem.W.Frag} {mg : MG} {base : Heap} (B : Base K mg) : Has P w K mg base "count_rows" 5 2 F_count_rows :=
  has_of (N := ["octets", "prices", "_costs", "least", "every"]) (ps := ["octets", "prices"]) (k := 4) (g := G_count_rows) B.d_count_rows sc_count_rows (fun _ _ _ _ _ _ us hl => match us, hl with | [_, _], _ => rfl) fun f cdv A outer s H E hr => body_count_rows B f cdv A outer s H E hr
theorem body__law_draws {P : Program} {w : World} {K : PySem.W.Frag} {mg : MG} {base : Heap} (B : Base K mg) (f : Addr) (cdv : Value) (A : Around) (outer : List PySem.Env) (s : Shared) (H : Hp) (E : XK) (hr : Room 0 (A.deeper (envOfC "_law_draws" (defScope s__law_draws) s.heap.objs.size f cdv))) :
    PSsv (cxOf (L2.CX P w) P w K mg base ["script", "many", "draws", "seed", "cell", "number", "k"] "_law_draws" (defScope s__law_draws) f cdv A outer s H E) (defBody s__law_draws) G__law_draws :=
    (sv_cons (sv_set (i := 2) sc__law_draws.nd rfl (.inl rfl) (ev_lst av_nil))
    (sv_cons (sv_set (i := 3) sc__law_draws.nd rfl (.inl rfl) ev_int)
    (sv_cons (sv_for (vs := [4]) [] (passes_of rfl) rfl (iv_any (ev_slice (ev_var 0) ov_none (ov_some ev_int))) (gv_name (i := 4) sc__law_draws.nd rfl (.inl rfl) (by decide))
    (sv_cons (sv_set (i := 5) sc__law_draws.nd rfl (.inl rfl) (ev_b1 call_abs uAbs opAbs_nx (by rfl) B.n_abs (by decide +kernel) (ev_var 4)))
    (sv_cons (sv_set (i := 3) sc__law_draws.nd rfl (.inl rfl) (ev_bin op_mod bMod opMod_nx (ev_t1 call_int1 uInt opInt_nx (by rfl) B.n_int (by decide +kernel) (ev_bin or_addAll bAdd opAdd_nx (ev_bin or_addAll bAdd opAdd_nx (ev_bin or_mulAll bMul opMul_nx (ev_var 3) ev_int) (ev_var 5)) ev_int)) ev_int))
    (sv_one (sv_if (tv_cmp op_ge bCInt cInt_nx (ev_var 5) (ev_bin op_pow bPow opPow_nx ev_int ev_int) (nomark _))
    (sv_one (sv_for (vs := [6]) [] (passes_of rfl) rfl (iv_rg1 (by rfl) B.n_range ev_int) (gv_name (i := 6) sc__law_draws.nd rfl (.inl rfl) (by decide))
    (sv_one (sv_if (tv_cmp op_gt bCInt cInt_nx (ev_var 5) ev_int (nomark _))
    (sv_cons (sv_app (i := 2) (ev_bin op_mod bMod opMod_nx (ev_t1 call_int1 uInt opInt_nx (by rfl) B.n_int (by decide +kernel) (ev_var 5)) ev_int))
    (sv_one (sv_set (i := 5) sc__law_draws.nd rfl (.inl rfl) (ev_bin op_fdiv bDiv opDiv_nx (ev_var 5) ev_int))))
    sv_nil))))
    (sv_one (sv_app (i := 2) (ev_bin op_mod bMod opMod_nx (ev_bin op_fdiv bDiv opDiv_nx (ev_t1 call_int1 uInt opInt_nx (by rfl) B.n_int (by decide +kernel) (ev_bin or_addAll bAdd opAdd_nx (ev_bin or_mulAll bMul opMul_nx (ev_var 3) ev_int) ev_int)) ev_int) ev_int))))))))
    (sv_cons (sv_for (vs := [6]) [] (passes_of rfl) rfl (iv_rg1 (by rfl) B.n_range (ev_var 1)) (gv_name (i := 6) sc__law_draws.nd rfl (.inl rfl) (by decide))
    (sv_one (sv_if (tv_cmp op_lt bCInt cInt_nx (ev_b1 call_lenA uLen opLen_nx (by rfl) B.n_len (by decide +kernel) (ev_var 2)) (ev_var 1) (nomark _))
    (sv_cons (sv_set (i := 3) sc__law_draws.nd rfl (.inl rfl) (ev_bin op_mod bMod opMod_nx (ev_t1 call_int1 uInt opInt_nx (by rfl) B.n_int (by decide +kernel) (ev_bin or_addAll bAdd opAdd_nx (ev_bin or_addAll bAdd opAdd_nx (ev_bin or_mulAll bMul opMul_nx (ev_var 3) ev_int) (ev_var 6)) ev_int)) ev_int))
    (sv_one (sv_app (i := 2) (ev_bin op_mod bMod opMod_nx (ev_bin op_fdiv bDiv opDiv_nx (ev_t1 call_int1 uInt opInt_nx (by rfl) B.n_int (by decide +kernel) (ev_var 3)) ev_int) ev_int))))
    sv_nil)))
    (sv_one (sv_ret (ev_slice (ev_var 2) ov_none (ov_some (ev_var 1)))))))))
theorem ok__law_draws {P : Program} {w : World} {K : PySem.W.Frag} {mg : MG} {base : Heap} (B : Base K mg) : Has P w K mg base "_law_draws" 1 2 F__law_draws :=
  has_of (N := ["script", "many", "draws", "seed", "cell", "number", "k"]) (ps := ["script", "many"]) (k := 0) (g := G__law_draws) B.d__law_draws sc__law_draws (fun _ _ _ _ _ _ us hl => match us, hl with | [_, _], _ => rfl) fun f cdv A outer s H E hr => body__law_draws B f cdv A outer s H E hr
theorem body__law_octets {P : Program} {w : World} {K : PySem.W.Frag} {mg : MG} {base : Heap} (B : Base K mg) (f : Addr) (cdv : Value) (A : Around) (outer : List PySem.Env) (s : Shared) (H : Hp) (E : XK) (hr : Room 0 (A.deeper (envOfC "_law_octets" (defScope s__law_octets) s.heap.objs.size f cdv))) :
    PSsv (cxOf (L2.CX P w) P w K mg base ["draws", "at", "most", "size", "kind", "found", "k", "draw"] "_law_octets" (defScope s__law_octets) f cdv A outer s H E) (defBody s__law_octets) G__law_octets :=
    (sv_cons (sv_par3 (i := 3) (j := 4) (l := 5) rfl sc__law_octets.nd rfl rfl rfl (by decide) (by decide) (by decide) rfl rfl rfl (av_cons (ev_bin op_mod bMod opMod_nx (ev_t1 call_int1 uInt opInt_nx (by rfl) B.n_int (by decide +kernel) (ev_ix hr (ev_var 0) (ev_var 1) (fun _ _ => rfl))) (ev_bin or_addAll bAdd opAdd_nx (ev_var 2) ev_int)) (av_cons (ev_bin op_mod bMod opMod_nx (ev_bin op_fdiv bDiv opDiv_nx (ev_t1 call_int1 uInt opInt_nx (by rfl) B.n_int (by decide +kernel) (ev_ix hr (ev_var 0) (ev_var 1) (fun _ _ => rfl))) ev_int) ev_int) (av_cons (ev_tup av_nil) av_nil))) (by rfl))
    (sv_cons (sv_for (vs := [6]) [] (passes_of rfl) rfl (iv_rg1 (by rfl) B.n_range (ev_var 3)) (gv_name (i := 6) sc__law_octets.nd rfl (.inl rfl) (by decide))
    (sv_cons (sv_set (i := 7) sc__law_octets.nd rfl (.inl rfl) (ev_bin op_fdiv bDiv opDiv_nx (ev_t1 call_int1 uInt opInt_nx (by rfl) B.n_int (by decide +kernel) (ev_ix hr (ev_var 0) (ev_bin or_addAll bAdd opAdd_nx (ev_bin or_addAll bAdd opAdd_nx (ev_var 1) ev_int) (ev_bin op_mod bMod opMod_nx (ev_var 6) ev_int)) (fun _ _ => rfl))) (ev_bin or_addAll bAdd opAdd_nx ev_int (ev_bin op_fdiv bDiv opDiv_nx (ev_var 6) ev_int))))
    (sv_one (sv_if (wv_pt (wv_and (tv_cmp (op_eqD hr.units) bEq cEq_nx (ev_var 4) ev_int (nomark _)) (wv_and (tv_cmp op_gt bCInt cInt_nx (ev_var 6) ev_int (nomark _)) (wv_and1 (tv_cmp op_gt bCInt cInt_nx (ev_bin op_mod bMod opMod_nx (ev_var 7) ev_int) ev_int (nomark _))))))
    (sv_one (sv_set (i := 5) sc__law_octets.nd rfl (.inl rfl) (ev_bin or_addAll bAdd opAdd_nx (ev_var 5) (ev_tup (av_cons (ev_ix hr (ev_var 5) (ev_bin op_sub bSub opSub_nx (ev_bin op_sub bSub opSub_nx (ev_var 6) ev_int) (ev_bin op_mod bMod opMod_nx (ev_bin op_fdiv bDiv opDiv_nx (ev_var 7) ev_int) (ev_b2 (call_min2 rfl) bMin2 opMin2_nx (by rfl) B.n_min (by decide +kernel) (ev_var 6) ev_int))) (fun _ _ => rfl)) av_nil)))))
    (sv_one (sv_set (i := 5) sc__law_octets.nd rfl (.inl rfl) (ev_bin or_addAll bAdd opAdd_nx (ev_var 5) (ev_tup (av_cons (ev_bin op_mod bMod opMod_nx (ev_bin op_fdiv bDiv opDiv_nx (ev_var 7) ev_int) (ev_ix hr (ev_lst (av_cons ev_int (av_cons ev_int (av_cons ev_int (av_cons ev_int av_nil))))) (ev_var 4) (fun _ _ => rfl))) av_nil)))))))))
    (sv_one (sv_retV 5))))
theorem ok__law_octets {P : Program} {w : World} {K : PySem.W.Frag} {mg : MG} {base : Heap} (B : Base K mg) : Has P w K mg base "_law_octets" 1 3 F__law_octets :=
  has_of (N := ["draws", "at", "most", "size", "kind", "found", "k", "draw"]) (ps := ["draws", "at", "most"]) (k := 0) (g := G__law_octets) B.d__law_octets sc__law_octets (fun _ _ _ _ _ _ us hl => match us, hl with | [_, _, _], _ => rfl) fun f cdv A outer s H E hr => body__law_octets B f cdv A outer s H E hr
theorem body__law_prices {P : Program} {w : World} {K : PySem.W.Frag} {mg : MG} {base : Heap} (B : Base K mg) (f : Addr) (cdv : Value) (A : Around) (outer : List PySem.Env) (s : Shared) (H : Hp) (E : XK) (hr : Room 0 (A.deeper (envOfC "_law_prices" (defScope s__law_prices) s.heap.objs.size f cdv))) :
    PSsv (cxOf (L2.CX P w) P w K mg base ["draws", "at", "kind", "many", "far", "one", "lengths", "k"] "_law_prices" (defScope s__law_prices) f cdv A outer s H E) (defBody s__law_prices) G__law_prices :=
    (sv_cons (sv_asg (vs := [2, 3, 4]) (ev_tup (av_cons (ev_bin op_mod bMod opMod_nx (ev_t1 call_int1 uInt opInt_nx (by rfl) B.n_int (by decide +kernel) (ev_ix hr (ev_var 0) (ev_var 1) (fun _ _ => rfl))) ev_int) (av_cons (ev_bin op_mod bMod opMod_nx (ev_t1 call_int1 uInt opInt_nx (by rfl) B.n_int (by decide +kernel) (ev_ix hr (ev_var 0) (ev_bin or_addAll bAdd opAdd_nx (ev_var 1) ev_int) (fun _ _ => rfl))) ev_int) (av_cons (ev_bin op_mod bMod opMod_nx (ev_t1 call_int1 uInt opInt_nx (by rfl) B.n_int (by decide +kernel) (ev_ix hr (ev_var 0) (ev_bin or_addAll bAdd opAdd_nx (ev_var 1) ev_int) (fun _ _ => rfl))) ev_int) av_nil)))) (gv_tup rfl (gsv_cons (gv_name (i := 2) sc__law_prices.nd rfl (.inr rfl) (by decide)) (gsv_cons (gv_name (i := 3) sc__law_prices.nd rfl (.inl rfl) (by decide)) (gsv_cons (gv_name (i := 4) sc__law_prices.nd rfl (.inl rfl) (by decide)) gsv_nil)))))
    (sv_cons (sv_set (i := 5) sc__law_prices.nd rfl (.inl rfl) (ev_bin or_addAll bAdd opAdd_nx (ev_ix hr (ev_lst (av_cons ev_int (av_cons ev_int (av_cons ev_int (av_cons ev_int av_nil))))) (ev_var 2) (fun _ _ => rfl)) (ev_bin op_mod bMod opMod_nx (ev_t1 call_int1 uInt opInt_nx (by rfl) B.n_int (by decide +kernel) (ev_ix hr (ev_var 0) (ev_bin or_addAll bAdd opAdd_nx (ev_var 1) ev_int) (fun _ _ => rfl))) ev_int)))
    (sv_cons (sv_set (i := 6) sc__law_prices.nd rfl (.inl rfl) (ev_t1 call_tuple_of uTuple opTuple_nx (by rfl) B.n_tuple (by decide +kernel) (ev_comp (own := [("k", 7)]) finI_ok rfl sc__law_prices.nd (iv_rg1 (by rfl) B.n_range (ev_var 3)) (blkOk_by (by show blkC N__law_prices (defScope s__law_prices) _ _ = true; decide +kernel)) (fun _ _ _ _ _ => (gv_name (i := 7) sc__law_prices.nd rfl (by first | exact .inl rfl | exact .inr rfl) (by decide))) (fun _ _ _ _ _ => tsv_nil) (fun _ _ _ _ _ => (ev_ix hr (ev_lst (av_cons (ev_bin or_addAll bAdd opAdd_nx ev_int (ev_bin op_fdiv bDiv opDiv_nx (ev_var 7) ev_int)) (av_cons ev_int (av_cons (ev_bin op_mod bMod opMod_nx (ev_t1 call_int1 uInt opInt_nx (by rfl) B.n_int (by decide +kernel) (ev_ix hr (ev_var 0) (ev_bin or_addAll bAdd opAdd_nx (ev_bin or_addAll bAdd opAdd_nx (ev_var 1) ev_int) (ev_bin op_mod bMod opMod_nx (ev_var 7) ev_int)) (fun _ _ => rfl))) ev_int) (av_cons (ev_bin or_addAll bAdd opAdd_nx ev_int (ev_var 7)) av_nil))))) (ev_var 2) (fun _ _ => rfl))))))
    (sv_one (sv_ret (ev_tup (av_cons (ev_var 5) (av_cons (ev_var 6) (av_cons (ev_t1 call_tuple_of uTuple opTuple_nx (by rfl) B.n_tuple (by decide +kernel) (ev_comp (own := [("k", 7)]) finI_ok rfl sc__law_prices.nd (iv_rg1 (by rfl) B.n_range (ev_var 4)) (blkOk_by (by show blkC N__law_prices (defScope s__law_prices) _ _ = true; decide +kernel)) (fun _ _ _ _ _ => (gv_name (i := 7) sc__law_prices.nd rfl (by first | exact .inl rfl | exact .inr rfl) (by decide))) (fun _ _ _ _ _ => tsv_nil) (fun _ _ _ _ _ => (ev_ix hr (ev_lst (av_cons (ev_bin or_addAll bAdd opAdd_nx ev_int (ev_bin op_fdiv bDiv opDiv_nx (ev_var 7) ev_int)) (av_cons ev_int (av_cons (ev_bin op_mod bMod opMod_nx (ev_t1 call_int1 uInt opInt_nx (by rfl) B.n_int (by decide +kernel) (ev_ix hr (ev_var 0) (ev_bin or_addAll bAdd opAdd_nx (ev_bin or_addAll bAdd opAdd_nx (ev_var 1) ev_int) (ev_bin op_mod bMod opMod_nx (ev_var 7) ev_int)) (fun _ _ => rfl))) ev_int) (av_cons ev_int av_nil))))) (ev_var 2) (fun _ _ => rfl))))) av_nil)))))))))
theorem ok__law_prices {P : Program} {w : World} {K : PySem.W.Frag} {mg : MG} {base : Heap} (B : Base K mg) : Has P w K mg base "_law_prices" 1 2 F__law_prices :=
  has_of (N := ["draws", "at", "kind", "many", "far", "one", "lengths", "k"]) (ps := ["draws", "at"]) (k := 0) (g := G__law_prices) B.d__law_prices sc__law_prices (fun _ _ _ _ _ _ us hl => match us, hl with | [_, _], _ => rfl) fun f cdv A outer s H E hr => body__law_prices B f cdv A outer s H E hr
theorem body__law_steps {P : Program} {w : World} {K : PySem.W.Frag} {mg : MG} {base : Heap} (B : Base K mg) (f : Addr) (cdv : Value) (A : Around) (outer : List PySem.Env) (s : Shared) (H : Hp) (E : XK) (hr : Room 0 (A.deeper (envOfC "_law_steps" (defScope s__law_steps) s.heap.objs.size f cdv))) :
    PSsv (cxOf (L2.CX P w) P w K mg base ["octets", "prices", "place", "found", "distance", "length", "k"] "_law_steps" (defScope s__law_steps) f cdv A outer s H E) (defBody s__law_steps) G__law_steps :=
    (sv_cons (sv_set (i := 3) sc__law_steps.nd rfl (.inl rfl) (ev_lst av_nil))
    (sv_cons (sv_for (vs := [4]) [] (passes_of rfl) rfl (iv_rg2 (by rfl) B.n_range ev_int (ev_bin or_addAll bAdd opAdd_nx (ev_b2 (call_min2 rfl) bMin2 opMin2_nx (by rfl) B.n_min (by decide +kernel) (ev_var 2) (ev_b1 call_lenA uLen opLen_nx (by rfl) B.n_len (by decide +kernel) (ev_ix hr (ev_var 1) ev_int (fun _ _ => rfl)))) ev_int)) (gv_name (i := 4) sc__law_steps.nd rfl (.inr rfl) (by decide))
    (sv_one (sv_for (vs := [5]) [] (passes_of rfl) rfl (iv_rg2 (by rfl) B.n_range ev_int (ev_bin or_addAll bAdd opAdd_nx (ev_b1 call_lenA uLen opLen_nx (by rfl) B.n_len (by decide +kernel) (ev_ix hr (ev_var 1) ev_int (fun _ _ => rfl))) ev_int)) (gv_name (i := 5) sc__law_steps.nd rfl (.inl rfl) (by decide))
    (sv_one (sv_if (wv_pt (wv_and (tv_cmp op_le bCInt cInt_nx (ev_bin or_addAll bAdd opAdd_nx (ev_var 2) (ev_var 5)) (ev_b1 call_lenA uLen opLen_nx (by rfl) B.n_len (by decide +kernel) (ev_var 0)) (nomark _)) (wv_and1 (tv_val (ev_b1 (cr_all rfl) uAll opAll_nx (by rfl) B.n_all (by decide +kernel) (ev_comp (own := [("k", 6)]) finI_ok rfl sc__law_steps.nd (iv_rg1 (by rfl) B.n_range (ev_var 5)) (blkOk_by (by show blkC N__law_steps (defScope s__law_steps) _ _ = true; decide +kernel)) (fun _ _ _ _ _ => (gv_name (i := 6) sc__law_steps.nd rfl (by first | exact .inl rfl | exact .inr rfl) (by decide))) (fun _ _ _ _ _ => tsv_nil) (fun _ _ _ _ _ => (ev_cmp (op_eqD hr.units) bEq cEq_nx (ev_ix hr (ev_var 0) (ev_bin or_addAll bAdd opAdd_nx (ev_var 2) (ev_var 6)) (fun _ _ => rfl)) (ev_ix hr (ev_var 0) (ev_bin op_sub bSub opSub_nx (ev_bin or_addAll bAdd opAdd_nx (ev_var 2) (ev_var 6)) (ev_var 4)) (fun _ _ => rfl)) (nomark _)))))))))
    (sv_one (sv_app (i := 3) (ev_tup (av_cons ev_str (av_cons (ev_var 5) (av_cons (ev_var 4) av_nil))))))
    sv_nil)))))
    (sv_one (sv_ret (ev_bin or_addAll bAdd opAdd_nx (ev_b1 (cr_sortedV (un2_of hr)) uSorted opSorted_nx (by rfl) B.n_sorted (by decide +kernel) (ev_var 3)) (ev_lst (av_cons (ev_tup (av_cons ev_str (av_cons (ev_ix hr (ev_var 0) (ev_var 2) (fun _ _ => rfl)) av_nil))) av_nil)))))))
theorem ok__law_steps {P : Program} {w : World} {K : PySem.W.Frag} {mg : MG} {base : Heap} (B : Base K mg) : Has P w K mg base "_law_steps" 1 3 F__law_steps :=
  has_of (N := ["octets", "prices", "place", "found", "distance", "length", "k"]) (ps := ["octets", "prices", "place"]) (k := 0) (g := G__law_steps) B.d__law_steps sc__law_steps (fun _ _ _ _ _ _ us hl => match us, hl with | [_, _, _], _ => rfl) fun f cdv A outer s H E hr => body__law_steps B f cdv A outer s H E hr
theorem body__law_size {P : Program} {w : World} {K : PySem.W.Frag} {mg : MG} {base : Heap} (B : Base K mg) (f : Addr) (cdv : Value) (A : Around) (outer : List PySem.Env) (s : Shared) (H : Hp) (E : XK) (hr : Room 0 (A.deeper (envOfC "_law_size" (defScope s__law_size) s.heap.objs.size f cdv))) :
    PSsv (cxOf (L2.CX P w) P w K mg base ["step"] "_law_size" (defScope s__law_size) f cdv A outer s H E) (defBody s__law_size) G__law_size :=
    (sv_one (sv_ret (ev_if (tv_cmp (op_eqD hr.units) bEq cEq_nx (ev_ix hr (ev_var 0) ev_int (fun _ _ => rfl)) ev_str (nomark _)) ev_int (ev_ix hr (ev_var 0) ev_int (fun _ _ => rfl)))))
theorem ok__law_size {P : Program} {w : World} {K : PySem.W.Frag} {mg : MG} {base : Heap} (B : Base K mg) : Has P w K mg base "_law_size" 1 1 F__law_size :=
  has_of (N := ["step"]) (ps := ["step"]) (k := 0) (g := G__law_size) B.d__law_size sc__law_size (fun _ _ _ _ _ _ us hl => match us, hl with | [_], _ => rfl) fun f cdv A outer s H E hr => body__law_size B f cdv A outer s H E hr
theorem body__law_price {P : Program} {w : World} {K : PySem.W.Frag} {mg : MG} {base : Heap} (B : Base K mg) (f : Addr) (cdv : Value) (A : Around) (outer : List PySem.Env) (s : Shared) (H : Hp) (E : XK) (hr : Room 0 (A.deeper (envOfC "_law_price" (defScope s__law_price) s.heap.objs.size f cdv))) :
    PSsv (cxOf (L2.CX P w) P w K mg base ["prices", "step"] "_law_price" (defScope s__law_price) f cdv A outer s H E) (defBody s__law_price) G__law_price :=
    (sv_one (sv_ret (ev_if (tv_cmp (op_eqD hr.units) bEq cEq_nx (ev_ix hr (ev_var 1) ev_int (fun _ _ => rfl)) ev_str (nomark _)) (ev_ix hr (ev_var 0) ev_int (fun _ _ => rfl)) (ev_bin or_addAll bAdd opAdd_nx (ev_ix hr (ev_ix hr (ev_var 0) ev_int (fun _ _ => rfl)) (ev_bin op_sub bSub opSub_nx (ev_ix hr (ev_var 1) ev_int (fun _ _ => rfl)) ev_int) (fun _ _ => rfl)) (ev_ix hr (ev_ix hr (ev_var 0) ev_int (fun _ _ => rfl)) (ev_bin op_sub bSub opSub_nx (ev_ix hr (ev_var 1) ev_int (fun _ _ => rfl)) ev_int) (fun _ _ => rfl))))))
theorem ok__law_price {P : Program} {w : World} {K : PySem.W.Frag} {mg : MG} {base : Heap} (B : Base K mg) : Has P w K mg base "_law_price" 1 2 F__law_price :=
  has_of (N := ["prices", "step"]) (ps := ["prices", "step"]) (k := 0) (g := G__law_price) B.d__law_price sc__law_price (fun _ _ _ _ _ _ us hl => match us, hl with | [_, _], _ => rfl) fun f cdv A outer s H E hr => body__law_price B f cdv A outer s H E hr
theorem body__law_rows {P : Program} {w : World} {K : PySem.W.Frag} {mg : MG} {base : Heap} (B : Base K mg) (f : Addr) (cdv : Value) (A : Around) (outer : List PySem.Env) (s : Shared) (H : Hp) (E : XK) (hr : Room 1 (A.deeper (envOfC "_law_rows" (defScope s__law_rows) s.heap.objs.size f cdv))) :
    PSsv (cxOf (L2.CX P w) P w K mg base ["octets", "prices", "found", "left", "turn", "row", "place", "step"] "_law_rows" (defScope s__law_rows) f cdv A outer s H E) (defBody s__law_rows) G__law_rows :=
    (sv_cons (sv_parL (i := 2) (j := 3) rfl sc__law_rows.nd rfl rfl (by decide) rfl rfl (ev_lst av_nil) (ev_lst (av_cons (ev_tup (av_cons (ev_tup av_nil) (av_cons ev_int av_nil))) av_nil)) (by rfl))
    (sv_cons (sv_for (vs := [4]) [] (passes_of rfl) rfl (iv_rg1 (by rfl) B.n_range ev_int) (gv_name (i := 4) sc__law_rows.nd rfl (.inl rfl) (by decide))
    (sv_cons (sv_if (tv_cmp (op_eqD hr.units) bEq cEq_nx (ev_b1 call_lenA uLen opLen_nx (by rfl) B.n_len (by decide +kernel) (ev_var 3)) ev_int (nomark _))
    (sv_one (sv_ret (ev_b1 (cr_sortedA (un2_of hr)) uSortedA opSortedA_nx (by rfl) B.n_sorted (by decide +kernel) (ev_var 2))))
    sv_nil)
    (sv_cons (sv_pop (vs0 := [5, 6]) (i := 3) (gv_tup rfl (gsv_cons (gv_name (i := 5) sc__law_rows.nd rfl (.inr rfl) (by decide)) (gsv_cons (gv_name (i := 6) sc__law_rows.nd rfl (.inr rfl) (by decide)) gsv_nil))))
    (sv_one (sv_if (tv_cmp (op_eqD hr.units) bEq cEq_nx (ev_var 6) (ev_b1 call_lenA uLen opLen_nx (by rfl) B.n_len (by decide +kernel) (ev_var 0)) (nomark _))
    (sv_one (sv_app (i := 2) (ev_var 5)))
    (sv_one (sv_set (i := 3) sc__law_rows.nd rfl (.inl rfl) (ev_bin or_addAll bAdd opAdd_nx (ev_var 3) (ev_comp (own := [("step", 7)]) finI_ok rfl sc__law_rows.nd (iv_any (ev_callH (ok__law_steps B) (hr.mono (by decide)) (by rfl) rfl (av_cons (ev_var 0) (av_cons (ev_var 1) (av_cons (ev_var 6) av_nil))) (aCons_len (aCons_len (aCons_len aNil_len))))) (blkOk_by (by show blkC N__law_rows (defScope s__law_rows) _ _ = true; decide +kernel)) (fun _ _ _ _ _ => (gv_name (i := 7) sc__law_rows.nd rfl (by first | exact .inl rfl | exact .inr rfl) (by decide))) (fun _ _ _ _ _ => tsv_nil) (fun _ _ _ _ _ => (ev_tup (av_cons (ev_bin or_addAll bAdd opAdd_nx (ev_var 5) (ev_tup (av_cons (ev_var 7) av_nil))) (av_cons (ev_bin or_addAll bAdd opAdd_nx (ev_var 6) (ev_callH (ok__law_size B) (hr.mono (by decide)) (by rfl) rfl (av_cons (ev_var 7) av_nil) (aCons_len aNil_len))) av_nil)))))))))))))
    (sv_one (sv_ret ev_non))))
theorem ok__law_rows {P : Program} {w : World} {K : PySem.W.Frag} {mg : MG} {base : Heap} (B : Base K mg) : Has P w K mg base "_law_rows" 2 2 F__law_rows :=
  has_of (N := ["octets", "prices", "found", "left", "turn", "row", "place", "step"]) (ps := ["octets", "prices"]) (k := 1) (g := G__law_rows) B.d__law_rows sc__law_rows (fun _ _ _ _ _ _ us hl => match us, hl with | [_, _], _ => rfl) fun f cdv A outer s H E hr => body__law_rows B f cdv A outer s H E hr
theorem body_law {P : Program} {w : World} {K : PySem.W.Frag} {mg : MG} {base : Heap} (B : Base K mg) (f : Addr) (cdv : Value) (A : Around) (outer : List PySem.Env) (s : Shared) (H : Hp) (E : XK) (hr : Room 5 (A.deeper (envOfC "law" (defScope s_law) s.heap.objs.size f cdv))) :
    PSsv (cxOf (L2.CX P w) P w K mg base ["script", "draws", "turn", "octets", "prices", "cost", "row", "levels", "step", "best", "place", "goal", "rows", "costs", "size", "told", "one"] "law" (defScope s_law) f cdv A outer s H E) (defBody s_law) G_law :=
    (sv_cons (sv_set (i := 1) sc_law.nd rfl (.inl rfl) (ev_callH (ok__law_draws B) (hr.mono (by decide)) (by rfl) rfl (av_cons (ev_var 0) (av_cons ev_int av_nil)) (aCons_len (aCons_len aNil_len))))
    (sv_cons (sv_for (vs := [2]) [] (passes_of rfl) rfl (iv_rg1 (by rfl) B.n_range ev_int) (gv_name (i := 2) sc_law.nd rfl (.inl rfl) (by decide))
    (sv_cons (sv_asg (vs := [3, 4]) (ev_tup (av_cons (ev_callH (ok__law_octets B) (hr.mono (by decide)) (by rfl) rfl (av_cons (ev_var 1) (av_cons (ev_bin or_mulA bMulA opMulA_nx ev_int (ev_var 2)) (av_cons (ev_ix hr (ev_lst (av_cons ev_int (av_cons ev_int (av_cons ev_int av_nil)))) (ev_var 2) (fun _ _ => rfl)) av_nil))) (aCons_len (aCons_len (aCons_len aNil_len)))) (av_cons (ev_callH (ok__law_prices B) (hr.mono (by decide)) (by rfl) rfl (av_cons (ev_var 1) (av_cons (ev_bin or_addAll bAdd opAdd_nx ev_int (ev_bin or_mulA bMulA opMulA_nx ev_int (ev_var 2))) av_nil)) (aCons_len (aCons_len aNil_len))) av_nil))) (gv_tup rfl (gsv_cons (gv_name (i := 3) sc_law.nd rfl (.inl rfl) (by decide)) (gsv_cons (gv_name (i := 4) sc_law.nd rfl (.inr rfl) (by decide)) gsv_nil))))
    (sv_cons (sv_asg (vs := [5, 6, 7]) (ev_callH (ok_cheapest B) (hr.mono (by decide)) (by rfl) rfl (av_cons (ev_var 3) (av_cons (ev_var 4) av_nil)) (aCons_len (aCons_len aNil_len))) (gv_tup rfl (gsv_cons (gv_name (i := 5) sc_law.nd rfl (.inr rfl) (by decide)) (gsv_cons (gv_name (i := 6) sc_law.nd rfl (.inl rfl) (by decide)) (gsv_cons (gv_name (i := 7) sc_law.nd rfl (.inl rfl) (by decide)) gsv_nil)))))
    (sv_cons (sv_if (wv_pt (wv_or (tv_val (ev_isi kit_bool (by rfl) B.n_isinstance (by decide +kernel) (by rfl) B.n_bool (by decide +kernel) (ev_var 5))) (wv_or (tv_not (tv_val (ev_isi kit_tuple (by rfl) B.n_isinstance (by decide +kernel) (by rfl) B.n_tuple (by decide +kernel) (ev_var 6)))) (wv_or (tv_not (tv_val (ev_isi kit_tuple (by rfl) B.n_isinstance (by decide +kernel) (by rfl) B.n_tuple (by decide +kernel) (ev_var 7)))) (wv_or1 (tv_cmp (op_neD hr.units) bNe cNe_nx (ev_callH (ok_written_out B) (hr.mono (by decide)) (by rfl) rfl (av_cons (ev_var 6) av_nil) (aCons_len aNil_len)) (ev_var 3) (nomark _)))))))
    (sv_one (sv_ret ev_bl))
    sv_nil)
    (sv_cons (sv_if (wv_pt (wv_or (tv_cmp (op_neD hr.units) bNe cNe_nx (ev_callH (ok_price B) (hr.mono (by decide)) (by rfl) rfl (av_cons (ev_var 4) (av_cons (ev_var 6) av_nil)) (aCons_len (aCons_len aNil_len))) (ev_var 5) (nomark _)) (wv_or1 (tv_cmp op_notN bNotN cNotN_nx (ev_callH (ok_row_fault B) (hr.mono (by decide)) (by rfl) rfl (av_cons (ev_var 3) (av_cons (ev_var 4) (av_cons (ev_var 6) av_nil))) (aCons_len (aCons_len (aCons_len aNil_len)))) ev_non (nomark _)))))
    (sv_one (sv_ret ev_bl))
    sv_nil)
    (sv_cons (sv_if (wv_pt (wv_or (tv_cmp (op_neD hr.units) bNe cNe_nx (ev_b1 (cr_sum rfl) uSum opSum_nx (by rfl) B.n_sum (by decide +kernel) (ev_comp (own := [("step", 8)]) finI_ok rfl sc_law.nd (iv_any (ev_var 6)) (blkOk_by (by show blkC N_law (defScope s_law) _ _ = true; decide +kernel)) (fun _ _ _ _ _ => (gv_name (i := 8) sc_law.nd rfl (by first | exact .inl rfl | exact .inr rfl) (by decide))) (fun _ _ _ _ _ => tsv_nil) (fun _ _ _ _ _ => (ev_callH (ok__law_price B) (hr.mono (by decide)) (by rfl) rfl (av_cons (ev_var 4) (av_cons (ev_var 8) av_nil)) (aCons_len (aCons_len aNil_len)))))) (ev_var 5) (nomark _)) (wv_or (tv_cmp (op_neD hr.units) bNe cNe_nx (ev_b1 call_lenA uLen opLen_nx (by rfl) B.n_len (by decide +kernel) (ev_var 7)) (ev_bin or_addAll bAdd opAdd_nx (ev_b1 call_lenA uLen opLen_nx (by rfl) B.n_len (by decide +kernel) (ev_var 3)) ev_int) (nomark _)) (wv_or (tv_cmp (op_neD hr.units) bNe cNe_nx (ev_ix hr (ev_var 7) ev_int (fun _ _ => rfl)) ev_int (nomark _)) (wv_or (tv_cmp (op_neD hr.units) bNe cNe_nx (ev_ix hr (ev_var 7) (ev_un un_neg uNeg opNeg_nx ev_int) (fun _ _ => rfl)) (ev_var 5) (nomark _)) (wv_or1 (tv_cmp op_notN bNotN cNotN_nx (ev_callH (ok_levels_fault B) (hr.mono (by decide)) (by rfl) rfl (av_cons (ev_var 3) (av_cons (ev_var 4) (av_cons (ev_var 7) av_nil))) (aCons_len (aCons_len (aCons_len aNil_len)))) ev_non (nomark _))))))))
    (sv_one (sv_ret ev_bl))
    sv_nil)
    (sv_cons (sv_set (i := 9) sc_law.nd rfl (.inl rfl) (ev_bin or_addAll bAdd opAdd_nx (ev_lst (av_cons ev_int av_nil)) (ev_bin or_mulA bMulA opMulA_nx (ev_lst (av_cons (ev_bin op_pow bPow opPow_nx ev_int ev_int) av_nil)) (ev_b1 call_lenA uLen opLen_nx (by rfl) B.n_len (by decide +kernel) (ev_var 3)))))
    (sv_cons (sv_for (vs := [10]) [] (passes_of rfl) rfl (iv_rg1 (by rfl) B.n_range (ev_b1 call_lenA uLen opLen_nx (by rfl) B.n_len (by decide +kernel) (ev_var 3))) (gv_name (i := 10) sc_law.nd rfl (.inl rfl) (by decide))
    (sv_one (sv_for (vs := [8]) [] (passes_of rfl) rfl (iv_any (ev_callH (ok__law_steps B) (hr.mono (by decide)) (by rfl) rfl (av_cons (ev_var 3) (av_cons (ev_var 4) (av_cons (ev_var 10) av_nil))) (aCons_len (aCons_len (aCons_len aNil_len))))) (gv_name (i := 8) sc_law.nd rfl (.inl rfl) (by decide))
    (sv_cons (sv_set (i := 11) sc_law.nd rfl (.inl rfl) (ev_bin or_addAll bAdd opAdd_nx (ev_var 10) (ev_callH (ok__law_size B) (hr.mono (by decide)) (by rfl) rfl (av_cons (ev_var 8) av_nil) (aCons_len aNil_len))))
    (sv_one (sv_put (i := 9) (ev_b2 (call_min2 rfl) bMin2 opMin2_nx (by rfl) B.n_min (by decide +kernel) (ev_ix hr (ev_var 9) (ev_var 11) (fun _ _ => rfl)) (ev_bin or_addAll bAdd opAdd_nx (ev_ix hr (ev_var 9) (ev_var 10) (fun _ _ => rfl)) (ev_callH (ok__law_price B) (hr.mono (by decide)) (by rfl) rfl (av_cons (ev_var 4) (av_cons (ev_var 8) av_nil)) (aCons_len (aCons_len aNil_len))))) (ev_var 11)))))))
    (sv_cons (sv_if (tv_cmp (op_neD hr.units) bNe cNe_nx (ev_t1 call_list_of uList opList_nx (by rfl) B.n_list (by decide +kernel) (ev_var 7)) (ev_var 9) (nomark _))
    (sv_one (sv_ret ev_bl))
    sv_nil)
    (sv_cons (sv_if (tv_cmp (op_eqD hr.units) bEq cEq_nx (ev_var 2) ev_int (nomark _))
    (sv_cons (sv_set (i := 12) sc_law.nd rfl (.inl rfl) (ev_callH (ok__law_rows B) (hr.mono (by decide)) (by rfl) rfl (av_cons (ev_var 3) (av_cons (ev_var 4) av_nil)) (aCons_len (aCons_len aNil_len))))
    (sv_one (sv_if (tv_cmp op_notN bNotN cNotN_nx (ev_var 12) ev_non (nomark _))
    (sv_cons (sv_setComp (i := 13) (own := [("one", 16)]) finI_ok rfl sc_law.nd rfl rfl (sw_true rfl rfl rfl (by decide +kernel)) (iv_any (ev_var 12)) (blkOk_by (by show blkC N_law (defScope s_law) _ _ = true; decide +kernel)) (fun _ _ _ _ _ => (gv_name (i := 16) sc_law.nd rfl (by first | exact .inl rfl | exact .inr rfl) (by decide))) (fun _ _ _ _ _ => tsv_nil) (fun _ _ _ _ _ => (ev_b1 (cr_sum rfl) uSum opSum_nx (by rfl) B.n_sum (by decide +kernel) (ev_comp (own := [("step", 8)]) finI_ok rfl sc_law.nd (iv_any (ev_var 16)) (blkOk_by (by kernel_rfl)) (fun _ _ _ _ _ => (gv_name (i := 8) sc_law.nd rfl (by first | exact .inl rfl | exact .inr rfl) (by decide))) (fun _ _ _ _ _ => tsv_nil) (fun _ _ _ _ _ => (ev_callH (ok__law_price B) (hr.mono (by decide)) (by rfl) rfl (av_cons (ev_var 4) (av_cons (ev_var 8) av_nil)) (aCons_len (aCons_len aNil_len))))))))
    (sv_one (sv_if (wv_pt (wv_or (tv_cmp (op_neD hr.units) bNe cNe_nx (ev_b1 (cr_minA rfl (un2_of hr)) uMinA opMinA_nx (by rfl) B.n_min (by decide +kernel) (ev_var 13)) (ev_var 5) (nomark _)) (wv_or (tv_cmp (op_neD hr.units) bNe cNe_nx (ev_ix hr (ev_var 12) (ev_idx (ev_var 13) (ev_var 5)) (fun _ _ => rfl)) (ev_var 6) (nomark _)) (wv_or1 (tv_cmp (op_neD hr.units) bNe cNe_nx (ev_callH (ok_count_rows B) (hr.mono (by decide)) (by rfl) rfl (av_cons (ev_var 3) (av_cons (ev_var 4) av_nil)) (aCons_len (aCons_len aNil_len))) (ev_tup (av_cons (ev_b1 call_lenA uLen opLen_nx (by rfl) B.n_len (by decide +kernel) (ev_var 12)) (av_cons (ev_b1 call_lenA uLen opLen_nx (by rfl) B.n_len (by decide +kernel) (ev_comp (own := [("one", 16)]) finI_ok rfl sc_law.nd (iv_any (ev_var 13)) (blkOk_by (by show blkC N_law (defScope s_law) _ _ = true; decide +kernel)) (fun _ _ _ _ _ => (gv_name (i := 16) sc_law.nd rfl (by first | exact .inl rfl | exact .inr rfl) (by decide))) (fun _ _ _ _ _ => (tsv_one (tv_cmp (op_eqD hr.units) bEq cEq_nx (ev_var 16) (ev_var 5) (nomark _)))) (fun _ _ _ _ _ => (ev_var 16)))) av_nil))) (nomark _))))))
    (sv_one (sv_ret ev_bl))
    sv_nil)))
    sv_nil)))
    sv_nil)
    (sv_one (sv_for (vs := [14]) [] (passes_of rfl) rfl (iv_any (ev_lst (av_cons (ev_bin op_fdiv bDiv opDiv_nx (ev_b1 call_lenA uLen opLen_nx (by rfl) B.n_len (by decide +kernel) (ev_var 3)) ev_int) (av_cons (ev_bin op_fdiv bDiv opDiv_nx (ev_b1 call_lenA uLen opLen_nx (by rfl) B.n_len (by decide +kernel) (ev_var 3)) ev_int) av_nil)))) (gv_name (i := 14) sc_law.nd rfl (.inl rfl) (by decide))
    (sv_one (sv_if (tv_cmp (op_neD hr.units) bNe cNe_nx (ev_ix hr (ev_callH (ok_cheapest B) (hr.mono (by decide)) (by rfl) rfl (av_cons (ev_slice (ev_var 3) ov_none (ov_some (ev_var 14))) (av_cons (ev_var 4) av_nil)) (aCons_len (aCons_len aNil_len))) ev_int (fun _ _ => rfl)) (ev_slice (ev_var 7) ov_none (ov_some (ev_bin or_addAll bAdd opAdd_nx (ev_var 14) ev_int))) (nomark _))
    (sv_one (sv_ret ev_bl))
    sv_nil))))))))))))))
    (sv_cons (sv_set (i := 15) sc_law.nd rfl (.inl rfl) (ev_callH (ok_cheapest B) (hr.mono (by decide)) (by rfl) rfl (av_cons (ev_tup (av_cons ev_int (av_cons ev_int (av_cons ev_int (av_cons ev_int (av_cons ev_int (av_cons ev_int av_nil))))))) (av_cons (ev_tup (av_cons ev_int (av_cons (ev_tup (av_cons ev_int (av_cons ev_int (av_cons ev_int (av_cons ev_int av_nil))))) (av_cons (ev_tup (av_cons ev_int (av_cons ev_int (av_cons ev_int av_nil)))) av_nil)))) av_nil)) (aCons_len (aCons_len aNil_len))))
    (sv_one (sv_ret (ev_and (ev_cmp (op_eqD hr.units) bEq cEq_nx (ev_slice (ev_var 15) ov_none (ov_some ev_int)) (ev_tup (av_cons ev_int (av_cons (ev_tup (av_cons (ev_tup (av_cons ev_str (av_cons ev_int av_nil))) (av_cons (ev_tup (av_cons ev_str (av_cons ev_int av_nil))) (av_cons (ev_tup (av_cons ev_str (av_cons ev_int (av_cons ev_int av_nil)))) av_nil)))) av_nil))) (nomark _)) (ev_one (ev_cmp (op_eqD hr.units) bEq cEq_nx (ev_callH (ok_cheapest B) (hr.mono (by decide)) (by rfl) rfl (av_cons (ev_tup av_nil) (av_cons (ev_tup (av_cons ev_int (av_cons (ev_tup av_nil) (av_cons (ev_tup av_nil) av_nil)))) av_nil)) (aCons_len (aCons_len aNil_len))) (ev_tup (av_cons ev_int (av_cons (ev_tup av_nil) (av_cons (ev_tup (av_cons ev_int av_nil)) av_nil)))) (nomark _)))))))))
theorem ok_law {P : Program} {w : World} {K : PySem.W.Frag} {mg : MG} {base : Heap} (B : Base K mg) : Has P w K mg base "law" 6 1 F_law :=
  has_of (N := ["script", "draws", "turn", "octets", "prices", "cost", "row", "levels", "step", "best", "place", "goal", "rows", "costs", "size", "told", "one"]) (ps := ["script"]) (k := 5) (g := G_law) B.d_law sc_law (fun _ _ _ _ _ _ us hl => match us, hl with | [_], _ => rfl) fun f cdv A outer s H E hr => body_law B f cdv A outer s H E hr
def fa0 : List He.Fa := [.free "abs", .free "all", .free "bool", .free "enumerate", .free "int", .free "isinstance", .free "len", .free "list", .free "min", .free "range", .free "sorted", .free "str", .free "sum", .free "tuple", .int "MOST_OCTETS" 60, .int "MOST_PRICE" 1000, .int "LEAST_COPY" 2, .str "ONE" "one", .str "COPY" "copy", .str "FORM" "form", .glo "ArchiveError", .exc "ArchiveError", .glo "BadContent", .exc "BadContent", .glo "BadRow", .exc "BadRow", .glo "BadPrices", .exc "BadPrices", .glo "is_whole", .glo "check_content"]
def fa1 : List He.Fa := [.glo "_are_prices", .glo "check_prices", .glo "is_step", .glo "copied", .glo "_given", .glo "written_out", .glo "is_usable", .glo "step_price", .glo "price", .glo "row_fault", .glo "copy_length", .glo "_steps", .glo "_size", .glo "_levels", .glo "_behind", .glo "_check", .glo "cheapest", .glo "levels_fault", .glo "count_rows", .glo "_law_draws", .glo "_law_octets", .glo "_law_prices", .glo "_law_steps", .glo "_law_size", .glo "_law_price", .glo "_law_rows", .glo "law"]
def fa : List He.Fa := fa0 ++ fa1
def fn0 : List He.DefD := [⟨("is_whole", none), "is_whole", "is_whole", defArgs s_is_whole, defBody s_is_whole, defScope s_is_whole, [], []⟩, ⟨("check_content", none), "check_content", "check_content", defArgs s_check_content, defBody s_check_content, defScope s_check_content, [], []⟩, ⟨("_are_prices", none), "_are_prices", "_are_prices", defArgs s__are_prices, defBody s__are_prices, defScope s__are_prices, [], []⟩, ⟨("check_prices", none), "check_prices", "check_prices", defArgs s_check_prices, defBody s_check_prices, defScope s_check_prices, [], []⟩, ⟨("is_step", none), "is_step", "is_step", defArgs s_is_step, defBody s_is_step, defScope s_is_step, [], []⟩, ⟨("copied", none), "copied", "copied", defArgs s_copied, defBody s_copied, defScope s_copied, [], []⟩, ⟨("_given", none), "_given", "_given", defArgs s__given, defBody s__given, defScope s__given, [], []⟩, ⟨("written_out", none), "written_out", "written_out", defArgs s_written_out, defBody s_written_out, defScope s_written_out, [], []⟩, ⟨("is_usable", none), "is_usable", "is_usable", defArgs s_is_usable, defBody s_is_usable, defScope s_is_usable, [], []⟩, ⟨("step_price", none), "step_price", "step_price", defArgs s_step_price, defBody s_step_price, defScope s_step_price, [], []⟩, ⟨("price", none), "price", "price", defArgs s_price, defBody s_price, defScope s_price, [], []⟩, ⟨("row_fault", none), "row_fault", "row_fault", defArgs s_row_fault, defBody s_row_fault, defScope s_row_fault, [], []⟩, ⟨("copy_length", none), "copy_length", "copy_length", defArgs s_copy_length, defBody s_copy_length, defScope s_copy_length, [], []⟩, ⟨("_steps", none), "_steps", "_steps", defArgs s__steps, defBody s__steps, defScope s__steps, [], []⟩, ⟨("_size", none), "_size", "_size", defArgs s__size, defBody s__size, defScope s__size, [], []⟩, ⟨("_levels", none), "_levels", "_levels", defArgs s__levels, defBody s__levels, defScope s__levels, [], []⟩, ⟨("_behind", none), "_behind", "_behind", defArgs s__behind, defBody s__behind, defScope s__behind, [], []⟩, ⟨("_check", none), "_check", "_check", defArgs s__check, defBody s__check, defScope s__check, [], []⟩, ⟨("cheapest", none), "cheapest", "cheapest", defArgs s_cheapest, defBody s_cheapest, defScope s_cheapest, [], []⟩, ⟨("levels_fault", none), "levels_fault", "levels_fault", defArgs s_levels_fault, defBody s_levels_fault, defScope s_levels_fault, [], []⟩, ⟨("count_rows", none), "count_rows", "count_rows", defArgs s_count_rows, defBody s_count_rows, defScope s_count_rows, [], []⟩, ⟨("_law_draws", none), "_law_draws", "_law_draws", defArgs s__law_draws, defBody s__law_draws, defScope s__law_draws, [], []⟩, ⟨("_law_octets", none), "_law_octets", "_law_octets", defArgs s__law_octets, defBody s__law_octets, defScope s__law_octets, [], []⟩, ⟨("_law_prices", none), "_law_prices", "_law_prices", defArgs s__law_prices, defBody s__law_prices, defScope s__law_prices, [], []⟩, ⟨("_law_steps", none), "_law_steps", "_law_steps", defArgs s__law_steps, defBody s__law_steps, defScope s__law_steps, [], []⟩, ⟨("_law_size", none), "_law_size", "_law_size", defArgs s__law_size, defBody s__law_size, defScope s__law_size, [], []⟩, ⟨("_law_price", none), "_law_price", "_law_price", defArgs s__law_price, defBody s__law_price, defScope s__law_price, [], []⟩, ⟨("_law_rows", none), "_law_rows", "_law_rows", defArgs s__law_rows, defBody s__law_rows, defScope s__law_rows, [], []⟩, ⟨("law", none), "law", "law", defArgs s_law, defBody s_law, defScope s_law, [], []⟩]
def fn : List He.DefD := fn0
def loose0 : List Str := ["ArchiveError", "BadContent", "BadRow", "BadPrices", "MOST_OCTETS", "MOST_PRICE", "LEAST_COPY", "ONE", "COPY", "FORM", "is_whole", "check_content", "_are_prices", "check_prices", "is_step", "copied", "_given", "written_out", "is_usable", "step_price", "price", "row_fault", "copy_length", "_steps", "_size", "_levels", "_behind", "_check", "cheapest", "levels_fault"]
def loose1 : List Str := ["count_rows", "_law_draws", "_law_octets", "_law_prices", "_law_steps", "_law_size", "_law_price", "_law_rows"]
def loose : List Str := loose0 ++ loose1
abbrev R : PySem.W.OpenRow := PySem.W.OpenLaw.row PySem.Challenge.rw_archivewright_k15_whole_cheapest_rows
abbrev hk : PySem.W.Hook := hookP 5 fa fn exs exSub
def ob (s : PySem.W.SharedT) : AlP := obsP 5 fa fn exs exSub (HandSHeadRun.getT s)
theorem ob_eq (s : PySem.W.SharedT) : ob s = hk.obs s.abs := obsP_eq (HandSHeadRun.getT_eq s)
theorem run (w : World) : HandSHeadRun.RunEq R (PySem.W.view R.prog [42]) hk ob 3000 loose w := by
  intro os
  kernel_rfl
theorem base_of {K : PySem.W.Frag} {mg : MG} {h : Heap} (X : K.In h) (G : h.Ns mainGlobals mg) (c : SaysP fa fn exs exSub K) : Base K mg where
  n_abs := c.free X G 0
  n_all := c.free X G 1
  n_bool := c.free X G 2
  n_enumerate := c.free X G 3
  n_int := c.free X G 4
  n_isinstance := c.free X G 5
  n_len := c.free X G 6
  n_list := c.free X G 7
  n_min := c.free X G 8
  n_range := c.free X G 9
  n_sorted := c.free X G 10
  n_str := c.free X G 11
  n_sum := c.free X G 12
  n_tuple := c.free X G 13
  c_MOST_OCTETS := c.int X G 14
  c_MOST_PRICE := c.int X G 15
  c_LEAST_COPY := c.int X G 16
  c_ONE := c.str X G 17
  c_COPY := c.str X G 18
  c_FORM := c.str X G 19
  e_ArchiveError := c.exc X G 21 20
  e_BadContent := c.exc X G 23 22
  e_BadRow := c.exc X G 25 24
  e_BadPrices := c.exc X G 27 26
  ex := c.exF X G
  d_is_whole := c.def_ X G 0 28
  d_check_content := c.def_ X G 1 29
  d__are_prices := c.def_ X G 2 30
  d_check_prices := c.def_ X G 3 31
  d_is_step := c.def_ X G 4 32
  d_copied := c.def_ X G 5 33
  d__given := c.def_ X G 6 34
  d_written_out := c.def_ X G 7 35
  d_is_usable := c.def_ X G 8 36
  d_step_price := c.def_ X G 9 37
  d_price := c.def_ X G 10 38
  d_row_fault := c.def_ X G 11 39
  d_copy_length := c.def_ X G 12 40
  d__steps := c.def_ X G 13 41
  d__size := c.def_ X G 14 42
  d__levels := c.def_ X G 15 43
  d__behind := c.def_ X G 16 44
  d__check := c.def_ X G 17 45
  d_cheapest := c.def_ X G 18 46
  d_levels_fault := c.def_ X G 19 47
  d_count_rows := c.def_ X G 20 48
  d__law_draws := c.def_ X G 21 49
  d__law_octets := c.def_ X G 22 50
  d__law_prices := c.def_ X G 23 51
  d__law_steps := c.def_ X G 24 52
  d__law_size := c.def_ X G 25 53
  d__law_price := c.def_ X G 26 54
  d__law_rows := c.def_ X G 27 55
  d_law := c.def_ X G 28 56
end L2.Pv.T

/-! what is alike ahead, for rows of anything -/
namespace L2.Pv.T
section
variable {α : Type} [DecidableEq α]
def cp : List α → List α → Nat
  | x :: a, y :: b => if x = y then cp a b + 1 else 0
  | _, _ => 0
theorem cp_le : ∀ a b : List α, cp a b ≤ a.length ∧ cp a b ≤ b.length
  | [], b => by simp [cp]
  | _ :: _, [] => by simp [cp]
  | x :: a, y :: b => by
    have ih := cp_le a b
    unfold cp
    split <;> simp <;> omega
theorem cp_comm : ∀ a b : List α, cp a b = cp b a
  | [], [] => rfl
  | [], _ :: _ => rfl
  | _ :: _, [] => rfl
  | x :: a, y :: b => by
    unfold cp
    rw [cp_comm a b]
    by_cases h : x = y
    · rw [if_pos h, if_pos h.symm]
    · rw [if_neg h, if_neg fun e => h e.symm]
theorem cp_self : ∀ a : List α, cp a a = a.length
  | [] => rfl
  | x :: a => by unfold cp; rw [if_pos rfl, cp_self a]; rfl
theorem cp_take : ∀ a b : List α, a.take (cp a b) = b.take (cp a b)
  | [], b => by simp [cp]
  | _ :: _, [] => by simp [cp]
  | x :: a, y :: b => by
    unfold cp
    split
    · rename_i h; rw [List.take_succ_cons, List.take_succ_cons, cp_take a b, h]
    · rfl
theorem cp_lt (d : α) : ∀ (a b : List α) (k : Nat), k < cp a b → a.getD k d = b.getD k d
  | [], b, k, h => by simp [cp] at h
  | _ :: _, [], k, h => by simp [cp] at h
  | x :: a, y :: b, k, h => by
    unfold cp at h
    split at h
    · rename_i e
      cases k with
      | zero => simpa using e
      | succ k => simpa using cp_lt d a b k (by omega)
    · omega
theorem cp_at (d : α) : ∀ (a b : List α), cp a b < a.length → cp a b < b.length → a.getD (cp a b) d ≠ b.getD (cp a b) d
  | [], b, h, _ => by simp at h
  | _ :: _, [], _, h => by simp at h
  | x :: a, y :: b, h1, h2 => by
    unfold cp at h1 h2 ⊢
    split
    · rename_i e
      rw [if_pos e] at h1 h2
      have ih := cp_at d a b (by simpa using h1) (by simpa using h2)
      simpa using ih
    · rename_i e
      simpa using e
/-- n is no more than what is alike -/
theorem le_cp : ∀ (a b : List α) (n : Nat), n ≤ a.length → n ≤ b.length → a.take n = b.take n → n ≤ cp a b
  | _, _, 0, _, _, _ => Nat.zero_le _
  | [], b, n + 1, h, _, _ => by simp at h
  | _ :: _, [], n + 1, _, h, _ => by simp at h
  | x :: a, y :: b, n + 1, h1, h2, h3 => by
    rw [List.take_succ_cons, List.take_succ_cons] at h3
    injection h3 with e1 e2
    unfold cp
    rw [if_pos e1]
    have := le_cp a b n (by simpa using h1) (by simpa using h2) e2
    omega
theorem cp_min (a b : List α) : ∀ (m n : Nat), cp (a.take m) (b.take n) = min (cp a b) (min m n) := by
  intro m n
  induction a generalizing b m n with
  | nil => simp [cp]
  | cons x a ih =>
    cases b with
    | nil => simp [cp]
    | cons y b =>
      cases m with
      | zero => simp [cp]
      | succ m =>
        cases n with
        | zero => simp [cp]
        | succ n =>
          rw [List.take_succ_cons, List.take_succ_cons]
          unfold cp
          split
          · rw [ih]; omega
          · simp
theorem cp_rest (a b : List α) : cp (a.drop (cp a b)).reverse (b.drop (cp a b)).reverse = min (cp a.reverse b.reverse) (min a.length b.length - cp a b) := by
  rw [List.reverse_drop, List.reverse_drop, cp_min]
  have := cp_le a b
  congr 1
  omega
theorem getD_rev (d : α) (a : List α) (k : Nat) (h : k < a.length) : a.getD (a.length - 1 - k) d = a.reverse.getD k d := by
  rw [List.getD_eq_getElem?_getD, List.getD_eq_getElem?_getD, List.getElem?_reverse h]
end
end L2.Pv.T

namespace L2.Pv.T
open PySem PySem.Spec PyProof.Rows L2 L2.Pv
/-! copies: plain facts -/
/-- how many octets a copy from so far back gives rightly -/
def cl (a : List Int) (p d : Nat) : Nat := cp (a.drop p) (a.drop (p - d))
theorem cl_le (a : List Int) (p d : Nat) : cl a p d ≤ a.length - p := by
  have := (cp_le (a.drop p) (a.drop (p - d))).1
  rw [List.length_drop] at this
  exact this
theorem getD_drop (a : List Int) (p k : Nat) : (a.drop p).getD k 0 = a.getD (p + k) 0 := by
  rw [List.getD_eq_getElem?_getD, List.getD_eq_getElem?_getD, List.getElem?_drop]
theorem cl_lt {a : List Int} {p d k : Nat} (hd : d ≤ p) (h : k < cl a p d) : a.getD (p + k) 0 = a.getD (p + k - d) 0 := by
  have := cp_lt 0 _ _ k h
  rw [getD_drop, getD_drop] at this
  rw [this]
  congr 1
  omega
theorem cl_at {a : List Int} {p d : Nat} (hd : d ≤ p) (h : p + cl a p d < a.length) : a.getD (p + cl a p d) 0 ≠ a.getD (p + cl a p d - d) 0 := by
  have h1 : cl a p d < (a.drop p).length := by rw [List.length_drop]; omega
  have h2 : cl a p d < (a.drop (p - d)).length := by rw [List.length_drop]; omega
  have := cp_at 0 _ _ h1 h2
  rw [getD_drop, getD_drop] at this
  intro z
  refine this ?_
  show a.getD (p + cl a p d) 0 = _
  rw [z]
  congr 1
  show p + cl a p d - d = p - d + cl a p d
  omega
/-- so many are right just if each is -/
theorem le_cl {a : List Int} {p d L : Nat} (hd : d ≤ p) (hL : p + L ≤ a.length) : L ≤ cl a p d ↔ ∀ k, k < L → a.getD (p + k) 0 = a.getD (p + k - d) 0 := by
  constructor
  · exact fun h k hk => cl_lt hd (by omega)
  · intro h
    refine Nat.le_of_not_lt fun z => ?_
    exact cl_at hd (by omega) (h _ z)
/-- the copies that can be used from a place: lengths and distances -/
def cps (a : List Int) (nl nd p : Nat) : List (Nat × Nat) := (List.range (min nd p)).flatMap fun i => (List.range (min (cl a p (i + 1)) (nl + 1) - 1)).map fun j => (j + 2, i + 1)
theorem mem_cps {a : List Int} {nl nd p : Nat} {x : Nat × Nat} : x ∈ cps a nl nd p ↔ 2 ≤ x.1 ∧ x.1 ≤ nl + 1 ∧ x.1 ≤ cl a p x.2 ∧ 1 ≤ x.2 ∧ x.2 ≤ nd ∧ x.2 ≤ p := by
  unfold cps
  rw [List.mem_flatMap]
  constructor
  · rintro ⟨i, hi, hx⟩
    rw [List.mem_range] at hi
    obtain ⟨j, hj, rfl⟩ := List.mem_map.mp hx
    rw [List.mem_range] at hj
    simp only
    omega
  · rintro ⟨h1, h2, h3, h4, h5, h6⟩
    refine ⟨x.2 - 1, List.mem_range.mpr (by omega), List.mem_map.mpr ⟨x.1 - 2, List.mem_range.mpr ?_, ?_⟩⟩
    · rw [show x.2 - 1 + 1 = x.2 by omega]; omega
    · rw [show x.1 - 2 + 2 = x.1 by omega, show x.2 - 1 + 1 = x.2 by omega]
theorem cps_len (a : List Int) (nl nd p : Nat) (ha : a.length ≤ 60) (hd : nd ≤ 60) : (cps a nl nd p).length ≤ 3600 := by
  have pre : ∀ k, (((List.range k).flatMap fun i => (List.range (min (cl a p (i + 1)) (nl + 1) - 1)).map fun j => (j + 2, i + 1)) : List (Nat × Nat)).length ≤ k * 60 := by
    intro k
    induction k with
    | zero => simp
    | succ k ih =>
      have := cl_le a p (k + 1)
      rw [List.range_succ, List.flatMap_append, List.length_append]
      simp only [List.flatMap_cons, List.flatMap_nil, List.append_nil, List.length_map, List.length_range]
      omega
  have h := pre (min nd p)
  have m : min nd p * 60 ≤ 60 * 60 := Nat.mul_le_mul (by omega) (Nat.le_refl _)
  exact Nat.le_trans h m
theorem filter_len (c n : Nat) : (List.range n).filter (fun j => decide (j + 2 ≤ c)) = List.range (min c (n + 1) - 1) := by
  induction n with
  | zero =>
    have : min c (0 + 1) - 1 = 0 := by omega
    rw [this]; rfl
  | succ n ih =>
    rw [List.range_succ, List.filter_append, ih]
    by_cases h : n + 2 ≤ c
    · rw [show min c (n + 1 + 1) - 1 = (min c (n + 1) - 1) + 1 by omega, List.range_succ]
      simp [h]
      omega
    · rw [show min c (n + 1 + 1) - 1 = min c (n + 1) - 1 by omega]
      simp [h]
def cpI (x : Nat × Nat) : IV := .tup [.str "copy", .int (x.1 : Nat), .int (x.2 : Nat)]
def oneI (o : Int) : IV := .tup [.str "one", .int o]
theorem ok_cps (L : List (Nat × Nat)) : okSort (L.map cpI) = true := by
  unfold okSort
  have h1 : (L.map cpI).all (fun a => (L.map cpI).all fun b => PySem.W.alike a.py b.py) = true := List.all_eq_true.mpr fun x hx => List.all_eq_true.mpr fun y hy => by
    obtain ⟨x', _, rfl⟩ := List.mem_map.mp hx
    obtain ⟨y', _, rfl⟩ := List.mem_map.mp hy
    rfl
  have h2 : (L.map cpI).all tupNE = true := List.all_eq_true.mpr fun x hx => by
    obtain ⟨x', _, rfl⟩ := List.mem_map.mp hx
    rfl
  have h3 : (L.map cpI).all (fun x => decide (x.py.depth ≤ 64)) = true := List.all_eq_true.mpr fun x hx => by
    obtain ⟨x', _, rfl⟩ := List.mem_map.mp hx
    rfl
  rw [h1, h2, h3] <;> rfl
def leC (x y : Nat × Nat) : Bool := leI (cpI x) (cpI y)
/-- the copies in their order -/
def stL (a : List Int) (nl nd p : Nat) : List (Nat × Nat) := (cps a nl nd p).mergeSort leC
theorem stL_map (a : List Int) (nl nd p : Nat) : sortI ((cps a nl nd p).map cpI) = (stL a nl nd p).map cpI := by
  unfold sortI stL
  exact (List.map_mergeSort (f := cpI) (r := leC) (s := leI) (l := cps a nl nd p) fun _ _ _ _ => rfl).symm
theorem mem_stL {a : List Int} {nl nd p : Nat} {x : Nat × Nat} : x ∈ stL a nl nd p ↔ x ∈ cps a nl nd p := (List.mergeSort_perm _ _).mem_iff
theorem stL_len (a : List Int) (nl nd p : Nat) : (stL a nl nd p).length = (cps a nl nd p).length := (List.mergeSort_perm _ _).length_eq
/-- one copy is better than another: longer, or as long and nearer -/
def bet (x y : Nat × Nat) : Prop := y.1 < x.1 ∨ y.1 = x.1 ∧ x.2 < y.2
instance (x y : Nat × Nat) : Decidable (bet x y) := by unfold bet; exact inferInstance
/-- the best of those that came -/
def gb : Option (Nat × Nat) → List (Nat × Nat) → Option (Nat × Nat)
  | b, [] => b
  | none, x :: r => gb (some x) r
  | some b, x :: r => gb (some (if bet x b then x else b)) r
structure IsB (L : List (Nat × Nat)) (r : Nat × Nat) : Prop where
  mem : r ∈ L
  best : ∀ x ∈ L, ¬ bet x r
theorem isB_unique {L : List (Nat × Nat)} {r q : Nat × Nat} (h1 : IsB L r) (h2 : IsB L q) : r = q := by
  have a := h1.best q h2.mem
  have b := h2.best r h1.mem
  unfold bet at a b
  refine Prod.ext ?_ ?_ <;> omega
theorem gb_some : ∀ (L : List (Nat × Nat)) (b : Nat × Nat), ∃ r, gb (some b) L = some r ∧ IsB (b :: L) r
  | [], b => ⟨b, rfl, List.mem_cons_self, fun x hx => by rw [List.mem_singleton.mp hx]; unfold bet; omega⟩
  | x :: L, b => by
    obtain ⟨r, h1, h2, h3⟩ := gb_some L (if bet x b then x else b)
    refine ⟨r, h1, ?_, fun y hy => ?_⟩
    · rcases List.mem_cons.mp h2 with e | e
      · rw [e]; split
        · exact List.mem_cons_of_mem _ List.mem_cons_self
        · exact List.mem_cons_self
      · exact List.mem_cons_of_mem _ (List.mem_cons_of_mem _ e)
    · have hh := h3 _ List.mem_cons_self
      rcases List.mem_cons.mp hy with e | e
      · subst e
        by_cases q : bet x y
        · rw [if_pos q] at hh; unfold bet at *; omega
        · rw [if_neg q] at hh; exact hh
      · rcases List.mem_cons.mp e with e | e
        · subst e
          by_cases q : bet y b
          · rw [if_pos q] at hh; exact hh
          · rw [if_neg q] at hh; unfold bet at *; omega
        · exact h3 y (List.mem_cons_of_mem _ e)
theorem gb_none {L : List (Nat × Nat)} (h : L ≠ []) : ∃ r, gb none L = some r ∧ IsB L r := by
  cases L with
  | nil => exact absurd rfl h
  | cons x L => exact gb_some L x
/-! the least of pairs -/
def pr (x : Int × Int) : IV := .tup [.int x.1, .int x.2]
def ltP (x y : Int × Int) : Bool := decide (x.1 < y.1 ∨ x.1 = y.1 ∧ x.2 < y.2)
theorem lt_pr (x y : Int × Int) : ltI (pr x) (pr y) = ltP x y := by
  have e : ltI (pr x) (pr y) = (decide (x.1 < y.1) || (!decide (y.1 < x.1) && (decide (x.2 < y.2) || (!decide (y.2 < x.2) && false)))) := rfl
  rw [e]
  unfold ltP
  by_cases h1 : x.1 < y.1
  · simp [h1]
  · by_cases h2 : y.1 < x.1
    · simp [h1, h2]; omega
    · have : x.1 = y.1 := by omega
      by_cases h3 : x.2 < y.2 <;> simp [this, h3]
theorem ok_pr (x : Int × Int) (L : List (Int × Int)) : okMin ((x :: L).map pr) = true := by
  unfold okMin
  have h1 : ((x :: L).map pr).all (fun a => ((x :: L).map pr).all fun b => PySem.W.alike a.py b.py) = true := List.all_eq_true.mpr fun x hx => List.all_eq_true.mpr fun y hy => by
    obtain ⟨x', _, rfl⟩ := List.mem_map.mp hx
    obtain ⟨y', _, rfl⟩ := List.mem_map.mp hy
    rfl
  have h2 : ((x :: L).map pr).all (fun x => notNon x && x.py.canLay0 && decide (x.py.depth ≤ 64)) = true := List.all_eq_true.mpr fun x hx => by
    obtain ⟨x', _, rfl⟩ := List.mem_map.mp hx
    rfl
  rw [h1, h2] <;> rfl
theorem min_pr : ∀ (L : List (Int × Int)) (x : Int × Int), ∃ r, minI (pr x) (L.map pr) = pr r ∧ r ∈ x :: L ∧ ∀ y ∈ x :: L, ltP y r = false
  | [], x => ⟨x, rfl, List.mem_cons_self, fun y hy => by rw [List.mem_singleton.mp hy]; unfold ltP; exact decide_eq_false (by omega)⟩
  | y :: L, x => by
    have e : minI (pr x) ((y :: L).map pr) = minI (pr (if ltP y x then y else x)) (L.map pr) := by
      show minI (if ltI (pr y) (pr x) then pr y else pr x) (L.map pr) = _
      rw [lt_pr]
      split <;> rfl
    obtain ⟨r, h1, h2, h3⟩ := min_pr L (if ltP y x then y else x)
    refine ⟨r, e.trans h1, ?_, fun z hz => ?_⟩
    · rcases List.mem_cons.mp h2 with q | q
      · rw [q]; split
        · exact List.mem_cons_of_mem _ List.mem_cons_self
        · exact List.mem_cons_self
      · exact List.mem_cons_of_mem _ (List.mem_cons_of_mem _ q)
    · have hh := h3 _ List.mem_cons_self
      have key : ∀ u v : Int × Int, ltP u r = false → ltP u v = false → ltP v u = true ∨ ltP v r = false := fun u v a b => by
        unfold ltP at *
        simp only [decide_eq_false_iff_not, decide_eq_true_eq] at *
        omega
      rcases List.mem_cons.mp hz with q | q
      · subst q
        by_cases w : ltP y z = true
        · rw [if_pos w] at hh
          unfold ltP at *
          simp only [decide_eq_false_iff_not, decide_eq_true_eq] at *
          omega
        · rw [if_neg w] at hh; exact hh
      · rcases List.mem_cons.mp q with q | q
        · subst q
          by_cases w : ltP z x = true
          · rw [if_pos w] at hh; exact hh
          · rw [if_neg w] at hh
            unfold ltP at *
            simp only [decide_eq_false_iff_not, decide_eq_true_eq] at *
            omega
        · exact h3 z (List.mem_cons_of_mem _ q)
theorem opMinA_pr {x : Int × Int} {L : List (Int × Int)} {m : Md} : opMinA (.l ((x :: L).map pr), m) = .ok (.i (minI (pr x) (L.map pr)), .own) :=
  opMinA_d (x := pr x) (xs := L.map pr) rfl (ok_pr x L)
end L2.Pv.T

namespace L2.Pv.T
open PySem PySem.Spec PyProof.Rows L2 L2.Pv
abbrev tp (a : List Int) : DV := .i (.tup (iL a))
abbrev ot (a : List Int) : Option (DV × Md) := some (tp a, .own)
def oct (i : Int) : Bool := decide (0 ≤ i) && decide (i ≤ 255)
def Oct (a : List Int) : Prop := a.all oct = true
theorem whole_eq (i lo hi : Int) : F_is_whole [.i (.int i), .i (.int lo), .i (.int hi)] = .ok (.i (.bl (decide (lo ≤ i) && decide (i ≤ hi)))) := by
  refine run_eq ?_
  have e0 : startE 3 [.i (.int i), .i (.int lo), .i (.int hi)] = [oi i, oi lo, oi hi] := rfl
  rw [e0]
  by_cases h : lo ≤ i <;> simp [G_is_whole, tyN, isTy, h]
/-- an integer, no bool, within bounds -/
def whI : IV → Int → Int → Bool
  | .int i, lo, hi => decide (lo ≤ i) && decide (i ≤ hi)
  | _, _, _ => false
theorem whole_gen (x : IV) (lo hi : Int) : F_is_whole [.i x, .i (.int lo), .i (.int hi)] = .ok (.i (.bl (whI x lo hi))) := by
  cases x with
  | int i => exact whole_eq i lo hi
  | non =>
    refine run_eq ?_
    have e0 : startE 3 [.i .non, .i (.int lo), .i (.int hi)] = [some (.i .non, .own), oi lo, oi hi] := rfl
    rw [e0]
    simp [G_is_whole, tyN, isTy, whI]
  | bl b =>
    refine run_eq ?_
    have e0 : startE 3 [.i (.bl b), .i (.int lo), .i (.int hi)] = [some (.i (.bl b), .own), oi lo, oi hi] := rfl
    rw [e0]
    simp [G_is_whole, tyN, isTy, whI]
  | str s =>
    refine run_eq ?_
    have e0 : startE 3 [.i (.str s), .i (.int lo), .i (.int hi)] = [some (.i (.str s), .own), oi lo, oi hi] := rfl
    rw [e0]
    simp [G_is_whole, tyN, isTy, whI]
  | tup s =>
    refine run_eq ?_
    have e0 : startE 3 [.i (.tup s), .i (.int lo), .i (.int hi)] = [some (.i (.tup s), .own), oi lo, oi hi] := rfl
    rw [e0]
    simp [G_is_whole, tyN, isTy, whI]
theorem content_eq (a : List Int) (ha : a.length ≤ 60) (oa : Oct a) : F_check_content [tp a] = .ok (.i .non) := by
  refine run_eq ?_
  have e0 : startE 2 [tp a] = [ot a, none] := rfl
  rw [e0]
  have e1 : C_check_content_1 [ot a, none] = .ok (.l (a.map fun x => .bl (oct x)), .own) := by
    refine comp_iL (m := .own) _ (by simp) (by omega) fun x hx => ?_
    exact ⟨[ot a, oi x], rfl, rfl, by simp [whole_eq, oct]⟩
  have oa' : a.all oct = true := oa
  simp [G_check_content, tyN, isTy, e1, opAll_map, oa', show ¬ (60 : Int) < a.length by omega]
/-- prices -/
abbrev pz (o : Int) (ls fs : List Int) : IV := .tup [.int o, .tup (iL ls), .tup (iL fs)]
def PrOk (ls : List Int) : Prop := ∀ x ∈ ls, 0 ≤ x ∧ x ≤ 1000
structure Prc (o : Int) (ls fs : List Int) : Prop where
  o0 : 0 ≤ o
  o1 : o ≤ 1000
  l0 : ls.length ≤ 59
  l1 : PrOk ls
  f0 : fs.length ≤ 60
  f1 : PrOk fs
theorem are_prices_eq (ls : List Int) (m : Int) (h : PrOk ls) (hm : (ls.length : Int) ≤ m) (hl : ls.length ≤ 60) : F__are_prices [tp ls, .i (.int m)] = .ok (.i (.bl true)) := by
  refine run_eq ?_
  have e0 : startE 3 [tp ls, .i (.int m)] = [ot ls, oi m, none] := rfl
  rw [e0]
  have e1 : C__are_prices_1 [ot ls, oi m, none] = .ok (.l (ls.map fun x => .bl true), .own) := by
    refine comp_iL (m := .own) _ (by simp) (by omega) fun x hx => ?_
    exact ⟨[ot ls, oi m, oi x], rfl, rfl, by simp [whole_eq, (h x hx).1, (h x hx).2]⟩
  have al : opAll (.l (ls.map fun x => IV.bl true), .own) = .ok (.i (.bl true), .own) := by
    rw [opAll_map (fun _ => true) ls .own]; simp
  simp [G__are_prices, tyN, isTy, e1, al, show ¬ m < (ls.length : Int) by omega]
theorem prices_eq {o : Int} {ls fs : List Int} (P : Prc o ls fs) : F_check_prices [.i (pz o ls fs)] = .ok (.i .non) := by
  refine run_eq ?_
  have e0 : startE 1 [.i (pz o ls fs)] = [some (.i (pz o ls fs), .own)] := rfl
  rw [e0]
  have p1 := are_prices_eq ls 59 P.l1 (by have := P.l0; omega) (by have := P.l0; omega)
  have p2 := are_prices_eq fs 60 P.f1 (by have := P.f0; omega) P.f0
  simp [G_check_prices, pz, tyN, isTy, whole_eq, P.o0, P.o1, p1, p2]
theorem check_eq (a : List Int) {o : Int} {ls fs : List Int} (P : Prc o ls fs) (ha : a.length ≤ 60) (oa : Oct a) : F__check [tp a, .i (pz o ls fs)] = .ok (.i .non) := by
  refine run_eq ?_
  have e0 : startE 2 [tp a, .i (pz o ls fs)] = [ot a, some (.i (pz o ls fs), .own)] := rfl
  rw [e0]
  simp [G__check, content_eq a ha oa, prices_eq P]
theorem copy_eq (a : List Int) (p d : Nat) (hd : d ≤ p) (hp : p ≤ a.length) (ha : a.length ≤ 1000) : F_copy_length [tp a, .i (.int p), .i (.int d)] = .ok (.i (.int (cl a p d))) := by
  refine run_eq ?_
  have e0 : startE 4 [tp a, .i (.int p), .i (.int d)] = [ot a, oi p, oi d, none] := rfl
  rw [e0]
  have le := cl_le a p d
  simp [G_copy_length]
  refine while_ind (fun n ρ => n ≤ cl a p d ∧ ρ = [ot a, oi p, oi d, oi ((cl a p d - n : Nat) : Int)]) (cl a p d) (by omega) ⟨Nat.le_refl _, by simp⟩ ?_
  rintro n W hW ρ ⟨hn, rfl⟩
  obtain ⟨k, hk⟩ : ∃ k, k = cl a p d - n := ⟨_, rfl⟩
  rw [← hk]
  by_cases hb : p + k < a.length
  · have ia := fun m m' : Md => ix_tup (m := m) (m' := m') (xs := a) (k := (p : Int) + k) (by omega) (by omega)
    have ib := fun m m' : Md => ix_tup (m := m) (m' := m') (xs := a) (k := (p : Int) + k - d) (by omega) (by omega)
    rw [show ((p : Int) + k).toNat = p + k by omega] at ia
    rw [show ((p : Int) + k - d).toNat = p + k - d by omega] at ib
    by_cases z : n = 0
    · have hc : k = cl a p d := by omega
      have ne := cl_at hd (by rw [← hc]; exact hb)
      rw [← hc] at ne
      simp [show (p : Int) + k < a.length by omega, ia, ib, -List.getD_eq_getElem?_getD, ne]
      refine hW.bk _ ?_
      rw [hc]
      simp
    · have e := cl_lt (a := a) hd (show k < cl a p d by omega)
      simp [show (p : Int) + k < a.length by omega, ia, ib, -List.getD_eq_getElem?_getD, e, B_copy_length_1]
      refine hW.nx _ ⟨n - 1, by omega, by omega, ?_⟩
      rw [show cl a p d - (n - 1) = k + 1 by omega] <;> rfl
  · simp [show ¬ (p : Int) + k < a.length by omega]
    refine hW.bk _ ?_
    rw [show k = cl a p d by omega]
    simp
theorem size_cp (x : Nat × Nat) : F__size [.i (cpI x)] = .ok (.i (.int x.1)) := by
  refine run_eq ?_
  have e0 : startE 1 [.i (cpI x)] = [some (.i (cpI x), .own)] := rfl
  rw [e0]
  have c : cEq (.i (.str "copy"), .own) (.i (.str "one"), .own) = .ok (.i (.bl false), .own) := by kernel_rfl
  simp [G__size, cpI, c]
theorem size_one (o : Int) : F__size [.i (oneI o)] = .ok (.i (.int 1)) := by
  refine run_eq ?_
  have e0 : startE 1 [.i (oneI o)] = [some (.i (oneI o), .own)] := rfl
  rw [e0]
  have c : cEq (.i (.str "one"), .own) (.i (.str "one"), .own) = .ok (.i (.bl true), .own) := by kernel_rfl
  simp [G__size, oneI, c]
/-- the steps that can be used -/
theorem steps_eq (a : List Int) (p : Nat) {o : Int} {ls fs : List Int} (P : Prc o ls fs) (ha : a.length ≤ 60) (hp : p < a.length) :
    F__steps [tp a, .i (pz o ls fs), .i (.int p)] = .ok (.l ((stL a ls.length fs.length p).map cpI ++ [oneI (a.getD p 0)])) := by
  have f0 := P.f0
  have l0 := P.l0
  refine run_eq ?_
  have e0 : startE 7 [tp a, .i (pz o ls fs), .i (.int p)] = [ot a, some (.i (pz o ls fs), .own), oi p, none, none, none, none] := rfl
  rw [e0]
  have pre : ∀ k, k ≤ min fs.length p → (((List.range k).flatMap fun i => (List.range (min (cl a p (i + 1)) (ls.length + 1) - 1)).map fun j => (j + 2, i + 1)) : List (Nat × Nat)).length ≤ k * 60 := by
    intro k
    induction k with
    | zero => intro _; simp
    | succ k ih =>
      intro hk
      have := ih (by omega)
      rw [List.range_succ, List.flatMap_append, List.length_append]
      simp only [List.flatMap_cons, List.flatMap_nil, List.append_nil, List.length_map, List.length_range]
      omega
  have lenc := pre (min fs.length p) (Nat.le_refl _)
  have mul : min fs.length p * 60 ≤ 60 * 60 := Nat.mul_le_mul (by omega) (Nat.le_refl _)
  have ip := fun m m' : Md => ix_tup (m := m) (m' := m') (xs := a) (k := (p : Int)) (by omega) (by omega)
  rw [Int.toNat_natCast] at ip
  generalize ho : a.getD p 0 = ov at ip
  simp [G__steps, show ¬ ((p : Int) = a.length) by omega, pz, smI_ok (i := min (fs.length : Int) p + 1) (by omega) (by omega), show smI 1 = true from rfl]
  refine for_rg (fun k ρ => ∃ v4 v5 v6, ρ = [ot a, some (.i (pz o ls fs), .own), oi p, some (.l ((((List.range k).flatMap fun i => (List.range (min (cl a p (i + 1)) (ls.length + 1) - 1)).map fun j => (j + 2, i + 1)) : List (Nat × Nat)).map cpI), .own), v4, v5, v6]) ⟨none, none, none, rfl⟩ ?_ ?_
  · rintro k hk W hW ρ ⟨v4, v5, v6, rfl⟩
    have hk' : k < min fs.length p := by omega
    have ce := copy_eq a p (k + 1) (by omega) (by omega) (by omega)
    have lek := pre k (by omega)
    have mk : k * 60 ≤ 60 * 60 := Nat.mul_le_mul (by omega) (Nat.le_refl _)
    rw [show ((k + 1 : Nat) : Int) = 1 + (k : Int) by omega] at ce
    have le := cl_le a p (k + 1)
    have st : (((List.range (k + 1)).flatMap fun i => (List.range (min (cl a p (i + 1)) (ls.length + 1) - 1)).map fun j => (j + 2, i + 1)) : List (Nat × Nat)) = ((List.range k).flatMap fun i => (List.range (min (cl a p (i + 1)) (ls.length + 1) - 1)).map fun j => (j + 2, i + 1)) ++ (List.range (min (cl a p (k + 1)) (ls.length + 1) - 1)).map fun j => (j + 2, k + 1) := by
      rw [List.range_succ, List.flatMap_append]; simp
    rw [st] at hW
    generalize (((List.range k).flatMap fun i => (List.range (min (cl a p (i + 1)) (ls.length + 1) - 1)).map fun j => (j + 2, i + 1)) : List (Nat × Nat)) = L at hW lek ⊢
    generalize cl a p (k + 1) = c at ce le hW
    have c1 : ∀ v6, C__steps_1 [ot a, some (.i (pz o ls fs), .own), oi p, some (.l (L.map cpI), .own), oi (1 + (k : Int)), oi (min (c : Int) (ls.length + 2 - 1)), v6] = .ok (.l (((List.range (min c (ls.length + 1) - 1)).map fun j => (j + 2, k + 1)).map cpI), .own) := by
      intro v6
      rw [List.map_map]
      refine comp_rg (m := .own) (lo := 2) _ ?_ (by omega) fun j hj => ?_
      · simp [smI_ok (i := min (c : Int) (ls.length + 2 - 1) + 1) (by omega) (by omega), show smI 2 = true from rfl]
        congr 1
        omega
      · refine ⟨[ot a, some (.i (pz o ls fs), .own), oi p, some (.l (L.map cpI), .own), oi (1 + (k : Int)), oi (min (c : Int) (ls.length + 2 - 1)), oi (2 + (j : Int))], rfl, rfl, ?_⟩
        simp [cpI]
        rw [show (2 : Int) + j = j + 2 by omega, show (1 : Int) + k = k + 1 by omega]
    simp [B__steps_2, pz, ce, c1, show L.length + (min c (ls.length + 1) - 1) ≤ 16777216 by omega]
    exact hW.nx _ ⟨_, _, _, by rw [List.map_append, List.map_map] <;> rfl⟩
  · rintro ρ ⟨v4, v5, v6, rfl⟩
    have cd : (((List.range (min (fs.length : Int) p).toNat).flatMap fun i => (List.range (min (cl a p (i + 1)) (ls.length + 1) - 1)).map fun j => (j + 2, i + 1)) : List (Nat × Nat)) = cps a ls.length fs.length p := by
      rw [show (min (fs.length : Int) p).toNat = min fs.length p by omega] <;> rfl
    have lc : (cps a ls.length fs.length p).length ≤ min fs.length p * 60 := lenc
    have so : opSorted (.l ((cps a ls.length fs.length p).map cpI), .tmp) = .ok (.l ((stL a ls.length fs.length p).map cpI), .own) := by
      unfold opSorted items?
      simp only [ok_cps, if_true, stL_map]
    simp [cd, so, ip, stL_len, oneI, show (cps a ls.length fs.length p).length + 1 ≤ 16777216 by omega]
/-! greedy -/
theorem str_cc : cEq (.i (.str "copy"), .own) (.i (.str "copy"), .own) = .ok (.i (.bl true), .own) := by kernel_rfl
theorem str_co : cEq (.i (.str "copy"), .own) (.i (.str "one"), .own) = .ok (.i (.bl false), .own) := by kernel_rfl
theorem str_oo : cEq (.i (.str "one"), .own) (.i (.str "one"), .own) = .ok (.i (.bl true), .own) := by kernel_rfl
theorem str_oc : cEq (.i (.str "one"), .own) (.i (.str "copy"), .own) = .ok (.i (.bl false), .own) := by kernel_rfl
def bI (o : Int) : Option (Nat × Nat) → IV
  | none => oneI o
  | some x => cpI x
def gsz : Option (Nat × Nat) → Nat
  | none => 1
  | some x => x.1
theorem size_b (o : Int) (b : Option (Nat × Nat)) : F__size [.i (bI o b)] = .ok (.i (.int (gsz b))) := by
  cases b with
  | none => exact size_one o
  | some x => exact size_cp x
/-- the step that is taken at a place -/
def gst (a : List Int) (nl nd p : Nat) : Option (Nat × Nat) := gb none (stL a nl nd p)
end L2.Pv.T

namespace L2.Pv.T
open PySem PySem.Spec PyProof.Rows L2 L2.Pv
/-- the row that greedy takes from a place on -/
def grow (a : List Int) (nl nd : Nat) : Nat → Nat → List IV
  | 0, _ => []
  | f + 1, p => if p < a.length then bI (a.getD p 0) (gst a nl nd p) :: grow a nl nd f (p + gsz (gst a nl nd p)) else []
theorem grow_succ (a : List Int) (nl nd f p : Nat) : grow a nl nd (f + 1) p = if p < a.length then bI (a.getD p 0) (gst a nl nd p) :: grow a nl nd f (p + gsz (gst a nl nd p)) else [] := rfl
theorem gst_le (a : List Int) (nl nd p : Nat) (hp : p < a.length) : 1 ≤ gsz (gst a nl nd p) ∧ p + gsz (gst a nl nd p) ≤ a.length := by
  unfold gst
  by_cases h : stL a nl nd p = []
  · rw [h]
    show 1 ≤ 1 ∧ p + 1 ≤ a.length
    omega
  · obtain ⟨r, h1, h2⟩ := gb_none h
    rw [h1]
    have := mem_cps.mp (mem_stL.mp h2.mem)
    have := cl_le a p r.2
    show 1 ≤ r.1 ∧ p + r.1 ≤ a.length
    omega
theorem grow_fuel (a : List Int) (nl nd : Nat) : ∀ (f g p : Nat), a.length ≤ p + f → a.length ≤ p + g → grow a nl nd f p = grow a nl nd g p
  | 0, 0, p, _, _ => rfl
  | 0, g + 1, p, h, _ => by
    unfold grow
    rw [if_neg (by omega)]
  | f + 1, 0, p, _, h => by
    unfold grow
    rw [if_neg (by omega)]
  | f + 1, g + 1, p, h1, h2 => by
    unfold grow
    by_cases q : p < a.length
    · rw [if_pos q, if_pos q]
      have := gst_le a nl nd p q
      rw [grow_fuel a nl nd f g _ (by omega) (by omega)]
    · rw [if_neg q, if_neg q]
theorem grow_step (a : List Int) (nl nd p : Nat) (hp : p < a.length) : grow a nl nd (a.length - p) p = bI (a.getD p 0) (gst a nl nd p) :: grow a nl nd (a.length - (p + gsz (gst a nl nd p))) (p + gsz (gst a nl nd p)) := by
  obtain ⟨f, hf⟩ : ∃ f, a.length - p = f + 1 := ⟨a.length - p - 1, by omega⟩
  have := gst_le a nl nd p hp
  rw [hf, grow_succ, if_pos hp, grow_fuel a nl nd f (a.length - (p + gsz (gst a nl nd p))) (p + gsz (gst a nl nd p)) (by omega) (by omega)]
theorem grow_end (a : List Int) (nl nd f p : Nat) (hp : a.length ≤ p) : grow a nl nd f p = [] := by
  cases f with
  | zero => rfl
  | succ f => unfold grow; rw [if_neg (by omega)]
theorem bI_eq (o : Int) (L : List (Nat × Nat)) : True := trivial
end L2.Pv.T

namespace L2.Pv.T
open PySem PySem.Spec PyProof.Rows L2 L2.Pv
theorem fit_bI (x : Int) (b : Option (Nat × Nat)) : Fit 1 (bI x b) := by
  have h1 : Fit 0 (.str "one") := ⟨by kernel_rfl, by decide +kernel⟩
  have h2 : Fit 0 (.str "copy") := ⟨by kernel_rfl, by decide +kernel⟩
  cases b with
  | none =>
    refine fit_tup (n := 0) fun y hy => ?_
    simp only [List.mem_cons, List.not_mem_nil, or_false] at hy
    rcases hy with rfl | rfl
    · exact h1
    · exact fit_int _
  | some r =>
    refine fit_tup (n := 0) fun y hy => ?_
    simp only [List.mem_cons, List.not_mem_nil, or_false] at hy
    rcases hy with rfl | rfl | rfl
    · exact h2
    · exact fit_int _
    · exact fit_int _
/-! contents and prices, from draws -/
theorem loct_ok (ds : List Int) (at_ most : Nat) (h : at_ + 14 < ds.length) (hm : most ≤ 60) : ∃ a, Oct a ∧ a.length ≤ most ∧ F__law_octets [.l (iL ds), .i (.int at_), .i (.int most)] = .ok (tp a) := by
  suffices h : ∃ d, F__law_octets [.l (iL ds), .i (.int at_), .i (.int most)] = .ok d ∧ ∃ a : List Int, Oct a ∧ a.length ≤ most ∧ d = tp a by
    obtain ⟨d, h1, a, h2, h3, rfl⟩ := h
    exact ⟨a, h2, h3, h1⟩
  refine run_ok _ fun Z hZ => ?_
  have e0 : startE 8 [.l (iL ds), .i (.int at_), .i (.int most)] = [some (.l (iL ds), .bor), oi at_, oi most, none, none, none, none, none] := rfl
  rw [e0]
  have i0 := fun y y' : Md => ix_l (m := y) (m' := y') (xs := ds) (k := (at_ : Int)) (by omega) (by omega)
  generalize ds.getD (at_ : Int).toNat 0 = d0 at i0
  have n1 := Int.emod_nonneg d0 (show (most : Int) + 1 ≠ 0 by omega)
  have n2 := Int.emod_lt_of_pos d0 (show (0 : Int) < most + 1 by omega)
  simp [G__law_octets, i0, show (0 : Int) < most + 1 by omega, smI_ok (i := d0 % ((most : Int) + 1)) (by omega) (by omega)]
  refine for_rg (fun k ρ => ∃ a v6 v7, Oct a ∧ a.length = k ∧ ρ = [some (.l (iL ds), .bor), oi at_, oi most, oi (d0 % ((most : Int) + 1)), oi (d0 / 64 % 4), ot a, v6, v7]) ⟨[], _, _, rfl, rfl, rfl⟩ ?_ ?_
  · rintro k hk W hW ρ ⟨a, v6, v7, oa, la, rfl⟩
    have hk' : (k : Int) < 61 := by omega
    have i1 := fun y y' : Md => ix_l (m := y) (m' := y') (xs := ds) (k := (at_ : Int) + 1 + (k : Int) % 14) (by omega) (by omega)
    generalize ds.getD ((at_ : Int) + 1 + (k : Int) % 14).toNat 0 = d1 at i1
    have q1 : 0 ≤ d0 / 64 % 4 := Int.emod_nonneg _ (by decide)
    have q2 : d0 / 64 % 4 < 4 := Int.emod_lt_of_pos _ (by decide)
    obtain ⟨m, hm1, hm2, hm⟩ : ∃ m : Int, 1 ≤ m ∧ m ≤ 256 ∧ ∀ y y', opIx (.l (iL [2, 3, 256, 4]), y) (.i (.int (d0 / 64 % 4)), y') = .ok (.i (.int m), .own) := by
      refine ⟨[2, 3, 256, 4].getD (d0 / 64 % 4).toNat 0, ?_, ?_, fun y y' => ix_l q1 q2⟩ <;>
        (rcases (show d0 / 64 % 4 = 0 ∨ d0 / 64 % 4 = 1 ∨ d0 / 64 % 4 = 2 ∨ d0 / 64 % 4 = 3 by omega) with e | e | e | e <;> rw [e] <;> decide)
    generalize d0 / 64 % 4 = kd at hm hW q1 q2 ⊢
    obtain ⟨dr, hdr⟩ : ∃ dr, dr = d1 / (1 + (k : Int) / 14) := ⟨_, rfl⟩
    have pos : (0 : Int) < 1 + (k : Int) / 14 := by omega
    have abs : (1 + (k : Int) / 14).natAbs < 1073741824 := by omega
    have x1 := Int.emod_nonneg (dr / 8) (show m ≠ 0 by omega)
    have x2 := Int.emod_lt_of_pos (dr / 8) (show 0 < m by omega)
    have fin : ∀ v : Int, oct v = true → W.nx [some (.l (iL ds), .bor), oi at_, oi most, oi (d0 % ((most : Int) + 1)), oi kd, ot (a ++ [v]), oi k, oi dr] := fun v hv => hW.nx _ ⟨_, _, _, by unfold Oct at *; rw [List.all_append, oa]; simp [hv], by simp [la], rfl⟩
    have o1 : oct (dr / 8 % m) = true := by
      unfold oct
      rw [decide_eq_true x1, decide_eq_true (by omega)] <;> rfl
    have la' : a.length + 1 ≤ 16777216 := by omega
    have step1 : ∀ (D : PD), (∀ ρ, D.nx ρ → W.nx ρ) → True := fun _ _ => trivial
    by_cases c1 : kd = 3 ∧ 2 < (k : Int) ∧ 0 < dr % 3
    · obtain ⟨c1, c2, c3⟩ := c1
      have mk : (0 : Int) < min (k : Int) 6 := by omega
      have y1 := Int.emod_nonneg (dr / 3) (show min (k : Int) 6 ≠ 0 by omega)
      have y2 := Int.emod_lt_of_pos (dr / 3) mk
      have ia := fun y y' : Md => ix_tup (m := y) (m' := y') (xs := a) (k := (k : Int) - 1 - dr / 3 % min (k : Int) 6) (by omega) (by omega)
      have oo : oct (a.getD ((k : Int) - 1 - dr / 3 % min (k : Int) 6).toNat 0) = true := by
        refine List.all_eq_true.mp oa _ ?_
        rw [List.getD_eq_getElem?_getD, List.getElem?_eq_getElem (by omega)]
        exact List.getElem_mem _
      generalize a.getD ((k : Int) - 1 - dr / 3 % min (k : Int) 6).toNat 0 = v at ia oo
      have go := fin v oo
      rw [hdr] at go c3 ia y1 y2
      subst c1
      simp [B__law_octets_1, i1, pos, abs, c2, c3, mk, ia, la', show (k : Int) > 2 by omega]
      exact go
    · have go := fin _ o1
      rw [hdr] at go c1
      by_cases b1 : kd = 3
      · by_cases b2 : 2 < (k : Int)
        · have b3 : ¬ 0 < d1 / (1 + (k : Int) / 14) % 3 := fun z => c1 ⟨b1, b2, z⟩
          subst b1
          simp [B__law_octets_1, i1, pos, abs, b2, b3, hm, show 0 < m by omega, la', show (k : Int) > 2 by omega]
          exact go
        · subst b1
          simp [B__law_octets_1, i1, pos, abs, b2, hm, show 0 < m by omega, la', show ¬ (k : Int) > 2 by omega]
          exact go
      · simp [B__law_octets_1, i1, pos, abs, b1, hm, show 0 < m by omega, la']
        exact go
  · rintro ρ ⟨a, v6, v7, oa, la, rfl⟩
    simp
    exact hZ _ ⟨a, oa, by omega, rfl⟩
theorem four_ix (x0 x1 x2 x3 : Int) (kd : Int) (h0 : 0 ≤ kd) (h1 : kd < 4) (P : Int → Prop) (p0 : P x0) (p1 : P x1) (p2 : P x2) (p3 : P x3) : ∃ v, P v ∧ ∀ m m' : Md, opIx (.l (iL [x0, x1, x2, x3]), m) (.i (.int kd), m') = .ok (.i (.int v), .own) := by
  refine ⟨[x0, x1, x2, x3].getD kd.toNat 0, ?_, fun m m' => ix_l h0 h1⟩
  rcases (show kd = 0 ∨ kd = 1 ∨ kd = 2 ∨ kd = 3 by omega) with e | e | e | e <;> rw [e] <;> assumption
def SmOk (ls : List Int) : Prop := ∀ x ∈ ls, 0 ≤ x ∧ x ≤ 100
/-- the prices of the law: small ones -/
structure PrS (o : Int) (ls fs : List Int) : Prop where
  o0 : 0 ≤ o
  o1 : o ≤ 100
  l0 : ls.length ≤ 11
  l1 : SmOk ls
  f0 : fs.length ≤ 13
  f1 : SmOk fs
theorem PrS.prc {o : Int} {ls fs : List Int} (P : PrS o ls fs) : Prc o ls fs :=
  ⟨P.o0, by have := P.o1; omega, by have := P.l0; omega, fun x hx => by have := P.l1 x hx; omega, by have := P.f0; omega, fun x hx => by have := P.f1 x hx; omega⟩
theorem lprices_sm (ds : List Int) (at_ : Nat) (h : at_ + 10 < ds.length) : ∃ o ls fs, PrS o ls fs ∧ F__law_prices [.l (iL ds), .i (.int at_)] = .ok (.i (pz o ls fs)) := by
  suffices h : ∃ d, F__law_prices [.l (iL ds), .i (.int at_)] = .ok d ∧ ∃ o ls fs, PrS o ls fs ∧ d = .i (pz o ls fs) by
    obtain ⟨d, h1, o, ls, fs, h2, rfl⟩ := h
    exact ⟨o, ls, fs, h2, h1⟩
  refine run_ok _ fun Z hZ => ?_
  have e0 : startE 8 [.l (iL ds), .i (.int at_)] = [some (.l (iL ds), .bor), oi at_, none, none, none, none, none, none] := rfl
  rw [e0]
  have i0 := fun y y' : Md => ix_l (m := y) (m' := y') (xs := ds) (k := (at_ : Int)) (by omega) (by omega)
  have i1 := fun y y' : Md => ix_l (m := y) (m' := y') (xs := ds) (k := (at_ : Int) + 1) (by omega) (by omega)
  have i2 := fun y y' : Md => ix_l (m := y) (m' := y') (xs := ds) (k := (at_ : Int) + 2) (by omega) (by omega)
  have i3 := fun y y' : Md => ix_l (m := y) (m' := y') (xs := ds) (k := (at_ : Int) + 3) (by omega) (by omega)
  generalize ds.getD (at_ : Int).toNat 0 = d0 at i0
  generalize ds.getD ((at_ : Int) + 1).toNat 0 = d1 at i1
  generalize ds.getD ((at_ : Int) + 2).toNat 0 = d2 at i2
  generalize ds.getD ((at_ : Int) + 3).toNat 0 = d3 at i3
  have q1 : 0 ≤ d0 % 4 := Int.emod_nonneg _ (by decide)
  have q2 : d0 % 4 < 4 := Int.emod_lt_of_pos _ (by decide)
  have m1 : 0 ≤ d1 % 12 := Int.emod_nonneg _ (by decide)
  have m2 : d1 % 12 < 12 := Int.emod_lt_of_pos _ (by decide)
  have f1 : 0 ≤ d2 % 14 := Int.emod_nonneg _ (by decide)
  have f2 : d2 % 14 < 14 := Int.emod_lt_of_pos _ (by decide)
  have s1 : 0 ≤ d3 % 7 := Int.emod_nonneg _ (by decide)
  have s2 : d3 % 7 < 7 := Int.emod_lt_of_pos _ (by decide)
  obtain ⟨on, ⟨o1, o2⟩, ho⟩ := four_ix 9 1 20 0 (d0 % 4) q1 q2 (fun v => 0 ≤ v ∧ v ≤ 20) (by decide) (by decide) (by decide) (by decide)
  generalize hkd : d0 % 4 = kd at q1 q2 ho
  generalize hmany : d1 % 12 = many at m1 m2
  generalize hfar : d2 % 14 = far at f1 f2
  obtain ⟨ls, lls, lok, e2⟩ : ∃ ls : List Int, ls.length ≤ 11 ∧ SmOk ls ∧ C__law_prices_2 [some (.l (iL ds), .bor), oi at_, oi kd, oi many, oi far, oi (on + d3 % 7), none, none] = .ok (.l (iL ls), .own) := by
    have ex : ∀ k : Nat, k < many.toNat → ∃ v : Int, (0 ≤ v ∧ v ≤ 100) ∧ ∀ m m' : Md, opIx (.l (iL [3 + (k : Int) / 3, 5, ds.getD ((at_ : Int) + 4 + (k : Int) % 6).toNat 0 % 30, 2 + (k : Int)]), m) (.i (.int kd), m') = .ok (.i (.int v), .own) := fun k hk => by
      have z1 : 0 ≤ ds.getD ((at_ : Int) + 4 + (k : Int) % 6).toNat 0 % 30 := Int.emod_nonneg _ (by decide)
      have z2 : ds.getD ((at_ : Int) + 4 + (k : Int) % 6).toNat 0 % 30 < 30 := Int.emod_lt_of_pos _ (by decide)
      exact four_ix _ _ _ _ kd q1 q2 (fun v => 0 ≤ v ∧ v ≤ 100) (by omega) (by omega) (by omega) (by omega)
    refine ⟨(List.range many.toNat).map fun k => if h : k < many.toNat then Classical.choose (ex k h) else 0, by simp; omega, fun x hx => ?_, ?_⟩
    · obtain ⟨k, hk, rfl⟩ := List.mem_map.mp hx
      have hk := List.mem_range.mp hk
      rw [dif_pos hk]
      exact (Classical.choose_spec (ex k hk)).1
    · rw [← map_int]
      refine comp_rg (m := .own) (lo := 0) _ (by simp [smI_ok (i := many) (by omega) (by omega)]) (by omega) fun k hk => ?_
      refine ⟨[some (.l (iL ds), .bor), oi at_, oi kd, oi many, oi far, oi (on + d3 % 7), none, oi (0 + (k : Int))], rfl, rfl, ?_⟩
      have ia := fun y y' : Md => ix_l (m := y) (m' := y') (xs := ds) (k := (at_ : Int) + 4 + (k : Int) % 6) (by omega) (by omega)
      have cs := (Classical.choose_spec (ex k hk)).2
      rw [dif_pos hk]
      generalize Classical.choose (ex k hk) = v at cs ⊢
      generalize ds.getD ((at_ : Int) + 4 + (k : Int) % 6).toNat 0 = x at ia cs
      simp [ia, cs]
  obtain ⟨fs, lfs, fok, e1⟩ : ∃ fs : List Int, fs.length ≤ 13 ∧ SmOk fs ∧ C__law_prices_1 [some (.l (iL ds), .bor), oi at_, oi kd, oi many, oi far, oi (on + d3 % 7), ot ls, none] = .ok (.l (iL fs), .own) := by
    have ex : ∀ k : Nat, k < far.toNat → ∃ v : Int, (0 ≤ v ∧ v ≤ 100) ∧ ∀ m m' : Md, opIx (.l (iL [1 + (k : Int) / 2, 0, ds.getD ((at_ : Int) + 5 + (k : Int) % 6).toNat 0 % 20, 1]), m) (.i (.int kd), m') = .ok (.i (.int v), .own) := fun k hk => by
      have z1 : 0 ≤ ds.getD ((at_ : Int) + 5 + (k : Int) % 6).toNat 0 % 20 := Int.emod_nonneg _ (by decide)
      have z2 : ds.getD ((at_ : Int) + 5 + (k : Int) % 6).toNat 0 % 20 < 20 := Int.emod_lt_of_pos _ (by decide)
      exact four_ix _ _ _ _ kd q1 q2 (fun v => 0 ≤ v ∧ v ≤ 100) (by omega) (by omega) (by omega) (by omega)
    refine ⟨(List.range far.toNat).map fun k => if h : k < far.toNat then Classical.choose (ex k h) else 0, by simp; omega, fun x hx => ?_, ?_⟩
    · obtain ⟨k, hk, rfl⟩ := List.mem_map.mp hx
      have hk := List.mem_range.mp hk
      rw [dif_pos hk]
      exact (Classical.choose_spec (ex k hk)).1
    · rw [← map_int]
      refine comp_rg (m := .own) (lo := 0) _ (by simp [smI_ok (i := far) (by omega) (by omega)]) (by omega) fun k hk => ?_
      refine ⟨[some (.l (iL ds), .bor), oi at_, oi kd, oi many, oi far, oi (on + d3 % 7), ot ls, oi (0 + (k : Int))], rfl, rfl, ?_⟩
      have ia := fun y y' : Md => ix_l (m := y) (m' := y') (xs := ds) (k := (at_ : Int) + 5 + (k : Int) % 6) (by omega) (by omega)
      have cs := (Classical.choose_spec (ex k hk)).2
      rw [dif_pos hk]
      generalize Classical.choose (ex k hk) = v at cs ⊢
      generalize ds.getD ((at_ : Int) + 5 + (k : Int) % 6).toNat 0 = x at ia cs
      simp [ia, cs]
  simp [G__law_prices, i0, i1, i2, i3, hkd, hmany, hfar, ho, e2, e1]
  exact hZ _ ⟨on + d3 % 7, ls, fs, ⟨by omega, by omega, lls, lok, lfs, fok⟩, rfl⟩
theorem lprices_ok (ds : List Int) (at_ : Nat) (h : at_ + 10 < ds.length) : ∃ o ls fs, Prc o ls fs ∧ F__law_prices [.l (iL ds), .i (.int at_)] = .ok (.i (pz o ls fs)) := by
  obtain ⟨o, ls, fs, P, e⟩ := lprices_sm ds at_ h
  exact ⟨o, ls, fs, P.prc, e⟩
end L2.Pv.T

namespace L2.Pv.T
open PySem PySem.Spec PyProof.Rows L2 L2.Pv
/-! ### costs from place to place, with no program in sight -/
def back (f : Nat → List Int → Int) (z : Int) (n : Nat) : Nat → List Int
  | 0 => [z]
  | k + 1 => f (n - (k + 1)) (back f z n k) :: back f z n k
theorem back_len (f : Nat → List Int → Int) (z : Int) (n : Nat) : ∀ k, (back f z n k).length = k + 1
  | 0 => rfl
  | k + 1 => by unfold back; rw [List.length_cons, back_len f z n k]
theorem back_drop (f : Nat → List Int → Int) (z : Int) (n : Nat) : ∀ m k, k ≤ m → (back f z n m).drop (m - k) = back f z n k
  | 0, k, h => by rw [show k = 0 by omega] <;> rfl
  | m + 1, k, h => by
    by_cases q : k = m + 1
    · rw [q, Nat.sub_self] <;> rfl
    · rw [show m + 1 - k = (m - k) + 1 by omega]
      show (back f z n m).drop (m - k) = _
      exact back_drop f z n m k (by omega)
theorem back_at (f : Nat → List Int → Int) (z : Int) (n p : Nat) (hp : p < n) : (back f z n n).getD p 0 = f p ((back f z n n).drop (p + 1)) := by
  have e1 := back_drop f z n n (n - p) (by omega)
  have e2 := back_drop f z n n (n - (p + 1)) (by omega)
  rw [show n - (n - p) = p by omega] at e1
  rw [show n - (n - (p + 1)) = p + 1 by omega] at e2
  have e3 : (back f z n n).getD p 0 = ((back f z n n).drop p).getD 0 0 := by rw [getD_drop]; rfl
  rw [e3, e1, e2, show n - p = n - (p + 1) + 1 by omega]
  show f (n - (n - (p + 1) + 1)) _ = _
  rw [show n - (n - (p + 1) + 1) = p by omega]
theorem back_end (f : Nat → List Int → Int) (z : Int) (n : Nat) : (back f z n n).getD n 0 = z := by
  have e1 := back_drop f z n n 0 (by omega)
  rw [Nat.sub_zero] at e1
  have e3 : (back f z n n).getD n 0 = ((back f z n n).drop n).getD 0 0 := by rw [getD_drop]; rfl
  rw [e3, e1] <;> rfl
def minL (xs : List Int) : Int := xs.min?.getD 0
theorem min_some {x : Int} {xs : List Int} : (x :: xs).min? = some (minL (x :: xs)) := by
  unfold minL
  rw [List.min?_cons'] <;> rfl
theorem minL_spec {xs : List Int} (h : xs ≠ []) : minL xs ∈ xs ∧ ∀ y ∈ xs, minL xs ≤ y := by
  cases xs with
  | nil => exact absurd rfl h
  | cons x xs => exact (List.min?_eq_some_iff (a := minL (x :: xs))).mp min_some
section dag
variable {β : Type} (G : Nat → List β) (sz : β → Nat) (pr : β → Int) (n : Nat)
def fC (p : Nat) (tail : List Int) : Int := minL ((G p).map fun b => pr b + tail.getD (sz b - 1) 0)
/-- the least costs of what is behind -/
def cB : List Int := back (fC G sz pr) 0 n n
structure Dag : Prop where
  s1 : ∀ p, p < n → ∀ b ∈ G p, 1 ≤ sz b ∧ p + sz b ≤ n
  one : ∀ p, p < n → ∃ b ∈ G p, sz b = 1
variable {G sz pr n}
theorem Dag.ne (D : Dag G sz n) {p : Nat} (hp : p < n) : G p ≠ [] := by
  obtain ⟨b, h, _⟩ := D.one p hp
  intro z; rw [z] at h; cases h
theorem cB_len : (cB G sz pr n).length = n + 1 := back_len _ _ _ _
theorem cB_end : (cB G sz pr n).getD n 0 = 0 := back_end _ _ _
theorem cB_at (D : Dag G sz n) {p : Nat} (hp : p < n) : (cB G sz pr n).getD p 0 = minL ((G p).map fun b => pr b + (cB G sz pr n).getD (p + sz b) 0) := by
  have e := back_at (fC G sz pr) 0 n p hp
  unfold cB
  rw [e]
  unfold fC
  congr 1
  refine List.map_congr_left fun b hb => ?_
  rw [getD_drop, show p + 1 + (sz b - 1) = p + sz b by have := (D.s1 p hp b hb).1; omega]
theorem cB_le (D : Dag G sz n) {p : Nat} (hp : p < n) {b : β} (hb : b ∈ G p) : (cB G sz pr n).getD p 0 ≤ pr b + (cB G sz pr n).getD (p + sz b) 0 := by
  rw [cB_at D hp]
  exact (minL_spec (by simpa using D.ne hp)).2 _ (List.mem_map.mpr ⟨b, hb, rfl⟩)
theorem cB_ex (D : Dag G sz n) {p : Nat} (hp : p < n) : ∃ b ∈ G p, (cB G sz pr n).getD p 0 = pr b + (cB G sz pr n).getD (p + sz b) 0 := by
  have := (minL_spec (xs := (G p).map fun b => pr b + (cB G sz pr n).getD (p + sz b) 0) (by simpa using D.ne hp)).1
  rw [← cB_at D hp] at this
  obtain ⟨b, hb, e⟩ := List.mem_map.mp this
  exact ⟨b, hb, e.symm⟩
/-- levels that hold -/
def Feas (G : Nat → List β) (sz : β → Nat) (pr : β → Int) (n : Nat) (v : Nat → Int) : Prop := ∀ p, p < n → ∀ b ∈ G p, v (p + sz b) ≤ v p + pr b
/-- no row is cheaper than levels that hold -/
theorem feas_le (D : Dag G sz n) {v : Nat → Int} (hv : Feas G sz pr n v) : ∀ k, k ≤ n → v n ≤ v (n - k) + (cB G sz pr n).getD (n - k) 0 := by
  intro k
  induction k using Nat.strongRecOn with
  | ind k ih =>
    intro hk
    by_cases q : k = 0
    · subst q; rw [Nat.sub_zero, cB_end]; omega
    · obtain ⟨b, hb, e⟩ := cB_ex (pr := pr) D (p := n - k) (by omega)
      obtain ⟨h1, h2⟩ := D.s1 (n - k) (by omega) b hb
      have := hv (n - k) (by omega) b hb
      have ih' := ih (k - sz b) (by omega) (by omega)
      rw [show n - (k - sz b) = n - k + sz b by omega] at ih'
      omega
theorem feas_end (D : Dag G sz n) {v : Nat → Int} (hv : Feas G sz pr n v) : v n ≤ v 0 + (cB G sz pr n).getD 0 0 := by
  have := feas_le D hv n (Nat.le_refl _)
  rwa [Nat.sub_self] at this
/-- each level comes from a step -/
def Att (G : Nat → List β) (sz : β → Nat) (pr : β → Int) (n : Nat) (v : Nat → Int) : Prop := ∀ q, 0 < q → q ≤ n → ∃ p, p < q ∧ ∃ b ∈ G p, p + sz b = q ∧ v q = v p + pr b
theorem att_le (D : Dag G sz n) {v : Nat → Int} (hv : Att G sz pr n v) : ∀ q, q ≤ n → (cB G sz pr n).getD 0 0 ≤ v q - v 0 + (cB G sz pr n).getD q 0 := by
  intro q
  induction q using Nat.strongRecOn with
  | ind q ih =>
    intro hq
    by_cases z : q = 0
    · subst z; omega
    · obtain ⟨p, hp, b, hb, e1, e2⟩ := hv q (by omega) hq
      have h1 := ih p hp (by omega)
      have h2 := cB_le (pr := pr) D (p := p) (by omega) hb
      rw [e1] at h2
      omega
theorem levels_end (D : Dag G sz n) {v : Nat → Int} (h0 : v 0 = 0) (hf : Feas G sz pr n v) (ha : Att G sz pr n v) : v n = (cB G sz pr n).getD 0 0 := by
  have h1 := feas_end D hf
  have h2 := att_le D ha n (Nat.le_refl _)
  rw [cB_end] at h2
  omega
theorem levels_unique (D : Dag G sz n) {v w : Nat → Int} (h0 : v 0 = w 0) (hf : Feas G sz pr n v) (ha : Att G sz pr n v) (hf' : Feas G sz pr n w) (ha' : Att G sz pr n w) : ∀ q, q ≤ n → v q = w q := by
  intro q
  induction q using Nat.strongRecOn with
  | ind q ih =>
    intro hq
    by_cases z : q = 0
    · rw [z]; exact h0
    · obtain ⟨p, hp, b, hb, e1, e2⟩ := ha q (by omega) hq
      obtain ⟨p', hp', b', hb', e1', e2'⟩ := ha' q (by omega) hq
      have i1 := ih p hp (by omega)
      have i2 := ih p' hp' (by omega)
      have f1 := hf p' (by omega) b' hb'
      have f2 := hf' p (by omega) b hb
      rw [e1'] at f1
      rw [e1] at f2
      omega
/-! levels while they are made -/
structure LI (sz : β → Nat) (pr : β → Int) (n : Nat) (L : List (Option Int)) (P : Nat → β → Prop) : Prop where
  len : L.length = n + 1
  z : L.getD 0 none = some 0
  fe : ∀ p b, P p b → ∃ u v, L.getD p none = some u ∧ L.getD (p + sz b) none = some v ∧ v ≤ u + pr b
  at_ : ∀ q v, 0 < q → L.getD q none = some v → ∃ p b u, P p b ∧ p + sz b = q ∧ L.getD p none = some u ∧ v = u + pr b
  bd : ∀ q v, L.getD q none = some v → 0 ≤ v ∧ v ≤ 2000 * (q : Int)
theorem getD_set {α : Type} (L : List α) (i j : Nat) (x d : α) (h : i < L.length) : (L.set i x).getD j d = if j = i then x else L.getD j d := by
  rw [List.getD_eq_getElem?_getD, List.getD_eq_getElem?_getD, List.getElem?_set]
  by_cases q : i = j
  · subst q; simp [h]
  · rw [if_neg q, if_neg (fun z => q z.symm)]
theorem LI.new {L : List (Option Int)} {P : Nat → β → Prop} (I : LI sz pr n L P) {k : Nat} {b : β} {u : Int} (hP : ∀ p b, P p b → p ≤ k) (hs : 1 ≤ sz b) (hn : k + sz b ≤ n) (hp : 0 ≤ pr b) (hp2 : pr b ≤ 2000) (hu : L.getD k none = some u)
    (hc : ∀ v, L.getD (k + sz b) none = some v → u + pr b < v) : LI sz pr n (L.set (k + sz b) (some (u + pr b))) (fun p c => P p c ∨ p = k ∧ c = b) := by
  have hl : k + sz b < L.length := by rw [I.len]; omega
  refine ⟨by rw [List.length_set]; exact I.len, ?_, ?_, ?_, ?_⟩
  · rw [getD_set _ _ _ _ _ hl, if_neg (by omega)]; exact I.z
  · rintro p c (h | ⟨rfl, rfl⟩)
    · have hpk := hP p c h
      obtain ⟨u', v', h1, h2, h3⟩ := I.fe p c h
      rw [getD_set _ _ _ _ _ hl, getD_set _ _ _ _ _ hl, if_neg (by omega)]
      by_cases q : p + sz c = k + sz b
      · rw [if_pos q]
        rw [q] at h2
        have := hc v' h2
        exact ⟨u', _, h1, rfl, by omega⟩
      · rw [if_neg q]
        exact ⟨u', v', h1, h2, h3⟩
    · rw [getD_set _ _ _ _ _ hl, getD_set _ _ _ _ _ hl, if_neg (by omega), if_pos rfl]
      exact ⟨u, _, hu, rfl, Int.le_refl _⟩
  · intro q v hq h
    rw [getD_set _ _ _ _ _ hl] at h
    by_cases e : q = k + sz b
    · rw [if_pos e] at h
      cases h
      refine ⟨k, b, u, .inr ⟨rfl, rfl⟩, e.symm, ?_, rfl⟩
      rw [getD_set _ _ _ _ _ hl, if_neg (by omega)]; exact hu
    · rw [if_neg e] at h
      obtain ⟨p, c, u', h1, h2, h3, h4⟩ := I.at_ q v hq h
      refine ⟨p, c, u', .inl h1, h2, ?_, h4⟩
      have := hP p c h1
      rw [getD_set _ _ _ _ _ hl, if_neg (by omega)]; exact h3
  · intro q v h
    rw [getD_set _ _ _ _ _ hl] at h
    by_cases e : q = k + sz b
    · rw [if_pos e] at h
      cases h
      have := I.bd k u hu
      omega
    · rw [if_neg e] at h
      exact I.bd q v h
theorem LI.old {L : List (Option Int)} {P : Nat → β → Prop} (I : LI sz pr n L P) {k : Nat} {b : β} {u v : Int} (hu : L.getD k none = some u) (hv : L.getD (k + sz b) none = some v) (hc : v ≤ u + pr b) : LI sz pr n L (fun p c => P p c ∨ p = k ∧ c = b) := by
  refine ⟨I.len, I.z, ?_, ?_, I.bd⟩
  · rintro p c (h | ⟨rfl, rfl⟩)
    · exact I.fe p c h
    · exact ⟨u, v, hu, hv, hc⟩
  · intro q v' hq h
    obtain ⟨p, c, u', h1, h2, h3, h4⟩ := I.at_ q v' hq h
    exact ⟨p, c, u', .inl h1, h2, h3, h4⟩
theorem LI.iff {L : List (Option Int)} {P P' : Nat → β → Prop} (I : LI sz pr n L P) (h : ∀ p b, P p b ↔ P' p b) : LI sz pr n L P' := by
  have : P = P' := funext fun p => funext fun b => propext (h p b)
  rwa [← this]
theorem LI.init : LI sz pr n (some 0 :: List.replicate n none) (fun _ _ => False) := by
  refine ⟨by simp, rfl, fun _ _ h => h.elim, fun q v hq h => ?_, fun q v h => ?_⟩
  · obtain ⟨j, rfl⟩ : ∃ j, q = j + 1 := ⟨q - 1, by omega⟩
    rw [List.getD_cons_succ, List.getD_eq_getElem?_getD, List.getElem?_replicate] at h
    split at h <;> cases h
  · cases q with
    | zero => cases h; omega
    | succ j =>
      rw [List.getD_cons_succ, List.getD_eq_getElem?_getD, List.getElem?_replicate] at h
      split at h <;> cases h
/-- all places ahead of k gone through -/
def Pk (G : Nat → List β) (k j : Nat) (p : Nat) (b : β) : Prop := p < k ∧ b ∈ G p ∨ p = k ∧ b ∈ (G k).take j
theorem LI.here {L : List (Option Int)} (D : Dag G sz n) {k j : Nat} (hk : k ≤ n) (I : LI sz pr n L (Pk G k j)) : ∃ u, L.getD k none = some u := by
  by_cases z : k = 0
  · exact ⟨0, by rw [z]; exact I.z⟩
  · obtain ⟨b, hb, e⟩ := D.one (k - 1) (by omega)
    obtain ⟨u, v, h1, h2, h3⟩ := I.fe (k - 1) b (.inl ⟨by omega, hb⟩)
    rw [e, show k - 1 + 1 = k by omega] at h2
    exact ⟨v, h2⟩
theorem Pk_next (k j : Nat) (hj : j < (G k).length) (p : Nat) (b : β) : (Pk G k j p b ∨ p = k ∧ b = (G k)[j]) ↔ Pk G k (j + 1) p b := by
  unfold Pk
  rw [List.take_succ_eq_append_getElem hj, List.mem_append, List.mem_singleton]
  constructor
  · rintro ((h | h) | h)
    · exact .inl h
    · exact .inr ⟨h.1, .inl h.2⟩
    · exact .inr ⟨h.1, .inr h.2⟩
  · rintro (h | ⟨h, h2 | h2⟩)
    · exact .inl (.inl h)
    · exact .inl (.inr ⟨h, h2⟩)
    · exact .inr ⟨h, h2⟩
theorem Pk_turn (k : Nat) (p : Nat) (b : β) : Pk G k (G k).length p b ↔ Pk G (k + 1) 0 p b := by
  unfold Pk
  rw [List.take_length]
  constructor
  · rintro (⟨h, h2⟩ | ⟨rfl, h2⟩)
    · exact .inl ⟨by omega, h2⟩
    · exact .inl ⟨by omega, h2⟩
  · rintro (⟨h, h2⟩ | ⟨_, h2⟩)
    · by_cases q : p = k
      · subst q; exact .inr ⟨rfl, h2⟩
      · exact .inl ⟨by omega, h2⟩
    · cases h2
/-- what is told at the end -/
theorem LI.done {L : List (Option Int)} (D : Dag G sz n) (I : LI sz pr n L (Pk G n 0)) : ∃ lv : List Int, L = lv.map some ∧ lv.length = n + 1 ∧ lv.getD 0 0 = 0 ∧ Feas G sz pr n (fun p => lv.getD p 0) ∧ Att G sz pr n (fun p => lv.getD p 0) ∧ ∀ x ∈ lv, 0 ≤ x ∧ x ≤ 2000 * (n : Int) := by
  have all : ∀ q, q ≤ n → ∃ u, L.getD q none = some u := by
    intro q hq
    by_cases z : q = 0
    · exact ⟨0, by rw [z]; exact I.z⟩
    · obtain ⟨b, hb, e⟩ := D.one (q - 1) (by omega)
      obtain ⟨u, v, h1, h2, h3⟩ := I.fe (q - 1) b (.inl ⟨by omega, hb⟩)
      rw [e, show q - 1 + 1 = q by omega] at h2
      exact ⟨v, h2⟩
  have gd : ∀ q, q ≤ n → L.getD q none = some ((L.map fun x => x.getD 0).getD q 0) := by
    intro q hq
    obtain ⟨u, hu⟩ := all q hq
    have hl : q < L.length := by rw [I.len]; omega
    rw [hu]
    rw [List.getD_eq_getElem?_getD, List.getElem?_eq_getElem hl] at hu
    rw [List.getD_eq_getElem?_getD, List.getElem?_map, List.getElem?_eq_getElem hl]
    simp only [Option.getD_some, Option.map_some] at hu ⊢
    rw [hu] <;> rfl
  have eL : L = (L.map fun x => x.getD 0).map some := by
    refine List.ext_getElem (by simp) fun q h1 h2 => ?_
    have := gd q (by rw [I.len] at h1; omega)
    rw [List.getD_eq_getElem?_getD, List.getElem?_eq_getElem h1] at this
    rw [List.getD_eq_getElem?_getD, List.getElem?_map, List.getElem?_eq_getElem h1] at this
    simpa using this
  refine ⟨L.map fun x => x.getD 0, eL, by rw [List.length_map]; exact I.len, ?_, ?_, ?_, ?_⟩
  · have := gd 0 (by omega)
    rw [I.z] at this
    exact (Option.some.inj this).symm
  · intro p hp b hb
    obtain ⟨u, v, h1, h2, h3⟩ := I.fe p b (.inl ⟨hp, hb⟩)
    have hs := D.s1 p hp b hb
    rw [gd p (by omega)] at h1
    rw [gd (p + sz b) (by omega)] at h2
    have h1 := Option.some.inj h1
    have h2 := Option.some.inj h2
    simp only
    omega
  · intro q hq hqn
    obtain ⟨p, b, u, h1, h2, h3, h4⟩ := I.at_ q _ hq (gd q hqn)
    rcases h1 with ⟨h1, hb⟩ | ⟨h1, hb⟩
    · have hs := D.s1 p h1 b hb
      rw [gd p (by omega)] at h3
      have h3 := Option.some.inj h3
      refine ⟨p, by omega, b, hb, h2, ?_⟩
      simp only
      rw [h4, ← h3]
    · cases hb
  · intro x hx
    obtain ⟨q, hq, e⟩ := List.getElem_of_mem hx
    have hq' : q ≤ n := by rw [List.length_map, I.len] at hq; omega
    have := I.bd q _ (gd q hq')
    rw [List.getD_eq_getElem?_getD, List.getElem?_eq_getElem hq, Option.getD_some, e] at this
    refine ⟨this.1, by omega⟩
/-! how many rows are behind, and how many of the least cost -/
variable (G sz pr n)
def cnE : List Int := back (fun p tail => ((G p).map fun b => tail.getD (sz b - 1) 0).sum) 1 n n
def cnL : List Int := back (fun p tail => (((G p).filter fun b => decide (pr b + (cB G sz pr n).getD (p + sz b) 0 = (cB G sz pr n).getD p 0)).map fun b => tail.getD (sz b - 1) 0).sum) 1 n n
variable {G sz pr n}
theorem cnE_len : (cnE G sz n).length = n + 1 := back_len _ _ _ _
theorem cnL_len : (cnL G sz pr n).length = n + 1 := back_len _ _ _ _
theorem cnE_end : (cnE G sz n).getD n 0 = 1 := back_end _ _ _
theorem cnL_end : (cnL G sz pr n).getD n 0 = 1 := back_end _ _ _
theorem cnE_at (D : Dag G sz n) {p : Nat} (hp : p < n) : (cnE G sz n).getD p 0 = ((G p).map fun b => (cnE G sz n).getD (p + sz b) 0).sum := by
  unfold cnE
  rw [back_at _ _ _ _ hp]
  congr 1
  refine List.map_congr_left fun b hb => ?_
  rw [getD_drop, show p + 1 + (sz b - 1) = p + sz b by have := (D.s1 p hp b hb).1; omega]
theorem cnL_at (D : Dag G sz n) {p : Nat} (hp : p < n) : (cnL G sz pr n).getD p 0 = (((G p).filter fun b => decide (pr b + (cB G sz pr n).getD (p + sz b) 0 = (cB G sz pr n).getD p 0)).map fun b => (cnL G sz pr n).getD (p + sz b) 0).sum := by
  conv => lhs; unfold cnL
  rw [back_at _ _ _ _ hp]
  congr 1
  refine List.map_congr_left fun b hb => ?_
  rw [getD_drop, show p + 1 + (sz b - 1) = p + sz b by have := (D.s1 p hp b (List.mem_filter.mp hb).1).1; omega]
  rfl
end dag
/-! a row that is filled from behind -/
def shL (c : Int) (X : List Int) (p : Nat) : List Int := List.replicate p c ++ X.drop p
theorem sh_len {c : Int} {X : List Int} {p : Nat} (h : p ≤ X.length) : (shL c X p).length = X.length := by
  unfold shL; rw [List.length_append, List.length_replicate, List.length_drop]; omega
theorem sh_get {c : Int} {X : List Int} {p j : Nat} (h : p ≤ j) : (shL c X p).getD j 0 = X.getD j 0 := by
  unfold shL
  rw [List.getD_eq_getElem?_getD, List.getElem?_append_right (by simpa using h), List.length_replicate, List.getElem?_drop, show p + (j - p) = j by omega, ← List.getD_eq_getElem?_getD]
theorem sh_set {c : Int} {X : List Int} {p : Nat} (h : p < X.length) : (shL c X (p + 1)).set p (X.getD p 0) = shL c X p := by
  unfold shL
  have e : List.replicate (p + 1) c = List.replicate p c ++ [c] := List.replicate_succ'
  rw [e, List.append_assoc, List.set_append_right _ _ (by simp), List.length_replicate, Nat.sub_self]
  rw [List.drop_eq_getElem_cons h, List.getD_eq_getElem?_getD, List.getElem?_eq_getElem h] <;> rfl
theorem sh_zero {c : Int} {X : List Int} : shL c X 0 = X := by unfold shL; simp
theorem sh_all {c : Int} {X : List Int} {n : Nat} (h : X.length = n + 1) (e : X.getD n 0 = c) : List.replicate (n + 1) c = shL c X n := by
  unfold shL
  rw [List.drop_eq_getElem_cons (by omega), List.drop_eq_nil_of_le (by omega), ← e, List.getD_eq_getElem?_getD, List.getElem?_eq_getElem (by omega)]
  exact List.replicate_succ'
/-! walks -/
section walk
variable {β : Type} (G : Nat → List β) (sz : β → Nat) (pr : β → Int) (n : Nat)
def Tr : Nat → List (Nat × β) → Prop
  | p, [] => p = n
  | p, x :: T => x.1 = p ∧ p < n ∧ x.2 ∈ G p ∧ Tr (p + sz x.2) T
def trip (ch : Nat → β) : Nat → Nat → List (Nat × β)
  | 0, _ => []
  | f + 1, p => if p < n then (p, ch p) :: trip ch f (p + sz (ch p)) else []
def cost (T : List (Nat × β)) : Int := (T.map fun x => pr x.2).sum
variable {G sz pr n}
theorem trip_tr (D : Dag G sz n) {ch : Nat → β} (hc : ∀ p, p < n → ch p ∈ G p) : ∀ f p, p ≤ n → n ≤ p + f → Tr G sz n p (trip sz n ch f p)
  | 0, p, h1, h2 => by show p = n; omega
  | f + 1, p, h1, h2 => by
    unfold trip
    by_cases q : p < n
    · rw [if_pos q]
      have := D.s1 p q _ (hc p q)
      exact ⟨rfl, q, hc p q, trip_tr D hc f (p + sz (ch p)) this.2 (by omega)⟩
    · rw [if_neg q]; show p = n; omega
theorem tr_len (D : Dag G sz n) : ∀ (T : List (Nat × β)) (p : Nat), Tr G sz n p T → p + T.length ≤ n
  | [], p, h => by have h : p = n := h; simp; omega
  | x :: T, p, ⟨h1, h2, h3, h4⟩ => by
    have := tr_len D T _ h4
    have := (D.s1 p h2 _ h3).1
    rw [List.length_cons]; omega
theorem tr_feas (D : Dag G sz n) {v : Nat → Int} (hv : Feas G sz pr n v) : ∀ (T : List (Nat × β)) (p : Nat), Tr G sz n p T → v n ≤ v p + cost pr T
  | [], p, h => by have h : p = n := h; subst h; unfold cost; simp
  | x :: T, p, ⟨h1, h2, h3, h4⟩ => by
    have i := tr_feas D hv T _ h4
    have := hv p h2 x.2 h3
    unfold cost at i ⊢
    rw [List.map_cons, List.sum_cons]
    omega
theorem tr_cB (D : Dag G sz n) : ∀ (T : List (Nat × β)) (p : Nat), Tr G sz n p T → (∀ x ∈ T, (cB G sz pr n).getD x.1 0 = pr x.2 + (cB G sz pr n).getD (x.1 + sz x.2) 0) → (cB G sz pr n).getD p 0 = cost pr T
  | [], p, h, _ => by have h : p = n := h; subst h; rw [cB_end]; rfl
  | x :: T, p, ⟨h1, h2, h3, h4⟩, ht => by
    have i := tr_cB D T _ h4 (fun y hy => ht y (List.mem_cons_of_mem _ hy))
    have := ht x List.mem_cons_self
    unfold cost at i ⊢
    rw [List.map_cons, List.sum_cons, ← i, ← h1]
    rw [h1] at this ⊢
    exact this
end walk
end L2.Pv.T

namespace L2.Pv.T
open PySem PySem.Spec PyProof.Rows L2 L2.Pv
/-! ### the steps, as a graph -/
def stS (a : List Int) (nl nd p : Nat) : List (Option (Nat × Nat)) := (stL a nl nd p).map some ++ [none]
theorem mem_stS {a : List Int} {nl nd p : Nat} {b : Option (Nat × Nat)} : b ∈ stS a nl nd p ↔ b = none ∨ ∃ x, b = some x ∧ x ∈ cps a nl nd p := by
  unfold stS
  rw [List.mem_append, List.mem_map, List.mem_singleton]
  constructor
  · rintro (⟨x, h, rfl⟩ | h)
    · exact .inr ⟨x, rfl, mem_stL.mp h⟩
    · exact .inl h
  · rintro (h | ⟨x, rfl, h⟩)
    · exact .inr h
    · exact .inl ⟨x, mem_stL.mpr h, rfl⟩
theorem stS_len (a : List Int) (nl nd p : Nat) (ha : a.length ≤ 60) (hd : nd ≤ 60) : (stS a nl nd p).length ≤ 3601 := by
  unfold stS
  have := cps_len a nl nd p ha hd
  rw [List.length_append, List.length_map, stL_len]
  simp; omega
theorem stS_dag (a : List Int) (nl nd : Nat) : Dag (stS a nl nd) gsz a.length where
  s1 := fun p hp b hb => by
    rcases mem_stS.mp hb with rfl | ⟨x, rfl, hx⟩
    · exact ⟨Nat.le_refl _, hp⟩
    · obtain ⟨h1, h2, h3, h4, h5, h6⟩ := mem_cps.mp hx
      have := cl_le a p x.2
      refine ⟨by show 1 ≤ x.1; omega, by show p + x.1 ≤ _; omega⟩
  one := fun p hp => ⟨none, mem_stS.mpr (.inl rfl), rfl⟩
theorem map_bI (a : List Int) (nl nd p : Nat) (o : Int) : (stS a nl nd p).map (bI o) = (stL a nl nd p).map cpI ++ [oneI o] := by
  unfold stS
  rw [List.map_append, List.map_map] <;> rfl
theorem steps_b (a : List Int) (p : Nat) {o : Int} {ls fs : List Int} (P : Prc o ls fs) (ha : a.length ≤ 60) (hp : p < a.length) :
    F__steps [tp a, .i (pz o ls fs), .i (.int p)] = .ok (.l ((stS a ls.length fs.length p).map (bI (a.getD p 0)))) := by
  rw [steps_eq a p P ha hp, map_bI]
def spr (o : Int) (ls fs : List Int) : Option (Nat × Nat) → Int
  | none => o
  | some x => ls.getD (x.1 - 2) 0 + fs.getD (x.2 - 1) 0
theorem prok_getD {ls : List Int} (h : PrOk ls) (i : Nat) : 0 ≤ ls.getD i 0 ∧ ls.getD i 0 ≤ 1000 := by
  rw [List.getD_eq_getElem?_getD]
  by_cases q : i < ls.length
  · rw [List.getElem?_eq_getElem q]; exact h _ (List.getElem_mem q)
  · rw [List.getElem?_eq_none (by omega)]; exact ⟨by decide, by decide⟩
theorem spr_bd {o : Int} {ls fs : List Int} (P : Prc o ls fs) (b : Option (Nat × Nat)) : 0 ≤ spr o ls fs b ∧ spr o ls fs b ≤ 2000 := by
  cases b with
  | none => exact ⟨P.o0, by have := P.o1; show o ≤ 2000; omega⟩
  | some x =>
    have h1 := prok_getD P.l1 (x.1 - 2)
    have h2 := prok_getD P.f1 (x.2 - 1)
    unfold spr
    simp only
    omega
theorem sp_eq {a : List Int} {p : Nat} {o : Int} {ls fs : List Int} (P : Prc o ls fs) {b : Option (Nat × Nat)} (hb : b ∈ stS a ls.length fs.length p) (ov : Int) :
    F_step_price [.i (pz o ls fs), .i (bI ov b)] = .ok (.i (.int (spr o ls fs b))) := by
  refine run_eq ?_
  rcases mem_stS.mp hb with rfl | ⟨x, rfl, hx⟩
  · have e0 : startE 2 [.i (pz o ls fs), .i (bI ov none)] = [some (.i (pz o ls fs), .own), some (.i (oneI ov), .own)] := rfl
    rw [e0]
    simp [G_step_price, oneI, str_oo, spr, pz]
  · have e0 : startE 2 [.i (pz o ls fs), .i (bI ov (some x))] = [some (.i (pz o ls fs), .own), some (.i (cpI x), .own)] := rfl
    rw [e0]
    obtain ⟨h1, h2, h3, h4, h5, h6⟩ := mem_cps.mp hx
    have i1 := fun m m' : Md => ix_tup (m := m) (m' := m') (xs := ls) (k := (x.1 : Int) - 2) (by omega) (by omega)
    have i2 := fun m m' : Md => ix_tup (m := m) (m' := m') (xs := fs) (k := (x.2 : Int) - 1) (by omega) (by omega)
    rw [show ((x.1 : Int) - 2).toNat = x.1 - 2 by omega] at i1
    rw [show ((x.2 : Int) - 1).toNat = x.2 - 1 by omega] at i2
    simp [G_step_price, cpI, str_co, spr, pz, i1, i2, -List.getD_eq_getElem?_getD]
/-! ### costs from behind -/
abbrev cBa (a : List Int) (o : Int) (ls fs : List Int) : List Int := cB (stS a ls.length fs.length) gsz (spr o ls fs) a.length
abbrev cLa (a : List Int) (o : Int) (ls fs : List Int) : List Int := cnL (stS a ls.length fs.length) gsz (spr o ls fs) a.length
abbrev cEa (a : List Int) (ls fs : List Int) : List Int := cnE (stS a ls.length fs.length) gsz a.length
theorem behind_eq (a : List Int) {o : Int} {ls fs : List Int} (P : Prc o ls fs) (ha : a.length ≤ 60) :
    F__behind [tp a, .i (pz o ls fs)] = .ok (.t [.l (iL (cBa a o ls fs)), .l (iL (cLa a o ls fs)), .l (iL (cEa a ls fs))]) := by
  have D := stS_dag a ls.length fs.length
  unfold cBa cLa cEa
  have lC : (cB (stS a ls.length fs.length) gsz (spr o ls fs) a.length).length = a.length + 1 := cB_len
  have lL : (cnL (stS a ls.length fs.length) gsz (spr o ls fs) a.length).length = a.length + 1 := cnL_len
  have lE : (cnE (stS a ls.length fs.length) gsz a.length).length = a.length + 1 := cnE_len
  have aC := fun p (hp : p < a.length) => cB_at (pr := spr o ls fs) D hp
  have aL := fun p (hp : p < a.length) => cnL_at (pr := spr o ls fs) D hp
  have aE := fun p (hp : p < a.length) => cnE_at D hp
  have sC := sh_all (c := 0) lC cB_end
  have sL := sh_all (c := 1) lL cnL_end
  have sE := sh_all (c := 1) lE cnE_end
  generalize hC : cB (stS a ls.length fs.length) gsz (spr o ls fs) a.length = C at *
  generalize hL : cnL (stS a ls.length fs.length) gsz (spr o ls fs) a.length = L at *
  generalize hE : cnE (stS a ls.length fs.length) gsz a.length = E at *
  refine run_eq ?_
  have e0 : startE 13 [tp a, .i (pz o ls fs)] = [ot a, some (.i (pz o ls fs), .own), none, none, none, none, none, none, none, none, none, none, none] := rfl
  rw [e0]
  have sm : ∀ x : Int, (List.replicate (a.length + 1) (iL [x])).flatten = iL (List.replicate (a.length + 1) x) := fun x => by
    rw [← iL_one, List.flatten_replicate_singleton]; simp
  simp [G__behind, show ((a.length : Int) + 1).natAbs < 9223372036854775808 by omega, show a.length + 1 ≤ 16777216 by omega, sm, rg3_down (i := (a.length : Int) - 1) (j := -1) (smI_ok (by omega) (by omega)) (by decide)]
  refine for_rgC (fun k ρ => ∃ v5 v6 v7 v8 v9 v10 v11 v12, ρ = [ot a, some (.i (pz o ls fs), .own), some (.l (iL (shL 0 C (a.length - k))), .own), some (.l (iL (shL 1 L (a.length - k))), .own), some (.l (iL (shL 1 E (a.length - k))), .own), v5, v6, v7, v8, v9, v10, v11, v12]) ⟨_, _, _, _, _, _, _, _, by rw [Nat.sub_zero, ← sC, ← sL, ← sE]⟩ ?_ ?_
  · rintro k hk W hW ρ ⟨v5, v6, v7, v8, v9, v10, v11, v12, rfl⟩
    obtain ⟨p, hp⟩ : ∃ p, p = a.length - (k + 1) := ⟨_, rfl⟩
    have hpn : p < a.length := by omega
    rw [show a.length - k = p + 1 by omega, show ((a.length : Int) - 1 + (k : Int) * -1) = (p : Int) by omega]
    rw [show a.length - (k + 1) = p by omega] at hW
    have se := steps_b a p P ha hpn
    have le := stS_len a ls.length fs.length p ha P.f0
    have aC := aC p hpn
    have aL := aL p hpn
    have aE := aE p hpn
    have s1 := D.s1 p hpn
    have ne := D.ne hpn
    have sp := fun b (hb : b ∈ stS a ls.length fs.length p) => sp_eq P hb (a.getD p 0)
    generalize stS a ls.length fs.length p = S at se le aC aL aE s1 ne sp
    generalize a.getD p 0 = ov at se sp
    have l0 : (shL 0 C (p + 1)).length = a.length + 1 := by rw [sh_len (by omega), lC]
    have l1 : (shL 1 L (p + 1)).length = a.length + 1 := by rw [sh_len (by omega), lL]
    have l2 : (shL 1 E (p + 1)).length = a.length + 1 := by rw [sh_len (by omega), lE]
    have c4 : C__behind_4 [ot a, some (.i (pz o ls fs), .own), some (.l (iL (shL 0 C (p + 1))), .own), some (.l (iL (shL 1 L (p + 1))), .own), some (.l (iL (shL 1 E (p + 1))), .own), oi p, some (.l (S.map (bI ov)), .own), v7, v8, v9, v10, v11, v12] = .ok (.l (S.map fun b => .tup (iL [spr o ls fs b + C.getD (p + gsz b) 0, ((p + gsz b : Nat) : Int)])), .own) := by
      refine comp_map (m := .tmp) (it := fun b => (.i (bI ov b), .own)) _ (by simp [elI]) (by omega) fun b hb => ?_
      refine ⟨[ot a, some (.i (pz o ls fs), .own), some (.l (iL (shL 0 C (p + 1))), .own), some (.l (iL (shL 1 L (p + 1))), .own), some (.l (iL (shL 1 E (p + 1))), .own), oi p, some (.l (S.map (bI ov)), .own), v7, some (.i (bI ov b), .own), v9, v10, v11, v12], rfl, rfl, ?_⟩
      obtain ⟨h1, h2⟩ := s1 b hb
      have ix := fun y y' : Md => ix_l (m := y) (m' := y') (xs := shL 0 C (p + 1)) (k := (p : Int) + gsz b) (by omega) (by omega)
      rw [show ((p : Int) + gsz b).toNat = p + gsz b by omega, sh_get (by omega)] at ix
      simp [size_b, sp b hb, ix, -List.getD_eq_getElem?_getD]
    have rws : ∀ m, itemsOf (.l (S.map fun b => .tup (iL [spr o ls fs b + C.getD (p + gsz b) 0, ((p + gsz b : Nat) : Int)])), m) = .ok (S.map (fun b => (DV.i (.tup (iL [spr o ls fs b + C.getD (p + gsz b) 0, ((p + gsz b : Nat) : Int)])), Md.own)), m) := fun m => by
      rw [itemsOf_l]; unfold elI; rw [List.map_map] <;> rfl
    generalize hR : (S.map fun b => IV.tup (iL [spr o ls fs b + C.getD (p + gsz b) 0, ((p + gsz b : Nat) : Int)])) = R at c4 rws
    have c3 : ∀ l3 l4 v8 v9 v10 v11 v12, C__behind_3 [ot a, some (.i (pz o ls fs), .own), some (.l (iL (shL 0 C (p + 1))), .own), l3, l4, oi p, some (.l (S.map (bI ov)), .own), some (.l R, .own), v8, v9, v10, v11, v12] = .ok (.l (iL (S.map fun b => spr o ls fs b + C.getD (p + gsz b) 0)), .own) := fun l3 l4 v8 v9 v10 v11 v12 => by
      rw [← map_int]
      refine comp_map (m := .tmp) (it := fun b => (DV.i (.tup (iL [spr o ls fs b + C.getD (p + gsz b) 0, ((p + gsz b : Nat) : Int)])), Md.own)) _ (by simp [rws]) (by omega) fun b hb => ?_
      exact ⟨[ot a, some (.i (pz o ls fs), .own), some (.l (iL (shL 0 C (p + 1))), .own), l3, l4, oi p, some (.l (S.map (bI ov)), .own), some (.l R, .own), v8, oi (spr o ls fs b + C.getD (p + gsz b) 0), oi ((p + gsz b : Nat) : Int), v11, v12], rfl, rfl, rfl⟩
    have om : ∀ m, opMinA (.l (iL (S.map fun b => spr o ls fs b + C.getD (p + gsz b) 0)), m) = .ok (.i (.int (C.getD p 0)), .own) := fun m => by
      rw [aC]
      refine opMinA_i ?_
      cases S with
      | nil => exact absurd rfl ne
      | cons b S => exact min_some
    have c2 : ∀ l4 v8 v9 v10 v11 v12, C__behind_2 [ot a, some (.i (pz o ls fs), .own), some (.l (iL (shL 0 C p)), .own), some (.l (iL (shL 1 L (p + 1))), .own), l4, oi p, some (.l (S.map (bI ov)), .own), some (.l R, .own), v8, v9, v10, v11, v12] = .ok (.l (iL ((S.filter fun b => decide (spr o ls fs b + C.getD (p + gsz b) 0 = C.getD p 0)).map fun b => L.getD (p + gsz b) 0)), .own) := fun l4 v8 v9 v10 v11 v12 => by
      rw [← map_int]
      refine comp_filter (m := .tmp) (it := fun b => (DV.i (.tup (iL [spr o ls fs b + C.getD (p + gsz b) 0, ((p + gsz b : Nat) : Int)])), Md.own)) _ _ (by simp [rws]) (by omega) fun b hb => ?_
      obtain ⟨h1, h2⟩ := s1 b hb
      have ix := fun y y' : Md => ix_l (m := y) (m' := y') (xs := shL 0 C p) (k := (p : Int)) (by omega) (by rw [sh_len (by omega)]; omega)
      rw [Int.toNat_natCast, sh_get (by omega)] at ix
      have ix2 := fun y y' : Md => ix_l (m := y) (m' := y') (xs := shL 1 L (p + 1)) (k := ((p + gsz b : Nat) : Int)) (by omega) (by omega)
      rw [Int.toNat_natCast, sh_get (by omega)] at ix2
      generalize hg : p + gsz b = g at ix2 ⊢
      refine ⟨[ot a, some (.i (pz o ls fs), .own), some (.l (iL (shL 0 C p)), .own), some (.l (iL (shL 1 L (p + 1))), .own), l4, oi p, some (.l (S.map (bI ov)), .own), some (.l R, .own), v8, oi (spr o ls fs b + C.getD g 0), v10, oi (g : Int), v12], rfl, ?_, fun _ => ?_⟩
      · simp [ix, -List.getD_eq_getElem?_getD]
      · simp [ix2, -List.getD_eq_getElem?_getD]
    have c1 : ∀ v8 v9 v10 v11 v12, C__behind_1 [ot a, some (.i (pz o ls fs), .own), some (.l (iL (shL 0 C p)), .own), some (.l (iL (shL 1 L p)), .own), some (.l (iL (shL 1 E (p + 1))), .own), oi p, some (.l (S.map (bI ov)), .own), some (.l R, .own), v8, v9, v10, v11, v12] = .ok (.l (iL (S.map fun b => E.getD (p + gsz b) 0)), .own) := fun v8 v9 v10 v11 v12 => by
      rw [← map_int]
      refine comp_map (m := .tmp) (it := fun b => (DV.i (.tup (iL [spr o ls fs b + C.getD (p + gsz b) 0, ((p + gsz b : Nat) : Int)])), Md.own)) _ (by simp [rws]) (by omega) fun b hb => ?_
      obtain ⟨h1, h2⟩ := s1 b hb
      have ix2 := fun y y' : Md => ix_l (m := y) (m' := y') (xs := shL 1 E (p + 1)) (k := ((p + gsz b : Nat) : Int)) (by omega) (by omega)
      rw [Int.toNat_natCast, sh_get (by omega)] at ix2
      generalize hg : p + gsz b = g at ix2 ⊢
      refine ⟨[ot a, some (.i (pz o ls fs), .own), some (.l (iL (shL 0 C p)), .own), some (.l (iL (shL 1 L p)), .own), some (.l (iL (shL 1 E (p + 1))), .own), oi p, some (.l (S.map (bI ov)), .own), some (.l R, .own), v8, v9, v10, oi (g : Int), oi (spr o ls fs b + C.getD g 0)], rfl, rfl, ?_⟩
      simp [ix2, -List.getD_eq_getElem?_getD]
    have t0 := set_l (xs := shL 0 C (p + 1)) (k := (p : Int)) (y := C.getD p 0) (m := .own) (by omega) (by omega)
    have t1 := set_l (xs := shL 1 L (p + 1)) (k := (p : Int)) (y := L.getD p 0) (m := .own) (by omega) (by omega)
    have t2 := set_l (xs := shL 1 E (p + 1)) (k := (p : Int)) (y := E.getD p 0) (m := .own) (by omega) (by omega)
    rw [Int.toNat_natCast, sh_set (by omega)] at t0 t1 t2
    generalize ((S.filter fun b => decide (spr o ls fs b + C.getD (p + gsz b) 0 = C.getD p 0)).map fun b => L.getD (p + gsz b) 0) = X2 at c2 aL
    generalize (S.map fun b => E.getD (p + gsz b) 0) = X1 at c1 aE
    simp [B__behind_5, se, c4, c3, om, t0, c2, ← aL, t1, c1, ← aE, t2, -List.getD_eq_getElem?_getD]
    exact hW.nx _ ⟨_, _, _, _, _, _, _, _, rfl⟩
  · rintro ρ ⟨v5, v6, v7, v8, v9, v10, v11, v12, rfl⟩
    rw [Nat.sub_self, sh_zero, sh_zero, sh_zero]
    simp
end L2.Pv.T

namespace L2.Pv.T
open PySem PySem.Spec PyProof.Rows L2 L2.Pv
theorem lsize_b (o : Int) (b : Option (Nat × Nat)) : F__law_size [.i (bI o b)] = .ok (.i (.int (gsz b))) := by
  cases b with
  | none =>
    refine run_eq ?_
    have e0 : startE 1 [.i (bI o none)] = [some (.i (oneI o), .own)] := rfl
    rw [e0]
    simp [G__law_size, oneI, str_oo, gsz]
  | some x =>
    refine run_eq ?_
    have e0 : startE 1 [.i (bI o (some x))] = [some (.i (cpI x), .own)] := rfl
    rw [e0]
    simp [G__law_size, cpI, str_co, gsz]
theorem lsteps_eq (a : List Int) (p : Nat) {o : Int} {ls fs : List Int} (P : Prc o ls fs) (ha : a.length ≤ 60) (hp : p < a.length) :
    F__law_steps [tp a, .i (pz o ls fs), .i (.int p)] = .ok (.l ((stL a ls.length fs.length p).map cpI ++ [oneI (a.getD p 0)])) := by
  have f0 := P.f0
  have l0 := P.l0
  refine run_eq ?_
  have e0 : startE 7 [tp a, .i (pz o ls fs), .i (.int p)] = [ot a, some (.i (pz o ls fs), .own), oi p, none, none, none, none] := rfl
  rw [e0]
  have pre : ∀ k, k ≤ min fs.length p → (((List.range k).flatMap fun i => (List.range (min (cl a p (i + 1)) (ls.length + 1) - 1)).map fun j => (j + 2, i + 1)) : List (Nat × Nat)).length ≤ k * 60 := by
    intro k
    induction k with
    | zero => intro _; simp
    | succ k ih =>
      intro hk
      have := ih (by omega)
      rw [List.range_succ, List.flatMap_append, List.length_append]
      simp only [List.flatMap_cons, List.flatMap_nil, List.append_nil, List.length_map, List.length_range]
      omega
  have lenc := pre (min fs.length p) (Nat.le_refl _)
  have mul : min fs.length p * 60 ≤ 60 * 60 := Nat.mul_le_mul (by omega) (Nat.le_refl _)
  have ip := fun m m' : Md => ix_tup (m := m) (m' := m') (xs := a) (k := (p : Int)) (by omega) (by omega)
  rw [Int.toNat_natCast] at ip
  generalize ho : a.getD p 0 = ov at ip
  simp [G__law_steps, pz, smI_ok (i := min (p : Int) fs.length + 1) (by omega) (by omega), show smI 1 = true from rfl]
  refine for_rg (fun k ρ => ∃ v4 v5 v6, ρ = [ot a, some (.i (pz o ls fs), .own), oi p, some (.l ((((List.range k).flatMap fun i => (List.range (min (cl a p (i + 1)) (ls.length + 1) - 1)).map fun j => (j + 2, i + 1)) : List (Nat × Nat)).map cpI), .own), v4, v5, v6]) ⟨none, none, none, rfl⟩ ?_ ?_
  · rintro k hk W hW ρ ⟨v4, v5, v6, rfl⟩
    have hk' : k < min fs.length p := by omega
    have lek := pre k (by omega)
    have mk : k * 60 ≤ 60 * 60 := Nat.mul_le_mul (by omega) (Nat.le_refl _)
    have le := cl_le a p (k + 1)
    have st : (((List.range (k + 1)).flatMap fun i => (List.range (min (cl a p (i + 1)) (ls.length + 1) - 1)).map fun j => (j + 2, i + 1)) : List (Nat × Nat)) = ((List.range k).flatMap fun i => (List.range (min (cl a p (i + 1)) (ls.length + 1) - 1)).map fun j => (j + 2, i + 1)) ++ (List.range (min (cl a p (k + 1)) (ls.length + 1) - 1)).map fun j => (j + 2, k + 1) := by
      rw [List.range_succ, List.flatMap_append]; simp
    rw [st, ← filter_len] at hW
    generalize (((List.range k).flatMap fun i => (List.range (min (cl a p (i + 1)) (ls.length + 1) - 1)).map fun j => (j + 2, i + 1)) : List (Nat × Nat)) = L at hW lek ⊢
    simp [B__law_steps_3, pz, smI_ok (i := (ls.length : Int) + 2) (by omega) (by omega), show smI 2 = true from rfl]
    refine for_rg (fun j ρ => ∃ acc v5 v6, acc = L ++ ((List.range j).filter fun j => decide (j + 2 ≤ cl a p (k + 1))).map (fun j => (j + 2, k + 1)) ∧ ρ = [ot a, some (.i (pz o ls fs), .own), oi p, some (.l (acc.map cpI), .own), oi (1 + (k : Int)), v5, v6]) ⟨L, v5, v6, by simp, rfl⟩ ?_ ?_
    · rintro j hj W2 hW2 ρ ⟨acc, v5, v6, hacc, rfl⟩
      have hj' : j < ls.length := by omega
      have lf := List.length_filter_le (fun j => decide (j + 2 ≤ cl a p (k + 1))) (List.range j)
      rw [List.length_range] at lf
      have la : acc.length < 16777216 := by rw [hacc]; simp; omega
      have nxt : ∀ z, decide (j + 2 ≤ cl a p (k + 1)) = z → L ++ ((List.range (j + 1)).filter fun j => decide (j + 2 ≤ cl a p (k + 1))).map (fun j => (j + 2, k + 1)) = acc ++ (if z then [(j + 2, k + 1)] else []) := by
        intro z hz
        rw [List.range_succ, List.filter_append, List.map_append, ← List.append_assoc, ← hacc]
        cases z
        · simp [hz]
        · simp [hz]
      by_cases q : p + (j + 2) ≤ a.length
      · have key := le_cl (a := a) (p := p) (d := k + 1) (L := j + 2) (by omega) q
        have c1 : C__law_steps_1 [ot a, some (.i (pz o ls fs), .own), oi p, some (.l (acc.map cpI), .own), oi (1 + (k : Int)), oi (2 + (j : Int)), v6] = .ok (.l ((List.range (j + 2)).map fun i => .bl (decide (a.getD (p + i) 0 = a.getD (p + i - (k + 1)) 0))), .own) := by
          refine comp_rg (m := .own) (lo := 0) _ ?_ (by omega) fun i hi => ?_
          · simp [smI_ok (i := 2 + (j : Int)) (by omega) (by omega)]
            congr 1
            omega
          · refine ⟨[ot a, some (.i (pz o ls fs), .own), oi p, some (.l (acc.map cpI), .own), oi (1 + (k : Int)), oi (2 + (j : Int)), oi (0 + (i : Int))], rfl, rfl, ?_⟩
            have ia := fun m m' : Md => ix_tup (m := m) (m' := m') (xs := a) (k := (p : Int) + i) (by omega) (by omega)
            have ib := fun m m' : Md => ix_tup (m := m) (m' := m') (xs := a) (k := (p : Int) + i - (1 + (k : Int))) (by omega) (by omega)
            rw [show ((p : Int) + i).toNat = p + i by omega] at ia
            rw [show ((p : Int) + i - (1 + (k : Int))).toNat = p + i - (k + 1) by omega] at ib
            generalize a.getD (p + i) 0 = x at ia ⊢
            generalize a.getD (p + i - (k + 1)) 0 = y at ib ⊢
            simp [ia, ib]
        have al : opAll (.l ((List.range (j + 2)).map fun i => IV.bl (decide (a.getD (p + i) 0 = a.getD (p + i - (k + 1)) 0))), .own) = .ok (.i (.bl (decide (j + 2 ≤ cl a p (k + 1)))), .own) := by
          rw [opAll_map]
          congr 4
          rw [Bool.eq_iff_iff, List.all_eq_true, decide_eq_true_eq, key]
          constructor
          · exact fun h i hi => of_decide_eq_true (h i (List.mem_range.mpr hi))
          · exact fun h i hi => decide_eq_true (h i (List.mem_range.mp hi))
        generalize ((List.range (j + 2)).map fun i => IV.bl (decide (a.getD (p + i) 0 = a.getD (p + i - (k + 1)) 0))) = lb at c1 al
        by_cases z : j + 2 ≤ cl a p (k + 1)
        · rw [decide_eq_true z] at al
          simp [B__law_steps_2, show (p : Int) + (2 + (j : Int)) ≤ a.length by omega, c1, al, la]
          refine hW2.nx _ ⟨acc ++ [(j + 2, k + 1)], oi (2 + (j : Int)), v6, (nxt true (decide_eq_true z)).symm, ?_⟩
          rw [List.map_append]
          have : cpI (j + 2, k + 1) = .tup (.str "copy" :: iL [2 + (j : Int), 1 + (k : Int)]) := by
            unfold cpI
            rw [show ((j + 2 : Nat) : Int) = 2 + (j : Int) by omega, show ((k + 1 : Nat) : Int) = 1 + (k : Int) by omega] <;> rfl
          rw [List.map_singleton, this] <;> rfl
        · rw [decide_eq_false z] at al
          simp [B__law_steps_2, show (p : Int) + (2 + (j : Int)) ≤ a.length by omega, c1, al]
          refine hW2.nx _ ⟨acc, _, _, ?_, rfl⟩
          rw [nxt false (decide_eq_false z)]; simp
      · have z : ¬ j + 2 ≤ cl a p (k + 1) := by omega
        simp [B__law_steps_2, show ¬ (p : Int) + (2 + (j : Int)) ≤ a.length by omega]
        refine hW2.nx _ ⟨acc, _, _, ?_, rfl⟩
        rw [nxt false (decide_eq_false z)]; simp
    · rintro ρ ⟨acc, v5, v6, hacc, rfl⟩
      subst hacc
      exact hW.nx _ ⟨_, _, _, rfl⟩
  · rintro ρ ⟨v4, v5, v6, rfl⟩
    have cd : (((List.range (min (p : Int) fs.length).toNat).flatMap fun i => (List.range (min (cl a p (i + 1)) (ls.length + 1) - 1)).map fun j => (j + 2, i + 1)) : List (Nat × Nat)) = cps a ls.length fs.length p := by
      rw [show (min (p : Int) fs.length).toNat = min fs.length p by omega] <;> rfl
    have lc : (cps a ls.length fs.length p).length ≤ min fs.length p * 60 := lenc
    have so : opSorted (.l ((cps a ls.length fs.length p).map cpI), .tmp) = .ok (.l ((stL a ls.length fs.length p).map cpI), .own) := by
      unfold opSorted items?
      simp only [ok_cps, if_true, stL_map]
    simp [cd, so, ip, stL_len, oneI, show (cps a ls.length fs.length p).length + 1 ≤ 16777216 by omega]
theorem lsteps_b (a : List Int) (p : Nat) {o : Int} {ls fs : List Int} (P : Prc o ls fs) (ha : a.length ≤ 60) (hp : p < a.length) :
    F__law_steps [tp a, .i (pz o ls fs), .i (.int p)] = .ok (.l ((stS a ls.length fs.length p).map (bI (a.getD p 0)))) := by
  rw [lsteps_eq a p P ha hp, map_bI]
theorem lpr_eq {a : List Int} {p : Nat} {o : Int} {ls fs : List Int} (P : Prc o ls fs) {b : Option (Nat × Nat)} (hb : b ∈ stS a ls.length fs.length p) (ov : Int) :
    F__law_price [.i (pz o ls fs), .i (bI ov b)] = .ok (.i (.int (spr o ls fs b))) := by
  refine run_eq ?_
  rcases mem_stS.mp hb with rfl | ⟨x, rfl, hx⟩
  · have e0 : startE 2 [.i (pz o ls fs), .i (bI ov none)] = [some (.i (pz o ls fs), .own), some (.i (oneI ov), .own)] := rfl
    rw [e0]
    simp [G__law_price, oneI, str_oo, spr, pz]
  · have e0 : startE 2 [.i (pz o ls fs), .i (bI ov (some x))] = [some (.i (pz o ls fs), .own), some (.i (cpI x), .own)] := rfl
    rw [e0]
    obtain ⟨h1, h2, h3, h4, h5, h6⟩ := mem_cps.mp hx
    have i1 := fun m m' : Md => ix_tup (m := m) (m' := m') (xs := ls) (k := (x.1 : Int) - 2) (by omega) (by omega)
    have i2 := fun m m' : Md => ix_tup (m := m) (m' := m') (xs := fs) (k := (x.2 : Int) - 1) (by omega) (by omega)
    rw [show ((x.1 : Int) - 2).toNat = x.1 - 2 by omega] at i1
    rw [show ((x.2 : Int) - 1).toNat = x.2 - 1 by omega] at i2
    simp [G__law_price, cpI, str_co, spr, pz, i1, i2, -List.getD_eq_getElem?_getD]
end L2.Pv.T

namespace L2.Pv.T
open PySem PySem.Spec PyProof.Rows L2 L2.Pv
theorem elI_map {α : Type} (f : α → IV) (xs : List α) : elI (xs.map f) = xs.map fun x => (DV.i (f x), Md.own) := by
  unfold elI; rw [List.map_map] <;> rfl
/-! ### levels -/
def oI : Option Int → IV
  | none => .non
  | some i => .int i
theorem oL_get (L : List (Option Int)) (k : Int) (m m' : Md) (h0 : 0 ≤ k) (h1 : k < L.length) : opIx (.l (L.map oI), m) (.i (.int k), m') = .ok (.i (oI (L.getD k.toNat none)), .own) := by
  have e : atI (L.map oI) k = some (oI (L.getD k.toNat none)) := by
    rw [atI_ok h0 (by simpa using h1)]
    rw [List.getElem_map, List.getD_eq_getElem?_getD, List.getElem?_eq_getElem (by omega)] <;> rfl
  unfold opIx
  simp only [e]
theorem oL_set (L : List (Option Int)) (k : Int) (x : Int) (m : Md) (h0 : 0 ≤ k) (h1 : k < L.length) : setD (.l (L.map oI)) k (.i (.int x), m) = some (.l ((L.set k.toNat (some x)).map oI)) := by
  show (ixN (L.map oI).length k).map (fun j => DV.l ((L.map oI).set j (.int x))) = _
  unfold ixN
  rw [List.length_map, if_pos h0, if_pos h1, Option.map_some, List.map_set] <;> rfl
theorem levels_eq (a : List Int) {o : Int} {ls fs : List Int} (P : Prc o ls fs) (ha : a.length ≤ 60) :
    ∃ lv : List Int, F__levels [tp a, .i (pz o ls fs)] = .ok (tp lv) ∧ lv.length = a.length + 1 ∧ lv.getD 0 0 = 0 ∧
      Feas (stS a ls.length fs.length) gsz (spr o ls fs) a.length (fun p => lv.getD p 0) ∧ Att (stS a ls.length fs.length) gsz (spr o ls fs) a.length (fun p => lv.getD p 0) ∧ ∀ x ∈ lv, 0 ≤ x ∧ x ≤ 2000 * (a.length : Int) := by
  have D := stS_dag a ls.length fs.length
  suffices h : ∃ d, F__levels [tp a, .i (pz o ls fs)] = .ok d ∧ ∃ lv : List Int, d = tp lv ∧ lv.length = a.length + 1 ∧ lv.getD 0 0 = 0 ∧
      Feas (stS a ls.length fs.length) gsz (spr o ls fs) a.length (fun p => lv.getD p 0) ∧ Att (stS a ls.length fs.length) gsz (spr o ls fs) a.length (fun p => lv.getD p 0) ∧ ∀ x ∈ lv, 0 ≤ x ∧ x ≤ 2000 * (a.length : Int) by
    obtain ⟨d, h1, lv, rfl, h2⟩ := h
    exact ⟨lv, h1, h2⟩
  refine run_ok _ fun Z hZ => ?_
  have e0 : startE 7 [tp a, .i (pz o ls fs)] = [ot a, some (.i (pz o ls fs), .own), none, none, none, none, none] := rfl
  rw [e0]
  have ini : iL [0] ++ (List.replicate a.length [IV.non]).flatten = (some 0 :: List.replicate a.length none).map oI := by
    rw [List.flatten_replicate_singleton, List.map_cons, List.map_replicate] <;> rfl
  simp [G__levels, show a.length < 9223372036854775808 by omega, show a.length ≤ 16777216 by omega, ini, show a.length + 1 ≤ 16777216 by omega, show 1 + a.length ≤ 16777216 by omega, smI_ok (i := (a.length : Int)) (by omega) (by omega)]
  refine for_rg (fun k ρ => ∃ L v3 v4 v5 v6, LI gsz (spr o ls fs) a.length L (Pk (stS a ls.length fs.length) k 0) ∧ ρ = [ot a, some (.i (pz o ls fs), .own), some (.l (L.map oI), .own), v3, v4, v5, v6]) ?_ ?_ ?_
  · refine ⟨some 0 :: List.replicate a.length none, none, none, none, none, LI.init.iff fun p b => ⟨fun h => h.elim, fun h => ?_⟩, ?_⟩
    · rcases h with h | h
      · omega
      · exact nomatch h.2
    · rw [List.map_cons, List.map_replicate] <;> rfl
  · rintro k hk W hW ρ ⟨L, v3, v4, v5, v6, I, rfl⟩
    have se := steps_b a k P ha hk
    have s1 := D.s1 k hk
    have sp := fun b (hb : b ∈ stS a ls.length fs.length k) => sp_eq P hb (a.getD k 0)
    generalize a.getD k 0 = ov at se sp
    simp [B__levels_2, se]
    rw [elI_map]
    refine for_map (stS a ls.length fs.length k) (fun b => (.i (bI ov b), .own)) _ (fun j ρ => ∃ L v4 v5 v6, LI gsz (spr o ls fs) a.length L (Pk (stS a ls.length fs.length) k j) ∧ ρ = [ot a, some (.i (pz o ls fs), .own), some (.l (L.map oI), .own), oi k, v4, v5, v6]) ⟨L, _, _, _, I, rfl⟩ ?_ ?_
    · rintro j hj W2 hW2 ρ ⟨L, v4, v5, v6, I, rfl⟩
      obtain ⟨u, hu⟩ := I.here D (by omega)
      have hb : (stS a ls.length fs.length k)[j] ∈ stS a ls.length fs.length k := List.getElem_mem hj
      have nx : ∀ L', LI gsz (spr o ls fs) a.length L' (fun p c => Pk (stS a ls.length fs.length) k j p c ∨ p = k ∧ c = (stS a ls.length fs.length k)[j]) → ∀ v4 v5 v6, W2.nx [ot a, some (.i (pz o ls fs), .own), some (.l (L'.map oI), .own), oi k, v4, v5, v6] := fun L' I' v4 v5 v6 => hW2.nx _ ⟨L', v4, v5, v6, I'.iff fun p b => Pk_next k j hj p b, rfl⟩
      have hle : ∀ p c, Pk (stS a ls.length fs.length) k j p c → p ≤ k := fun p c h => by rcases h with h | h <;> omega
      generalize (stS a ls.length fs.length k)[j] = b at hb nx ⊢
      obtain ⟨h1, h2⟩ := s1 b hb
      obtain ⟨p0, p1⟩ := spr_bd P b
      have g1 := fun m m' : Md => oL_get L (k : Int) m m' (by omega) (by rw [I.len]; omega)
      have g2 := fun m m' : Md => oL_get L ((k : Int) + gsz b) m m' (by omega) (by rw [I.len]; omega)
      have t1 := oL_set L ((k : Int) + gsz b) (u + spr o ls fs b) .own (by omega) (by rw [I.len]; omega)
      rw [Int.toNat_natCast, hu] at g1
      rw [show ((k : Int) + gsz b).toNat = k + gsz b by omega] at g2 t1
      have sb := size_b ov b
      have spb := sp b hb
      cases hg : L.getD (k + gsz b) none with
      | none =>
        rw [hg] at g2
        have := nx _ (I.new (b := b) hle h1 h2 p0 p1 hu (fun v hv => by rw [hg] at hv; cases hv))
        rw [List.map_set] at this
        simp [B__levels_1, sb, spb, g1, g2, oI, isN, t1, -List.getD_eq_getElem?_getD]
        exact this _ _ _
      | some v =>
        rw [hg] at g2
        by_cases q : u + spr o ls fs b < v
        · have := nx _ (I.new (b := b) hle h1 h2 p0 p1 hu (fun v' hv => by rw [hg] at hv; cases hv; exact q))
          rw [List.map_set] at this
          simp [B__levels_1, sb, spb, g1, g2, oI, isN, t1, q, -List.getD_eq_getElem?_getD]
          exact this _ _ _
        · have := nx _ (I.old (b := b) hu hg (by omega))
          simp [B__levels_1, sb, spb, g1, g2, oI, isN, t1, q, -List.getD_eq_getElem?_getD]
          exact this _ _ _
    · rintro ρ ⟨L, v4, v5, v6, I, rfl⟩
      exact hW.nx _ ⟨L, _, _, _, _, I.iff fun p b => Pk_turn k p b, rfl⟩
  · rintro ρ ⟨L, v3, v4, v5, v6, I, rfl⟩
    obtain ⟨lv, rfl, h1, h2, h3, h4, h5⟩ := I.done D
    have e : (lv.map some).map oI = iL lv := by rw [List.map_map] <;> rfl
    simp [e]
    exact hZ _ ⟨lv, rfl, h1, h2, h3, h4, h5⟩
/-! ### the cheapest row -/
/-- the first step that costs least -/
def chz (a : List Int) (o : Int) (ls fs : List Int) (p : Nat) : Option (Nat × Nat) := ((stS a ls.length fs.length p).find? fun b => decide (spr o ls fs b + (cBa a o ls fs).getD (p + gsz b) 0 = (cBa a o ls fs).getD p 0)).getD none
theorem find_spec {α : Type} (q : α → Prop) [DecidablePred q] (S : List α) (d : α) (h : ∃ b ∈ S, q b) : ∃ j : Nat, ∃ hj : j < S.length, (S.find? fun b => decide (q b)).getD d = S[j] ∧ q S[j] ∧ ∀ i (hi : i < j), ¬ q S[i] := by
  obtain ⟨b, hb, e⟩ := h
  have hs : (S.find? fun b => decide (q b)).isSome := by
    rw [List.find?_isSome]
    exact ⟨b, hb, decide_eq_true e⟩
  obtain ⟨c, hc⟩ := Option.isSome_iff_exists.mp hs
  obtain ⟨h1, as, bs, h2, h3⟩ := List.find?_eq_some_iff_append.mp hc
  rw [hc]
  clear hs hc hb
  subst h2
  refine ⟨as.length, by simp, by simp, ?_, fun i hi => ?_⟩
  · have := of_decide_eq_true h1
    simpa using this
  · have := h3 as[i] (List.getElem_mem hi)
    rw [List.getElem_append_left hi]
    simpa using this
theorem chz_spec (a : List Int) {o : Int} {ls fs : List Int} {p : Nat} (hp : p < a.length) : ∃ j : Nat, ∃ h : j < (stS a ls.length fs.length p).length, chz a o ls fs p = (stS a ls.length fs.length p)[j] ∧
    spr o ls fs (stS a ls.length fs.length p)[j] + (cBa a o ls fs).getD (p + gsz (stS a ls.length fs.length p)[j]) 0 = (cBa a o ls fs).getD p 0 ∧
    ∀ i (hi : i < j), ¬ (spr o ls fs (stS a ls.length fs.length p)[i] + (cBa a o ls fs).getD (p + gsz (stS a ls.length fs.length p)[i]) 0 = (cBa a o ls fs).getD p 0) := by
  obtain ⟨b, hb, e⟩ := cB_ex (pr := spr o ls fs) (stS_dag a ls.length fs.length) hp
  exact find_spec (fun b => spr o ls fs b + (cBa a o ls fs).getD (p + gsz b) 0 = (cBa a o ls fs).getD p 0) (stS a ls.length fs.length p) none ⟨b, hb, e.symm⟩
theorem chz_mem (a : List Int) {o : Int} {ls fs : List Int} {p : Nat} (hp : p < a.length) : chz a o ls fs p ∈ stS a ls.length fs.length p := by
  obtain ⟨j, h, e, _⟩ := chz_spec a (o := o) (ls := ls) (fs := fs) hp
  rw [e]; exact List.getElem_mem h
abbrev chT (a : List Int) (o : Int) (ls fs : List Int) : List (Nat × Option (Nat × Nat)) := trip gsz a.length (chz a o ls fs) a.length 0
def rowI (a : List Int) (T : List (Nat × Option (Nat × Nat))) : List IV := T.map fun x => bI (a.getD x.1 0) x.2
theorem trip_step {n : Nat} {ch : Nat → Option (Nat × Nat)} (D : ∀ p, p < n → 1 ≤ gsz (ch p)) : ∀ (f g p : Nat), n ≤ p + f → n ≤ p + g → trip gsz n ch f p = trip gsz n ch g p
  | 0, 0, _, _, _ => rfl
  | 0, g + 1, p, h, _ => by unfold trip; rw [if_neg (by omega)]
  | f + 1, 0, p, _, h => by unfold trip; rw [if_neg (by omega)]
  | f + 1, g + 1, p, h1, h2 => by
    unfold trip
    by_cases q : p < n
    · rw [if_pos q, if_pos q]
      have := D p q
      rw [trip_step D f g _ (by omega) (by omega)]
    · rw [if_neg q, if_neg q]
theorem cheapest_eq (a : List Int) {o : Int} {ls fs : List Int} (P : Prc o ls fs) (ha : a.length ≤ 60) (oa : Oct a) (lv : List Int) (hlv : F__levels [tp a, .i (pz o ls fs)] = .ok (tp lv)) :
    F_cheapest [tp a, .i (pz o ls fs)] = .ok (.i (.tup [.int ((cBa a o ls fs).getD 0 0), .tup (rowI a (chT a o ls fs)), .tup (iL lv)])) := by
  have D := stS_dag a ls.length fs.length
  have cs := fun p hp => chz_spec a (o := o) (ls := ls) (fs := fs) (p := p) hp
  have d1 : ∀ p, p < a.length → 1 ≤ gsz (chz a o ls fs p) ∧ p + gsz (chz a o ls fs p) ≤ a.length := fun p hp => D.s1 p hp _ (chz_mem a hp)
  have be := behind_eq a P ha
  have lC : (cBa a o ls fs).length = a.length + 1 := cB_len
  unfold chT
  generalize cBa a o ls fs = C at cs be lC ⊢
  generalize chz a o ls fs = ch at cs d1 ⊢
  refine run_eq ?_
  have e0 : startE 6 [tp a, .i (pz o ls fs)] = [ot a, some (.i (pz o ls fs), .own), none, none, none, none] := rfl
  rw [e0]
  have ix0 : ∀ m, opIx (.t [.l (iL C), .l (iL (cLa a o ls fs)), .l (iL (cEa a ls fs))], .loc) (.i (.int 0), m) = .ok (.l (iL C), .loc) := fun m => by kernel_rfl
  generalize cLa a o ls fs = X1 at be ix0
  generalize cEa a ls fs = X2 at be ix0
  have tr : ∀ p, p < a.length → rowI a (trip gsz a.length ch (a.length - p) p) = bI (a.getD p 0) (ch p) :: rowI a (trip gsz a.length ch (a.length - (p + gsz (ch p))) (p + gsz (ch p))) := fun p hp => by
    obtain ⟨f, hf⟩ : ∃ f, a.length - p = f + 1 := ⟨a.length - p - 1, by omega⟩
    have := d1 p hp
    rw [hf]
    show rowI a (if p < a.length then _ else _) = _
    rw [if_pos hp, trip_step (fun p hp => (d1 p hp).1) f (a.length - (p + gsz (ch p))) (p + gsz (ch p)) (by omega) (by omega)]
    rfl
  have tr0 : ∀ f p, a.length ≤ p → rowI a (trip gsz a.length ch f p) = [] := fun f p hp => by
    cases f with
    | zero => rfl
    | succ f => show rowI a (if p < a.length then _ else _) = _; rw [if_neg (by omega)] <;> rfl
  simp [G_cheapest, check_eq a P ha oa, be, ix0, -List.getD_eq_getElem?_getD]
  generalize htot : rowI a (trip gsz a.length ch a.length 0) = tot
  refine while_ind (fun n ρ => ∃ p row v5, n = a.length - p ∧ p ≤ a.length ∧ row.length ≤ p ∧ row ++ rowI a (trip gsz a.length ch (a.length - p) p) = tot ∧ ρ = [ot a, some (.i (pz o ls fs), .own), some (.l (iL C), .loc), some (.l row, .own), oi (p : Nat), v5]) a.length (by omega) ⟨0, [], none, rfl, Nat.zero_le _, Nat.le_refl _, htot, rfl⟩ ?_
  rintro n W hW ρ ⟨p, row, v5, rfl, hp, hr, ht, rfl⟩
  by_cases q : p < a.length
  · have se := steps_b a p P ha q
    rw [tr p q] at ht
    obtain ⟨gl1, gl2⟩ := d1 p q
    obtain ⟨j, hj, e1, e2, e3⟩ := cs p q
    have sp := fun b (hb : b ∈ stS a ls.length fs.length p) => sp_eq P hb (a.getD p 0)
    have s1 := D.s1 p q
    generalize ch p = c at ht gl1 gl2 e1
    obtain ⟨S, hS⟩ : ∃ S, S = stS a ls.length fs.length p := ⟨_, rfl⟩
    simp only [← hS] at se hj e1 e2 e3 sp s1

    generalize a.getD p 0 = ov at se ht sp
    simp [show (p : Int) < a.length by omega, B_cheapest_2, se]
    rw [elI_map]
    have hCp := fun m m' : Md => ix_l (m := m) (m' := m') (xs := C) (k := (p : Int)) (by omega) (by omega)
    rw [Int.toNat_natCast] at hCp
    generalize C.getD p 0 = cp at hCp e2 e3
    refine for_map S (fun b => (.i (bI ov b), .own)) _ (fun i ρ => ∃ v5, i ≤ j ∧ ρ = [ot a, some (.i (pz o ls fs), .own), some (.l (iL C), .loc), some (.l row, .own), oi (p : Nat), v5]) ⟨_, Nat.zero_le _, rfl⟩ ?_ ?_
    · rintro i hi W2 hW2 ρ ⟨v5, hij, rfl⟩
      have sb := size_b ov S[i]
      have spb := sp S[i] (List.getElem_mem hi)
      obtain ⟨h1, h2⟩ := s1 S[i] (List.getElem_mem hi)
      have ix := fun m m' : Md => ix_l (m := m) (m' := m') (xs := C) (k := (p : Int) + gsz S[i]) (by omega) (by omega)
      rw [show ((p : Int) + gsz S[i]).toNat = p + gsz S[i] by omega] at ix
      by_cases qi : i = j
      · subst qi
        rw [← e1] at sb spb ix e2 ⊢
        generalize C.getD (p + gsz c) 0 = g at ix e2
        simp [B_cheapest_1, sb, spb, ix, hCp, e2, show row.length < 16777216 by omega, -List.getD_eq_getElem?_getD]
        refine hW2.bk _ ?_
        refine hW.nx _ ⟨a.length - (p + gsz c), by omega, p + gsz c, row ++ [bI ov c], _, rfl, by omega, by simp; omega, by rw [List.append_assoc]; exact ht, by rw [show ((p + gsz c : Nat) : Int) = (p : Int) + gsz c by omega] <;> rfl⟩
      · have e3 := e3 i (by omega)
        generalize S[i] = b at sb spb h1 h2 ix e3 ⊢
        generalize C.getD (p + gsz b) 0 = g at ix e3
        simp [B_cheapest_1, sb, spb, ix, hCp, e3, -List.getD_eq_getElem?_getD]
        exact hW2.nx _ ⟨_, by omega, rfl⟩
    · rintro ρ ⟨v5, h, rfl⟩
      omega
  · simp [show ¬ (p : Int) < a.length by omega]
    refine hW.bk _ ?_
    rw [tr0 _ p (by omega), List.append_nil] at ht
    have ix := fun m m' : Md => ix_l (m := m) (m' := m') (xs := C) (k := 0) (by omega) (by omega)
    simp [ht, hlv, ix]
end L2.Pv.T

namespace L2.Pv.T
open PySem PySem.Spec PyProof.Rows L2 L2.Pv
/-! ### rows that give a content: what they give and cost -/
theorem ustep_one (x : Int) (h : oct x = true) : F_is_step [.i (oneI x)] = .ok (.i (.bl true)) := by
  refine run_eq ?_
  have e0 : startE 1 [.i (oneI x)] = [some (.i (oneI x), .own)] := rfl
  rw [e0]
  have h' : (decide (0 ≤ x) && decide (x ≤ 255)) = true := h
  have hh : 0 ≤ x ∧ x ≤ 255 := by simpa using h'
  simp [G_is_step, oneI, tyN, isTy, in_iT, str_oo, whole_eq, hh.1, hh.2]
theorem ustep_cp (x : Nat × Nat) (h1 : 2 ≤ x.1) (h2 : x.1 ≤ 60) (h3 : 1 ≤ x.2) (h4 : x.2 ≤ 60) : F_is_step [.i (cpI x)] = .ok (.i (.bl true)) := by
  refine run_eq ?_
  have e0 : startE 1 [.i (cpI x)] = [some (.i (cpI x), .own)] := rfl
  rw [e0]
  simp [G_is_step, cpI, tyN, isTy, in_iT, str_cc, whole_eq, show (2 : Int) ≤ x.1 by omega, show (x.1 : Int) ≤ 60 by omega, show (1 : Int) ≤ x.2 by omega, show (x.2 : Int) ≤ 60 by omega]
/-- octets with a copy behind them -/
def cpy (d : Nat) : Nat → List Int → List Int
  | 0, x => x
  | l + 1, x => cpy d l (x ++ [x.getD (x.length - d) 0])
theorem copied_b (d : Nat) (x : List Int) (l : Nat) (hd : 1 ≤ d) (hx : d ≤ x.length) (hl : x.length + l ≤ 1000) :
    F_copied [tp x, .i (.int l), .i (.int d)] = .ok (tp (cpy d l x)) := by
  refine run_eq ?_
  have e0 : startE 5 [tp x, .i (.int l), .i (.int d)] = [ot x, oi l, oi d, none, none] := rfl
  rw [e0]
  simp [G_copied, smI_ok (i := (l : Int)) (by omega) (by omega)]
  refine for_rg (fun j ρ => ∃ b v4, j ≤ l ∧ b.length = x.length + j ∧ cpy d (l - j) b = cpy d l x ∧ ρ = [ot x, oi l, oi d, some (.l (iL b), .own), v4]) ⟨x, none, Nat.zero_le _, rfl, rfl, rfl⟩ ?_ ?_
  · rintro j hj W hW ρ ⟨b, v4, _, lb, hb, rfl⟩
    have ib := fun m m' : Md => ix_l (m := m) (m' := m') (xs := b) (k := (b.length : Int) - d) (by omega) (by omega)
    rw [show ((b.length : Int) - d).toNat = b.length - d by omega] at ib
    rw [show l - j = (l - (j + 1)) + 1 by omega] at hb
    have hb : cpy d (l - (j + 1)) (b ++ [b.getD (b.length - d) 0]) = cpy d l x := hb
    generalize b.getD (b.length - d) 0 = y at ib hb
    simp [B_copied_1, ib, show b.length < 16777216 by omega]
    exact hW.nx _ ⟨_, _, by omega, by simp; omega, hb, rfl⟩
  · rintro ρ ⟨b, v4, _, lb, hb, rfl⟩
    rw [Nat.sub_self] at hb
    have hb : b = cpy d l x := hb
    simp [hb]
/-- a right copy -/
theorem cpy_take (a : List Int) (d : Nat) (hd : 1 ≤ d) : ∀ (l p : Nat), d ≤ p → p + l ≤ a.length → (∀ k, k < l → a.getD (p + k) 0 = a.getD (p + k - d) 0) → cpy d l (a.take p) = a.take (p + l)
  | 0, p, _, _, _ => rfl
  | l + 1, p, h1, h2, h3 => by
    unfold cpy
    have lt : (a.take p).length = p := by rw [List.length_take]; omega
    have g : (a.take p).getD ((a.take p).length - d) 0 = a.getD p 0 := by
      rw [lt, List.getD_eq_getElem?_getD, List.getElem?_take, if_pos (by omega), ← List.getD_eq_getElem?_getD]
      have := h3 0 (by omega)
      rw [Nat.add_zero] at this
      exact this.symm
    have nx : a.take p ++ [a.getD p 0] = a.take (p + 1) := by
      rw [List.take_succ, List.getD_eq_getElem?_getD, List.getElem?_eq_getElem (by omega)] <;> rfl
    rw [g, nx, cpy_take a d hd l (p + 1) (by omega) (by omega) fun k hk => by
      have := h3 (k + 1) (by omega)
      rw [show p + (k + 1) = p + 1 + k by omega] at this
      exact this, show p + 1 + l = p + (l + 1) by omega]
theorem is_step_b (a : List Int) (nl nd p : Nat) (hp : p < a.length) (ha : a.length ≤ 60) (oa : Oct a) (hd : nd ≤ 60) {b : Option (Nat × Nat)} (hb : b ∈ stS a nl nd p) : F_is_step [.i (bI (a.getD p 0) b)] = .ok (.i (.bl true)) := by
  rcases mem_stS.mp hb with rfl | ⟨x, rfl, hx⟩
  · have ho : oct (a.getD p 0) = true := by
      rw [List.getD_eq_getElem?_getD, List.getElem?_eq_getElem hp]
      exact List.all_eq_true.mp oa _ (List.getElem_mem hp)
    exact ustep_one _ ho
  · obtain ⟨h1, h2, h3, h4, h5, h6⟩ := mem_cps.mp hx
    have := cl_le a p x.2
    exact ustep_cp x h1 (by omega) h4 (by omega)
theorem tr_mem {β : Type} {G : Nat → List β} {sz : β → Nat} {n : Nat} : ∀ (T : List (Nat × β)) (p : Nat), Tr G sz n p T → ∀ x ∈ T, x.1 < n ∧ x.2 ∈ G x.1
  | [], _, _, _, h => by cases h
  | y :: T, p, ⟨h1, h2, h3, h4⟩, x, hx => by
    rcases List.mem_cons.mp hx with rfl | hx
    · rw [h1]; exact ⟨h2, h3⟩
    · exact tr_mem T _ h4 x hx
theorem given_tr (a : List Int) (nl nd : Nat) (ha : a.length ≤ 60) (oa : Oct a) (hd : nd ≤ 60) (T : List (Nat × Option (Nat × Nat))) (hT : Tr (stS a nl nd) gsz a.length 0 T) : F__given [.i (.tup (rowI a T))] = .ok (tp a) := by
  have lT := tr_len (stS_dag a nl nd) T 0 hT
  have mT := tr_mem T 0 hT
  refine run_eq ?_
  have lr : (rowI a T).length = T.length := List.length_map _
  generalize hrow : rowI a T = row at lr
  have e0 : startE 3 [.i (.tup row)] = [some (.i (.tup row), .own), none, none] := rfl
  rw [e0]
  have c2 : C__given_2 [some (.i (.tup row), .own), none, none] = .ok (.l (row.map fun _ => .bl true), .own) := by
    refine comp_el (m := .own) (fun _ => .bl true) (by simp) (by omega) fun x hx => ?_
    refine ⟨[some (.i (.tup row), .own), some (.i x, .own), none], rfl, rfl, ?_⟩
    rw [← hrow] at hx
    obtain ⟨y, hy, rfl⟩ := List.mem_map.mp hx
    have := mT y hy
    have := is_step_b a nl nd y.1 this.1 ha oa hd this.2
    simp [this, -List.getD_eq_getElem?_getD]
  have al : opAll (.l (row.map fun _ => IV.bl true), .own) = .ok (.i (.bl true), .own) := by
    rw [opAll_map (fun _ => true) row .own]; simp
  have go : ∀ (T : List (Nat × Option (Nat × Nat))) (p : Nat) (v1 : Option (DV × Md)) (D : PD), Tr (stS a nl nd) gsz a.length p T → p ≤ a.length → (∀ v1, D.nx [some (.i (.tup row), .own), v1, ot a]) → (loopF (tName 1) B__given_1 (elI (rowI a T)) [some (.i (.tup row), .own), v1, ot (a.take p)]).to D := by
    intro T
    induction T with
    | nil =>
      intro p v1 D h hp hD
      have h : p = a.length := h
      show (loopF _ _ [] _).to D
      rw [loop_nil, h, List.take_length]
      exact hD _
    | cons x T ih =>
      intro p v1 D h hp hD
      obtain ⟨h1, h2, h3, h4⟩ := h
      obtain ⟨q, b⟩ := x
      simp only at h1 h3 h4
      subst h1
      have s1 := (stS_dag a nl nd).s1 q h2 b h3
      show (loopF _ _ ((.i (bI (a.getD q 0) b), .own) :: elI (rowI a T)) _).to D
      refine loop_cons fun W hW => ?_
      have nx : ∀ v1, W.nx [some (.i (.tup row), .own), v1, ot (a.take (q + gsz b))] := fun v1 => hW.nx _ (ih (q + gsz b) v1 D h4 s1.2 hD)
      have lt : (a.take q).length = q := by rw [List.length_take]; omega
      have lt2 : (a.take (q + gsz b)).length = q + gsz b := by rw [List.length_take]; omega
      rcases mem_stS.mp h3 with rfl | ⟨c, rfl, hc⟩
      · have e : a.take (q + gsz none) = a.take q ++ [a.getD q 0] := by
          show a.take (q + 1) = _
          rw [List.take_succ, List.getD_eq_getElem?_getD, List.getElem?_eq_getElem (by omega)] <;> rfl
        rw [e] at nx lt2
        have lt3 : (a.take q).length + 1 ≤ 60 := by rw [lt]; omega
        generalize a.take q = f at nx lt lt2 lt3 ⊢
        generalize a.getD q 0 = ov at nx ⊢
        simp [B__given_1, bI, oneI, str_oo, show f.length + 1 ≤ 16777216 by omega, show ¬ (60 : Int) < f.length + 1 by omega]
        exact nx _
      · obtain ⟨k1, k2, k3, k4, k5, k6⟩ := mem_cps.mp hc
        have cl1 := cl_le a q c.2
        have e : a.take (q + gsz (some c)) = cpy c.2 c.1 (a.take q) := by
          refine (cpy_take a c.2 k4 c.1 q k6 (by omega) fun k hk => ?_).symm
          exact cl_lt (by omega) (by omega)
        rw [e] at nx lt2
        have cb := copied_b c.2 (a.take q) c.1 k4 (by omega) (by omega)
        have g2 : gsz (some c) = c.1 := rfl
        rw [g2] at lt2 s1
        generalize cpy c.2 c.1 (a.take q) = r at nx lt2 cb
        generalize a.take q = f at nx lt cb ⊢
        simp [B__given_1, bI, cpI, str_co, lt, show ¬ (q : Int) < c.2 by omega, cb, lt2, show ¬ (60 : Int) < q + c.1 by omega]
        exact nx _
  simp [G__given, tyN, isTy, c2, al, show ¬ (60 : Int) < row.length by omega]
  have er : elI row = elI (rowI a T) := by rw [hrow]
  rw [er]
  refine go T 0 none _ hT (Nat.zero_le _) fun v1 => ?_
  simp
theorem usable_b (a : List Int) (p : Nat) {o : Int} {ls fs : List Int} {b : Option (Nat × Nat)} (hb : b ∈ stS a ls.length fs.length p) (ov : Int) : F_is_usable [.i (pz o ls fs), .i (bI ov b)] = .ok (.i (.bl true)) := by
  refine run_eq ?_
  rcases mem_stS.mp hb with rfl | ⟨x, rfl, hx⟩
  · have e0 : startE 2 [.i (pz o ls fs), .i (bI ov none)] = [some (.i (pz o ls fs), .own), some (.i (oneI ov), .own)] := rfl
    rw [e0]
    simp [G_is_usable, oneI, str_oo]
  · have e0 : startE 2 [.i (pz o ls fs), .i (bI ov (some x))] = [some (.i (pz o ls fs), .own), some (.i (cpI x), .own)] := rfl
    rw [e0]
    obtain ⟨h1, h2, h3, h4, h5, h6⟩ := mem_cps.mp hx
    simp [G_is_usable, cpI, str_co, pz, show (x.1 : Int) - 2 < ls.length by omega, show (x.2 : Int) ≤ fs.length by omega]
theorem price_tr (a : List Int) {o : Int} {ls fs : List Int} (P : Prc o ls fs) (ha : a.length ≤ 60) (oa : Oct a) (T : List (Nat × Option (Nat × Nat))) (hT : Tr (stS a ls.length fs.length) gsz a.length 0 T) :
    F_price [.i (pz o ls fs), .i (.tup (rowI a T))] = .ok (.i (.int (cost (spr o ls fs) T))) := by
  have lT := tr_len (stS_dag a ls.length fs.length) T 0 hT
  have mT := tr_mem T 0 hT
  have gv := given_tr a ls.length fs.length ha oa P.f0 T hT
  have lr : (rowI a T).length = T.length := List.length_map _
  refine run_eq ?_
  have e0 : startE 3 [.i (pz o ls fs), .i (.tup (rowI a T))] = [some (.i (pz o ls fs), .own), some (.i (.tup (rowI a T)), .own), none] := rfl
  rw [e0]
  have el : elI (rowI a T) = T.map fun x => (.i (bI (a.getD x.1 0) x.2), .own) := elI_map _ _
  have c2 : C_price_2 [some (.i (pz o ls fs), .own), some (.i (.tup (rowI a T)), .own), none] = .ok (.l (T.map fun _ => .bl true), .own) := by
    refine comp_map (m := .own) (it := fun x => (.i (bI (a.getD x.1 0) x.2), .own)) (fun _ => .bl true) (by simp [el]) (by omega) fun x hx => ?_
    refine ⟨[some (.i (pz o ls fs), .own), some (.i (.tup (rowI a T)), .own), some (.i (bI (a.getD x.1 0) x.2), .own)], rfl, rfl, ?_⟩
    have := usable_b a x.1 (o := o) (mT x hx).2 (a.getD x.1 0)
    simp [this, -List.getD_eq_getElem?_getD]
  have c1 : C_price_1 [some (.i (pz o ls fs), .own), some (.i (.tup (rowI a T)), .own), none] = .ok (.l (iL (T.map fun x => spr o ls fs x.2)), .own) := by
    rw [← map_int]
    refine comp_map (m := .own) (it := fun x => (.i (bI (a.getD x.1 0) x.2), .own)) _ (by simp [el]) (by omega) fun x hx => ?_
    refine ⟨[some (.i (pz o ls fs), .own), some (.i (.tup (rowI a T)), .own), some (.i (bI (a.getD x.1 0) x.2), .own)], rfl, rfl, ?_⟩
    have := sp_eq P (mT x hx).2 (a.getD x.1 0)
    simp [this, -List.getD_eq_getElem?_getD]
  have al : opAll (.l (T.map fun _ => IV.bl true), .own) = .ok (.i (.bl true), .own) := by
    rw [opAll_map (fun _ => true) T .own]; simp
  generalize rowI a T = row at *
  simp [G_price, prices_eq P, gv, c2, al, c1, cost]
end L2.Pv.T

namespace L2.Pv.T
open PySem PySem.Spec PyProof.Rows L2 L2.Pv
theorem count_eq (a : List Int) {o : Int} {ls fs : List Int} (P : Prc o ls fs) (ha : a.length ≤ 60) (oa : Oct a) :
    F_count_rows [tp a, .i (pz o ls fs)] = .ok (tp [(cEa a ls fs).getD 0 0, (cLa a o ls fs).getD 0 0]) := by
  have be := behind_eq a P ha
  have lL : (cLa a o ls fs).length = a.length + 1 := cnL_len
  have lE : (cEa a ls fs).length = a.length + 1 := cnE_len
  refine run_eq ?_
  have e0 : startE 5 [tp a, .i (pz o ls fs)] = [ot a, some (.i (pz o ls fs), .own), none, none, none] := rfl
  rw [e0]
  generalize cBa a o ls fs = C at *
  generalize cLa a o ls fs = L at *
  generalize cEa a ls fs = E at *
  have i1 := fun m m' : Md => ix_l (m := m) (m' := m') (xs := L) (k := 0) (by omega) (by omega)
  have i2 := fun m m' : Md => ix_l (m := m) (m' := m') (xs := E) (k := 0) (by omega) (by omega)
  have tn : tTupN 3 [2, 3, 4] (tsCons (tName 2) (tsCons (tName 3) (tsCons (tName 4) tsNil))) (.t [.l (iL C), .l (iL L), .l (iL E)], .loc) [ot a, some (.i (pz o ls fs), .own), none, none, none] = some [ot a, some (.i (pz o ls fs), .own), some (.l (iL C), .loc), some (.l (iL L), .loc), some (.l (iL E), .loc)] := rfl
  rw [show (0 : Int).toNat = 0 from rfl] at i1 i2
  generalize L.getD 0 0 = x at *
  generalize E.getD 0 0 = y at *
  simp [G_count_rows, check_eq a P ha oa, be, bindT, tn, i1, i2]
end L2.Pv.T

namespace L2.Pv.T
open PySem PySem.Spec PyProof.Rows L2 L2.Pv
/-! ### costs by other prices -/
section
variable {β : Type} {G : Nat → List β} {sz : β → Nat} {pr pr' : β → Int} {n : Nat}
theorem cB_le_of (D : Dag G sz n) (h : ∀ p, p < n → ∀ b ∈ G p, pr b ≤ pr' b) : ∀ k, k ≤ n → (cB G sz pr n).getD (n - k) 0 ≤ (cB G sz pr' n).getD (n - k) 0 := by
  intro k
  induction k using Nat.strongRecOn with
  | ind k ih =>
    intro hk
    by_cases q : k = 0
    · subst q; rw [Nat.sub_zero, cB_end, cB_end]; omega
    · obtain ⟨b, hb, e⟩ := cB_ex (pr := pr') D (p := n - k) (by omega)
      obtain ⟨h1, h2⟩ := D.s1 (n - k) (by omega) b hb
      have := h (n - k) (by omega) b hb
      have l := cB_le (pr := pr) D (p := n - k) (by omega) hb
      have ih' := ih (k - sz b) (by omega) (by omega)
      rw [show n - (k - sz b) = n - k + sz b by omega] at ih'
      omega
theorem cB_le_add (D : Dag G sz n) (c : Nat) (h : ∀ p, p < n → ∀ b ∈ G p, pr' b ≤ pr b + c) : ∀ k, k ≤ n → (cB G sz pr' n).getD (n - k) 0 ≤ (cB G sz pr n).getD (n - k) 0 + c * k := by
  intro k
  induction k using Nat.strongRecOn with
  | ind k ih =>
    intro hk
    by_cases q : k = 0
    · subst q; rw [Nat.sub_zero, cB_end, cB_end]; simp
    · obtain ⟨b, hb, e⟩ := cB_ex (pr := pr) D (p := n - k) (by omega)
      obtain ⟨h1, h2⟩ := D.s1 (n - k) (by omega) b hb
      have := h (n - k) (by omega) b hb
      have l := cB_le (pr := pr') D (p := n - k) (by omega) hb
      have ih' := ih (k - sz b) (by omega) (by omega)
      rw [show n - (k - sz b) = n - k + sz b by omega] at ih'
      have : c * (k - sz b) + c ≤ c * k := by
        have : c * (k - sz b) + c = c * (k - sz b + 1) := by rw [Nat.mul_add, Nat.mul_one]
        rw [this]
        exact Nat.mul_le_mul (Nat.le_refl _) (by omega)
      have e3 : ((c * (k - sz b) : Nat) : Int) + c ≤ ((c * k : Nat) : Int) := by exact_mod_cast this
      have e4 : ((c : Int) * ((k - sz b : Nat) : Int)) = ((c * (k - sz b) : Nat) : Int) := by push_cast; rfl
      have e5 : ((c : Int) * (k : Int)) = ((c * k : Nat) : Int) := by push_cast; rfl
      rw [e4] at ih'
      rw [e5]
      omega
theorem cB_scale (D : Dag G sz n) (c : Int) (hc : 0 ≤ c) (h : ∀ p, p < n → ∀ b ∈ G p, pr' b = c * pr b) : ∀ k, k ≤ n → (cB G sz pr' n).getD (n - k) 0 = c * (cB G sz pr n).getD (n - k) 0 := by
  intro k
  induction k using Nat.strongRecOn with
  | ind k ih =>
    intro hk
    by_cases q : k = 0
    · subst q; rw [Nat.sub_zero, cB_end, cB_end]; simp
    · have ih2 : ∀ b ∈ G (n - k), (cB G sz pr' n).getD (n - k + sz b) 0 = c * (cB G sz pr n).getD (n - k + sz b) 0 := fun b hb => by
        obtain ⟨h1, h2⟩ := D.s1 (n - k) (by omega) b hb
        have := ih (k - sz b) (by omega) (by omega)
        rwa [show n - (k - sz b) = n - k + sz b by omega] at this
      obtain ⟨b, hb, e⟩ := cB_ex (pr := pr) D (p := n - k) (by omega)
      obtain ⟨b', hb', e'⟩ := cB_ex (pr := pr') D (p := n - k) (by omega)
      have l := cB_le (pr := pr') D (p := n - k) (by omega) hb
      have l' := cB_le (pr := pr) D (p := n - k) (by omega) hb'
      rw [ih2 b hb, h _ (by omega) b hb] at l
      rw [ih2 b' hb', h _ (by omega) b' hb'] at e'
      have m := Int.mul_le_mul_of_nonneg_left l' hc
      rw [← Int.mul_add] at e' l
      rw [← e] at l
      omega
end
/-! ### the fewest steps -/
abbrev fwa (a : List Int) (nl nd : Nat) : List Int := cB (stS a nl nd) gsz (fun _ => 1) a.length
theorem few_mono (a : List Int) (nl nd : Nat) : ∀ k, k ≤ a.length → ∀ q, a.length - k ≤ q → q ≤ a.length → (fwa a nl nd).getD q 0 ≤ (fwa a nl nd).getD (a.length - k) 0 := by
  have D := stS_dag a nl nd
  intro k
  induction k using Nat.strongRecOn with
  | ind k ih =>
    intro hk q h1 h2
    by_cases e : q = a.length - k
    · rw [e]; exact Int.le_refl _
    · obtain ⟨b, hb, e1⟩ := cB_ex (pr := fun _ => (1 : Int)) D (p := a.length - k) (by omega)
      obtain ⟨s1, s2⟩ := D.s1 (a.length - k) (by omega) b hb
      unfold fwa at ih ⊢
      rw [e1]
      by_cases g : a.length - k + gsz b ≤ q
      · have := ih (k - gsz b) (by omega) (by omega) q (by omega) h2
        rw [show a.length - (k - gsz b) = a.length - k + gsz b by omega] at this
        omega
      · have mem : ∃ c ∈ stS a nl nd q, q + gsz c = a.length - k + gsz b := by
          by_cases one : a.length - k + gsz b = q + 1
          · exact ⟨none, mem_stS.mpr (.inl rfl), one.symm⟩
          · rcases mem_stS.mp hb with rfl | ⟨x, rfl, hx⟩
            · exfalso
              have : gsz none = 1 := rfl
              omega
            · obtain ⟨t1, t2, t3, t4, t5, t6⟩ := mem_cps.mp hx
              have gx : gsz (some x) = x.1 := rfl
              rw [gx] at g one s2 s1 ⊢
              refine ⟨some (a.length - k + x.1 - q, x.2), mem_stS.mpr (.inr ⟨_, rfl, mem_cps.mpr ⟨?_, ?_, ?_, t4, t5, ?_⟩⟩), ?_⟩
              · show 2 ≤ a.length - k + x.1 - q; omega
              · show a.length - k + x.1 - q ≤ nl + 1; omega
              · show a.length - k + x.1 - q ≤ cl a q x.2
                refine (le_cl (by omega) (by omega)).mpr fun j hj => ?_
                have := (le_cl (a := a) (p := a.length - k) (d := x.2) (L := x.1) (by omega) (by omega)).mp t3 (q - (a.length - k) + j) (by omega)
                rw [show a.length - k + (q - (a.length - k) + j) = q + j by omega] at this
                exact this
              · show x.2 ≤ q; omega
              · show q + (a.length - k + x.1 - q) = a.length - k + x.1; omega
        obtain ⟨c, hc, ec⟩ := mem
        have l := cB_le (pr := fun _ => (1 : Int)) D (p := q) (by omega) hc
        rw [ec] at l
        exact l
theorem gst_mem (a : List Int) (nl nd p : Nat) : gst a nl nd p ∈ stS a nl nd p := by
  unfold gst stS
  cases hL : stL a nl nd p with
  | nil => exact List.mem_append_right _ (List.mem_singleton.mpr rfl)
  | cons x L =>
    obtain ⟨r, h1, h2⟩ := gb_none (L := x :: L) (by simp)
    rw [h1]
    exact List.mem_append_left _ (List.mem_map.mpr ⟨r, h2.1, rfl⟩)
theorem gst_max (a : List Int) (nl nd p : Nat) {b : Option (Nat × Nat)} (hb : b ∈ stS a nl nd p) : gsz b ≤ gsz (gst a nl nd p) := by
  unfold gst
  unfold stS at hb
  have two : ∀ x ∈ stL a nl nd p, 2 ≤ x.1 := fun x hx => (mem_cps.mp (mem_stL.mp hx)).1
  generalize stL a nl nd p = L at hb two
  cases L with
  | nil =>
    rw [List.map_nil, List.nil_append, List.mem_singleton] at hb
    rw [hb]; exact Nat.le_refl _
  | cons x L =>
    obtain ⟨r, h1, h2, h3⟩ := gb_none (L := x :: L) (by simp)
    rw [h1]
    rcases List.mem_append.mp hb with hb | hb
    · obtain ⟨y, hy, rfl⟩ := List.mem_map.mp hb
      have := h3 y hy
      unfold bet at this
      show y.1 ≤ r.1
      omega
    · rw [List.mem_singleton.mp hb]
      have := two r h2
      show 1 ≤ r.1
      omega
/-- the greedy row has the fewest steps -/
theorem greedy_few (a : List Int) (nl nd p : Nat) (hp : p < a.length) : (fwa a nl nd).getD p 0 = 1 + (fwa a nl nd).getD (p + gsz (gst a nl nd p)) 0 := by
  have D := stS_dag a nl nd
  have l := cB_le (pr := fun _ => (1 : Int)) D hp (gst_mem a nl nd p)
  obtain ⟨b, hb, e⟩ := cB_ex (pr := fun _ => (1 : Int)) D hp
  have mx := gst_max a nl nd p hb
  obtain ⟨s1, s2⟩ := D.s1 p hp b hb
  obtain ⟨g1, g2⟩ := D.s1 p hp _ (gst_mem a nl nd p)
  have mo := few_mono a nl nd (a.length - (p + gsz b)) (by omega) (p + gsz (gst a nl nd p)) (by omega) g2
  rw [show a.length - (a.length - (p + gsz b)) = p + gsz b by omega] at mo
  unfold fwa at *
  omega
theorem trip_few (a : List Int) (nl nd : Nat) : ∀ (f p : Nat), p ≤ a.length → a.length ≤ p + f → (fwa a nl nd).getD p 0 = ((trip gsz a.length (gst a nl nd) f p).length : Nat)
  | 0, p, h1, h2 => by
    rw [show p = a.length by omega]
    show (cB _ _ _ _).getD _ 0 = _
    rw [cB_end]; rfl
  | f + 1, p, h1, h2 => by
    unfold trip
    by_cases q : p < a.length
    · rw [if_pos q, List.length_cons, greedy_few a nl nd p q]
      obtain ⟨g1, g2⟩ := (stS_dag a nl nd).s1 p q _ (gst_mem a nl nd p)
      rw [trip_few a nl nd f _ g2 (by omega)]
      push_cast
      omega
    · rw [if_neg q, show p = a.length by omega]
      show (cB _ _ _ _).getD _ 0 = _
      rw [cB_end]; rfl
theorem grow_trip (a : List Int) (nl nd : Nat) : ∀ f p, grow a nl nd f p = rowI a (trip gsz a.length (gst a nl nd) f p) := by
  intro f
  induction f with
  | zero => intro p; rfl
  | succ f ih =>
    intro p
    rw [grow_succ]
    unfold trip
    by_cases q : p < a.length
    · rw [if_pos q, if_pos q, ih]; rfl
    · rw [if_neg q, if_neg q]; rfl
theorem fit_rowI (a : List Int) (T : List (Nat × Option (Nat × Nat))) : Fit 2 (.tup (rowI a T)) := fit_tup (n := 1) fun x hx => by
  obtain ⟨y, _, rfl⟩ := List.mem_map.mp hx
  exact fit_bI _ _
theorem shp_rowI (a : List Int) (T : List (Nat × Option (Nat × Nat))) : shp (.i (.tup (rowI a T))) = true := shp_of (n := 2) (fit_rowI a T)
end L2.Pv.T

namespace L2.Pv.T
open PySem PySem.Spec PyProof.Rows L2 L2.Pv
theorem for_enV {t : TF} {b : FS} {D : PD} {xs : List IV} {ρ : Env} (I : Nat → Env → Prop) (h0 : I 0 ρ)
    (hs : ∀ (k : Nat) (hk : k < xs.length) (W : PD) (_ : Hide (I (k + 1)) D W) ρ, I k ρ → (goOn (t (.i (.tup [.int (k : Nat), xs[k]]), .own) ρ) b).to W) (he : ∀ ρ, I xs.length ρ → D.nx ρ) : (loopF t b (enI xs) ρ).to D := by
  have e : enI xs = (List.range xs.length).map fun k => (.i (.tup [.int (k : Nat), xs.getD k .non]), .own) := by
    refine List.ext_getElem? fun i => ?_
    unfold enI
    rw [List.getElem?_map, List.getElem?_zipIdx, List.getElem?_map]
    by_cases h : i < xs.length
    · rw [List.getElem?_range h, List.getElem?_eq_getElem h]
      simp [h]
    · rw [List.getElem?_eq_none (by omega), List.getElem?_eq_none (by simp; omega)] <;> rfl
  rw [e]
  refine for_map (List.range xs.length) _ ρ I h0 (fun k hk W hW ρ h => ?_) (fun ρ h => he ρ (by simpa using h))
  rw [List.getElem_range]
  have hk' : k < xs.length := by simpa using hk
  have z := hs k hk' W hW ρ h
  rw [show xs.getD k .non = xs[k] by rw [List.getD_eq_getElem?_getD, List.getElem?_eq_getElem hk'] <;> rfl]
  exact z
/-- the place of the k-th step -/
def plc (n : Nat) (T : List (Nat × Option (Nat × Nat))) (k : Nat) : Nat := match T[k]? with
  | some x => x.1
  | none => n
theorem plc_next {G : Nat → List (Option (Nat × Nat))} {n : Nat} : ∀ (T : List (Nat × Option (Nat × Nat))) (p : Nat), Tr G gsz n p T → plc n T 0 = p ∧ ∀ k (hk : k < T.length), plc n T (k + 1) = T[k].1 + gsz T[k].2
  | [], p, h => by
    have h : p = n := h
    exact ⟨by rw [h]; rfl, fun k hk => nomatch hk⟩
  | x :: T, p, ⟨h1, h2, h3, h4⟩ => by
    obtain ⟨i0, i1⟩ := plc_next T _ h4
    refine ⟨h1, fun k hk => ?_⟩
    cases k with
    | zero =>
      show plc n T 0 = _
      rw [i0]
      show p + gsz x.2 = x.1 + gsz x.2
      rw [h1]
    | succ k => exact i1 k (by simpa using hk)
theorem fault_tr (a : List Int) {o : Int} {ls fs : List Int} (P : Prc o ls fs) (ha : a.length ≤ 60) (oa : Oct a) (T : List (Nat × Option (Nat × Nat))) (hT : Tr (stS a ls.length fs.length) gsz a.length 0 T) :
    F_row_fault [tp a, .i (pz o ls fs), .i (.tup (rowI a T))] = .ok (.i .non) := by
  have lT := tr_len (stS_dag a ls.length fs.length) T 0 hT
  have mT := tr_mem T 0 hT
  obtain ⟨p0, p1⟩ := plc_next T 0 hT
  have lr : (rowI a T).length = T.length := List.length_map _
  refine run_eq ?_
  have e0 : startE 6 [tp a, .i (pz o ls fs), .i (.tup (rowI a T))] = [ot a, some (.i (pz o ls fs), .own), some (.i (.tup (rowI a T)), .own), none, none, none] := rfl
  rw [e0]
  have el : elI (rowI a T) = T.map fun x => (.i (bI (a.getD x.1 0) x.2), .own) := elI_map _ _
  have c2 : C_row_fault_2 [ot a, some (.i (pz o ls fs), .own), some (.i (.tup (rowI a T)), .own), none, none, none] = .ok (.l (T.map fun _ => .bl true), .own) := by
    refine comp_map (m := .own) (it := fun x => (.i (bI (a.getD x.1 0) x.2), .own)) (fun _ => .bl true) (by simp [el]) (by omega) fun x hx => ?_
    refine ⟨[ot a, some (.i (pz o ls fs), .own), some (.i (.tup (rowI a T)), .own), some (.i (bI (a.getD x.1 0) x.2), .own), none, none], rfl, rfl, ?_⟩
    have m := mT x hx
    have h1 := usable_b a x.1 (o := o) m.2 (a.getD x.1 0)
    have h2 := is_step_b a ls.length fs.length x.1 m.1 ha oa P.f0 m.2
    simp [h1, h2, -List.getD_eq_getElem?_getD]
  have al : opAll (.l (T.map fun _ => IV.bl true), .own) = .ok (.i (.bl true), .own) := by
    rw [opAll_map (fun _ => true) T .own]; simp
  have rg : ∀ k (hk : k < T.length) (hk' : k < (rowI a T).length), (rowI a T)[k] = bI (a.getD T[k].1 0) T[k].2 := fun k hk hk' => List.getElem_map _
  generalize rowI a T = row at *
  simp [G_row_fault, content_eq a ha oa, prices_eq P, tyN, isTy, c2, al]
  refine for_enV (fun k ρ => ∃ v3 v5, ρ = [ot a, some (.i (pz o ls fs), .own), some (.i (.tup row), .own), v3, oi (plc a.length T k : Nat), v5]) ⟨none, none, by rw [p0]; rfl⟩ ?_ ?_
  · rintro k hk W hW ρ ⟨v3, v5, rfl⟩
    have hk' : k < T.length := by omega
    have pk : plc a.length T k = T[k].1 := by unfold plc; rw [List.getElem?_eq_getElem hk']
    have nx := p1 k hk'
    obtain ⟨m1, m2⟩ := mT T[k] (List.getElem_mem hk')
    rw [rg k hk' hk, pk]
    rw [nx] at hW
    generalize T[k].1 = q at *
    generalize T[k].2 = b at *
    have lt : (a.take q).length = q := by rw [List.length_take]; omega
    rcases mem_stS.mp m2 with rfl | ⟨c, rfl, hc⟩
    · have cut1 : cutL a (some (q : Int)) (some ((q : Int) + 1)) = [a.getD q 0] := by
        rw [cut_lh a (by omega) (by omega), show ((q : Int) + 1).toNat = q + 1 by omega, Int.toNat_natCast]
        rw [List.take_succ, List.drop_append_of_le_length (by omega), List.drop_of_length_le (by omega), List.getD_eq_getElem?_getD, List.getElem?_eq_getElem m1] <;> rfl
      have gn : gsz none = 1 := rfl
      rw [gn] at hW
      generalize a.getD q 0 = ov at cut1 ⊢
      have cut2 : cutL (IV.str "one" :: iL [ov]) (some 1) none = iL [ov] := rfl
      simp [B_row_fault_1, bI, oneI, str_oo, cut1, cut2]
      exact hW.nx _ ⟨_, _, rfl⟩
    · obtain ⟨k1, k2, k3, k4, k5, k6⟩ := mem_cps.mp hc
      have cl1 := cl_le a q c.2
      have e : a.take (q + c.1) = cpy c.2 c.1 (a.take q) := (cpy_take a c.2 k4 c.1 q k6 (by omega) fun k hk => cl_lt (by omega) (by omega)).symm
      have cb := copied_b c.2 (a.take q) c.1 k4 (by omega) (by omega)
      rw [← e] at cb
      have gn : gsz (some c) = c.1 := rfl
      rw [gn] at hW
      simp [B_row_fault_1, bI, cpI, str_co, show ¬ (q : Int) < c.2 by omega, cut_hi (xs := a) (k := (q : Int)) (by omega), cut_hi (xs := a) (k := (q : Int) + c.1) (by omega), show ((q : Int) + c.1).toNat = q + c.1 by omega, cb]
      exact hW.nx _ ⟨_, _, rfl⟩
  · rintro ρ ⟨v3, v5, rfl⟩
    have : plc a.length T row.length = a.length := by unfold plc; rw [lr, List.getElem?_eq_none (Nat.le_refl _)]
    simp [this]
theorem written_tr (a : List Int) (nl nd : Nat) (ha : a.length ≤ 60) (oa : Oct a) (hd : nd ≤ 60) (T : List (Nat × Option (Nat × Nat))) (hT : Tr (stS a nl nd) gsz a.length 0 T) : F_written_out [.i (.tup (rowI a T))] = .ok (tp a) := by
  refine run_eq ?_
  have e0 : startE 1 [.i (.tup (rowI a T))] = [some (.i (.tup (rowI a T)), .own)] := rfl
  rw [e0]
  have := given_tr a nl nd ha oa hd T hT
  simp [G_written_out, this]
end L2.Pv.T

namespace L2.Pv.T
open PySem PySem.Spec PyProof.Rows L2 L2.Pv
/-! ### how many rows: counted from ahead, and from behind -/
/-- the sum of f from k to n -/
def upS (f : Nat → Int) (n k : Nat) : Int := ((List.range (n + 1 - k)).map fun i => f (k + i)).sum
theorem upS_step (f : Nat → Int) (n k : Nat) (h : k ≤ n) : upS f n k = f k + upS f n (k + 1) := by
  unfold upS
  rw [show n + 1 - k = (n + 1 - (k + 1)) + 1 by omega, List.range_succ_eq_map, List.map_cons, List.sum_cons, List.map_map]
  congr 2
  refine List.map_congr_left fun i _ => ?_
  show f (k + (i + 1)) = f (k + 1 + i)
  congr 1; omega
theorem upS_end (f : Nat → Int) (n : Nat) : upS f n (n + 1) = 0 := by
  unfold upS; rw [Nat.sub_self]; rfl
theorem upS_last (f : Nat → Int) (n : Nat) : upS f n n = f n := by
  rw [upS_step f n n (Nat.le_refl _), upS_end]; omega
theorem upS_congr {f g : Nat → Int} {n k : Nat} (h : ∀ i, k ≤ i → i ≤ n → f i = g i) : upS f n k = upS g n k := by
  unfold upS
  congr 1
  refine List.map_congr_left fun i hi => h _ (by omega) (by have := List.mem_range.mp hi; omega)
theorem upS_put {f g : Nat → Int} {n j : Nat} (hj : j ≤ n) (h : ∀ i, i ≤ n → i ≠ j → g i = f i) : ∀ m k, k + m = j → upS g n k = upS f n k + (g j - f j)
  | 0, k, e => by
    have e : k = j := by omega
    subst e
    rw [upS_step f n k hj, upS_step g n k hj, upS_congr fun i h1 h2 => h i h2 (by omega)]
    omega
  | m + 1, k, e => by
    rw [upS_step f n k (by omega), upS_step g n k (by omega), upS_put hj h m (k + 1) (by omega), h k (by omega) (by omega)]
    omega
section
variable {β : Type} {G : Nat → List β} {sz : β → Nat} {pr : β → Int} {n : Nat}
/-- all rows: what is still to come, weighed -/
def evI (G : Nat → List β) (sz : β → Nat) (n : Nat) (Ev : List Int) (k j : Nat) : Prop := Ev.length = n + 1 ∧ upS (fun q => Ev.getD q 0 * (cnE G sz n).getD q 0) n (k + 1) + Ev.getD k 0 * (((G k).drop j).map fun b => (cnE G sz n).getD (k + sz b) 0).sum = (cnE G sz n).getD 0 0
theorem evI_step (D : Dag G sz n) {Ev : List Int} {k j : Nat} (hk : k < n) (hj : j < (G k).length) (I : evI G sz n Ev k j) : evI G sz n (Ev.set (k + sz (G k)[j]) (Ev.getD (k + sz (G k)[j]) 0 + Ev.getD k 0)) k (j + 1) := by
  obtain ⟨I0, I⟩ := I
  obtain ⟨s1, s2⟩ := D.s1 k hk _ (List.getElem_mem hj)
  rw [List.drop_eq_getElem_cons hj, List.map_cons, List.sum_cons] at I
  generalize (G k)[j] = b at *
  have hl : k + sz b < Ev.length := by omega
  refine ⟨by rw [List.length_set]; exact I0, ?_⟩
  have e := upS_put (f := fun q => Ev.getD q 0 * (cnE G sz n).getD q 0) (g := fun q => (Ev.set (k + sz b) (Ev.getD (k + sz b) 0 + Ev.getD k 0)).getD q 0 * (cnE G sz n).getD q 0) (n := n) (j := k + sz b) s2 (fun i h1 h2 => by
    rw [getD_set _ _ _ _ _ hl, if_neg h2]) (sz b - 1) (k + 1) (by omega)
  rw [e]
  rw [getD_set _ _ _ _ _ hl, getD_set _ _ _ _ _ hl, if_pos rfl, if_neg (by omega)]
  rw [Int.mul_add] at I
  rw [Int.add_mul]
  generalize Ev.getD (k + sz b) 0 * (cnE G sz n).getD (k + sz b) 0 = x at *
  generalize Ev.getD k 0 * (cnE G sz n).getD (k + sz b) 0 = y at *
  generalize Ev.getD k 0 * (((G k).drop (j + 1)).map fun b => (cnE G sz n).getD (k + sz b) 0).sum = z at *
  omega
theorem evI_turn (D : Dag G sz n) {Ev : List Int} {k : Nat} (hk : k < n) (I : evI G sz n Ev k (G k).length) : upS (fun q => Ev.getD q 0 * (cnE G sz n).getD q 0) n (k + 1) = (cnE G sz n).getD 0 0 := by
  have I := I.2
  rw [List.drop_length] at I
  simpa using I
theorem evI_here (D : Dag G sz n) {Ev : List Int} {k : Nat} (hl : Ev.length = n + 1) (hk : k < n) (h : upS (fun q => Ev.getD q 0 * (cnE G sz n).getD q 0) n k = (cnE G sz n).getD 0 0) : evI G sz n Ev k 0 := by
  refine ⟨hl, ?_⟩
  rw [upS_step _ n k (by omega)] at h
  rw [List.drop_zero, ← cnE_at D hk]
  omega
/-- the rows of the least cost -/
def lfF (G : Nat → List β) (sz : β → Nat) (pr : β → Int) (n : Nat) (L : List (Option Int)) (F : List Int) (q : Nat) : Int := match L.getD q none with
  | some v => if v + (cB G sz pr n).getD q 0 = (cB G sz pr n).getD 0 0 then F.getD q 0 * (cnL G sz pr n).getD q 0 else 0
  | none => 0
def lsT (G : Nat → List β) (sz : β → Nat) (pr : β → Int) (n k : Nat) (bs : List β) : Int := ((bs.filter fun b => decide (pr b + (cB G sz pr n).getD (k + sz b) 0 = (cB G sz pr n).getD k 0)).map fun b => (cnL G sz pr n).getD (k + sz b) 0).sum
def lfI (G : Nat → List β) (sz : β → Nat) (pr : β → Int) (n : Nat) (L : List (Option Int)) (F : List Int) (k j : Nat) : Prop := F.length = n + 1 ∧ upS (lfF G sz pr n L F) n (k + 1) + (match L.getD k none with
  | some v => if v + (cB G sz pr n).getD k 0 = (cB G sz pr n).getD 0 0 then F.getD k 0 * lsT G sz pr n k ((G k).drop j) else 0
  | none => 0) = (cnL G sz pr n).getD 0 0
/-- what is there is no less than it may be -/
theorem LI.low (D : Dag G sz n) {L : List (Option Int)} {P : Nat → β → Prop} (I : LI sz pr n L P) (hP : ∀ p b, P p b → p < n ∧ b ∈ G p) : ∀ q v, L.getD q none = some v → (cB G sz pr n).getD 0 0 ≤ v + (cB G sz pr n).getD q 0 := by
  intro q
  induction q using Nat.strongRecOn with
  | ind q ih =>
    intro v hv
    by_cases z : q = 0
    · subst z
      rw [I.z] at hv
      cases hv
      omega
    · obtain ⟨p, b, u, h1, h2, h3, h4⟩ := I.at_ q v (by omega) hv
      obtain ⟨p1, p2⟩ := hP p b h1
      have s := D.s1 p p1 b p2
      have i := ih p (by omega) u h3
      have c := cB_le (pr := pr) D p1 p2
      rw [h2] at c
      omega
theorem lsT_cons (k : Nat) (b : β) (bs : List β) : lsT G sz pr n k (b :: bs) = (if pr b + (cB G sz pr n).getD (k + sz b) 0 = (cB G sz pr n).getD k 0 then (cnL G sz pr n).getD (k + sz b) 0 else 0) + lsT G sz pr n k bs := by
  unfold lsT
  rw [List.filter_cons]
  split
  · rename_i h
    rw [if_pos (of_decide_eq_true h), List.map_cons, List.sum_cons]
  · rename_i h
    rw [if_neg (fun z => h (decide_eq_true z))]
    omega
/-- what the next step takes from what is to come -/
theorem lf_take (D : Dag G sz n) {L : List (Option Int)} {F : List Int} {k j : Nat} {u : Int} (hk : k < n) (hj : j < (G k).length) (hu : L.getD k none = some u) (hlow : (cB G sz pr n).getD 0 0 ≤ u + (cB G sz pr n).getD k 0) (I : lfI G sz pr n L F k j) :
    upS (lfF G sz pr n L F) n (k + 1) + (if u + pr (G k)[j] + (cB G sz pr n).getD (k + sz (G k)[j]) 0 = (cB G sz pr n).getD 0 0 then F.getD k 0 * (cnL G sz pr n).getD (k + sz (G k)[j]) 0 else 0) +
      (if u + (cB G sz pr n).getD k 0 = (cB G sz pr n).getD 0 0 then F.getD k 0 * lsT G sz pr n k ((G k).drop (j + 1)) else 0) = (cnL G sz pr n).getD 0 0 := by
  have I := I.2
  rw [hu] at I
  simp only at I
  have hb := List.getElem_mem hj
  rw [List.drop_eq_getElem_cons hj, lsT_cons] at I
  have cb := cB_le (pr := pr) D hk hb
  generalize (G k)[j] = b at *
  generalize (cB G sz pr n).getD 0 0 = C0 at *
  generalize (cB G sz pr n).getD k 0 = Ck at *
  generalize (cB G sz pr n).getD (k + sz b) 0 = Cg at *
  generalize lsT G sz pr n k ((G k).drop (j + 1)) = r at *
  generalize (cnL G sz pr n).getD (k + sz b) 0 = lg at *
  generalize upS (lfF G sz pr n L F) n (k + 1) = S at *
  by_cases q1 : u + Ck = C0
  · rw [if_pos q1] at I ⊢
    rw [Int.mul_add] at I
    by_cases q2 : pr b + Cg = Ck
    · rw [if_pos q2] at I
      rw [if_pos (by omega)]
      omega
    · rw [if_neg q2] at I
      rw [if_neg (by omega)]
      simp only [Int.mul_zero] at I
      omega
  · rw [if_neg q1] at I ⊢
    rw [if_neg (by omega)]
    omega
theorem lf_new (D : Dag G sz n) {L : List (Option Int)} {F : List Int} {k j : Nat} {u : Int} (hk : k < n) (hj : j < (G k).length) (hl : L.length = n + 1) (hu : L.getD k none = some u) (hlow : (cB G sz pr n).getD 0 0 ≤ u + (cB G sz pr n).getD k 0)
    (hc : ∀ v, L.getD (k + sz (G k)[j]) none = some v → u + pr (G k)[j] < v) (I : lfI G sz pr n L F k j) :
    lfI G sz pr n (L.set (k + sz (G k)[j]) (some (u + pr (G k)[j]))) (F.set (k + sz (G k)[j]) (F.getD k 0)) k (j + 1) := by
  have tk := lf_take D hk hj hu hlow I
  have lF := I.1
  obtain ⟨s1, s2⟩ := D.s1 k hk _ (List.getElem_mem hj)
  have cb := cB_le (pr := pr) D hk (List.getElem_mem hj)
  generalize (G k)[j] = b at *
  have hl' : k + sz b < L.length := by omega
  have hF' : k + sz b < F.length := by omega
  refine ⟨by rw [List.length_set]; exact lF, ?_⟩
  have e := upS_put (f := lfF G sz pr n L F) (g := lfF G sz pr n (L.set (k + sz b) (some (u + pr b))) (F.set (k + sz b) (F.getD k 0))) (n := n) (j := k + sz b) s2 (fun i h1 h2 => by
    unfold lfF
    rw [getD_set _ _ _ _ _ hl', if_neg h2, getD_set _ _ _ _ _ hF', if_neg h2]) (sz b - 1) (k + 1) (by omega)
  rw [e, getD_set _ _ _ _ _ hl', if_neg (by omega), hu, getD_set _ _ _ _ _ hF', if_neg (by omega)]
  simp only
  have f0 : lfF G sz pr n L F (k + sz b) = 0 := by
    unfold lfF
    cases h : L.getD (k + sz b) none with
    | none => rfl
    | some v =>
      have := hc v h
      simp only
      rw [if_neg (by omega)]
  have f1 : lfF G sz pr n (L.set (k + sz b) (some (u + pr b))) (F.set (k + sz b) (F.getD k 0)) (k + sz b) = if u + pr b + (cB G sz pr n).getD (k + sz b) 0 = (cB G sz pr n).getD 0 0 then F.getD k 0 * (cnL G sz pr n).getD (k + sz b) 0 else 0 := by
    unfold lfF
    rw [getD_set _ _ _ _ _ hl', if_pos rfl, getD_set _ _ _ _ _ hF', if_pos rfl]
  rw [f0, f1]
  omega
theorem lf_same (D : Dag G sz n) {L : List (Option Int)} {F : List Int} {k j : Nat} {u : Int} (hk : k < n) (hj : j < (G k).length) (hl : L.length = n + 1) (hu : L.getD k none = some u) (hlow : (cB G sz pr n).getD 0 0 ≤ u + (cB G sz pr n).getD k 0)
    (hc : L.getD (k + sz (G k)[j]) none = some (u + pr (G k)[j])) (I : lfI G sz pr n L F k j) :
    lfI G sz pr n L (F.set (k + sz (G k)[j]) (F.getD (k + sz (G k)[j]) 0 + F.getD k 0)) k (j + 1) := by
  have tk := lf_take D hk hj hu hlow I
  have lF := I.1
  obtain ⟨s1, s2⟩ := D.s1 k hk _ (List.getElem_mem hj)
  generalize (G k)[j] = b at *
  have hF' : k + sz b < F.length := by omega
  refine ⟨by rw [List.length_set]; exact lF, ?_⟩
  have e := upS_put (f := lfF G sz pr n L F) (g := lfF G sz pr n L (F.set (k + sz b) (F.getD (k + sz b) 0 + F.getD k 0))) (n := n) (j := k + sz b) s2 (fun i h1 h2 => by
    unfold lfF
    rw [getD_set _ _ _ _ _ hF', if_neg h2]) (sz b - 1) (k + 1) (by omega)
  rw [e, hu, getD_set _ _ _ _ _ hF', if_neg (by omega)]
  simp only
  have f0 : lfF G sz pr n L F (k + sz b) = if u + pr b + (cB G sz pr n).getD (k + sz b) 0 = (cB G sz pr n).getD 0 0 then F.getD (k + sz b) 0 * (cnL G sz pr n).getD (k + sz b) 0 else 0 := by
    unfold lfF
    rw [hc]
  have f1 : lfF G sz pr n L (F.set (k + sz b) (F.getD (k + sz b) 0 + F.getD k 0)) (k + sz b) = if u + pr b + (cB G sz pr n).getD (k + sz b) 0 = (cB G sz pr n).getD 0 0 then (F.getD (k + sz b) 0 + F.getD k 0) * (cnL G sz pr n).getD (k + sz b) 0 else 0 := by
    unfold lfF
    rw [hc, getD_set _ _ _ _ _ hF', if_pos rfl]
  rw [f0, f1]
  split
  · rename_i h
    rw [if_pos h] at tk
    rw [Int.add_mul]
    omega
  · rename_i h
    rw [if_neg h] at tk
    omega
theorem lf_more (D : Dag G sz n) {L : List (Option Int)} {F : List Int} {k j : Nat} {u v : Int} (hk : k < n) (hj : j < (G k).length) (hu : L.getD k none = some u) (hlow : (cB G sz pr n).getD 0 0 ≤ u + (cB G sz pr n).getD k 0)
    (hv : v < u + pr (G k)[j]) (hlv : (cB G sz pr n).getD 0 0 ≤ v + (cB G sz pr n).getD (k + sz (G k)[j]) 0) (I : lfI G sz pr n L F k j) : lfI G sz pr n L F k (j + 1) := by
  have tk := lf_take D hk hj hu hlow I
  refine ⟨I.1, ?_⟩
  rw [hu]
  simp only
  rw [if_neg (by omega)] at tk
  omega
theorem lf_turn {L : List (Option Int)} {F : List Int} {k : Nat} {u : Int} (hu : L.getD k none = some u) (I : lfI G sz pr n L F k (G k).length) : upS (lfF G sz pr n L F) n (k + 1) = (cnL G sz pr n).getD 0 0 := by
  have I := I.2
  rw [hu, List.drop_length] at I
  have : lsT G sz pr n k [] = 0 := rfl
  rw [this] at I
  simpa using I
theorem lf_here (D : Dag G sz n) {L : List (Option Int)} {F : List Int} {k : Nat} {u : Int} (hl : F.length = n + 1) (hk : k < n) (hu : L.getD k none = some u) (h : upS (lfF G sz pr n L F) n k = (cnL G sz pr n).getD 0 0) : lfI G sz pr n L F k 0 := by
  refine ⟨hl, ?_⟩
  rw [upS_step _ n k (by omega)] at h
  rw [hu, List.drop_zero]
  simp only
  have e : lsT G sz pr n k (G k) = (cnL G sz pr n).getD k 0 := (cnL_at D hk).symm
  have f : lfF G sz pr n L F k = if u + (cB G sz pr n).getD k 0 = (cB G sz pr n).getD 0 0 then F.getD k 0 * (cnL G sz pr n).getD k 0 else 0 := by
    unfold lfF; rw [hu]
  rw [e, ← f]
  omega
end
end L2.Pv.T

namespace L2.Pv.T
open PySem PySem.Spec PyProof.Rows L2 L2.Pv
/-! ### all rows -/
section
variable {β : Type} (G : Nat → List β) (sz : β → Nat) (pr : β → Int) (n : Nat)
/-- all walks from a place -/
def walks : Nat → Nat → List (List (Nat × β))
  | 0, p => if p = n then [[]] else []
  | f + 1, p => if p = n then [[]] else (G p).flatMap fun b => (walks f (p + sz b)).map fun T => (p, b) :: T
variable {G sz pr n}
theorem walks_end (f : Nat) : walks G sz n f n = [[]] := by
  cases f <;> (unfold walks; rw [if_pos rfl])
theorem walks_step (f p : Nat) (h : p ≠ n) : walks G sz n (f + 1) p = (G p).flatMap fun b => (walks G sz n f (p + sz b)).map fun T => (p, b) :: T := by
  conv => lhs; unfold walks
  rw [if_neg h]
theorem walks_fuel (D : Dag G sz n) : ∀ (f g p : Nat), p ≤ n → n ≤ p + f → n ≤ p + g → walks G sz n f p = walks G sz n g p
  | 0, g, p, h, h1, _ => by
    rw [show p = n by omega, walks_end, walks_end]
  | f + 1, 0, p, h, _, h2 => by
    rw [show p = n by omega, walks_end, walks_end]
  | f + 1, g + 1, p, h, h1, h2 => by
    by_cases q : p = n
    · rw [q, walks_end, walks_end]
    · rw [walks_step f p q, walks_step g p q]
      have : ∀ b ∈ G p, ((walks G sz n f (p + sz b)).map fun T => (p, b) :: T) = (walks G sz n g (p + sz b)).map fun T => (p, b) :: T := fun b hb => by
        obtain ⟨s1, s2⟩ := D.s1 p (by omega) b hb
        rw [walks_fuel D f g (p + sz b) s2 (by omega) (by omega)]
      rw [List.flatMap_def, List.flatMap_def, List.map_congr_left this]
theorem walks_tr (D : Dag G sz n) : ∀ (f p : Nat), p ≤ n → n ≤ p + f → ∀ T ∈ walks G sz n f p, Tr G sz n p T
  | 0, p, h, h1, T, hT => by
    have e : p = n := by omega
    subst e
    rw [walks_end, List.mem_singleton] at hT
    subst hT
    exact rfl
  | f + 1, p, h, h1, T, hT => by
    by_cases q : p = n
    · subst q
      rw [walks_end, List.mem_singleton] at hT
      subst hT
      exact rfl
    · rw [walks_step f p q] at hT
      obtain ⟨b, hb, hT⟩ := List.mem_flatMap.mp hT
      obtain ⟨T', hT', rfl⟩ := List.mem_map.mp hT
      obtain ⟨s1, s2⟩ := D.s1 p (by omega) b hb
      exact ⟨rfl, by omega, hb, walks_tr D f (p + sz b) s2 (by omega) T' hT'⟩
theorem tr_walks (D : Dag G sz n) : ∀ (f p : Nat), p ≤ n → n ≤ p + f → ∀ T, Tr G sz n p T → T ∈ walks G sz n f p
  | 0, p, h, h1, T, hT => by
    have e : p = n := by omega
    subst e
    rw [walks_end, List.mem_singleton]
    cases T with
    | nil => rfl
    | cons x T => have := hT.2.1; omega
  | f + 1, p, h, h1, T, hT => by
    by_cases q : p = n
    · subst q
      rw [walks_end, List.mem_singleton]
      cases T with
      | nil => rfl
      | cons x T => have := hT.2.1; omega
    · rw [walks_step f p q]
      cases T with
      | nil => exact absurd hT q
      | cons x T =>
        obtain ⟨h2, h3, h4, h5⟩ := hT
        obtain ⟨s1, s2⟩ := D.s1 p h3 _ h4
        refine List.mem_flatMap.mpr ⟨x.2, h4, List.mem_map.mpr ⟨T, tr_walks D f (p + sz x.2) s2 (by omega) T h5, ?_⟩⟩
        rw [← h2]
/-- how many -/
theorem walks_len (D : Dag G sz n) : ∀ (f p : Nat), p ≤ n → n ≤ p + f → ((walks G sz n f p).length : Int) = (cnE G sz n).getD p 0
  | 0, p, h, h1 => by
    rw [show p = n by omega, walks_end, cnE_end]; rfl
  | f + 1, p, h, h1 => by
    by_cases q : p = n
    · rw [q, walks_end, cnE_end]; rfl
    · rw [walks_step f p q, cnE_at D (by omega)]
      have : ∀ l : List β, (∀ b ∈ l, b ∈ G p) → ((l.flatMap fun b => (walks G sz n f (p + sz b)).map fun T => (p, b) :: T).length : Int) = (l.map fun b => (cnE G sz n).getD (p + sz b) 0).sum := by
        intro l
        induction l with
        | nil => intro _; rfl
        | cons b l ih =>
          intro hl
          obtain ⟨s1, s2⟩ := D.s1 p (by omega) b (hl b List.mem_cons_self)
          rw [List.flatMap_cons, List.length_append, List.length_map, List.map_cons, List.sum_cons, ← ih fun c hc => hl c (List.mem_cons_of_mem _ hc), ← walks_len D f (p + sz b) s2 (by omega)]
          push_cast
          rfl
      exact this (G p) fun b hb => hb
theorem cost_cons (x : Nat × β) (T : List (Nat × β)) : cost pr (x :: T) = pr x.2 + cost pr T := by
  unfold cost; rw [List.map_cons, List.sum_cons]
theorem cost_ge (D : Dag G sz n) : ∀ (T : List (Nat × β)) (p : Nat), Tr G sz n p T → (cB G sz pr n).getD p 0 ≤ cost pr T
  | [], p, h => by
    have h : p = n := h
    rw [h, cB_end]; exact Int.le_refl _
  | x :: T, p, ⟨h1, h2, h3, h4⟩ => by
    have := cost_ge D T _ h4
    have := cB_le (pr := pr) D h2 h3
    rw [cost_cons]
    omega
/-- how many of the least cost -/
theorem walks_least (D : Dag G sz n) : ∀ (f p : Nat), p ≤ n → n ≤ p + f → (((walks G sz n f p).filter fun T => decide (cost pr T = (cB G sz pr n).getD p 0)).length : Int) = (cnL G sz pr n).getD p 0
  | 0, p, h, h1 => by
    rw [show p = n by omega, walks_end, cnL_end, cB_end]; rfl
  | f + 1, p, h, h1 => by
    by_cases q : p = n
    · rw [q, walks_end, cnL_end, cB_end]; rfl
    · rw [walks_step f p q, cnL_at D (by omega)]
      have : ∀ l : List β, (∀ b ∈ l, b ∈ G p) → (((l.flatMap fun b => (walks G sz n f (p + sz b)).map fun T => (p, b) :: T).filter fun T => decide (cost pr T = (cB G sz pr n).getD p 0)).length : Int) = ((l.filter fun b => decide (pr b + (cB G sz pr n).getD (p + sz b) 0 = (cB G sz pr n).getD p 0)).map fun b => (cnL G sz pr n).getD (p + sz b) 0).sum := by
        intro l
        induction l with
        | nil => intro _; rfl
        | cons b l ih =>
          intro hl
          obtain ⟨s1, s2⟩ := D.s1 p (by omega) b (hl b List.mem_cons_self)
          have ih := ih fun c hc => hl c (List.mem_cons_of_mem _ hc)
          have le := cB_le (pr := pr) D (p := p) (by omega) (hl b List.mem_cons_self)
          rw [List.flatMap_cons, List.filter_append, List.length_append, List.filter_map, List.length_map, List.filter_cons]
          push_cast
          rw [ih]
          have wl := walks_least D f (p + sz b) s2 (by omega)
          by_cases t : pr b + (cB G sz pr n).getD (p + sz b) 0 = (cB G sz pr n).getD p 0
          · rw [if_pos (decide_eq_true t), List.map_cons, List.sum_cons, ← wl]
            congr 3
            refine List.filter_congr fun T hT => ?_
            show decide (cost pr ((p, b) :: T) = _) = _
            rw [cost_cons, decide_eq_decide]
            show pr b + cost pr T = _ ↔ _
            omega
          · rw [if_neg (fun z => t (of_decide_eq_true z))]
            have : ((walks G sz n f (p + sz b)).filter ((fun T => decide (cost pr T = (cB G sz pr n).getD p 0)) ∘ fun T => (p, b) :: T)) = [] := by
              rw [List.filter_eq_nil_iff]
              intro T hT z
              have z := of_decide_eq_true z
              have ge := cost_ge (pr := pr) D T _ (walks_tr D f _ s2 (by omega) T hT)
              have z : cost pr ((p, b) :: T) = _ := z
              rw [cost_cons] at z
              simp only at z
              omega
            rw [this]
            simp
      exact this (G p) fun b hb => hb
end
end L2.Pv.T

namespace L2.Pv.T
open PySem PySem.Spec PyProof.Rows L2 L2.Pv
/-! ### the order of rows -/
abbrev Tk := List (Int ⊕ List Nat)
abbrev lxT (x y : Tk) : Bool := PyProof.Rows.lexLt itemOrd x y
abbrev tkI (x : IV) : Tk := PySem.W.keyToks x.py
abbrev tkL (xs : List IV) : Tk := PySem.W.keyToksAll (IV.pys xs)
theorem ltI_tup (xs ys : List IV) : ltI (.tup xs) (.tup ys) = lxT (tkL xs) (tkL ys) := rfl
theorem leI_lt (x y : IV) : leI x y = !ltI y x := rfl
theorem tkL_cons (x : IV) (xs : List IV) : tkL (x :: xs) = .inl 1 :: (tkI x ++ tkL xs) := rfl
theorem lx_pre (p a b : Tk) : lxT (p ++ a) (p ++ b) = lxT a b := PySem.W.lex_pre p a b
theorem lx_cp (x y : Nat × Nat) (r r' : Tk) : lxT (tkI (cpI x) ++ r) (tkI (cpI y) ++ r') = (decide ((x.1 : Int) < y.1) || (!decide ((y.1 : Int) < x.1) && (decide ((x.2 : Int) < y.2) || (!decide ((y.2 : Int) < x.2) && lxT r r')))) := by kernel_rfl
theorem lx_co (x : Nat × Nat) (v : Int) (r r' : Tk) : lxT (tkI (cpI x) ++ r) (tkI (oneI v) ++ r') = true := by kernel_rfl
theorem lt_cp (x y : Nat × Nat) : ltI (cpI x) (cpI y) = (decide ((x.1 : Int) < y.1) || (!decide ((y.1 : Int) < x.1) && (decide ((x.2 : Int) < y.2) || (!decide ((y.2 : Int) < x.2) && false)))) := by kernel_rfl
theorem leC_iff (x y : Nat × Nat) : leC x y = true ↔ x.1 < y.1 ∨ x.1 = y.1 ∧ x.2 ≤ y.2 := by
  unfold leC
  rw [leI_lt, lt_cp]
  by_cases h1 : y.1 < x.1
  · simp [h1]; omega
  · by_cases h2 : x.1 < y.1
    · simp [h1, h2]
    · have : x.1 = y.1 := by omega
      simp [this]
theorem cps_nodup (a : List Int) (nl nd p : Nat) : (cps a nl nd p).Nodup := by
  unfold cps List.Nodup
  rw [List.pairwise_flatMap]
  refine ⟨fun i _ => ?_, ?_⟩
  · rw [List.pairwise_map]
    exact List.nodup_range.imp fun h z => h (by injection z with z1 z2; omega)
  · exact List.nodup_range.imp fun h x hx y hy z => by
      obtain ⟨j, _, rfl⟩ := List.mem_map.mp hx
      obtain ⟨k, _, rfl⟩ := List.mem_map.mp hy
      injection z with z1 z2
      exact h (by omega)
theorem stL_asc (a : List Int) (nl nd p : Nat) : (stL a nl nd p).Pairwise fun x y => x.1 < y.1 ∨ x.1 = y.1 ∧ x.2 < y.2 := by
  have h1 : (stL a nl nd p).Pairwise fun x y => leC x y = true := List.pairwise_mergeSort (fun x y z h1 h2 => by rw [leC_iff] at *; omega) (fun x y => by
    by_cases q : leC x y = true
    · rw [q]; rfl
    · have : leC y x = true := by
        rw [leC_iff] at *
        omega
      rw [this, Bool.or_true]) _
  have h2 : (stL a nl nd p).Nodup := (List.mergeSort_perm _ _).nodup_iff.mpr (cps_nodup a nl nd p)
  exact (h1.and h2).imp fun {x y} h => by
    obtain ⟨h3, h4⟩ := h
    rw [leC_iff] at h3
    have : ¬ (x.1 = y.1 ∧ x.2 = y.2) := fun z => h4 (Prod.ext z.1 z.2)
    omega
/-- the steps of a place stand in their order -/
theorem stS_asc (a : List Int) (nl nd p : Nat) (v : Int) : (stS a nl nd p).Pairwise fun b c => ∀ r r', lxT (tkI (bI v b) ++ r) (tkI (bI v c) ++ r') = true := by
  unfold stS
  rw [List.pairwise_append]
  refine ⟨?_, List.pairwise_singleton _ _, ?_⟩
  · rw [List.pairwise_map]
    exact (stL_asc a nl nd p).imp fun {x y} h r r' => by
      show lxT (tkI (cpI x) ++ r) (tkI (cpI y) ++ r') = true
      rw [lx_cp]
      rcases h with h | ⟨h1, h2⟩
      · rw [decide_eq_true (by omega : (x.1 : Int) < y.1)]; rfl
      · rw [decide_eq_false (by omega : ¬ (x.1 : Int) < y.1), decide_eq_false (by omega : ¬ (y.1 : Int) < x.1), decide_eq_true (by omega : (x.2 : Int) < y.2)]; rfl
  · intro b hb c hc r r'
    obtain ⟨x, _, rfl⟩ := List.mem_map.mp hb
    rw [List.mem_singleton.mp hc]
    exact lx_co x v r r'
theorem rowI_cons (a : List Int) (x : Nat × Option (Nat × Nat)) (T : List (Nat × Option (Nat × Nat))) : rowI a (x :: T) = bI (a.getD x.1 0) x.2 :: rowI a T := rfl
/-- the row of first choices is ahead of all others that cost as little -/
theorem row_first (a : List Int) (o : Int) (ls fs : List Int) : ∀ (T0 T : List (Nat × Option (Nat × Nat))) (p : Nat), Tr (stS a ls.length fs.length) gsz a.length p T0 → Tr (stS a ls.length fs.length) gsz a.length p T →
    (∀ x ∈ T0, x.2 = chz a o ls fs x.1) → cost (spr o ls fs) T = (cBa a o ls fs).getD p 0 → T ≠ T0 → lxT (tkL (rowI a T0)) (tkL (rowI a T)) = true
  | [], [], p, _, _, _, _, h => absurd rfl h
  | [], y :: T, p, h1, h2, _, _, _ => by
    have h1 : p = a.length := h1
    have := h2.2.1
    omega
  | x :: T0, [], p, h1, h2, _, _, _ => by
    have h2 : p = a.length := h2
    have := h1.2.1
    omega
  | x :: T0, y :: T, p, ⟨x1, x2, x3, x4⟩, ⟨y1, y2, y3, y4⟩, hc, ht, hne => by
    have D := stS_dag a ls.length fs.length
    have ge := cost_ge (pr := spr o ls fs) D T _ y4
    have le := cB_le (pr := spr o ls fs) D y2 y3
    rw [cost_cons] at ht
    unfold cBa at ht
    have tight : spr o ls fs y.2 + (cB (stS a ls.length fs.length) gsz (spr o ls fs) a.length).getD (p + gsz y.2) 0 = (cB (stS a ls.length fs.length) gsz (spr o ls fs) a.length).getD p 0 := by omega
    rw [rowI_cons, rowI_cons, tkL_cons, tkL_cons, x1, y1]
    have e1 : ∀ l m : Tk, lxT (.inl 1 :: l) (.inl 1 :: m) = lxT l m := fun l m => lx_pre [.inl 1] l m
    rw [e1]
    by_cases q : y.2 = x.2
    · have ne : T ≠ T0 := fun z => hne (by
        rw [z]
        congr 1
        exact Prod.ext (by rw [x1, y1]) q)
      rw [q, lx_pre]
      rw [q] at y4 tight ht
      exact row_first a o ls fs T0 T _ x4 y4 (fun z hz => hc z (List.mem_cons_of_mem _ hz)) (by unfold cBa; omega) ne
    · have hx := hc x List.mem_cons_self
      rw [x1] at hx
      obtain ⟨j, hj, c1, c2, c3⟩ := chz_spec a (o := o) (ls := ls) (fs := fs) x2
      obtain ⟨i, hi, ei⟩ := List.getElem_of_mem y3
      have ij : j < i := by
        rcases Nat.lt_trichotomy i j with z | z | z
        · exact absurd (by rw [ei]; exact tight) (c3 i z)
        · exfalso
          subst z
          exact q (by rw [← ei, hx, c1])
        · exact z
      have pw := List.pairwise_iff_getElem.mp (stS_asc a ls.length fs.length p (a.getD p 0)) j i hj hi ij (tkL (rowI a T0)) (tkL (rowI a T))
      rw [ei, ← c1, ← hx] at pw
      exact pw
/-- rows can be sorted -/
theorem ok_rows (a : List Int) (Ts : List (List (Nat × Option (Nat × Nat)))) (h : ∀ T ∈ Ts, T ≠ []) : okSort (Ts.map fun T => .tup (rowI a T)) = true := by
  have al : ∀ (T T' : List (Nat × Option (Nat × Nat))), PySem.W.alikeAll (IV.pys (rowI a T)) (IV.pys (rowI a T')) = true := by
    intro T
    induction T with
    | nil => intro T'; cases T' <;> rfl
    | cons x T ih =>
      intro T'
      cases T' with
      | nil => rfl
      | cons y T' =>
        have s : PySem.W.alike (bI (a.getD x.1 0) x.2).py (bI (a.getD y.1 0) y.2).py = true := by
          cases x.2 <;> cases y.2 <;> rfl
        show (PySem.W.alike (bI (a.getD x.1 0) x.2).py (bI (a.getD y.1 0) y.2).py && PySem.W.alikeAll (IV.pys (rowI a T)) (IV.pys (rowI a T'))) = true
        rw [s, ih T'] <;> rfl
  unfold okSort
  have h1 : (Ts.map fun T => IV.tup (rowI a T)).all (fun x => (Ts.map fun T => IV.tup (rowI a T)).all fun y => PySem.W.alike x.py y.py) = true := List.all_eq_true.mpr fun x hx => List.all_eq_true.mpr fun y hy => by
    obtain ⟨x', _, rfl⟩ := List.mem_map.mp hx
    obtain ⟨y', _, rfl⟩ := List.mem_map.mp hy
    exact al x' y'
  have h2 : (Ts.map fun T => IV.tup (rowI a T)).all tupNE = true := List.all_eq_true.mpr fun x hx => by
    obtain ⟨x', hx', rfl⟩ := List.mem_map.mp hx
    cases x' with
    | nil => exact absurd rfl (h [] hx')
    | cons y T => rfl
  have h3 : (Ts.map fun T => IV.tup (rowI a T)).all (fun x => decide (x.py.depth ≤ 64)) = true := List.all_eq_true.mpr fun x hx => by
    obtain ⟨x', hx', rfl⟩ := List.mem_map.mp hx
    exact decide_eq_true (Nat.le_trans (fit_rowI a x').2 (by decide))
  rw [h1, h2, h3] <;> rfl
end L2.Pv.T

namespace L2.Pv.T
open PySem PySem.Spec PyProof.Rows L2 L2.Pv
/-! ### levels that hold have no fault -/
theorem lf3_ok (s0 s1 s3 s4 s5 : Option (DV × Md)) (xs : List Int) (h : xs.length ≤ 1000) : C_levels_fault_3 [s0, s1, ot xs, s3, s4, s5] = .ok (.l (xs.map fun _ => .bl true), .own) := by
  refine comp_iL (m := .own) (fun _ => .bl true) (by simp) (by omega) fun x hx => ?_
  exact ⟨[s0, s1, ot xs, s3, s4, oi x], rfl, rfl, by simp [tyN, isTy]⟩
theorem no_fault (a : List Int) {o : Int} {ls fs : List Int} (P : Prc o ls fs) (ha : a.length ≤ 60) (oa : Oct a) (vs : List Int) (hl : vs.length = a.length + 1) (h0 : vs.getD 0 0 ≤ 0) (hf : Feas (stS a ls.length fs.length) gsz (spr o ls fs) a.length (fun p => vs.getD p 0)) :
    F_levels_fault [tp a, .i (pz o ls fs), tp vs] = .ok (.i .non) := by
  have i0 := fun m m' : Md => ix_tup (m := m) (m' := m') (xs := vs) (k := 0) (by omega) (by omega)
  rw [show (0 : Int).toNat = 0 from rfl] at i0
  have al : ∀ m, opAll (.l (vs.map fun _ => IV.bl true), m) = .ok (.i (.bl true), .own) := fun m => by
    rw [opAll_map (fun _ => true) vs m]; simp
  have c3 := fun s0 s1 s3 s4 s5 => lf3_ok s0 s1 s3 s4 s5 vs (by omega)
  generalize (vs.map fun _ => IV.bl true) = X at al c3
  refine run_eq ?_
  have e0 : startE 6 [tp a, .i (pz o ls fs), tp vs] = [ot a, some (.i (pz o ls fs), .own), ot vs, none, none, none] := rfl
  rw [e0]
  generalize hx : vs.getD 0 0 = x at i0 h0
  simp [G_levels_fault, check_eq a P ha oa, tyN, isTy, hl, c3, al, i0, show ¬ 0 < x by omega, smI_ok (i := (a.length : Int)) (by omega) (by omega)]
  refine for_rg (fun k ρ => ∃ v3 v4 v5, ρ = [ot a, some (.i (pz o ls fs), .own), ot vs, v3, v4, v5]) ⟨_, _, _, rfl⟩ ?_ ?_
  · rintro k hk W hW ρ ⟨v3, v4, v5, rfl⟩
    have se := steps_b a k P ha hk
    have s1 := (stS_dag a ls.length fs.length).s1 k hk
    have sp := fun b (hb : b ∈ stS a ls.length fs.length k) => sp_eq P hb (a.getD k 0)
    have hf := hf k hk
    generalize a.getD k 0 = ov at se sp
    generalize stS a ls.length fs.length k = S at *
    simp [B_levels_fault_2, se]
    rw [elI_map]
    have j0 := fun m m' : Md => ix_tup (m := m) (m' := m') (xs := vs) (k := (k : Int)) (by omega) (by omega)
    rw [Int.toNat_natCast] at j0
    refine for_map S (fun b => (.i (bI ov b), .own)) _ (fun i ρ => ∃ v4, ρ = [ot a, some (.i (pz o ls fs), .own), ot vs, oi k, v4, v5]) ⟨_, rfl⟩ ?_ ?_
    · rintro i hi W2 hW2 ρ ⟨v4, rfl⟩
      have hb := List.getElem_mem hi
      generalize S[i] = b at hb ⊢
      obtain ⟨n1, n2⟩ := s1 b hb
      have fb : vs.getD (k + gsz b) 0 ≤ vs.getD k 0 + spr o ls fs b := hf b hb
      have i1 := fun m m' : Md => ix_tup (m := m) (m' := m') (xs := vs) (k := (k : Int) + gsz b) (by omega) (by omega)
      rw [show ((k : Int) + gsz b).toNat = k + gsz b by omega] at i1
      have sb := size_b ov b
      have spb := sp b hb
      generalize vs.getD k 0 = x at j0 fb
      generalize vs.getD (k + gsz b) 0 = y at i1 fb
      simp [B_levels_fault_1, sb, spb, j0, i1, show ¬ x + spr o ls fs b < y by omega]
      exact hW2.nx _ ⟨_, rfl⟩
    · rintro ρ ⟨v4, rfl⟩
      exact hW.nx _ ⟨_, _, _, rfl⟩
  · rintro ρ ⟨v3, v4, v5, rfl⟩
    simp
end L2.Pv.T

namespace L2.Pv.T
open PySem PySem.Spec PyProof.Rows L2 L2.Pv
theorem cps_len2 (a : List Int) (nl nd p : Nat) : (cps a nl nd p).length ≤ p * a.length := by
  have pre : ∀ k, (((List.range k).flatMap fun i => (List.range (min (cl a p (i + 1)) (nl + 1) - 1)).map fun j => (j + 2, i + 1)) : List (Nat × Nat)).length ≤ k * a.length := by
    intro k
    induction k with
    | zero => simp
    | succ k ih =>
      have := cl_le a p (k + 1)
      rw [List.range_succ, List.flatMap_append, List.length_append, Nat.succ_mul]
      simp only [List.flatMap_cons, List.flatMap_nil, List.append_nil, List.length_map, List.length_range]
      omega
  have := pre (min nd p)
  have : min nd p * a.length ≤ p * a.length := Nat.mul_le_mul (by omega) (Nat.le_refl _)
  unfold cps
  omega
theorem stS_len2 (a : List Int) (nl nd p : Nat) (ha : a.length ≤ 7) (hp : p < a.length) : (stS a nl nd p).length ≤ 50 := by
  unfold stS
  have := cps_len2 a nl nd p
  have : p * a.length ≤ 7 * 7 := Nat.mul_le_mul (by omega) ha
  rw [List.length_append, List.length_map, stL_len]
  simp; omega
def parLR (i j : Nat) (ρ : Env) (x y : DV × Md) : RS := if i < ρ.length ∧ j < ρ.length then (match parL ρ i j x y with
  | some ρ' => .nx ρ'
  | none => .bad) else .bad
@[simp] theorem sParL_ap (i j : Nat) (f g : FE) (ρ : Env) : sParL i j f g ρ = (f ρ).st ρ fun x => (g ρ).st ρ fun y => parLR i j ρ x y := by
  unfold sParL R.st parLR
  cases f ρ with
  | ok x => simp only; cases g ρ <;> rfl
  | ex => rfl
  | bad => rfl
@[simp] theorem parLR_l (i j : Nat) (ρ : Env) (a b : List IV) : parLR i j ρ (.l a, .own) (.l b, .own) = if i < ρ.length ∧ j < ρ.length then .nx ((ρ.set i (some (.l a, .own))).set j (some (.l b, .own))) else .bad := rfl
abbrev Wk := List (Nat × Option (Nat × Nat))
theorem leI_trans (x y z : IV) (h1 : leI x y = true) (h2 : leI y z = true) : leI x z = true := (PySem.W.sortLe_total (listOrd itemOrd) false fun b : IV => PySem.W.keyToks b.py).trans x y z h1 h2
theorem leI_total (x y : IV) : (leI x y || leI y x) = true := by
  rw [Bool.or_eq_true]
  exact (PySem.W.sortLe_total (listOrd itemOrd) false fun b : IV => PySem.W.keyToks b.py).total x y
/-- all rows in their order -/
theorem sort_rows (a : List Int) (nl nd : Nat) (Fs : List Wk) (pm : Fs.Perm (walks (stS a nl nd) gsz a.length a.length 0)) : ∃ Ts : List Wk, Ts.Perm Fs ∧ (∀ m, opSortedA (.l (Fs.map fun T => .tup (rowI a T)), m) = .ok (.l (Ts.map fun T => .tup (rowI a T)), .own)) ∧ Ts.Pairwise fun T T' => lxT (tkL (rowI a T')) (tkL (rowI a T)) = false := by
  have D := stS_dag a nl nd
  by_cases one : Fs.length ≤ 1
  · refine ⟨Fs, .refl _, fun m => ?_, ?_⟩
    · rw [opSortedA_l, List.length_map, if_pos one]
    · cases Fs with
      | nil => exact .nil
      | cons y r =>
        cases r with
        | nil => exact List.pairwise_singleton _ _
        | cons z r => simp at one
  · have ne : ∀ T ∈ Fs, T ≠ [] := by
      intro T hT z
      subst z
      have tr := walks_tr D a.length 0 (Nat.zero_le _) (by omega) [] (pm.mem_iff.mp hT)
      have tr : 0 = a.length := tr
      have := pm.length_eq
      rw [← tr, walks_end] at this
      simp at this
      omega
    have ok := ok_rows a Fs ne
    have e : sortI (Fs.map fun T => .tup (rowI a T)) = (Fs.mergeSort fun T T' => leI (.tup (rowI a T)) (.tup (rowI a T'))).map fun T => .tup (rowI a T) := by
      unfold sortI
      exact (List.map_mergeSort (f := fun T => IV.tup (rowI a T)) (r := fun T T' => leI (.tup (rowI a T)) (.tup (rowI a T'))) (s := leI) (l := Fs) fun _ _ _ _ => rfl).symm
    refine ⟨_, List.mergeSort_perm Fs fun T T' => leI (.tup (rowI a T)) (.tup (rowI a T')), fun m => ?_, ?_⟩
    · rw [opSortedA_l, List.length_map, if_neg one, ← e]
      unfold opSorted items?
      simp only [ok, if_true]
    · have := List.pairwise_mergeSort (le := fun T T' : Wk => leI (.tup (rowI a T)) (.tup (rowI a T'))) (fun x y z h1 h2 => leI_trans _ _ _ h1 h2) (fun x y => leI_total _ _) Fs
      exact this.imp fun {x y} h => by
        rw [leI_lt, ltI_tup] at h
        simpa using h
def leftI (a : List Int) (x : Wk × Nat) : IV := .tup [.tup (rowI a x.1), .int x.2]
theorem rowI_snoc (a : List Int) (T : Wk) (p : Nat) (b : Option (Nat × Nat)) : rowI a (T ++ [(p, b)]) = rowI a T ++ [bI (a.getD p 0) b] := by
  unfold rowI; rw [List.map_append] <;> rfl
theorem rows_ok (a : List Int) {o : Int} {ls fs : List Int} (P : Prc o ls fs) (ha : a.length ≤ 7) :
    ∃ d, F__law_rows [tp a, .i (pz o ls fs)] = .ok d ∧ (d = .i .non ∨ ∃ Ts : List Wk, Ts.Perm (walks (stS a ls.length fs.length) gsz a.length a.length 0) ∧ d = .l (Ts.map fun T => .tup (rowI a T)) ∧ Ts.length ≤ 20000 ∧ Ts.Pairwise fun T T' => lxT (tkL (rowI a T')) (tkL (rowI a T)) = false) := by
  have D := stS_dag a ls.length fs.length
  refine run_ok _ fun Z hZ => ?_
  have e0 : startE 8 [tp a, .i (pz o ls fs)] = [ot a, some (.i (pz o ls fs), .own), none, none, none, none, none, none] := rfl
  rw [e0]
  simp [G__law_rows, smI_ok (i := 20000) (by decide) (by decide)]
  refine for_rg (fun t ρ => ∃ (Fs : List Wk) (Ls : List (Wk × Nat)) (v4 v5 v6 v7 : Option (DV × Md)), (Fs ++ Ls.flatMap fun x => (walks (stS a ls.length fs.length) gsz a.length a.length x.2).map (x.1 ++ ·)).Perm (walks (stS a ls.length fs.length) gsz a.length a.length 0) ∧ (∀ x ∈ Ls, x.2 ≤ a.length ∧ x.1.length ≤ x.2) ∧ Ls.length ≤ 1 + 50 * t ∧ Fs.length ≤ t ∧
    ρ = [ot a, some (.i (pz o ls fs), .own), some (.l (Fs.map fun T => .tup (rowI a T)), .own), some (.l (Ls.map (leftI a)), .own), v4, v5, v6, v7]) ?_ ?_ ?_
  · refine ⟨[], [([], 0)], none, none, none, none, ?_, ?_, by simp, by simp, rfl⟩
    · simp
    · intro x hx
      rw [List.mem_singleton.mp hx]
      exact ⟨Nat.zero_le _, Nat.le_refl _⟩
  · rintro t ht W hW ρ ⟨Fs, Ls, v4, v5, v6, v7, pm, hL, lL, lF, rfl⟩
    rcases List.eq_nil_or_concat Ls with rfl | ⟨Ls', x, rfl⟩
    · -- all are found
      simp only [List.flatMap_nil, List.append_nil] at pm
      obtain ⟨Ts, pt, so, sp⟩ := sort_rows a ls.length fs.length Fs pm
      simp [B__law_rows_2, so]
      exact hW.rt _ (hZ _ (.inr ⟨Ts, pt.trans pm, rfl, by have := pt.length_eq; omega, sp⟩))
    · obtain ⟨T, p⟩ := x
      obtain ⟨hp, hT⟩ := hL (T, p) (by simp)
      simp only at hp hT
      have l0 : ¬ ((Ls' ++ [(T, p)]).map (leftI a)).length = 0 := by simp
      have em : (Ls' ++ [(T, p)]).map (leftI a) = Ls'.map (leftI a) ++ [.tup [.tup (rowI a T), .int p]] := by rw [List.map_append] <;> rfl
      have ll : Ls'.length + 1 ≤ 1 + 50 * t := by simpa using lL
      have hL' : ∀ x ∈ Ls', x.2 ≤ a.length ∧ x.1.length ≤ x.2 := fun x hx => hL x (by simp [hx])
      rw [List.concat_eq_append] at *
      rw [em]
      rw [List.flatMap_append, List.flatMap_cons, List.flatMap_nil, List.append_nil] at pm
      by_cases q : p = a.length
      · subst q
        rw [walks_end] at pm
        have fin := hW.nx [ot a, some (.i (pz o ls fs), .own), some (.l ((Fs ++ [T]).map fun T => .tup (rowI a T)), .own), some (.l (Ls'.map (leftI a)), .own), oi t, some (.i (.tup (rowI a T)), .own), oi (a.length : Nat), v7] ⟨Fs ++ [T], Ls', _, _, _, _, by
          refine List.Perm.trans ?_ pm
          rw [List.append_assoc]
          refine List.Perm.append_left _ ?_
          simp only [List.map_cons, List.map_nil, List.append_nil]
          exact List.perm_append_comm, hL', by omega, by simp; omega, rfl⟩
        rw [List.map_append] at fin
        simp [B__law_rows_2, popR_snoc, popT, show ¬ ((Ls'.length : Int) + 1 = 0) by omega, show Fs.length < 16777216 by omega]
        exact fin
      · have se := lsteps_b a p P (by omega) (by omega)
        have l2 := stS_len2 a ls.length fs.length p ha (by omega)
        have s1 := D.s1 p (by omega)
        have rl : (rowI a T).length = T.length := List.length_map _
        have c1 : ∀ v7, C__law_rows_1 [ot a, some (.i (pz o ls fs), .own), some (.l (Fs.map fun T => .tup (rowI a T)), .own), some (.l (Ls'.map (leftI a)), .own), oi t, some (.i (.tup (rowI a T)), .own), oi p, v7] = .ok (.l ((stS a ls.length fs.length p).map fun b => leftI a (T ++ [(p, b)], p + gsz b)), .own) := fun v7 => by
          refine comp_map (m := .own) (it := fun b => (.i (bI (a.getD p 0) b), .own)) _ (by simp [se, elI_map, -List.getD_eq_getElem?_getD]) (by omega) fun b hb => ?_
          refine ⟨[ot a, some (.i (pz o ls fs), .own), some (.l (Fs.map fun T => .tup (rowI a T)), .own), some (.l (Ls'.map (leftI a)), .own), oi t, some (.i (.tup (rowI a T)), .own), oi p, some (.i (bI (a.getD p 0) b), .own)], rfl, rfl, ?_⟩
          unfold leftI
          rw [rowI_snoc]
          simp [lsize_b, rl, show T.length + 1 ≤ 16777216 by omega, show T.length ≤ 16777215 by omega, -List.getD_eq_getElem?_getD]
        have fin := hW.nx [ot a, some (.i (pz o ls fs), .own), some (.l (Fs.map fun T => .tup (rowI a T)), .own), some (.l ((Ls' ++ (stS a ls.length fs.length p).map fun b => (T ++ [(p, b)], p + gsz b)).map (leftI a)), .own), oi t, some (.i (.tup (rowI a T)), .own), oi p, v7] ⟨Fs, Ls' ++ (stS a ls.length fs.length p).map fun b => (T ++ [(p, b)], p + gsz b), _, _, _, _, by
          refine List.Perm.trans (List.Perm.of_eq ?_) pm
          congr 1
          rw [List.flatMap_append]
          congr 1
          have wf : walks (stS a ls.length fs.length) gsz a.length a.length p = walks (stS a ls.length fs.length) gsz a.length (a.length + 1) p := walks_fuel D _ _ p hp (by omega) (by omega)
          show _ = (walks (stS a ls.length fs.length) gsz a.length a.length p).map (T ++ ·)
          rw [wf, walks_step _ _ q, List.flatMap_def, List.flatMap_def, List.map_flatten, List.map_map, List.map_map]
          congr 1
          refine List.map_congr_left fun b hb => ?_
          show ((walks (stS a ls.length fs.length) gsz a.length a.length (p + gsz b)).map fun U => (T ++ [(p, b)]) ++ U) = ((walks (stS a ls.length fs.length) gsz a.length a.length (p + gsz b)).map fun U => (p, b) :: U).map (T ++ ·)
          rw [List.map_map]
          refine List.map_congr_left fun U _ => ?_
          show (T ++ [(p, b)]) ++ U = T ++ ((p, b) :: U)
          simp, ?_, ?_, by omega, rfl⟩
        · rw [List.map_append, List.map_map] at fin
          have c1 := c1
          have e5 : ((stS a ls.length fs.length p).map fun b => leftI a (T ++ [(p, b)], p + gsz b)) = (stS a ls.length fs.length p).map (leftI a ∘ fun b => (T ++ [(p, b)], p + gsz b)) := rfl
          have lX : ((stS a ls.length fs.length p).map (leftI a ∘ fun b => (T ++ [(p, b)], p + gsz b))).length ≤ 50 := by rw [List.length_map]; exact l2
          rw [e5] at c1
          generalize (stS a ls.length fs.length p).map (leftI a ∘ fun b => (T ++ [(p, b)], p + gsz b)) = X at c1 fin lX
          simp [B__law_rows_2, popR_snoc, popT, show ¬ ((Ls'.length : Int) + 1 = 0) by omega, show ¬ ((p : Int) = a.length) by omega, q, c1, show Ls'.length + X.length ≤ 16777216 by omega]
          exact fin
        · intro x hx
          rcases List.mem_append.mp hx with hx | hx
          · exact hL' x hx
          · obtain ⟨b, hb, rfl⟩ := List.mem_map.mp hx
            obtain ⟨u1, u2⟩ := s1 b hb
            refine ⟨u2, ?_⟩
            show (T ++ [(p, b)]).length ≤ p + gsz b
            simp
            omega
        · rw [List.length_append, List.length_map]
          omega
  · rintro ρ ⟨Fs, Ls, v4, v5, v6, v7, pm, hL, lL, lF, rfl⟩
    simp
    exact hZ _ (.inl rfl)
end L2.Pv.T

namespace L2.Pv.T
open PySem PySem.Spec PyProof.Rows L2 L2.Pv
/-! ### beginnings -/
theorem mem_take {a : List Int} {nl nd p s : Nat} (hs : s ≤ a.length) (hp : p < s) {c : Option (Nat × Nat)} : c ∈ stS (a.take s) nl nd p ↔ c ∈ stS a nl nd p ∧ p + gsz c ≤ s := by
  have lt : (a.take s).length = s := by rw [List.length_take]; omega
  have gt : ∀ i, i < s → (a.take s).getD i 0 = a.getD i 0 := fun i hi => by
    rw [List.getD_eq_getElem?_getD, List.getElem?_take, if_pos hi, ← List.getD_eq_getElem?_getD]
  rw [mem_stS, mem_stS]
  constructor
  · rintro (rfl | ⟨x, rfl, hx⟩)
    · exact ⟨.inl rfl, by show p + 1 ≤ s; omega⟩
    · obtain ⟨h1, h2, h3, h4, h5, h6⟩ := mem_cps.mp hx
      have := cl_le (a.take s) p x.2
      refine ⟨.inr ⟨x, rfl, mem_cps.mpr ⟨h1, h2, ?_, h4, h5, h6⟩⟩, by show p + x.1 ≤ s; omega⟩
      refine (le_cl h6 (by omega)).mpr fun k hk => ?_
      have := cl_lt h6 (show k < cl (a.take s) p x.2 by omega)
      rwa [gt _ (by omega), gt _ (by omega)] at this
  · rintro ⟨rfl | ⟨x, rfl, hx⟩, fit⟩
    · exact .inl rfl
    · obtain ⟨h1, h2, h3, h4, h5, h6⟩ := mem_cps.mp hx
      have fit : p + x.1 ≤ s := fit
      refine .inr ⟨x, rfl, mem_cps.mpr ⟨h1, h2, ?_, h4, h5, h6⟩⟩
      refine (le_cl h6 (by omega)).mpr fun k hk => ?_
      rw [gt _ (by omega), gt _ (by omega)]
      exact cl_lt h6 (by omega)
theorem oct_take {a : List Int} (h : Oct a) (n : Nat) : Oct (a.take n) := by
  unfold Oct at *
  rw [List.all_eq_true] at *
  exact fun x hx => h x (List.mem_of_mem_take hx)
/-- the levels of a beginning are a beginning of the levels -/
theorem lv_take (a : List Int) (o : Int) (ls fs lv lv' : List Int) (s : Nat) (hs : s ≤ a.length) (l0 : lv.length = a.length + 1) (l0' : lv'.length = (a.take s).length + 1) (z : lv.getD 0 0 = 0) (z' : lv'.getD 0 0 = 0)
    (f : Feas (stS a ls.length fs.length) gsz (spr o ls fs) a.length (fun p => lv.getD p 0)) (t : Att (stS a ls.length fs.length) gsz (spr o ls fs) a.length (fun p => lv.getD p 0))
    (f' : Feas (stS (a.take s) ls.length fs.length) gsz (spr o ls fs) (a.take s).length (fun p => lv'.getD p 0)) (t' : Att (stS (a.take s) ls.length fs.length) gsz (spr o ls fs) (a.take s).length (fun p => lv'.getD p 0)) : lv' = lv.take (s + 1) := by
  have lt : (a.take s).length = s := by rw [List.length_take]; omega
  have f2 : Feas (stS (a.take s) ls.length fs.length) gsz (spr o ls fs) (a.take s).length (fun p => lv.getD p 0) := fun p hp b hb => by
    rw [lt] at hp
    exact f p (by omega) b ((mem_take hs hp).mp hb).1
  have t2 : Att (stS (a.take s) ls.length fs.length) gsz (spr o ls fs) (a.take s).length (fun p => lv.getD p 0) := fun q h1 h2 => by
    rw [lt] at h2
    obtain ⟨p, hp, b, hb, e1, e2⟩ := t q h1 (by omega)
    exact ⟨p, hp, b, (mem_take hs (by omega)).mpr ⟨hb, by omega⟩, e1, e2⟩
  have u := levels_unique (stS_dag (a.take s) ls.length fs.length) (v := fun p => lv'.getD p 0) (w := fun p => lv.getD p 0) (by show lv'.getD 0 0 = lv.getD 0 0; rw [z, z']) f' t' f2 t2
  refine List.ext_getElem (by rw [List.length_take]; omega) fun j h1 h2 => ?_
  have := u j (by omega)
  rw [List.getD_eq_getElem?_getD, List.getElem?_eq_getElem h1, List.getD_eq_getElem?_getD, List.getElem?_eq_getElem (by omega)] at this
  rw [List.getElem_take]
  exact this
theorem cheap_ex (a : List Int) {o : Int} {ls fs : List Int} (P : Prc o ls fs) (ha : a.length ≤ 60) (oa : Oct a) : ∃ lv : List Int,
    F_cheapest [tp a, .i (pz o ls fs)] = .ok (.i (.tup [.int ((cBa a o ls fs).getD 0 0), .tup (rowI a (chT a o ls fs)), .tup (iL lv)])) ∧ lv.length = a.length + 1 ∧ lv.getD 0 0 = 0 ∧
      Feas (stS a ls.length fs.length) gsz (spr o ls fs) a.length (fun p => lv.getD p 0) ∧ Att (stS a ls.length fs.length) gsz (spr o ls fs) a.length (fun p => lv.getD p 0) ∧ ∀ x ∈ lv, 0 ≤ x ∧ x ≤ 2000 * (a.length : Int) := by
  obtain ⟨lv, h1, h2⟩ := levels_eq a P ha
  exact ⟨lv, cheapest_eq a P ha oa lv h1, h2⟩
/-! ### the law's own levels -/
def big (L : List (Option Int)) : List Int := L.map fun o => o.getD 1000000000
theorem big_get (L : List (Option Int)) (k : Nat) (h : k < L.length) : (big L).getD k 0 = (L.getD k none).getD 1000000000 := by
  unfold big
  rw [List.getD_eq_getElem?_getD, List.getElem?_map, List.getElem?_eq_getElem h, List.getD_eq_getElem?_getD, List.getElem?_eq_getElem h] <;> rfl
theorem big_set (L : List (Option Int)) (k : Nat) (v : Int) : (big L).set k v = big (L.set k (some v)) := by
  unfold big
  rw [List.map_set] <;> rfl
theorem big_len (L : List (Option Int)) : (big L).length = L.length := List.length_map _
theorem set_same {α : Type} {L : List α} {i : Nat} {x d : α} (h : L.getD i d = x) (hi : i < L.length) : L.set i x = L := by
  refine List.ext_getElem (by simp) fun j h1 h2 => ?_
  rw [List.getElem_set]
  split
  · rename_i e
    subst e
    rw [List.getD_eq_getElem?_getD, List.getElem?_eq_getElem h2] at h
    exact h.symm
  · rfl
theorem best_loop (a : List Int) {o : Int} {ls fs : List Int} (P : Prc o ls fs) (ha : a.length ≤ 60) (lv : List Int) (l0 : lv.length = a.length + 1) (z : lv.getD 0 0 = 0)
    (f : Feas (stS a ls.length fs.length) gsz (spr o ls fs) a.length (fun p => lv.getD p 0)) (t : Att (stS a ls.length fs.length) gsz (spr o ls fs) a.length (fun p => lv.getD p 0))
    (D : PD) (s0 s1 s2 s5 s6 s7 v8 v10 v11 s12 s13 s14 s15 s16 : Option (DV × Md))
    (hD : ∀ v8 v10 v11, D.nx [s0, s1, s2, ot a, some (.i (pz o ls fs), .own), s5, s6, s7, v8, some (.l (iL lv), .own), v10, v11, s12, s13, s14, s15, s16]) :
    (loopF (tName 10) B_law_6 (rgL 0 a.length) [s0, s1, s2, ot a, some (.i (pz o ls fs), .own), s5, s6, s7, v8, some (.l (iL (0 :: List.replicate a.length 1000000000)), .own), v10, v11, s12, s13, s14, s15, s16]).to D := by
  have Dg := stS_dag a ls.length fs.length
  refine for_rg (fun k ρ => ∃ L v8 v10 v11, LI gsz (spr o ls fs) a.length L (Pk (stS a ls.length fs.length) k 0) ∧ ρ = [s0, s1, s2, ot a, some (.i (pz o ls fs), .own), s5, s6, s7, v8, some (.l (iL (big L)), .own), v10, v11, s12, s13, s14, s15, s16]) ?_ ?_ ?_
  · refine ⟨some 0 :: List.replicate a.length none, v8, v10, v11, LI.init.iff fun p b => ⟨fun h => h.elim, fun h => ?_⟩, ?_⟩
    · rcases h with h | h
      · omega
      · exact nomatch h.2
    · unfold big
      rw [List.map_cons, List.map_replicate] <;> rfl
  · rintro k hk W hW ρ ⟨L, v8, v10, v11, I, rfl⟩
    have se := lsteps_b a k P ha hk
    have s1' := Dg.s1 k hk
    have sp := fun b (hb : b ∈ stS a ls.length fs.length k) => lpr_eq P hb (a.getD k 0)
    generalize a.getD k 0 = ov at se sp
    simp [B_law_6, se]
    rw [elI_map]
    refine for_map (stS a ls.length fs.length k) (fun b => (.i (bI ov b), .own)) _ (fun j ρ => ∃ L v8 v11, LI gsz (spr o ls fs) a.length L (Pk (stS a ls.length fs.length) k j) ∧ ρ = [s0, s1, s2, ot a, some (.i (pz o ls fs), .own), s5, s6, s7, v8, some (.l (iL (big L)), .own), oi k, v11, s12, s13, s14, s15, s16]) ⟨L, _, _, I, rfl⟩ ?_ ?_
    · rintro j hj W2 hW2 ρ ⟨L, v8, v11, I, rfl⟩
      obtain ⟨u, hu⟩ := I.here Dg (by omega)
      have hb : (stS a ls.length fs.length k)[j] ∈ stS a ls.length fs.length k := List.getElem_mem hj
      have nx : ∀ L', LI gsz (spr o ls fs) a.length L' (fun p c => Pk (stS a ls.length fs.length) k j p c ∨ p = k ∧ c = (stS a ls.length fs.length k)[j]) → ∀ v8 v11, W2.nx [s0, s1, s2, ot a, some (.i (pz o ls fs), .own), s5, s6, s7, v8, some (.l (iL (big L')), .own), oi k, v11, s12, s13, s14, s15, s16] := fun L' I' v8 v11 => hW2.nx _ ⟨L', v8, v11, I'.iff fun p b => Pk_next k j hj p b, rfl⟩
      have hle : ∀ p c, Pk (stS a ls.length fs.length) k j p c → p ≤ k := fun p c h => by rcases h with h | h <;> omega
      generalize (stS a ls.length fs.length k)[j] = b at hb nx ⊢
      obtain ⟨h1, h2⟩ := s1' b hb
      obtain ⟨p0, p1⟩ := spr_bd P b
      have lL := I.len
      have g1 := fun m m' : Md => ix_l (m := m) (m' := m') (xs := big L) (k := (k : Int)) (by omega) (by rw [big_len]; omega)
      have g2 := fun m m' : Md => ix_l (m := m) (m' := m') (xs := big L) (k := (k : Int) + gsz b) (by omega) (by rw [big_len]; omega)
      rw [Int.toNat_natCast, big_get _ _ (by omega), hu] at g1
      rw [show ((k : Int) + gsz b).toNat = k + gsz b by omega, big_get _ _ (by omega)] at g2
      have ub := (I.bd k u hu).2
      have sb := lsize_b ov b
      have spb := sp b hb
      have t1 : ∀ y : Int, setD (.l (iL (big L))) ((k : Int) + gsz b) (.i (.int y), .own) = some (.l (iL (big (L.set (k + gsz b) (some y))))) := fun y => by
        rw [set_l (by omega) (by rw [big_len]; omega), show ((k : Int) + gsz b).toNat = k + gsz b by omega, big_set]
      cases hg : L.getD (k + gsz b) none with
      | none =>
        rw [hg] at g2
        have := nx _ (I.new (b := b) hle h1 h2 p0 p1 hu (fun v hv => by rw [hg] at hv; cases hv))
        simp [B_law_5, sb, spb, g1, g2, t1, -List.getD_eq_getElem?_getD]
        rw [show min (1000000000 : Int) (u + spr o ls fs b) = u + spr o ls fs b by omega]
        exact this _ _
      | some v =>
        rw [hg] at g2
        by_cases q : u + spr o ls fs b < v
        · have := nx _ (I.new (b := b) hle h1 h2 p0 p1 hu (fun v' hv => by rw [hg] at hv; cases hv; exact q))
          simp [B_law_5, sb, spb, g1, g2, t1, -List.getD_eq_getElem?_getD]
          rw [show min v (u + spr o ls fs b) = u + spr o ls fs b by omega]
          exact this _ _
        · have := nx _ (I.old (b := b) hu hg (by omega))
          simp [B_law_5, sb, spb, g1, g2, t1, -List.getD_eq_getElem?_getD]
          rw [show min v (u + spr o ls fs b) = v by omega, set_same hg (by omega)]
          exact this _ _
    · rintro ρ ⟨L, v8, v11, I, rfl⟩
      exact hW.nx _ ⟨L, _, _, _, I.iff fun p b => Pk_turn k p b, rfl⟩
  · rintro ρ ⟨L, v8, v10, v11, I, rfl⟩
    obtain ⟨lv', rfl, h1, h2, h3, h4, h5⟩ := I.done Dg
    have u := levels_unique Dg (v := fun p => lv'.getD p 0) (w := fun p => lv.getD p 0) (by show lv'.getD 0 0 = lv.getD 0 0; rw [z, h2]) h3 h4 f t
    have e : big (lv'.map some) = lv := by
      unfold big
      rw [List.map_map]
      refine List.ext_getElem (by simp; omega) fun j g1 g2 => ?_
      rw [List.length_map] at g1
      have := u j (by omega)
      rw [List.getD_eq_getElem?_getD, List.getElem?_eq_getElem g1, List.getD_eq_getElem?_getD, List.getElem?_eq_getElem g2] at this
      rw [List.getElem_map]
      exact this
    rw [e]
    exact hD _ _ _
/-! ### written values -/
theorem st6 : stS [7, 8, 7, 8, 7, 8] 4 3 = fun p => (cps [7, 8, 7, 8, 7, 8] 4 3 p).map some ++ [none] := by
  funext p
  unfold stS stL
  congr 2
  refine List.mergeSort_of_pairwise ?_
  by_cases h : p < 6
  · rcases (show p = 0 ∨ p = 1 ∨ p = 2 ∨ p = 3 ∨ p = 4 ∨ p = 5 by omega) with rfl | rfl | rfl | rfl | rfl | rfl <;> decide +kernel
  · have : cps [7, 8, 7, 8, 7, 8] 4 3 p = [] := by
      refine List.eq_nil_iff_forall_not_mem.mpr fun x hx => ?_
      obtain ⟨h1, h2, h3, h4, h5, h6⟩ := mem_cps.mp hx
      have := cl_le [7, 8, 7, 8, 7, 8] p x.2
      simp at this
      omega
    rw [this]
    exact .nil
theorem told6 : ∃ lv, F_cheapest [tp [7, 8, 7, 8, 7, 8], .i (pz 9 [5, 5, 5, 5] [1, 2, 3])] = .ok (.i (.tup [.int 25, .tup [oneI 7, oneI 8, cpI (4, 2)], .tup (iL lv)])) := by
  have P : Prc 9 [5, 5, 5, 5] [1, 2, 3] := ⟨by decide, by decide, by decide, by unfold PrOk; decide, by decide, by unfold PrOk; decide⟩
  obtain ⟨lv, h, _⟩ := cheap_ex [7, 8, 7, 8, 7, 8] P (by decide) (by unfold Oct; decide)
  refine ⟨lv, ?_⟩
  rw [h]
  have e1 : (cBa [7, 8, 7, 8, 7, 8] 9 [5, 5, 5, 5] [1, 2, 3]).getD 0 0 = 25 := by
    unfold cBa
    rw [show stS [7, 8, 7, 8, 7, 8] ([5, 5, 5, 5] : List Int).length ([1, 2, 3] : List Int).length = stS [7, 8, 7, 8, 7, 8] 4 3 from rfl, st6]
    decide +kernel
  have e2 : chT [7, 8, 7, 8, 7, 8] 9 [5, 5, 5, 5] [1, 2, 3] = [(0, none), (1, none), (2, some (4, 2))] := by
    unfold chT chz cBa
    rw [show stS [7, 8, 7, 8, 7, 8] ([5, 5, 5, 5] : List Int).length ([1, 2, 3] : List Int).length = stS [7, 8, 7, 8, 7, 8] 4 3 from rfl, st6]
    decide +kernel
  rw [e1, e2] <;> rfl
theorem told0 : F_cheapest [tp [], .i (pz 1 [] [])] = .ok (.i (.tup [.int 0, .tup [], .tup [.int 0]])) := by kernel_rfl
end L2.Pv.T

namespace L2.Pv.T
open PySem PySem.Spec PyProof.Rows L2 L2.Pv
theorem ix_neg1 {xs : List Int} {m m' : Md} (h : 0 < xs.length) : opIx (.i (.tup (iL xs)), m) (.i (.int (-1)), m') = .ok (.i (.int (xs.getD (xs.length - 1) 0)), .own) := by
  unfold opIx
  have e : atI (iL xs) (-1) = some (.int (xs.getD (xs.length - 1) 0)) := by
    rw [atI_neg (by decide) (by rw [iL_len]; omega)]
    unfold iL
    rw [List.getElem_map, List.getD_eq_getElem?_getD, List.getElem?_eq_getElem (by omega)]
    simp
    congr 1
    omega
  simp only [e]
theorem ix_lv {xs : List IV} {k : Int} {m m' : Md} (h0 : 0 ≤ k) (h1 : k < xs.length) : opIx (.l xs, m) (.i (.int k), m') = .ok (.i (xs.getD k.toNat .non), .own) := by
  unfold opIx
  simp only [atI_ok h0 h1]
  rw [List.getD_eq_getElem?_getD, List.getElem?_eq_getElem (by omega)] <;> rfl
section
variable (a : List Int) {o : Int} {ls fs : List Int} (P : Prc o ls fs)
include P
theorem c3_ok (T : Wk) (hT : Tr (stS a ls.length fs.length) gsz a.length 0 T) (ha : a.length ≤ 60) (s0 s1 s2 s3 s5 s6 s7 s8 s9 s10 s11 s12 s13 s14 s15 : Option (DV × Md)) :
    C_law_3 [s0, s1, s2, s3, some (.i (pz o ls fs), .own), s5, s6, s7, s8, s9, s10, s11, s12, s13, s14, s15, some (.i (.tup (rowI a T)), .own)] = .ok (.l (iL (T.map fun x => spr o ls fs x.2)), .own) := by
  have lT := tr_len (stS_dag a ls.length fs.length) T 0 hT
  have mT := tr_mem T 0 hT
  rw [← map_int]
  refine comp_map (m := .own) (it := fun x => (.i (bI (a.getD x.1 0) x.2), .own)) _ (by simp [rowI, elI_map]) (by omega) fun x hx => ?_
  refine ⟨[s0, s1, s2, s3, some (.i (pz o ls fs), .own), s5, s6, s7, some (.i (bI (a.getD x.1 0) x.2), .own), s9, s10, s11, s12, s13, s14, s15, some (.i (.tup (rowI a T)), .own)], rfl, rfl, ?_⟩
  have := lpr_eq P (mT x hx).2 (a.getD x.1 0)
  simp [this, -List.getD_eq_getElem?_getD]
theorem c7_ok (T : Wk) (hT : Tr (stS a ls.length fs.length) gsz a.length 0 T) (ha : a.length ≤ 60) (s0 s1 s2 s3 s5 s7 s8 s9 s10 s11 s12 s13 s14 s15 s16 : Option (DV × Md)) :
    C_law_7 [s0, s1, s2, s3, some (.i (pz o ls fs), .own), s5, some (.i (.tup (rowI a T)), .own), s7, s8, s9, s10, s11, s12, s13, s14, s15, s16] = .ok (.l (iL (T.map fun x => spr o ls fs x.2)), .own) := by
  have lT := tr_len (stS_dag a ls.length fs.length) T 0 hT
  have mT := tr_mem T 0 hT
  rw [← map_int]
  refine comp_map (m := .own) (it := fun x => (.i (bI (a.getD x.1 0) x.2), .own)) _ (by simp [rowI, elI_map]) (by omega) fun x hx => ?_
  refine ⟨[s0, s1, s2, s3, some (.i (pz o ls fs), .own), s5, some (.i (.tup (rowI a T)), .own), s7, some (.i (bI (a.getD x.1 0) x.2), .own), s9, s10, s11, s12, s13, s14, s15, s16], rfl, rfl, ?_⟩
  have := lpr_eq P (mT x hx).2 (a.getD x.1 0)
  simp [this, -List.getD_eq_getElem?_getD]
theorem c4_ok (Ts : List Wk) (hT : ∀ T ∈ Ts, Tr (stS a ls.length fs.length) gsz a.length 0 T) (ha : a.length ≤ 60) (lT : Ts.length ≤ 100000) (s0 s1 s2 s3 s5 s6 s7 s8 s9 s10 s11 s13 s14 s15 s16 : Option (DV × Md)) :
    C_law_4 [s0, s1, s2, s3, some (.i (pz o ls fs), .own), s5, s6, s7, s8, s9, s10, s11, some (.l (Ts.map fun T => .tup (rowI a T)), .own), s13, s14, s15, s16] = .ok (.l (iL (Ts.map fun T => cost (spr o ls fs) T)), .own) := by
  rw [← map_int]
  refine comp_map (m := .tmp) (it := fun T => (.i (.tup (rowI a T)), .own)) _ (by simp [elI_map]) (by omega) fun T hx => ?_
  refine ⟨[s0, s1, s2, s3, some (.i (pz o ls fs), .own), s5, s6, s7, s8, s9, s10, s11, some (.l (Ts.map fun T => .tup (rowI a T)), .own), s13, s14, s15, some (.i (.tup (rowI a T)), .own)], rfl, rfl, ?_⟩
  simp [c3_ok a P T (hT T hx) ha]
  rfl
omit P in
theorem c2_ok (cs : List Int) (c : Int) (lc : cs.length ≤ 100000) (s0 s1 s2 s3 s4 s6 s7 s8 s9 s10 s11 s12 s14 s15 s16 : Option (DV × Md)) :
    C_law_2 [s0, s1, s2, s3, s4, oi c, s6, s7, s8, s9, s10, s11, s12, some (.l (iL cs), .own), s14, s15, s16] = .ok (.l (iL (cs.filter fun x => decide (x = c))), .own) := by
  have e : cs.filter (fun x => decide (x = c)) = (cs.filter fun x => decide (x = c)).map fun x => x := by simp
  rw [e, ← map_int]
  refine comp_filter (m := .tmp) (it := fun x => (.i (.int x), .own)) (fun x => decide (x = c)) (fun x => .int x) (by simp [elI_iL]) (by omega) fun x hx => ?_
  exact ⟨[s0, s1, s2, s3, s4, oi c, s6, s7, s8, s9, s10, s11, s12, some (.l (iL cs), .own), s14, s15, oi x], rfl, by simp, fun _ => by simp⟩
/-- what the law finds among all rows -/
theorem rows_facts (Ts : List Wk) (pm : Ts.Perm (walks (stS a ls.length fs.length) gsz a.length a.length 0)) (so : Ts.Pairwise fun T T' => lxT (tkL (rowI a T')) (tkL (rowI a T)) = false) :
    (Ts.map fun T => cost (spr o ls fs) T).min? = some ((cBa a o ls fs).getD 0 0) ∧ (cBa a o ls fs).getD 0 0 ∈ (Ts.map fun T => cost (spr o ls fs) T) ∧
    (Ts.map fun T => cost (spr o ls fs) T).idxOf ((cBa a o ls fs).getD 0 0) < Ts.length ∧ (Ts.getD ((Ts.map fun T => cost (spr o ls fs) T).idxOf ((cBa a o ls fs).getD 0 0)) []) = chT a o ls fs ∧
    ((Ts.length : Nat) : Int) = (cEa a ls fs).getD 0 0 ∧ ((((Ts.map fun T => cost (spr o ls fs) T).filter fun x => decide (x = (cBa a o ls fs).getD 0 0)).length : Nat) : Int) = (cLa a o ls fs).getD 0 0 := by
  have D := stS_dag a ls.length fs.length
  have T0 := trip_tr D (ch := chz a o ls fs) (fun p hp => chz_mem a hp) a.length 0 (Nat.zero_le _) (by omega)
  have hch : ∀ x ∈ chT a o ls fs, x.2 = chz a o ls fs x.1 := by
    have go : ∀ f p, ∀ x ∈ trip gsz a.length (chz a o ls fs) f p, x.2 = chz a o ls fs x.1 := by
      intro f
      induction f with
      | zero => intro p x hx; cases hx
      | succ f ih =>
        intro p x hx
        unfold trip at hx
        split at hx
        · rcases List.mem_cons.mp hx with rfl | hx
          · rfl
          · exact ih _ x hx
        · cases hx
    exact go _ _
  have c0 : cost (spr o ls fs) (chT a o ls fs) = (cBa a o ls fs).getD 0 0 := by
    refine (tr_cB (pr := spr o ls fs) D _ 0 T0 fun x hx => ?_).symm
    have hm := tr_mem _ 0 T0 x hx
    obtain ⟨j, hj, e1, e2, _⟩ := chz_spec a (o := o) (ls := ls) (fs := fs) hm.1
    rw [hch x hx, e1]
    exact e2.symm
  have tr : ∀ T ∈ Ts, Tr (stS a ls.length fs.length) gsz a.length 0 T := fun T hT => walks_tr D a.length 0 (Nat.zero_le _) (by omega) T (pm.mem_iff.mp hT)
  have m0 : chT a o ls fs ∈ Ts := pm.mem_iff.mpr (tr_walks D a.length 0 (Nat.zero_le _) (by omega) _ T0)
  have ge : ∀ T ∈ Ts, (cBa a o ls fs).getD 0 0 ≤ cost (spr o ls fs) T := fun T hT => cost_ge D T 0 (tr T hT)
  have mc : (cBa a o ls fs).getD 0 0 ∈ (Ts.map fun T => cost (spr o ls fs) T) := List.mem_map.mpr ⟨_, m0, c0⟩
  have il : (Ts.map fun T => cost (spr o ls fs) T).idxOf ((cBa a o ls fs).getD 0 0) < Ts.length := by
    have := List.idxOf_lt_length_of_mem mc
    rwa [List.length_map] at this
  refine ⟨?_, mc, il, ?_, ?_, ?_⟩
  · rw [List.min?_eq_some_iff]
    refine ⟨mc, fun y hy => ?_⟩
    obtain ⟨T, hT, rfl⟩ := List.mem_map.mp hy
    exact ge T hT
  · generalize hj : (Ts.map fun T => cost (spr o ls fs) T).idxOf ((cBa a o ls fs).getD 0 0) = j at il
    rw [List.getD_eq_getElem?_getD, List.getElem?_eq_getElem il, Option.getD_some]
    obtain ⟨i, hi, ei⟩ := List.getElem_of_mem m0
    have cj : cost (spr o ls fs) Ts[j] = (cBa a o ls fs).getD 0 0 := by
      have := List.getElem_idxOf (xs := Ts.map fun T => cost (spr o ls fs) T) (x := (cBa a o ls fs).getD 0 0) (by rw [List.length_map, hj]; exact il)
      rw [List.getElem_map] at this
      rw [← this]
      congr 2
      exact hj.symm
    refine Classical.byContradiction fun ne => ?_
    have lt : j < i := by
      rcases Nat.lt_trichotomy j i with h | h | h
      · exact h
      · subst h
        exact absurd ei ne
      · exfalso
        rw [← hj] at h
        refine idx_no _ _ _ h ?_
        rw [List.getElem?_map, List.getElem?_eq_getElem hi, ei, Option.map_some, c0]
    have h1 := List.pairwise_iff_getElem.mp so j i il hi lt
    have h2 := row_first a o ls fs _ _ 0 T0 (tr Ts[j] (List.getElem_mem il)) hch cj ne
    rw [ei] at h1
    rw [h1] at h2
    cases h2
  · rw [pm.length_eq]
    exact walks_len D a.length 0 (Nat.zero_le _) (by omega)
  · rw [List.filter_map, List.length_map]
    have e := walks_least (pr := spr o ls fs) D a.length 0 (Nat.zero_le _) (by omega)
    rw [← e]
    congr 1
    exact (pm.filter _).length_eq
end
end L2.Pv.T

namespace L2.Pv.T
open PySem PySem.Spec PyProof.Rows L2 L2.Pv
/-- one draw -/
theorem draw_ok (W : PD) (s0 : Option (DV × Md)) (ds : List Int) (hl : ds.length = 70) (k : Nat) (hk : k < 3) (v3 v4 v5 v6 v7 v8 v9 v10 v11 v12 v13 v14 v15 v16 : Option (DV × Md))
    (hW : ∀ v3 v4 v5 v6 v7 v8 v9 v10 v11 v12 v13 v14 v15 v16, W.nx [s0, some (.l (iL ds), .own), oi k, v3, v4, v5, v6, v7, v8, v9, v10, v11, v12, v13, v14, v15, v16]) :
    (B_law_8 [s0, some (.l (iL ds), .own), oi k, v3, v4, v5, v6, v7, v8, v9, v10, v11, v12, v13, v14, v15, v16]).to W := by
  obtain ⟨mo, hmo, hm0, em⟩ : ∃ mo : Nat, mo ≤ 40 ∧ (k = 0 → mo ≤ 7) ∧ ∀ y y', opIx (.l (iL [7, 40, 20]), y) (.i (.int k), y') = .ok (.i (.int mo), .own) := by
    refine ⟨([7, 40, 20].getD k 0 : Int).toNat, ?_, ?_, fun y y' => ?_⟩
    · rcases (show k = 0 ∨ k = 1 ∨ k = 2 by omega) with e | e | e <;> rw [e] <;> decide
    · intro e; rw [e]; decide
    · rw [ix_l (xs := [7, 40, 20]) (by omega) (by simp; omega)]
      rcases (show k = 0 ∨ k = 1 ∨ k = 2 by omega) with e | e | e <;> rw [e] <;> rfl
  obtain ⟨a, oa, la, ea⟩ := loct_ok ds (16 * k) mo (by omega) (by omega)
  obtain ⟨o, ls, fs, PS, er⟩ := lprices_sm ds (48 + 4 * k) (by omega)
  have P := PS.prc
  rw [show ((16 * k : Nat) : Int) = 16 * (k : Int) by omega] at ea
  rw [show ((48 + 4 * k : Nat) : Int) = 48 + 4 * (k : Int) by omega] at er
  have ha : a.length ≤ 60 := by omega
  have D := stS_dag a ls.length fs.length
  obtain ⟨lv, ch, l0, z0, f0, t0, _⟩ := cheap_ex a P ha oa
  have tt := trip_tr D (ch := chz a o ls fs) (fun p hp => chz_mem a hp) a.length 0 (Nat.zero_le _) (by omega)
  have wr := written_tr a ls.length fs.length ha oa P.f0 _ tt
  have ft := fault_tr a P ha oa _ tt
  have pr := price_tr a P ha oa _ tt
  have nf := no_fault a P ha oa lv l0 (by omega) f0
  have c7 := fun s0 s1 s2 s3 s5 s7 s8 s9 s10 s11 s12 s13 s14 s15 s16 => c7_ok a P _ tt ha s0 s1 s2 s3 s5 s7 s8 s9 s10 s11 s12 s13 s14 s15 s16
  have hch : ∀ x ∈ chT a o ls fs, x.2 = chz a o ls fs x.1 := by
    have go : ∀ f p, ∀ x ∈ trip gsz a.length (chz a o ls fs) f p, x.2 = chz a o ls fs x.1 := by
      intro f
      induction f with
      | zero => intro p x hx; cases hx
      | succ f ih =>
        intro p x hx
        unfold trip at hx
        split at hx
        · rcases List.mem_cons.mp hx with rfl | hx
          · rfl
          · exact ih _ x hx
        · cases hx
    exact go _ _
  have c0 : cost (spr o ls fs) (chT a o ls fs) = (cBa a o ls fs).getD 0 0 := by
    refine (tr_cB (pr := spr o ls fs) D _ 0 tt fun x hx => ?_).symm
    have hm := tr_mem _ 0 tt x hx
    obtain ⟨j, hj, e1, e2, _⟩ := chz_spec a (o := o) (ls := ls) (fs := fs) hm.1
    rw [hch x hx, e1]
    exact e2.symm
  have le := levels_end D z0 f0 t0
  have cs : ((chT a o ls fs).map fun x => spr o ls fs x.2).sum = (cBa a o ls fs).getD 0 0 := c0
  have i0 := fun m m' : Md => ix_tup (m := m) (m' := m') (xs := lv) (k := 0) (by omega) (by omega)
  have il := fun m m' : Md => ix_neg1 (m := m) (m' := m') (xs := lv) (by omega)
  rw [show (0 : Int).toNat = 0 from rfl, z0] at i0
  have le' : lv.getD (lv.length - 1) 0 = (cBa a o ls fs).getD 0 0 := by
    rw [l0]
    exact le
  rw [le'] at il
  have bl := best_loop a P ha lv l0 z0 f0 t0
  have rk := fun (h7 : a.length ≤ 7) => rows_ok a P h7
  have rf := fun Ts pm so => rows_facts a P Ts pm so
  have c4 := fun Ts hT lT => c4_ok a P Ts hT ha lT
  have ct := count_eq a P ha oa
  have sR := shp_rowI a (chT a o ls fs)
  have nR := fun m m' => ne_refl (m := m) (m' := m') sR
  have pfx : ∀ s : Nat, s ≤ a.length → ∃ c r, F_cheapest [tp (a.take s), .i (pz o ls fs)] = .ok (.i (.tup [c, r, .tup (iL (lv.take (s + 1)))])) := fun s hs => by
    obtain ⟨lv', ch', l0', z0', f0', t0', _⟩ := cheap_ex (a.take s) P (by rw [List.length_take]; omega) (oct_take oa s)
    rw [lv_take a o ls fs lv lv' s hs l0 l0' z0 z0' f0 t0 f0' t0'] at ch'
    exact ⟨_, _, ch'⟩
  have len2 : ∀ Ts : List Wk, Ts.Perm (walks (stS a ls.length fs.length) gsz a.length a.length 0) → ∀ T ∈ Ts, Tr (stS a ls.length fs.length) gsz a.length 0 T := fun Ts pm T hT => walks_tr D a.length 0 (Nat.zero_le _) (by omega) T (pm.mem_iff.mp hT)
  generalize hrow : rowI a (chT a o ls fs) = row at *
  rw [c0] at pr
  -- beginnings
  have last : ∀ v8 v10 v11 v12 v13, (loopF (tName 14) B_law_1 (elI (iL [(a.length : Int) / 2, (a.length : Int) / 3])) [s0, some (.l (iL ds), .own), oi k, ot a, some (.i (pz o ls fs), .own), oi ((cBa a o ls fs).getD 0 0), some (.i (.tup row), .own), ot lv, v8, some (.l (iL lv), .own), v10, v11, v12, v13, v14, v15, v16]).to W := by
    intro v8 v10 v11 v12 v13
    generalize (cBa a o ls fs).getD 0 0 = cc
    refine for_iL (fun _ ρ => ∃ v14, ρ = [s0, some (.l (iL ds), .own), oi k, ot a, some (.i (pz o ls fs), .own), oi cc, some (.i (.tup row), .own), ot lv, v8, some (.l (iL lv), .own), v10, v11, v12, v13, v14, v15, v16]) ⟨_, rfl⟩ ?_ ?_
    · rintro j hj W2 hW2 ρ ⟨v14, rfl⟩
      obtain ⟨s, hs, es⟩ : ∃ s : Nat, s ≤ a.length ∧ [(a.length : Int) / 2, (a.length : Int) / 3][j] = s := by
        rcases (show j = 0 ∨ j = 1 by simp at hj; omega) with rfl | rfl
        · exact ⟨a.length / 2, by omega, by simp⟩
        · exact ⟨a.length / 3, by omega, by simp⟩
      rw [es]
      obtain ⟨c, r, e⟩ := pfx s hs
      have h1 : cutL a none (some (s : Int)) = a.take s := by rw [cut_hi _ (by omega), Int.toNat_natCast]
      have h2 : cutL lv none (some ((s : Int) + 1)) = lv.take (s + 1) := by rw [cut_hi _ (by omega), show ((s : Int) + 1).toNat = s + 1 by omega]
      simp [B_law_1, h1, e, h2]
      exact hW2.nx _ ⟨_, rfl⟩
    · rintro ρ ⟨v14, rfl⟩
      exact hW _ _ _ _ _ _ _ _ _ _ _ _ _ _
  generalize hcc : (cBa a o ls fs).getD 0 0 = cc at *
  generalize hmp : ((chT a o ls fs).map fun x => spr o ls fs x.2) = mp at *
  simp [B_law_8, em, ea, er, ch, wr, ft, pr, tyN, isTy, isN, c7, cs, l0, i0, il, nf, smI_ok (i := (a.length : Int)) (by omega) (by omega), show a.length ≤ 16777216 by omega, show a.length < 9223372036854775808 by omega, show 1 + a.length ≤ 16777216 by omega]
  have ini : iL [0] ++ (List.replicate a.length (iL [1000000000])).flatten = iL (0 :: List.replicate a.length 1000000000) := by
    rw [← iL_one 1000000000, List.flatten_replicate_singleton]; simp
  rw [ini]
  refine bl _ _ _ _ _ _ _ _ _ _ _ _ _ _ _ fun v8 v10 v11 => ?_
  by_cases k0 : k = 0
  · subst k0
    obtain ⟨d, rd, hd⟩ := rk (by omega)
    rcases hd with rfl | ⟨Ts, pm, rfl, lT0, so⟩
    · simp [rd, isN]
      exact last _ _ _ _ _
    · obtain ⟨r1, r2, r3, r4, r5, r6⟩ := rf Ts pm so
      have c4 := fun lT => c4 Ts (len2 Ts pm) lT
      have r1' := fun m => opMinA_i (m := m) r1
      have ig : ∀ m m', opIx (.l (Ts.map fun T => .tup (rowI a T)), m) (.i (.int ((Ts.map fun T => cost (spr o ls fs) T).idxOf cc)), m') = .ok (.i (.tup row), .own) := fun m m' => by
        rw [ix_lv (by omega) (by rw [List.length_map]; omega), Int.toNat_natCast, List.getD_eq_getElem?_getD, List.getElem?_map, List.getElem?_eq_getElem r3]
        rw [List.getD_eq_getElem?_getD, List.getElem?_eq_getElem r3] at r4
        simp only [Option.getD_some] at r4
        rw [Option.map_some, Option.getD_some, r4, hrow]
      have lT : Ts.length ≤ 100000 := by omega
      have c2 := fun s0 s1 s2 s3 s4 s6 s7 s8 s9 s10 s11 s12 s14 s15 s16 => c2_ok (Ts.map fun T => cost (spr o ls fs) T) cc (by rw [List.length_map]; exact lT) s0 s1 s2 s3 s4 s6 s7 s8 s9 s10 s11 s12 s14 s15 s16
      have ixx := fun m => idxL_iL (m := m) r2
      rw [← r5, ← r6] at ct
      simp [rd, isN, c4 lT, r1', ixx, ig, nR, ct, c2]
      exact last _ _ _ _ _
  · simp [k0]
    exact last _ _ _ _ _
theorem dr_eq : F__law_draws = F_dr := rfl
theorem law_true (ns : List Int) (h : ns.length ≤ 63) : F_law [.f (ns.map IV.int)] = .ok (.i (.bl true)) := by
  refine run_eq ?_
  have e0 : startE 17 [.f (ns.map IV.int)] = [some (.f (iL ns), .bor), none, none, none, none, none, none, none, none, none, none, none, none, none, none, none, none] := rfl
  rw [e0]
  obtain ⟨ds, hl, hd, e1⟩ := draws_ok ns h 70 (by decide) (by decide)
  simp [G_law, dr_eq, e1, smI_ok (i := 3) (by omega) (by omega)]
  refine for_rg (fun k ρ => ∃ v2 v3 v4 v5 v6 v7 v8 v9 v10 v11 v12 v13 v14 v15 v16, ρ = [some (.f (iL ns), .bor), some (.l (iL ds), .own), v2, v3, v4, v5, v6, v7, v8, v9, v10, v11, v12, v13, v14, v15, v16]) ⟨_, _, _, _, _, _, _, _, _, _, _, _, _, _, _, rfl⟩ ?_ ?_
  · rintro k hk W hW ρ ⟨v2, v3, v4, v5, v6, v7, v8, v9, v10, v11, v12, v13, v14, v15, v16, rfl⟩
    simp
    exact draw_ok W _ ds hl k hk _ _ _ _ _ _ _ _ _ _ _ _ _ _ fun v3 v4 v5 v6 v7 v8 v9 v10 v11 v12 v13 v14 v15 v16 => hW.nx _ ⟨_, _, _, _, _, _, _, _, _, _, _, _, _, _, _, rfl⟩
  · rintro ρ ⟨v2, v3, v4, v5, v6, v7, v8, v9, v10, v11, v12, v13, v14, v15, v16, rfl⟩
    obtain ⟨lv, t6⟩ := told6
    have t6' : F_cheapest [.i (.tup [.int 7, .int 8, .int 7, .int 8, .int 7, .int 8]), .i (.tup [.int 9, .tup [.int 5, .int 5, .int 5, .int 5], .tup [.int 1, .int 2, .int 3]])] = _ := t6
    have t0 : F_cheapest [.i (.tup []), .i (.tup [.int 1, .tup [], .tup []])] = _ := told0
    have h6 : ∀ x : IV, cutL [.int 25, .tup [oneI 7, oneI 8, cpI (4, 2)], x] none (some 2) = [.int 25, .tup [oneI 7, oneI 8, cpI (4, 2)]] := fun _ => rfl
    have q6 : ∀ m m', cEq (.i (.tup [.int 25, .tup [oneI 7, oneI 8, cpI (4, 2)]]), m) (.i (.tup [.int 25, .tup [.tup [.str "one", .int 7], .tup [.str "one", .int 8], .tup [.str "copy", .int 4, .int 2]]]), m') = .ok (.i (.bl true), .own) := fun m m' => by kernel_rfl
    have q0 : ∀ m m', cEq (.i (.tup [.int 0, .tup [], .tup [.int 0]]), m) (.i (.tup [.int 0, .tup [], .tup [.int 0]]), m') = .ok (.i (.bl true), .own) := fun m m' => by kernel_rfl
    simp [-iL_one, -iL_cons, t6', t0, h6, q6, q0]
end L2.Pv.T

open PySem PySem.W PySem.Calls PyProof.Rows
theorem PySem.Challenge.cw_archivewright_k15_whole_cheapest_rows_holds : PySem.Challenge.rw_archivewright_k15_whole_cheapest_rows.Holds := by
  w_on; o_law
  refine HandSHeadRun.head_any (r := PySem.W.OpenLaw.row PySem.Challenge.rw_archivewright_k15_whole_cheapest_rows) (q := PySem.W.view (PySem.W.OpenLaw.row PySem.Challenge.rw_archivewright_k15_whole_cheapest_rows).prog [42]) (H := L2.Pv.T.hk) (ob := L2.Pv.T.ob) (M := 3000) (loose := L2.Pv.T.loose) (d := HandSHeadRun.topDef (PySem.W.OpenLaw.row PySem.Challenge.rw_archivewright_k15_whole_cheapest_rows).prog 42) (kwd := []) L2.Pv.T.ob_eq
    (by kernel_rfl) (fun s => by kernel_rfl) L2.Pv.T.run (by kernel_rfl) (by kernel_rfl) (by kernel_rfl) (by rfl) (by first | assumption | decide +kernel) (by decide +kernel) ⟨rfl, rfl, rfl, rfl, rfl, by decide +kernel⟩ ?hw ?hc
  case hw => w_witness2
  case hc =>
    exact L2.Pv.law_end (l := PySem.Challenge.rw_archivewright_k15_whole_cheapest_rows) (k := 6) (st := L2.Pv.T.s_law) (Fn := L2.Pv.T.F_law) (jd := 28) (jg := 56) rfl rfl (by kernel_rfl) ⟨rfl, by decide, by decide⟩ rfl rfl (fun _ _ _ _ _ _ us hl => match us, hl with | [_], _ => rfl)
      (fun w K mg h X G c f fd F0 base h1 h2 => L2.Pv.fn_ok F0 L2.Pv.T.sc_law fun cdv A outer s H E hr => L2.Pv.T.body_law (L2.Pv.T.base_of X G c) f cdv A outer s H E hr) L2.Pv.T.law_true
