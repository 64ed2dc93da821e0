import PyProof.Rows.All
import Wide.All
import OpenK.AllK
import Wide.FinOn
import HandS.ForMost
import HandS.ForExc
import HandS.CallSlots
import HandS.IsInst
import HandS.Deep
import HandS.TupAny
import HandS.TupMul
import HandS.Style
import HandS.Zip
import HandS.Rev
import HandS.Conv
import HandS.ExcIs
import HandS.Small
import HandS.Defaults
import HandS.HeadHook2
import HandS.TryMany
import KE.SortData
import HandS.SortInts
import HandS.ListItems
import KE.KStateDown
import HandS.Base
import HandS.Call
import HandS.List
import HandS.More
import HandS.Exc
import HandS.Head0
import HandS.Head1
import HandS.Head2
import HandS.HeadEnd
import HandS.HeadHook1
import PySem.Challenge.RW_archivewright_k25_products_of_octets
set_option Elab.async false
set_option linter.all false
set_option maxRecDepth 100000
set_option maxHeartbeats 4000000
namespace L2.Pv
open PySem PySem.Spec PyProof.Rows

/-! ## data -/
inductive IV where
  | non | bl (b : Bool) | int (i : Int) | str (x : Str) | tup (xs : List IV)
inductive DV where
  | i (x : IV) | l (xs : List IV) | m (xs : List DV) | f (xs : List IV)
/-- who may change the list at the top: the slot that owns it; loc: made here, frozen; bor: from outside; tmp: an owned one looked at -/
inductive Md where
  | own | loc | bor | tmp
  deriving DecidableEq
abbrev Env := List (Option (DV × Md))
inductive R (α : Type) where
  | ok (a : α) | ex (c : Str) (p : Option (Str × IV)) | bad
def R.bind {α β : Type} (x : R α) (f : α → R β) : R β := match x with
  | .ok a => f a
  | .ex c p => .ex c p
  | .bad => .bad
inductive RS where
  | nx (ρ : Env) | rt (d : DV) | bk (ρ : Env) | ct (ρ : Env) | ex (c : Str) (p : Option (Str × IV)) (ρ : Env) | bad

/-! ## how data lie in the heap -/
mutual
inductive RpI (K : PySem.W.Frag) (H : Hp) : V → IV → Prop
  | non : RpI K H .non .non
  | bl (b : Bool) : RpI K H (.bl b) (.bl b)
  | int (i : Int) : RpI K H (.int i) (.int i)
  | str (x : Str) : RpI K H (.str x) (.str x)
  | tup {a : Addr} {vs : List V} {xs : List IV} : SqT K H a vs → RpIs K H vs xs → RpI K H (.ref a) (.tup xs)
inductive RpIs (K : PySem.W.Frag) (H : Hp) : List V → List IV → Prop
  | nil : RpIs K H [] []
  | cons {v : V} {vs : List V} {x : IV} {xs : List IV} : RpI K H v x → RpIs K H vs xs → RpIs K H (v :: vs) (x :: xs)
end
/-- a list that is read only: the script, a written one -/
def FzL (K : PySem.W.Frag) (H : Hp) (a : Addr) (xs : List V) : Prop := (∃ o, H a = some (.frz o (.lst xs))) ∨
    ∃ (o : Obj) (its : Array Value) (n : Nat), K.lookup a = some o ∧ o.cls = .type "list" ∧ o.dict = none ∧ o.data = .seq its n ∧ its.size ≤ sizeLine ∧ Vals xs its.toList
theorem FzL.sq {K : PySem.W.Frag} {H : Hp} {a : Addr} {xs : List V} (h : FzL K H a xs) : SqL K H a xs := by
  rcases h with h | h
  · exact .inl (.inr h)
  · exact .inr h
mutual
inductive RpD (K : PySem.W.Frag) (H : Hp) : V → DV → List Addr → Prop
  | i {v : V} {x : IV} : RpI K H v x → RpD K H v (.i x) []
  | l {a : Addr} {vs : List V} {xs : List IV} : H a = some (.lst vs) → RpIs K H vs xs → RpD K H (.ref a) (.l xs) [a]
  | f {a : Addr} {vs : List V} {xs : List IV} : FzL K H a vs → RpIs K H vs xs → RpD K H (.ref a) (.f xs) []
  | m {a : Addr} {vs : List V} {xs : List DV} {F : List Addr} : H a = some (.lst vs) → RpDs K H vs xs F → RpD K H (.ref a) (.m xs) (a :: F)
inductive RpDs (K : PySem.W.Frag) (H : Hp) : List V → List DV → List Addr → Prop
  | nil : RpDs K H [] [] []
  | cons {v : V} {vs : List V} {x : DV} {xs : List DV} {F G : List Addr} : RpD K H v x F → RpDs K H vs xs G → RpDs K H (v :: vs) (x :: xs) (F ++ G)
end

/-! ### tuples stay -/
structure TKeep (H H' : Hp) : Prop where
  t : ∀ a xs, H a = some (.tup xs) → H' a = some (.tup xs)
  f : ∀ a o u, H a = some (.frz o u) → H' a = some (.frz o u)
theorem TKeep.refl (H : Hp) : TKeep H H := ⟨fun _ _ h => h, fun _ _ _ h => h⟩
theorem TKeep.trans {H H1 H2 : Hp} (a : TKeep H H1) (b : TKeep H1 H2) : TKeep H H2 := ⟨fun c o h => b.t c o (a.t c o h), fun c o u h => b.f c o u (a.f c o u h)⟩
theorem TKeep.sq {K : PySem.W.Frag} {H H' : Hp} {a : Addr} {xs : List V} (k : TKeep H H') (h : SqT K H a xs) : SqT K H' a xs := by
  rcases h with (h | ⟨o, h⟩) | h
  · exact .inl (.inl (k.t _ _ h))
  · exact .inl (.inr ⟨o, k.f _ _ _ h⟩)
  · exact .inr h
theorem TKeep.fz {K : PySem.W.Frag} {H H' : Hp} {a : Addr} {xs : List V} (k : TKeep H H') (h : FzL K H a xs) : FzL K H' a xs := by
  rcases h with ⟨o, h⟩ | h
  · exact .inl ⟨o, k.f _ _ _ h⟩
  · exact .inr h
theorem same_tkeep {H H' : Hp} (e : Same H H') : TKeep H H' := ⟨fun a xs h => e _ _ h, fun a o u h => e _ _ h⟩
/-- a list is changed -/
theorem upd_tkeep {H : Hp} {a : Addr} {vs : List V} {o : HO} (h : H a = some (.lst vs)) : TKeep H (upd H a o) :=
  ⟨fun b xs r => by rw [upd_ne (ne_of r h (by intro z; cases z))]; exact r, fun b ob u r => by rw [upd_ne (ne_of r h (by intro z; cases z))]; exact r⟩
theorem same_upd {H : Hp} {p : Addr} {o : HO} (h : H p = none) : Same H (upd H p o) := fun b x e => by
  rw [upd_ne (ne_of_none e h)]
  exact e

mutual
theorem RpI.mono {K : PySem.W.Frag} {H H' : Hp} (k : TKeep H H') : ∀ {v : V} {x : IV}, RpI K H v x → RpI K H' v x
  | _, .non, h => by cases h; exact .non
  | _, .bl b, h => by cases h; exact .bl b
  | _, .int i, h => by cases h; exact .int i
  | _, .str x, h => by cases h; exact .str x
  | _, .tup xs, h => by
    cases h with
    | tup s r => exact .tup (k.sq s) (RpIs.mono k r)
theorem RpIs.mono {K : PySem.W.Frag} {H H' : Hp} (k : TKeep H H') : ∀ {vs : List V} {xs : List IV}, RpIs K H vs xs → RpIs K H' vs xs
  | _, [], h => by cases h; exact .nil
  | _, x :: xs, h => by
    cases h with
    | cons a b => exact .cons (RpI.mono k a) (RpIs.mono k b)
end
/-- what a footprint leans on -/
def FKeep (H H' : Hp) (F : List Addr) : Prop := ∀ a ∈ F, H' a = H a
mutual
theorem RpD.mono {K : PySem.W.Frag} {H H' : Hp} (k : TKeep H H') : ∀ {v : V} {x : DV} {F : List Addr}, FKeep H H' F → RpD K H v x F → RpD K H' v x F
  | _, .i x, _, f, h => by
    cases h with
    | i r => exact .i (RpI.mono k r)
  | _, .l xs, _, f, h => by
    cases h with
    | l s r =>
      exact .l (by rw [f _ List.mem_cons_self]; exact s) (RpIs.mono k r)
  | _, .f xs, _, f, h => by
    cases h with
    | f s r => exact .f (k.fz s) (RpIs.mono k r)
  | _, .m xs, _, f, h => by
    cases h with
    | m s r =>
      exact .m (by rw [f _ List.mem_cons_self]; exact s) (RpDs.mono k (fun a ha => f a (List.mem_cons_of_mem _ ha)) r)
theorem RpDs.mono {K : PySem.W.Frag} {H H' : Hp} (k : TKeep H H') : ∀ {vs : List V} {xs : List DV} {F : List Addr}, FKeep H H' F → RpDs K H vs xs F → RpDs K H' vs xs F
  | _, [], _, f, h => by cases h; exact .nil
  | _, x :: xs, _, f, h => by
    cases h with
    | cons a b => exact .cons (RpD.mono k (fun c hc => f c (List.mem_append_left _ hc)) a) (RpDs.mono k (fun c hc => f c (List.mem_append_right _ hc)) b)
end
mutual
/-- every address of a footprint is tracked -/
theorem RpD.dom {K : PySem.W.Frag} {H : Hp} : ∀ {v : V} {x : DV} {F : List Addr}, RpD K H v x F → ∀ a ∈ F, ∃ o, H a = some o
  | _, .i x, _, h, a, ha => by cases h; cases ha
  | _, .l xs, _, h, a, ha => by
    cases h with
    | l s r =>
      have e : a = _ := List.mem_singleton.mp ha
      subst e
      exact ⟨_, s⟩
  | _, .f xs, _, h, a, ha => by cases h; cases ha
  | _, .m xs, _, h, a, ha => by
    cases h with
    | m s r =>
      rcases List.mem_cons.mp ha with e | ha
      · subst e
        exact ⟨_, s⟩
      · exact RpDs.dom r a ha
theorem RpDs.dom {K : PySem.W.Frag} {H : Hp} : ∀ {vs : List V} {xs : List DV} {F : List Addr}, RpDs K H vs xs F → ∀ a ∈ F, ∃ o, H a = some o
  | _, [], _, h, a, ha => by cases h; cases ha
  | _, x :: xs, _, h, a, ha => by
    cases h with
    | cons p q =>
      rcases List.mem_append.mp ha with ha | ha
      · exact RpD.dom p a ha
      · exact RpDs.dom q a ha
end
theorem FKeep.of_same {K : PySem.W.Frag} {H H' : Hp} {v : V} {x : DV} {F : List Addr} (e : Same H H') (h : RpD K H v x F) : FKeep H H' F := fun a ha => by
  obtain ⟨o, q⟩ := h.dom a ha
  rw [q, e _ _ q]
theorem FKeep.of_sames {K : PySem.W.Frag} {H H' : Hp} {v : List V} {x : List DV} {F : List Addr} (e : Same H H') (h : RpDs K H v x F) : FKeep H H' F := fun a ha => by
  obtain ⟨o, q⟩ := h.dom a ha
  rw [q, e _ _ q]
theorem RpD.same {K : PySem.W.Frag} {H H' : Hp} {v : V} {x : DV} {F : List Addr} (e : Same H H') (h : RpD K H v x F) : RpD K H' v x F := h.mono (same_tkeep e) (.of_same e h)
theorem RpDs.same {K : PySem.W.Frag} {H H' : Hp} {v : List V} {x : List DV} {F : List Addr} (e : Same H H') (h : RpDs K H v x F) : RpDs K H' v x F := h.mono (same_tkeep e) (.of_sames e h)
theorem RpI.same {K : PySem.W.Frag} {H H' : Hp} {v : V} {x : IV} (e : Same H H') (h : RpI K H v x) : RpI K H' v x := h.mono (same_tkeep e)
theorem RpIs.same {K : PySem.W.Frag} {H H' : Hp} {v : List V} {x : List IV} (e : Same H H') (h : RpIs K H v x) : RpIs K H' v x := h.mono (same_tkeep e)
theorem RpIs.length {K : PySem.W.Frag} {H : Hp} : ∀ {vs : List V} {xs : List IV}, RpIs K H vs xs → vs.length = xs.length
  | _, [], h => by cases h; rfl
  | _, x :: xs, h => by cases h with | cons a b => exact congrArg (· + 1) (RpIs.length b)
theorem RpDs.length {K : PySem.W.Frag} {H : Hp} : ∀ {vs : List V} {xs : List DV} {F : List Addr}, RpDs K H vs xs F → vs.length = xs.length
  | _, [], _, h => by cases h; rfl
  | _, x :: xs, _, h => by cases h with | cons a b => exact congrArg (· + 1) (RpDs.length b)
theorem RpIs.get {K : PySem.W.Frag} {H : Hp} : ∀ {vs : List V} {xs : List IV}, RpIs K H vs xs → ∀ {i : Nat} {x : IV}, xs[i]? = some x → ∃ v, vs[i]? = some v ∧ RpI K H v x
  | _, [], h, i, x, e => by simp at e
  | _, y :: xs, h, 0, x, e => by
    cases h with
    | cons a b =>
      have e' : y = x := by simpa using e
      subst e'
      exact ⟨_, rfl, a⟩
  | _, y :: xs, h, i + 1, x, e => by
    cases h with
    | cons a b =>
      obtain ⟨v, h1, h2⟩ := RpIs.get b (i := i) (x := x) (by simpa using e)
      exact ⟨v, by simpa using h1, h2⟩
theorem RpDs.get {K : PySem.W.Frag} {H : Hp} : ∀ {vs : List V} {xs : List DV} {F : List Addr}, RpDs K H vs xs F → ∀ {i : Nat} {x : DV}, xs[i]? = some x → ∃ v G, vs[i]? = some v ∧ RpD K H v x G ∧ ∀ a ∈ G, a ∈ F
  | _, [], _, h, i, x, e => by simp at e
  | _, y :: xs, _, h, 0, x, e => by
    cases h with
    | cons a b =>
      have e' : y = x := by simpa using e
      subst e'
      exact ⟨_, _, rfl, a, fun c hc => List.mem_append_left _ hc⟩
  | _, y :: xs, _, h, i + 1, x, e => by
    cases h with
    | cons a b =>
      obtain ⟨v, G, h1, h2, h3⟩ := RpDs.get b (i := i) (x := x) (by simpa using e)
      exact ⟨v, G, by simpa using h1, h2, fun c hc => List.mem_append_right _ (h3 c hc)⟩

/-! ## the state -/
/-- the environment as it lies: H0 the heap at the def's entry, Pz what may not be changed meanwhile, T further lists that nobody may name, Fs the slots' footprints -/
structure EnvR (K : PySem.W.Frag) (H0 Pz : Hp) (T : Addr → Prop) (H : Hp) (σ : St) (ρ : Env) (Fs : Nat → List Addr) : Prop where
  h0 : Same H0 Pz
  pz : Same Pz H
  tn : ∀ a, T a → Pz a = none
  th : ∀ a, T a → ∃ vs, H a = some (.lst vs)
  len : ρ.length = σ.length
  at_ : ∀ i d m, ρ[i]? = some (some (d, m)) → ∃ v, σ[i]? = some (some v) ∧ RpD K H v d (Fs i)
  fresh : ∀ i d m, ρ[i]? = some (some (d, m)) → m ≠ .bor → ∀ a ∈ Fs i, H0 a = none ∧ ∃ vs, H a = some (.lst vs)
  top : ∀ i d, ρ[i]? = some (some (d, .own)) → ∀ a F, Fs i = a :: F → Pz a = none ∧ a ∉ F ∧ (∀ j, j ≠ i → a ∉ Fs j)
  tt : ∀ a, T a → ∀ j, a ∉ Fs j
  nil : ∀ j, (∀ d m, ρ[j]? ≠ some (some (d, m))) → Fs j = []

/-- no list that somebody else may change is named -/
def NoTops (T : Addr → Prop) (ρ : Env) (Fs : Nat → List Addr) (F : List Addr) : Prop :=
  (∀ k d, ρ[k]? = some (some (d, .own)) → ∀ a G, Fs k = a :: G → a ∉ F) ∧ ∀ a, T a → a ∉ F
/-- what is known of a result's footprint -/
structure ResOk (H0 Pz : Hp) (T : Addr → Prop) (ρ : Env) (Fs : Nat → List Addr) (H' : Hp) (F : List Addr) (m : Md) : Prop where
  fresh : m = .own ∨ m = .loc → ∀ a ∈ F, H0 a = none ∧ ∃ vs, H' a = some (.lst vs)
  top : m = .own → ∀ a G, F = a :: G → Pz a = none ∧ a ∉ G ∧ ∀ j, a ∉ Fs j
  notops : m ≠ .tmp → NoTops T ρ Fs F
  tmp : m = .tmp → F = [] ∨ ∃ k d, ρ[k]? = some (some (d, .own)) ∧ F = Fs k
theorem ResOk.nil {H0 Pz : Hp} {T : Addr → Prop} {ρ : Env} {Fs : Nat → List Addr} {H' : Hp} {m : Md} : ResOk H0 Pz T ρ Fs H' [] m :=
  ⟨fun _ _ h => (nomatch h), fun _ _ _ h => (nomatch h), fun _ => ⟨fun _ _ _ _ _ _ h => (nomatch h), fun _ _ h => (nomatch h)⟩, fun _ => .inl rfl⟩

section
variable {K : PySem.W.Frag} {H0 Pz H H' : Hp} {T : Addr → Prop} {σ : St} {ρ : Env} {Fs : Nat → List Addr}
theorem EnvR.dom (E : EnvR K H0 Pz T H σ ρ Fs) (j : Nat) : ∀ a ∈ Fs j, ∃ o, H a = some o := fun a ha => by
  cases q : ρ[j]? with
  | none =>
    have e := E.nil j (fun d m z => by rw [q] at z; cases z)
    rw [e] at ha; cases ha
  | some o =>
    cases o with
    | none =>
      have e := E.nil j (fun d m z => by rw [q] at z; cases z)
      rw [e] at ha; cases ha
    | some dm =>
      obtain ⟨d, m⟩ := dm
      obtain ⟨v, _, r⟩ := E.at_ j d m q
      exact r.dom a ha
theorem EnvR.same (E : EnvR K H0 Pz T H σ ρ Fs) (e : Same H H') : EnvR K H0 Pz T H' σ ρ Fs where
  h0 := E.h0
  pz := E.pz.trans e
  tn := E.tn
  th := fun a ha => by
    obtain ⟨o, q⟩ := E.th a ha
    exact ⟨o, e _ _ q⟩
  len := E.len
  at_ := fun i d m h => by
    obtain ⟨v, h1, h2⟩ := E.at_ i d m h
    exact ⟨v, h1, h2.same e⟩
  fresh := fun i d m h hm a ha => by
    obtain ⟨h1, vs, h2⟩ := E.fresh i d m h hm a ha
    exact ⟨h1, vs, e _ _ h2⟩
  top := E.top
  tt := E.tt
  nil := E.nil
theorem ResOk.same {F : List Addr} {m : Md} (r : ResOk H0 Pz T ρ Fs H F m) (e : Same H H') : ResOk H0 Pz T ρ Fs H' F m :=
  ⟨fun hm a ha => by obtain ⟨h1, vs, h2⟩ := r.fresh hm a ha; exact ⟨h1, vs, e _ _ h2⟩, r.top, r.notops, r.tmp⟩
/-- a wholly new footprint -/
theorem ResOk.new {F : List Addr} (E : EnvR K H0 Pz T H σ ρ Fs) (hF : ∀ a ∈ F, H a = none ∧ ∃ vs, H' a = some (.lst vs)) (hT : ∀ a G, F = a :: G → a ∉ G) : ResOk H0 Pz T ρ Fs H' F .own := by
  have no : ∀ a, H a = none → Pz a = none := fun a h => by
    cases q : Pz a with
    | none => rfl
    | some o => rw [E.pz _ _ q] at h; cases h
  have no0 : ∀ a, H a = none → H0 a = none := fun a h => by
    cases q : H0 a with
    | none => rfl
    | some o => rw [E.pz _ _ (E.h0 _ _ q)] at h; cases h
  refine ⟨fun _ a ha => ⟨no0 a (hF a ha).1, (hF a ha).2⟩, fun _ a G e => ⟨no a (hF a (by rw [e]; exact List.mem_cons_self)).1, hT a G e, fun j hj => ?_⟩, fun _ => ⟨fun k d hk a G e ha => ?_, fun a ha hb => ?_⟩, fun z => (nomatch z)⟩
  · obtain ⟨o, q⟩ := E.dom j a hj
    rw [(hF a (by rw [e]; exact List.mem_cons_self)).1] at q; cases q
  · obtain ⟨o, q⟩ := E.dom k a (by rw [e]; exact List.mem_cons_self)
    rw [(hF a ha).1] at q; cases q
  · obtain ⟨o, q⟩ := E.th a ha
    rw [(hF a hb).1] at q; cases q
end
end L2.Pv

namespace L2.Pv
open PySem PySem.Spec PyProof.Rows

/-! ## readings by semantic functions -/
def ExD (K : PySem.W.Frag) (H' : Hp) (d : Option Addr) (p : Option (Str × IV)) : Prop := match p with
  | none => d = none
  | some (f, x) => ∃ dd v, d = some dd ∧ H' dd = some (.xd [(f, v)]) ∧ RpI K H' v x
theorem ExD.same {K : PySem.W.Frag} {H H' : Hp} {d : Option Addr} {p : Option (Str × IV)} (e : Same H H') (h : ExD K H d p) : ExD K H' d p := by
  cases p with
  | none => exact h
  | some q =>
    obtain ⟨dd, v, h1, h2, h3⟩ := h
    exact ⟨dd, v, h1, e _ _ h2, h3.same e⟩
abbrev Exn := Option (Str × IV)
abbrev MG := Str → Option Value
/-- what is wanted of an exception that leaves an expression -/
def ExOk (K : PySem.W.Frag) (mg : MG) (W : WX) (σ : St) (H : Hp) (c : Str) (p : Exn) : Prop := ∀ C H' d, mg c = some (.ref C) → Same H H' → ExD K H' d p → W (.ref C) d σ H'
theorem ExOk.of {K : PySem.W.Frag} {mg : MG} {W : WX} {σ : St} {H H1 : Hp} {c : Str} {p : Exn} (h : ExOk K mg W σ H c p) (e : Same H H1) : ExOk K mg W σ H1 c p := fun C H' d a b c => h C H' d a (e.trans b) c

abbrev FE := Env → R (DV × Md)
def tev (K : PySem.W.Frag) (mg : MG) (W : WX) (f : FE) : TE := fun σ H Q => ∃ H0 Pz T ρ Fs, EnvR K H0 Pz T H σ ρ Fs ∧ match f ρ with
  | .ok x => ∀ v H' F, Same H H' → RpD K H' v x.1 F → ResOk H0 Pz T ρ Fs H' F x.2 → Q v H'
  | .ex c p => ExOk K mg W σ H c p
  | .bad => False
def PEv (X : Cx) (e : Expr) (f : FE) : Prop := ∀ W, Takes X W → PE X e (tev X.K X.mg W f)
abbrev FT := Env → R Bool
def ttv (K : PySem.W.Frag) (mg : MG) (W : WX) (f : FT) : TT := fun σ H Q => ∃ H0 Pz T ρ Fs, EnvR K H0 Pz T H σ ρ Fs ∧ match f ρ with
  | .ok b => ∀ H', Same H H' → Q b H'
  | .ex c p => ExOk K mg W σ H c p
  | .bad => False
def PTv (X : Cx) (e : Expr) (f : FT) : Prop := ∀ W, Takes X W → PT X e (ttv X.K X.mg W f)
def PWv (X : Cx) (e : Expr) (f : FT) : Prop := ∀ W, Takes X W → PW X e (ttv X.K X.mg W f)
inductive ArgsOk (K : PySem.W.Frag) (H0 Pz : Hp) (T : Addr → Prop) (ρ : Env) (Fs : Nat → List Addr) (H' : Hp) : List V → List (DV × Md) → Prop
  | nil : ArgsOk K H0 Pz T ρ Fs H' [] []
  | cons {v : V} {vs : List V} {x : DV × Md} {xs : List (DV × Md)} {F : List Addr} : RpD K H' v x.1 F → ResOk H0 Pz T ρ Fs H' F x.2 → ArgsOk K H0 Pz T ρ Fs H' vs xs → ArgsOk K H0 Pz T ρ Fs H' (v :: vs) (x :: xs)
theorem ArgsOk.same {K : PySem.W.Frag} {H0 Pz : Hp} {T : Addr → Prop} {ρ : Env} {Fs : Nat → List Addr} {H H' : Hp} (e : Same H H') : ∀ {vs : List V} {xs : List (DV × Md)}, ArgsOk K H0 Pz T ρ Fs H vs xs → ArgsOk K H0 Pz T ρ Fs H' vs xs
  | _, [], h => by cases h; exact .nil
  | _, _ :: _, h => by
    cases h with
    | cons a b c => exact .cons (a.same e) (b.same e) (ArgsOk.same e c)
theorem ArgsOk.length {K : PySem.W.Frag} {H0 Pz : Hp} {T : Addr → Prop} {ρ : Env} {Fs : Nat → List Addr} {H : Hp} : ∀ {vs : List V} {xs : List (DV × Md)}, ArgsOk K H0 Pz T ρ Fs H vs xs → vs.length = xs.length
  | _, [], h => by cases h; rfl
  | _, _ :: _, h => by
    cases h with
    | cons a b c => exact congrArg (· + 1) (ArgsOk.length c)
abbrev FA := Env → R (List (DV × Md))
def tav (K : PySem.W.Frag) (mg : MG) (W : WX) (f : FA) : TA := fun σ H Q => ∃ H0 Pz T ρ Fs, EnvR K H0 Pz T H σ ρ Fs ∧ match f ρ with
  | .ok xs => ∀ vs H', Same H H' → ArgsOk K H0 Pz T ρ Fs H' vs xs → Q vs H'
  | .ex c p => ExOk K mg W σ H c p
  | .bad => False
def PAv (X : Cx) (es : List Expr) (f : FA) : Prop := ∀ W, Takes X W → PA X es (tav X.K X.mg W f)

/-! ### changing the reading -/
theorem PE.imp {X : Cx} {e : Expr} {t t' : TE} (h : PE X e t) (k : ∀ σ H Q, t' σ H Q → t σ H Q) : PE X e t' := ⟨fun pins s σ H Q I q => h.run pins s σ H Q I (k σ H Q q)⟩
theorem PT.imp {X : Cx} {e : Expr} {t t' : TT} (h : PT X e t) (k : ∀ σ H Q, t' σ H Q → t σ H Q) : PT X e t' := ⟨fun pins s σ H Q I q => h.run pins s σ H Q I (k σ H Q q)⟩
theorem PW.imp {X : Cx} {e : Expr} {t t' : TT} (h : PW X e t) (k : ∀ σ H Q, t' σ H Q → t σ H Q) : PW X e t' := ⟨fun wh pins s σ H Q I q => h.run wh pins s σ H Q I (k σ H Q q)⟩
theorem PA.imp {X : Cx} {e : List Expr} {t t' : TA} (h : PA X e t) (k : ∀ σ H Q, t' σ H Q → t σ H Q) : PA X e t' := ⟨fun po pins s σ H Q I q => h.run po pins s σ H Q I (k σ H Q q)⟩

/-! ### chains of readings -/
section
variable {K : PySem.W.Frag} {mg : MG} {W : WX} {σ : St} {H H0 Pz : Hp} {T : Addr → Prop} {ρ : Env} {Fs : Nat → List Addr}
/-- the first of several: f's own value is at hand -/
theorem tev_ok {f : FE} {x : DV × Md} {Q : VK} (E : EnvR K H0 Pz T H σ ρ Fs) (e : f ρ = .ok x) (h : ∀ v H' F, Same H H' → EnvR K H0 Pz T H' σ ρ Fs → RpD K H' v x.1 F → ResOk H0 Pz T ρ Fs H' F x.2 → Q v H') : tev K mg W f σ H Q :=
  ⟨H0, Pz, T, ρ, Fs, E, by rw [e]; exact fun v H' F a b c => h v H' F a (E.same a) b c⟩
theorem tev_ex {f : FE} {c : Str} {p : Exn} {Q : VK} (E : EnvR K H0 Pz T H σ ρ Fs) (e : f ρ = .ex c p) (h : ExOk K mg W σ H c p) : tev K mg W f σ H Q :=
  ⟨H0, Pz, T, ρ, Fs, E, by rw [e]; exact h⟩
theorem ttv_ok {f : FT} {x : Bool} {Q : Bool → Hp → Prop} (E : EnvR K H0 Pz T H σ ρ Fs) (e : f ρ = .ok x) (h : ∀ H', Same H H' → EnvR K H0 Pz T H' σ ρ Fs → Q x H') : ttv K mg W f σ H Q :=
  ⟨H0, Pz, T, ρ, Fs, E, by rw [e]; exact fun H' a => h H' a (E.same a)⟩
theorem ttv_ex {f : FT} {c : Str} {p : Exn} {Q : Bool → Hp → Prop} (E : EnvR K H0 Pz T H σ ρ Fs) (e : f ρ = .ex c p) (h : ExOk K mg W σ H c p) : ttv K mg W f σ H Q :=
  ⟨H0, Pz, T, ρ, Fs, E, by rw [e]; exact h⟩
theorem tav_ok {f : FA} {x : List (DV × Md)} {Q : List V → Hp → Prop} (E : EnvR K H0 Pz T H σ ρ Fs) (e : f ρ = .ok x) (h : ∀ vs H', Same H H' → EnvR K H0 Pz T H' σ ρ Fs → ArgsOk K H0 Pz T ρ Fs H' vs x → Q vs H') : tav K mg W f σ H Q :=
  ⟨H0, Pz, T, ρ, Fs, E, by rw [e]; exact fun v H' a b => h v H' a (E.same a) b⟩
theorem tav_ex {f : FA} {c : Str} {p : Exn} {Q : List V → Hp → Prop} (E : EnvR K H0 Pz T H σ ρ Fs) (e : f ρ = .ex c p) (h : ExOk K mg W σ H c p) : tav K mg W f σ H Q :=
  ⟨H0, Pz, T, ρ, Fs, E, by rw [e]; exact h⟩
end

/-- a rule on two values, by its data function -/
def BOk (K : PySem.W.Frag) (r : R2) (op : DV × Md → DV × Md → R (DV × Md)) : Prop :=
  ∀ (H0 Pz H : Hp) (T : Addr → Prop) (σ : St) (ρ : Env) (Fs : Nat → List Addr) (x y z : DV × Md) (v u : V) (F G : List Addr) (Q : VK), EnvR K H0 Pz T H σ ρ Fs → RpD K H v x.1 F → ResOk H0 Pz T ρ Fs H F x.2 → RpD K H u y.1 G → ResOk H0 Pz T ρ Fs H G y.2 →
    op x y = .ok z → (∀ v H' F, Same H H' → RpD K H' v z.1 F → ResOk H0 Pz T ρ Fs H' F z.2 → Q v H') → r v u H Q
def NoEx (op : DV × Md → DV × Md → R (DV × Md)) : Prop := ∀ x y c p, op x y ≠ .ex c p
def eBin (op : DV × Md → DV × Md → R (DV × Md)) (f g : FE) : FE := fun ρ => (f ρ).bind fun x => (g ρ).bind fun y => op x y
section
variable {X : Cx} {a b : Expr} {f g : FE} {pos : Pos}
/-- two readings, then a rule -/
theorem bin_imp {K : PySem.W.Frag} {mg : MG} {W : WX} {r : R2} {op : DV × Md → DV × Md → R (DV × Md)} (hb : BOk K r op) (hn : NoEx op) (σ : St) (H : Hp) (Q : VK) (h : tev K mg W (eBin op f g) σ H Q) : tOp r (tev K mg W f) (tev K mg W g) σ H Q := by
  obtain ⟨H0, Pz, T, ρ, Fs, E, h⟩ := h
  unfold eBin at h
  show tev K mg W f σ H _
  cases e1 : f ρ with
  | bad => rw [e1] at h; exact h.elim
  | ex c p => rw [e1] at h; exact tev_ex E e1 h
  | ok x =>
    rw [e1] at h
    refine tev_ok E e1 fun v H1 F s1 E1 r1 o1 => ?_
    cases e2 : g ρ with
    | bad => simp only [R.bind, e2] at h
    | ex c p =>
      simp only [R.bind, e2] at h
      exact tev_ex E1 e2 (h.of s1)
    | ok y =>
      simp only [R.bind, e2] at h
      refine tev_ok E1 e2 fun u H2 G s2 E2 r2 o2 => ?_
      cases e3 : op x y with
      | bad => rw [e3] at h; exact h.elim
      | ex c p => exact absurd e3 (hn _ _ _ _)
      | ok z =>
        rw [e3] at h
        exact hb H0 Pz H2 T σ ρ Fs x y z v u F G Q E2 (r1.same s2) (o1.same s2) r2 o2 e3 fun v' H' F' s' r' o' => h v' H' F' (s1.trans (s2.trans s')) r' o'
theorem ev_bin {o : Operator} {r : R2} {op : DV × Md → DV × Md → R (DV × Md)} (ho : OpR X (binaryOp o) r) (hb : BOk X.K r op) (hn : NoEx op) (ha : PEv X a f) (hg : PEv X b g) : PEv X (.BinOp a o b pos) (eBin op f g) := fun W tk =>
  PE.imp (pe_op ho (ha W tk) (hg W tk)) fun σ H Q h => bin_imp hb hn σ H Q h
theorem ev_cmp {o : CmpOp} {r : R2} {op : DV × Md → DV × Md → R (DV × Md)} (ho : OpR X (compareOp o) r) (hb : BOk X.K r op) (hn : NoEx op) (ha : PEv X a f) (hg : PEv X b g) (hm : behindInMarks o b = false) : PEv X (.Compare a [o] [b] pos) (eBin op f g) := fun W tk =>
  PE.imp (pe_cmpR ho (ha W tk) (hg W tk) hm) fun σ H Q h => bin_imp hb hn σ H Q h
end
/-- a value that must be True or False -/
def asB (x : DV × Md) : R Bool := match x.1 with
  | .i (.bl b) => .ok b
  | _ => .bad
def tB (f : FE) : FT := fun ρ => (f ρ).bind asB
theorem asB_ok {x : DV × Md} {b : Bool} (h : asB x = .ok b) : x.1 = .i (.bl b) := by
  unfold asB at h
  split at h
  · rename_i e; rw [e]; cases h; rfl
  · cases h
theorem asB_noex {x : DV × Md} {c : Str} {p : Exn} : asB x ≠ .ex c p := by
  unfold asB
  split <;> intro h <;> cases h
section
variable {X : Cx} {a b : Expr} {f g : FE} {pos : Pos} {K : PySem.W.Frag} {mg : MG} {W : WX}
/-- from a value's reading to a test's -/
theorem tB_imp {t : TE} (k : ∀ σ H Q, tev K mg W f σ H Q → t σ H Q) (σ : St) (H : Hp) (Q : Bool → Hp → Prop) (h : ttv K mg W (tB f) σ H Q) : t σ H fun x H1 => ∃ c, x = .bl c ∧ Q c H1 := by
  obtain ⟨H0, Pz, T, ρ, Fs, E, h⟩ := h
  refine k σ H _ ?_
  cases e1 : f ρ with
  | bad => simp only [tB, e1, R.bind] at h
  | ex c p => simp only [tB, e1, R.bind] at h; exact tev_ex E e1 h
  | ok x =>
    simp only [tB, e1, R.bind] at h
    cases e2 : asB x with
    | bad => rw [e2] at h; exact h.elim
    | ex c p => exact absurd e2 asB_noex
    | ok b =>
      rw [e2] at h
      refine tev_ok E e1 fun v H1 F s1 E1 r1 o1 => ?_
      rw [asB_ok e2] at r1
      cases r1 with
      | i r => cases r; exact ⟨b, rfl, h H1 s1⟩
theorem tv_val (ha : PEv X a f) (he : ∀ whole, isTrue a X.env whole = (do let v ← whole; standAt a.pos; holding [v] (truthy v)) := by intro _; rfl) : PTv X a (tB f) := fun W tk =>
  PT.imp (pt_val (ha W tk) he) fun σ H Q h => tB_imp (fun _ _ _ z => z) σ H Q h
theorem tv_cmp {o : CmpOp} {r : R2} {op : DV × Md → DV × Md → R (DV × Md)} (ho : OpR X (compareOp o) r) (hb : BOk X.K r op) (hn : NoEx op) (ha : PEv X a f) (hg : PEv X b g) (hm : behindInMarks o b = false) : PTv X (.Compare a [o] [b] pos) (tB (eBin op f g)) := fun W tk =>
  PT.imp (pt_cmpR ho (ha W tk) (hg W tk) hm) fun σ H Q h => tB_imp (fun σ H Q z => bin_imp hb hn σ H Q z) σ H Q h
end

/-! ### and, or, not, if, as tests -/
def tAndF (f g : FT) : FT := fun ρ => (f ρ).bind fun b => if b then g ρ else .ok false
def tOrF (f g : FT) : FT := fun ρ => (f ρ).bind fun b => if b then .ok true else g ρ
def tNotF (f : FT) : FT := fun ρ => (f ρ).bind fun b => .ok (!b)
def eIfF (c : FT) (f g : FE) : FE := fun ρ => (c ρ).bind fun b => if b then f ρ else g ρ
section
variable {X : Cx} {a b c : Expr} {rest : List Expr} {f g : FT} {pos : Pos}
theorem wv_pt (h : PWv X a f) : PTv X a f := fun W tk => (h W tk).pt
theorem wv_and1 (h : PTv X a f) : PWv X (.BoolOp .And [a] pos) f := fun W tk => pw_and1 (h W tk)
theorem wv_or1 (h : PTv X a f) : PWv X (.BoolOp .Or [a] pos) f := fun W tk => pw_or1 (h W tk)
theorem wv_and (h1 : PTv X a f) (h2 : PWv X (.BoolOp .And (b :: rest) pos) g) : PWv X (.BoolOp .And (a :: b :: rest) pos) (tAndF f g) := fun W tk =>
  PW.imp (pw_and (h1 W tk) (h2 W tk)) fun σ H Q h => by
    obtain ⟨H0, Pz, T, ρ, Fs, E, h⟩ := h
    show ttv X.K X.mg W f σ H _
    cases e1 : f ρ with
    | bad => simp only [tAndF, e1, R.bind] at h
    | ex c p => simp only [tAndF, e1, R.bind] at h; exact ttv_ex E e1 h
    | ok x =>
      refine ttv_ok E e1 fun H1 s1 E1 => ?_
      cases x with
      | false =>
        simp only [tAndF, e1, R.bind, Bool.false_eq_true, if_false] at h ⊢
        exact h H1 s1
      | true =>
        simp only [tAndF, e1, R.bind, if_true] at h ⊢
        cases e2 : g ρ with
        | bad => rw [e2] at h; exact h.elim
        | ex c p => rw [e2] at h; exact ttv_ex E1 e2 (h.of s1)
        | ok y => rw [e2] at h; exact ttv_ok E1 e2 fun H2 s2 _ => h H2 (s1.trans s2)
theorem wv_or (h1 : PTv X a f) (h2 : PWv X (.BoolOp .Or (b :: rest) pos) g) : PWv X (.BoolOp .Or (a :: b :: rest) pos) (tOrF f g) := fun W tk =>
  PW.imp (pw_or (h1 W tk) (h2 W tk)) fun σ H Q h => by
    obtain ⟨H0, Pz, T, ρ, Fs, E, h⟩ := h
    show ttv X.K X.mg W f σ H _
    cases e1 : f ρ with
    | bad => simp only [tOrF, e1, R.bind] at h
    | ex c p => simp only [tOrF, e1, R.bind] at h; exact ttv_ex E e1 h
    | ok x =>
      refine ttv_ok E e1 fun H1 s1 E1 => ?_
      cases x with
      | true =>
        simp only [tOrF, e1, R.bind, if_true] at h ⊢
        exact h H1 s1
      | false =>
        simp only [tOrF, e1, R.bind, Bool.false_eq_true, if_false] at h ⊢
        cases e2 : g ρ with
        | bad => rw [e2] at h; exact h.elim
        | ex c p => rw [e2] at h; exact ttv_ex E1 e2 (h.of s1)
        | ok y => rw [e2] at h; exact ttv_ok E1 e2 fun H2 s2 _ => h H2 (s1.trans s2)
theorem tv_not (h1 : PTv X a f) : PTv X (.UnaryOp .Not a pos) (tNotF f) := fun W tk =>
  PT.imp (pt_not (h1 W tk)) fun σ H Q h => by
    obtain ⟨H0, Pz, T, ρ, Fs, E, h⟩ := h
    show ttv X.K X.mg W f σ H _
    cases e1 : f ρ with
    | bad => simp only [tNotF, e1, R.bind] at h
    | ex c p => simp only [tNotF, e1, R.bind] at h; exact ttv_ex E e1 h
    | ok x =>
      simp only [tNotF, e1, R.bind] at h
      exact ttv_ok E e1 fun H1 s1 E1 => h H1 s1
theorem ev_if {f g : FE} {t : FT} (hc : PTv X c t) (ha : PEv X a f) (hb : PEv X b g) : PEv X (.IfExp c a b pos) (eIfF t f g) := fun W tk =>
  PE.imp (pe_ifExp (hc W tk) (ha W tk) (hb W tk)) fun σ H Q h => by
    obtain ⟨H0, Pz, T, ρ, Fs, E, h⟩ := h
    show ttv X.K X.mg W t σ H _
    cases e1 : t ρ with
    | bad => simp only [eIfF, e1, R.bind] at h
    | ex c p => simp only [eIfF, e1, R.bind] at h; exact ttv_ex E e1 h
    | ok x =>
      refine ttv_ok E e1 fun H1 s1 E1 => ?_
      cases x with
      | true =>
        simp only [eIfF, e1, R.bind, if_true] at h ⊢
        exact ⟨H0, Pz, T, ρ, Fs, E1, by
          cases e2 : f ρ with
          | bad => rw [e2] at h; exact h
          | ex c p => rw [e2] at h; exact h.of s1
          | ok y => rw [e2] at h; exact fun v H' F s2 r o => h v H' F (s1.trans s2) r o⟩
      | false =>
        simp only [eIfF, e1, R.bind, Bool.false_eq_true, if_false] at h ⊢
        exact ⟨H0, Pz, T, ρ, Fs, E1, by
          cases e2 : g ρ with
          | bad => rw [e2] at h; exact h
          | ex c p => rw [e2] at h; exact h.of s1
          | ok y => rw [e2] at h; exact fun v H' F s2 r o => h v H' F (s1.trans s2) r o⟩
end
/-! ### and, or, not as values (True, False ahead) -/
def eAndF (f g : FE) : FE := fun ρ => (f ρ).bind fun x => (asB x).bind fun b => if b then g ρ else .ok (.i (.bl false), .own)
def eOrF (f g : FE) : FE := fun ρ => (f ρ).bind fun x => (asB x).bind fun b => if b then .ok (.i (.bl true), .own) else g ρ
def eNotF (f : FE) : FE := fun ρ => (f ρ).bind fun x => (asB x).bind fun b => .ok (.i (.bl (!b)), .own)
section
variable {X : Cx} {a b : Expr} {rest : List Expr} {f g : FE} {pos : Pos} {op : BoolOp}
theorem ev_one (h : PEv X a f) : PEv X (.BoolOp op [a] pos) f := fun W tk => pe_one (h W tk)
theorem ev_and (h1 : PEv X a f) (h2 : PEv X (.BoolOp .And (b :: rest) pos) g) : PEv X (.BoolOp .And (a :: b :: rest) pos) (eAndF f g) := fun W tk =>
  PE.imp (pe_and (h1 W tk) (h2 W tk)) fun σ H Q h => by
    obtain ⟨H0, Pz, T, ρ, Fs, E, h⟩ := h
    show tev X.K X.mg W f σ H _
    cases e1 : f ρ with
    | bad => simp only [eAndF, e1, R.bind] at h
    | ex c p => simp only [eAndF, e1, R.bind] at h; exact tev_ex E e1 h
    | ok x =>
      refine tev_ok E e1 fun v H1 F s1 E1 r1 o1 => ?_
      cases e2 : asB x with
      | bad => simp only [eAndF, e1, e2, R.bind] at h
      | ex c p => exact absurd e2 asB_noex
      | ok b =>
        rw [asB_ok e2] at r1
        cases r1 with
        | i r =>
          cases r
          refine ⟨b, rfl, ?_⟩
          cases b with
          | false =>
            simp only [eAndF, e1, e2, R.bind, Bool.false_eq_true, if_false] at h ⊢
            exact h _ H1 [] s1 (.i (.bl _)) .nil
          | true =>
            simp only [eAndF, e1, e2, R.bind, if_true] at h ⊢
            exact ⟨H0, Pz, T, ρ, Fs, E1, by
              cases e2 : g ρ with
              | bad => rw [e2] at h; exact h
              | ex c p => rw [e2] at h; exact h.of s1
              | ok y => rw [e2] at h; exact fun v H' F s2 r o => h v H' F (s1.trans s2) r o⟩
theorem ev_or (h1 : PEv X a f) (h2 : PEv X (.BoolOp .Or (b :: rest) pos) g) : PEv X (.BoolOp .Or (a :: b :: rest) pos) (eOrF f g) := fun W tk =>
  PE.imp (pe_or (h1 W tk) (h2 W tk)) fun σ H Q h => by
    obtain ⟨H0, Pz, T, ρ, Fs, E, h⟩ := h
    show tev X.K X.mg W f σ H _
    cases e1 : f ρ with
    | bad => simp only [eOrF, e1, R.bind] at h
    | ex c p => simp only [eOrF, e1, R.bind] at h; exact tev_ex E e1 h
    | ok x =>
      refine tev_ok E e1 fun v H1 F s1 E1 r1 o1 => ?_
      cases e2 : asB x with
      | bad => simp only [eOrF, e1, e2, R.bind] at h
      | ex c p => exact absurd e2 asB_noex
      | ok b =>
        rw [asB_ok e2] at r1
        cases r1 with
        | i r =>
          cases r
          refine ⟨b, rfl, ?_⟩
          cases b with
          | true =>
            simp only [eOrF, e1, e2, R.bind, if_true] at h ⊢
            exact h _ H1 [] s1 (.i (.bl _)) .nil
          | false =>
            simp only [eOrF, e1, e2, R.bind, Bool.false_eq_true, if_false] at h ⊢
            exact ⟨H0, Pz, T, ρ, Fs, E1, by
              cases e2 : g ρ with
              | bad => rw [e2] at h; exact h
              | ex c p => rw [e2] at h; exact h.of s1
              | ok y => rw [e2] at h; exact fun v H' F s2 r o => h v H' F (s1.trans s2) r o⟩
theorem ev_not (h1 : PEv X a f) : PEv X (.UnaryOp .Not a pos) (eNotF f) := fun W tk =>
  PE.imp (pe_not (h1 W tk)) fun σ H Q h => by
    obtain ⟨H0, Pz, T, ρ, Fs, E, h⟩ := h
    show tev X.K X.mg W f σ H _
    cases e1 : f ρ with
    | bad => simp only [eNotF, e1, R.bind] at h
    | ex c p => simp only [eNotF, e1, R.bind] at h; exact tev_ex E e1 h
    | ok x =>
      refine tev_ok E e1 fun v H1 F s1 E1 r1 o1 => ?_
      cases e2 : asB x with
      | bad => simp only [eNotF, e1, e2, R.bind] at h
      | ex c p => exact absurd e2 asB_noex
      | ok b =>
        rw [asB_ok e2] at r1
        cases r1 with
        | i r =>
          cases r
          simp only [eNotF, e1, e2, R.bind] at h
          exact ⟨b, rfl, h _ H1 [] s1 (.i (.bl _)) .nil⟩
end

/-! ### constants, names -/
def eC (x : IV) : FE := fun _ => .ok (.i x, .own)
/-- a slot's value as it may be looked at -/
def eVar (i : Nat) : FE := fun ρ => match ρ[i]? with
  | some (some (.i x, _)) => .ok (.i x, .own)
  | some (some (d, .own)) => .ok (d, .tmp)
  | some (some (_, .tmp)) => .bad
  | some (some (d, m)) => .ok (d, m)
  | _ => .bad
section
variable {X : Cx} {pos : Pos}
theorem c_imp {x : IV} {v : V} {K : PySem.W.Frag} {mg : MG} {W : WX} (hv : ∀ H, RpI K H v x) (σ : St) (H : Hp) (Q : VK) (h : tev K mg W (eC x) σ H Q) : Q v H := by
  obtain ⟨H0, Pz, T, ρ, Fs, E, h⟩ := h
  exact h v H [] (fun _ _ z => z) (.i (hv H)) .nil
theorem ev_int {i : Int} {j : Nat} : PEv X (.Constant (.int i) j pos) (eC (.int i)) := fun W tk => PE.imp pe_int fun σ H Q h => c_imp (fun _ => .int i) σ H Q h
theorem ev_str {i : Str} {j : Nat} : PEv X (.Constant (.str i) j pos) (eC (.str i)) := fun W tk => PE.imp pe_str fun σ H Q h => c_imp (fun _ => .str i) σ H Q h
theorem ev_bl {i : Bool} {j : Nat} : PEv X (.Constant (.bool i) j pos) (eC (.bl i)) := fun W tk => PE.imp pe_bl fun σ H Q h => c_imp (fun _ => .bl i) σ H Q h
theorem ev_non {j : Nat} : PEv X (.Constant .none j pos) (eC .non) := fun W tk => PE.imp pe_non fun σ H Q h => c_imp (fun _ => .non) σ H Q h
/-- what a slot gives -/
theorem EnvR.look {K : PySem.W.Frag} {H0 Pz H : Hp} {T : Addr → Prop} {σ : St} {ρ : Env} {Fs : Nat → List Addr} (E : EnvR K H0 Pz T H σ ρ Fs) {i : Nat} {x : DV × Md} (h : eVar i ρ = .ok x) : ∃ v F, σ[i]? = some (some v) ∧ RpD K H v x.1 F ∧ ResOk H0 Pz T ρ Fs H F x.2 := by
  unfold eVar at h
  split at h
  · rename_i x m e
    cases h
    obtain ⟨v, h1, h2⟩ := E.at_ i _ _ e
    generalize Fs i = G at h2
    cases h2 with
    | i r => exact ⟨v, [], h1, .i r, .nil⟩
  · rename_i d hni e
    cases h
    obtain ⟨v, h1, h2⟩ := E.at_ i _ _ e
    exact ⟨v, Fs i, h1, h2, ⟨fun z => (by rcases z with z | z <;> cases z), fun z => (nomatch (show Md.tmp = Md.own from z)), fun z => absurd rfl z, fun _ => .inr ⟨i, _, e, rfl⟩⟩⟩
  · cases h
  · rename_i d m hni hno hnt e
    cases h
    obtain ⟨v, h1, h2⟩ := E.at_ i _ _ e
    have hm : m ≠ .own := hno
    have ne : ∀ k dk, ρ[k]? = some (some (dk, Md.own)) → k ≠ i := fun k dk hk z => by
      subst z
      rw [e] at hk
      cases hk
      exact hm rfl
    refine ⟨v, Fs i, h1, h2, ⟨fun z a ha => E.fresh i d m e (by rcases (show m = .own ∨ m = .loc from z) with z | z <;> (rw [z]; intro q; cases q)) a ha, fun z => absurd z hm, fun _ => ⟨fun k dk hk a G eG ha => ?_, fun a ta => E.tt a ta i⟩, fun z => ?_⟩⟩
    obtain ⟨_, _, h3⟩ := E.top k dk hk a G eG
    exact h3 i (fun z => ne k dk hk z.symm) ha
    exact absurd z hnt
  · cases h
theorem eVar_noex {i : Nat} {ρ : Env} {c : Str} {p : Exn} : eVar i ρ ≠ .ex c p := by
  unfold eVar
  split <;> intro h <;> cases h
theorem ev_var (i : Nat) {x : Str} (hN : X.N[i]? = some x := by rfl) (hv : Vis X.env.scope x := by first | exact Or.inl rfl | exact Or.inr (Or.inl rfl) | exact Or.inr (Or.inr rfl)) (hd : (x == ("__debug__" : Str)) = false := by decide)
    (hcd : (x == ("__classdict__" : Str)) = false := by decide) : PEv X (.Name x pos) (eVar i) := fun W tk =>
  PE.imp (pe_var hN hv hd hcd) fun σ H Q h => by
    obtain ⟨H0, Pz, T, ρ, Fs, E, h⟩ := h
    cases e1 : eVar i ρ with
    | bad => rw [e1] at h; exact h.elim
    | ex c p => exact absurd e1 eVar_noex
    | ok x =>
      rw [e1] at h
      obtain ⟨v, F, h1, h2, h3⟩ := E.look e1
      exact ⟨v, h1, h v H F (fun _ _ z => z) h2 h3⟩
/-- a module's number -/
theorem ev_gint {x : Str} {i : Int} (hg : Gl X x) (hm : ∃ t, X.mg x = some (.int i t)) (hd : (x == ("__debug__" : Str)) = false := by decide) : PEv X (.Name x pos) (eC (.int i)) := fun W tk => by
  obtain ⟨t, hm⟩ := hm
  exact PE.imp (pe_glob (v := .int i) hg hm ⟨t, rfl⟩ hd) fun σ H Q h => c_imp (fun _ => .int i) σ H Q h
theorem ev_gstr {x : Str} {i : Str} (hg : Gl X x) (hm : ∃ t, X.mg x = some (.str i t)) (hd : (x == ("__debug__" : Str)) = false := by decide) : PEv X (.Name x pos) (eC (.str i)) := fun W tk => by
  obtain ⟨t, hm⟩ := hm
  exact PE.imp (pe_glob (v := .str i) hg hm ⟨t, rfl⟩ hd) fun σ H Q h => c_imp (fun _ => .str i) σ H Q h
end

/-! ### argument lists -/
def aNil : FA := fun _ => .ok []
def aCons (f : FE) (g : FA) : FA := fun ρ => (f ρ).bind fun x => (g ρ).bind fun xs => .ok (x :: xs)
section
variable {X : Cx} {e : Expr} {es : List Expr} {f : FE} {g : FA}
theorem av_nil : PAv X [] aNil := fun W tk => PA.imp pa_nil fun σ H Q h => by
  obtain ⟨H0, Pz, T, ρ, Fs, E, h⟩ := h
  exact h [] H (fun _ _ z => z) .nil
theorem av_cons (h1 : PEv X e f) (h2 : PAv X es g) (hs : starEach (e :: es) X.env = (false, eval e X.env) :: starEach es X.env := by rfl) : PAv X (e :: es) (aCons f g) := fun W tk =>
  PA.imp (pa_cons (h1 W tk) (h2 W tk) hs) fun σ H Q h => by
    obtain ⟨H0, Pz, T, ρ, Fs, E, h⟩ := h
    show tev X.K X.mg W f σ H _
    cases e1 : f ρ with
    | bad => simp only [aCons, e1, R.bind] at h
    | ex c p => simp only [aCons, e1, R.bind] at h; exact tev_ex E e1 h
    | ok x =>
      refine tev_ok E e1 fun v H1 F s1 E1 r1 o1 => ?_
      cases e2 : g ρ with
      | bad => simp only [aCons, e1, e2, R.bind] at h
      | ex c p => simp only [aCons, e1, e2, R.bind] at h; exact tav_ex E1 e2 (h.of s1)
      | ok y =>
        simp only [aCons, e1, e2, R.bind] at h
        exact tav_ok E1 e2 fun vs H2 s2 _ r2 => h _ H2 (s1.trans s2) (.cons (r1.same s2) (o1.same s2) r2)
end

/-! ### calls -/
/-- what a def promises: its data function; n arguments -/
inductive ArgsIn (K : PySem.W.Frag) (H : Hp) : List V → List DV → Prop
  | nil : ArgsIn K H [] []
  | cons {v : V} {vs : List V} {x : DV} {xs : List DV} {F : List Addr} : RpD K H v x F → ArgsIn K H vs xs → ArgsIn K H (v :: vs) (x :: xs)
theorem ArgsOk.in_ {K : PySem.W.Frag} {H0 Pz : Hp} {T : Addr → Prop} {ρ : Env} {Fs : Nat → List Addr} {H : Hp} : ∀ {vs : List V} {xs : List (DV × Md)}, ArgsOk K H0 Pz T ρ Fs H vs xs → ArgsIn K H vs (xs.map (·.1))
  | _, [], h => by cases h; exact .nil
  | _, _ :: _, h => by
    cases h with
    | cons a b c => exact .cons a (ArgsOk.in_ c)
theorem ArgsIn.length {K : PySem.W.Frag} {H : Hp} : ∀ {vs : List V} {xs : List DV}, ArgsIn K H vs xs → vs.length = xs.length
  | _, [], h => by cases h; rfl
  | _, _ :: _, h => by
    cases h with
    | cons a b => exact congrArg (· + 1) (ArgsIn.length b)
abbrev FF := List DV → R DV
/-- the result of a call: all its lists are new -/
def RetOk (H H' : Hp) (F : List Addr) : Prop := (∀ a ∈ F, H a = none ∧ ∃ vs, H' a = some (.lst vs)) ∧ ∀ a G, F = a :: G → a ∉ G
def spF (K : PySem.W.Frag) (mg : MG) (n : Nat) (Fn : FF) : Sp := fun vs H Q E => vs.length = n ∧ ∃ ds, ArgsIn K H vs ds ∧ match Fn ds with
  | .ok d => ∀ v H' F, Same H H' → RpD K H' v d F → RetOk H H' F → Q v H'
  | .ex c p => ∀ C H' d, mg c = some (.ref C) → Same H H' → ExD K H' d p → E (.ref C) d H'
  | .bad => False
def eCall (Fn : FF) (g : FA) : FE := fun ρ => (g ρ).bind fun xs => (Fn (xs.map (·.1))).bind fun d => .ok (d, .own)
section
variable {X : Cx} {k : Nat} {fa : Addr} {fd : FuncData} {ps : List Str} {Fn : FF} {x : Str} {p pos : Pos} {e : Expr} {es : List Expr} {g : FA} {n : Nat}
theorem ev_call (F : FnOk X.prog X.w X.K X.mg X.base (L2.CX X.prog X.w) k fa fd ps (spF X.K X.mg n Fn)) (hr : Room k X.A) (hg : Gl X x) (hm : X.mg x = some (.ref fa)) (hk : PySem.W.keepIn X.K (.ref fa) = true) (hb : Binds X.K fd ps [])
    (hn : (e :: es).length = n) (ha : PAv X (e :: es) g) (hdb : (x == ("__debug__" : Str)) = false := by decide) (he : starEach (e :: es) X.env = (false, eval e X.env) :: starEach es X.env := by rfl) (hpl : (backTo pos (starEach es X.env)).any (·.1) = false := by rfl)
    (hl : ∀ ρ xs, g ρ = .ok xs → xs.length = n) :
    PEv X (.Call (.Name x p) (e :: es) [] pos) (eCall Fn g) := fun W tk =>
  PE.imp (pe_callS F hr hg hm hk hb (fun σ => passAt tk σ) (ha W tk) hdb he hpl) fun σ H Q h => by
    obtain ⟨H0, Pz, T, ρ, Fs, E, h⟩ := h
    show tav X.K X.mg W g σ H _
    cases e1 : g ρ with
    | bad => simp only [eCall, e1, R.bind] at h
    | ex c p => simp only [eCall, e1, R.bind] at h; exact tav_ex E e1 h
    | ok xs =>
      refine tav_ok E e1 fun vs H1 s1 E1 r1 => ?_
      refine ⟨by rw [r1.length, hl ρ xs e1], _, r1.in_, ?_⟩
      cases e2 : Fn (xs.map (·.1)) with
      | bad => simp only [eCall, e1, e2, R.bind] at h
      | ex c p =>
        simp only [eCall, e1, e2, R.bind] at h
        exact fun C H' d hC sH xd => h C H' d hC (s1.trans sH) xd
      | ok d =>
        simp only [eCall, e1, e2, R.bind] at h
        exact fun v H' F sH r o => h v H' F (s1.trans sH) r (.new E1 o.1 o.2)
theorem aCons_len {f : FE} {g : FA} {m : Nat} (h : ∀ ρ xs, g ρ = .ok xs → xs.length = m) : ∀ ρ xs, aCons f g ρ = .ok xs → xs.length = m + 1 := fun ρ xs e => by
  unfold aCons at e
  cases e1 : f ρ with
  | bad => simp only [e1, R.bind] at e; cases e
  | ex c p => simp only [e1, R.bind] at e; cases e
  | ok x =>
    cases e2 : g ρ with
    | bad => simp only [e1, e2, R.bind] at e; cases e
    | ex c p => simp only [e1, e2, R.bind] at e; cases e
    | ok y =>
      simp only [e1, e2, R.bind] at e
      cases e
      exact congrArg (· + 1) (h ρ y e2)
theorem aNil_len : ∀ ρ xs, aNil ρ = .ok xs → xs.length = 0 := fun ρ xs e => by
  cases e; rfl
end
end L2.Pv

namespace L2.Pv
open PySem PySem.Spec PyProof.Rows

/-! ## lists of values -/
section
variable {K : PySem.W.Frag} {H : Hp}
theorem RpIs.append : ∀ {vs : List V} {xs : List IV} {us : List V} {ys : List IV}, RpIs K H vs xs → RpIs K H us ys → RpIs K H (vs ++ us) (xs ++ ys)
  | _, [], _, _, h, k => by cases h; exact k
  | _, _ :: _, _, _, h, k => by
    cases h with
    | cons a b => exact .cons a (RpIs.append b k)
theorem RpIs.take : ∀ (n : Nat) {vs : List V} {xs : List IV}, RpIs K H vs xs → RpIs K H (vs.take n) (xs.take n)
  | 0, _, _, _ => .nil
  | _ + 1, _, [], h => by cases h; exact .nil
  | n + 1, _, _ :: _, h => by
    cases h with
    | cons a b => exact .cons a (RpIs.take n b)
theorem RpIs.drop : ∀ (n : Nat) {vs : List V} {xs : List IV}, RpIs K H vs xs → RpIs K H (vs.drop n) (xs.drop n)
  | 0, _, _, h => h
  | _ + 1, _, [], h => by cases h; exact .nil
  | n + 1, _, _ :: _, h => by
    cases h with
    | cons a b => exact RpIs.drop n b
theorem RpIs.set : ∀ (n : Nat) {vs : List V} {xs : List IV} {v : V} {x : IV}, RpIs K H vs xs → RpI K H v x → RpIs K H (vs.set n v) (xs.set n x)
  | _, _, [], _, _, h, _ => by cases h; exact .nil
  | 0, _, _ :: _, _, _, h, k => by
    cases h with
    | cons a b => exact .cons k b
  | n + 1, _, _ :: _, _, _, h, k => by
    cases h with
    | cons a b => exact .cons a (RpIs.set n b k)
theorem RpIs.reverse : ∀ {vs : List V} {xs : List IV}, RpIs K H vs xs → RpIs K H vs.reverse xs.reverse
  | _, [], h => by cases h; exact .nil
  | _, _ :: _, h => by
    cases h with
    | cons a b =>
      rw [List.reverse_cons, List.reverse_cons]
      exact RpIs.append (RpIs.reverse b) (.cons a .nil)
theorem RpIs.one {v : V} {x : IV} (h : RpI K H v x) : RpIs K H [v] [x] := .cons h .nil
end
/-- a new tuple -/
theorem new_tup {K : PySem.W.Frag} {H : Hp} {p : Addr} {vs : List V} {xs : List IV} (hp : H p = none) (r : RpIs K H vs xs) : RpD K (upd H p (.tup vs)) (.ref p) (.i (.tup xs)) [] := .i (.tup (SqT.of upd_same) (r.same (same_upd hp)))
theorem new_lst {K : PySem.W.Frag} {H : Hp} {p : Addr} {vs : List V} {xs : List IV} (hp : H p = none) (r : RpIs K H vs xs) : RpD K (upd H p (.lst vs)) (.ref p) (.l xs) [p] := .l upd_same (r.same (same_upd hp))
theorem new_ok {K : PySem.W.Frag} {H0 Pz H : Hp} {T : Addr → Prop} {σ : St} {ρ : Env} {Fs : Nat → List Addr} (E : EnvR K H0 Pz T H σ ρ Fs) {p : Addr} {vs : List V} (hp : H p = none) : ResOk H0 Pz T ρ Fs (upd H p (.lst vs)) [p] .own :=
  .new E (fun a ha => by
    have e : a = p := List.mem_singleton.mp ha
    subst e
    exact ⟨hp, vs, upd_same⟩) fun a G e => by
      cases e
      intro z; cases z

/-! ## numbers, texts, tuples: operators -/
abbrev ok1 (x : IV) : R (DV × Md) := .ok (.i x, .own)
def opAdd : DV × Md → DV × Md → R (DV × Md)
  | (.i (.int a), _), (.i (.int b), _) => ok1 (.int (a + b))
  | (.i (.str a), _), (.i (.str b), _) => if a.length + b.length ≤ 16777216 then ok1 (.str (a ++ b)) else .bad
  | (.i (.tup a), _), (.i (.tup b), _) => if a.length + b.length ≤ 16777216 then ok1 (.tup (a ++ b)) else .bad
  | (.l a, _), (.l b, _) => if a.length + b.length ≤ 16777216 then .ok (.l (a ++ b), .own) else .bad
  | _, _ => .bad
def opSub : DV × Md → DV × Md → R (DV × Md)
  | (.i (.int a), _), (.i (.int b), _) => ok1 (.int (a - b))
  | _, _ => .bad
def opMul : DV × Md → DV × Md → R (DV × Md)
  | (.i (.int a), _), (.i (.int b), _) => if a.natAbs < 2 ^ 64 ∨ b.natAbs < 2 ^ 64 then ok1 (.int (a * b)) else .bad
  | (.l a, _), (.i (.int k), _) => if k.natAbs < 2 ^ 63 ∧ a.length * k.toNat ≤ 16777216 then .ok (.l (List.replicate k.toNat a).flatten, .own) else .bad
  | (.i (.tup a), _), (.i (.int k), _) => if a ≠ [] ∧ 2 ≤ k ∧ k.natAbs ≤ 1000 ∧ a.length ≤ 1000 then ok1 (.tup (List.replicate k.toNat a).flatten) else .bad
  | _, _ => .bad
def opMod : DV × Md → DV × Md → R (DV × Md)
  | (.i (.int a), _), (.i (.int b), _) => if 0 < b then ok1 (.int (a % b)) else .bad
  | _, _ => .bad
def opDiv : DV × Md → DV × Md → R (DV × Md)
  | (.i (.int a), _), (.i (.int b), _) => if 0 < b ∧ b.natAbs < 1073741824 then ok1 (.int (a / b)) else .bad
  | _, _ => .bad
def opPow : DV × Md → DV × Md → R (DV × Md)
  | (.i (.int a), _), (.i (.int b), _) => if 0 ≤ b ∧ b.natAbs ≤ 1000000 ∧ a.natAbs < 2 ^ 64 then ok1 (.int (a ^ b.toNat)) else .bad
  | _, _ => .bad
def opXor : DV × Md → DV × Md → R (DV × Md)
  | (.i (.int a), _), (.i (.int b), _) => ok1 (.int (Builtin.bitXor a b))
  | _, _ => .bad
theorem noex_of {op : DV × Md → DV × Md → R (DV × Md)} (h : ∀ x y, (∃ z, op x y = .ok z) ∨ op x y = .bad) : NoEx op := fun x y c p e => by
  rcases h x y with ⟨z, q⟩ | q <;> (rw [q] at e; cases e)
theorem opAdd_nx : NoEx opAdd := noex_of fun x y => by
  unfold opAdd; split <;> first | exact .inr rfl | exact .inl ⟨_, rfl⟩ | (split <;> first | exact .inr rfl | exact .inl ⟨_, rfl⟩)
theorem opSub_nx : NoEx opSub := noex_of fun x y => by
  unfold opSub; split <;> first | exact .inr rfl | exact .inl ⟨_, rfl⟩
theorem opMul_nx : NoEx opMul := noex_of fun x y => by
  unfold opMul; split <;> first | exact .inr rfl | exact .inl ⟨_, rfl⟩ | (split <;> first | exact .inr rfl | exact .inl ⟨_, rfl⟩)
theorem opMod_nx : NoEx opMod := noex_of fun x y => by
  unfold opMod; split <;> first | exact .inr rfl | exact .inl ⟨_, rfl⟩ | (split <;> first | exact .inr rfl | exact .inl ⟨_, rfl⟩)
theorem opDiv_nx : NoEx opDiv := noex_of fun x y => by
  unfold opDiv; split <;> first | exact .inr rfl | exact .inl ⟨_, rfl⟩ | (split <;> first | exact .inr rfl | exact .inl ⟨_, rfl⟩)
theorem opPow_nx : NoEx opPow := noex_of fun x y => by
  unfold opPow; split <;> first | exact .inr rfl | exact .inl ⟨_, rfl⟩ | (split <;> first | exact .inr rfl | exact .inl ⟨_, rfl⟩)
theorem opXor_nx : NoEx opXor := noex_of fun x y => by
  unfold opXor; split <;> first | exact .inr rfl | exact .inl ⟨_, rfl⟩

theorem slEq : sizeLine = 16777216 := sizeLine_eq
/-- a plain value at once -/
theorem fin1 {K : PySem.W.Frag} {H0 Pz H : Hp} {T : Addr → Prop} {ρ : Env} {Fs : Nat → List Addr} {x : IV} {v : V} {Q : VK} (h : ∀ v H' F, Same H H' → RpD K H' v (.i x) F → ResOk H0 Pz T ρ Fs H' F .own → Q v H') (r : RpI K H v x) : Q v H :=
  h v H [] (fun _ _ z => z) (.i r) .nil
abbrev strAddR : R2 := fun x y H Q => ∃ i j, x = .str i ∧ y = .str j ∧ i.length + j.length ≤ sizeLine ∧ Q (.str (i ++ j)) H
abbrev rAddAll (K : PySem.W.Frag) : R2 := fun x y H Q => rI0 (fun i j => .int (i + j)) x y H Q ∨ (strAddR x y H Q ∨ (rCatA K x y H Q ∨ rCat x y H Q))
theorem or_addAll {X : Cx} : OpR X (binaryOp .Add) (rAddAll X.K) := op_add.or (op_add_str.or (op_catA.or op_cat))
theorem RpIs.nil_iff {K : PySem.W.Frag} {H : Hp} {vs : List V} {xs : List IV} (h : RpIs K H vs xs) : vs = [] ↔ xs = [] := by
  have := h.length
  constructor
  · intro e; subst e; exact List.eq_nil_of_length_eq_zero this.symm
  · intro e; subst e; exact List.eq_nil_of_length_eq_zero this
theorem bAdd {K : PySem.W.Frag} : BOk K (rAddAll K) opAdd := by
  intro H0 Pz H T σ ρ Fs x y z v u F G Q E r1 o1 r2 o2 e h
  obtain ⟨x, mx⟩ := x
  obtain ⟨y, my⟩ := y
  simp only at r1 r2
  unfold opAdd at e
  split at e
  · rename_i q1 q2; cases q1; cases q2; cases e
    cases r1 with | i r1 => cases r1; cases r2 with | i r2 => cases r2; exact .inl ⟨_, _, rfl, rfl, fin1 h (.int _)⟩
  · rename_i q1 q2; cases q1; cases q2
    split at e
    · rename_i hl; cases e
      cases r1 with | i r1 => cases r1; cases r2 with | i r2 => cases r2; exact .inr (.inl ⟨_, _, rfl, rfl, by rw [slEq]; exact hl, fin1 h (.str _)⟩)
    · cases e
  · rename_i q1 q2; cases q1; cases q2
    split at e
    · rename_i hl; cases e
      cases r1 with
      | i r1 =>
        cases r1 with
        | tup s1 t1 =>
          cases r2 with
          | i r2 =>
            cases r2 with
            | tup s2 t2 =>
              refine .inr (.inr (.inl ⟨_, _, _, _, rfl, rfl, s1, s2, by rw [slEq, t1.length, t2.length]; exact hl, fun e0 => ?_, fun _ e0 => ?_, fun _ _ p hp => ?_⟩))
              · have e1 := t1.nil_iff.mp e0
                subst e1
                exact fin1 h (.tup s2 t2)
              · have e1 := t2.nil_iff.mp e0
                subst e1
                rw [List.append_nil] at h
                exact fin1 h (.tup s1 t1)
              · exact h _ _ _ (same_upd hp) (new_tup hp (t1.append t2)) .nil
    · cases e
  · rename_i q1 q2; cases q1; cases q2
    split at e
    · rename_i hl; cases e
      cases r1 with
      | l s1 t1 =>
        cases r2 with
        | l s2 t2 => exact .inr (.inr (.inr ⟨_, _, _, _, rfl, rfl, s1, s2, by rw [slEq, t1.length, t2.length]; exact hl, fun p hp => h _ _ _ (same_upd hp) (new_lst hp (t1.append t2)) (new_ok E hp)⟩))
    · cases e
  · cases e
theorem bSub {K : PySem.W.Frag} : BOk K (rI0 fun i j => .int (i - j)) opSub := by
  intro H0 Pz H T σ ρ Fs x y z v u F G Q E r1 o1 r2 o2 e h
  obtain ⟨x, mx⟩ := x
  obtain ⟨y, my⟩ := y
  simp only at r1 r2
  unfold opSub at e
  split at e
  · rename_i q1 q2; cases q1; cases q2; cases e
    cases r1 with | i r1 => cases r1; cases r2 with | i r2 => cases r2; exact ⟨_, _, rfl, rfl, fin1 h (.int _)⟩
  · cases e
theorem bXor {K : PySem.W.Frag} : BOk K (rI0 fun i j => .int (Builtin.bitXor i j)) opXor := by
  intro H0 Pz H T σ ρ Fs x y z v u F G Q E r1 o1 r2 o2 e h
  obtain ⟨x, mx⟩ := x
  obtain ⟨y, my⟩ := y
  simp only at r1 r2
  unfold opXor at e
  split at e
  · rename_i q1 q2; cases q1; cases q2; cases e
    cases r1 with | i r1 => cases r1; cases r2 with | i r2 => cases r2; exact ⟨_, _, rfl, rfl, fin1 h (.int _)⟩
  · cases e
theorem bMod {K : PySem.W.Frag} : BOk K (rI (fun _ j => 0 < j) fun i j => .int (i % j)) opMod := by
  intro H0 Pz H T σ ρ Fs x y z v u F G Q E r1 o1 r2 o2 e h
  obtain ⟨x, mx⟩ := x
  obtain ⟨y, my⟩ := y
  simp only at r1 r2
  unfold opMod at e
  split at e
  · rename_i q1 q2; cases q1; cases q2
    split at e
    · rename_i hl; cases e
      cases r1 with | i r1 => cases r1; cases r2 with | i r2 => cases r2; exact ⟨_, _, rfl, rfl, hl, fin1 h (.int _)⟩
    · cases e
  · cases e
theorem bDiv {K : PySem.W.Frag} : BOk K (rI CDiv fun i j => .int (i / j)) opDiv := by
  intro H0 Pz H T σ ρ Fs x y z v u F G Q E r1 o1 r2 o2 e h
  obtain ⟨x, mx⟩ := x
  obtain ⟨y, my⟩ := y
  simp only at r1 r2
  unfold opDiv at e
  split at e
  · rename_i q1 q2; cases q1; cases q2
    split at e
    · rename_i hl; cases e
      cases r1 with | i r1 => cases r1; cases r2 with | i r2 => cases r2; exact ⟨_, _, rfl, rfl, ⟨hl.1, by omega⟩, fin1 h (.int _)⟩
    · cases e
  · cases e
theorem bPow {K : PySem.W.Frag} : BOk K (rI CPow fun i j => .int (i ^ j.toNat)) opPow := by
  intro H0 Pz H T σ ρ Fs x y z v u F G Q E r1 o1 r2 o2 e h
  obtain ⟨x, mx⟩ := x
  obtain ⟨y, my⟩ := y
  simp only at r1 r2
  unfold opPow at e
  split at e
  · rename_i q1 q2; cases q1; cases q2
    split at e
    · rename_i hl; cases e
      cases r1 with | i r1 => cases r1; cases r2 with | i r2 => cases r2; exact ⟨_, _, rfl, rfl, ⟨hl.1, by omega, hl.2.2⟩, fin1 h (.int _)⟩
    · cases e
  · cases e
abbrev rMulAll (K : PySem.W.Frag) : R2 := fun x y H Q => rI CMul (fun i j => .int (i * j)) x y H Q ∨ (rRep x y H Q ∨ rRepT K x y H Q)

theorem RpIs.rep {K : PySem.W.Frag} {H : Hp} {vs : List V} {xs : List IV} (h : RpIs K H vs xs) : ∀ k : Nat, RpIs K H (List.replicate k vs).flatten (List.replicate k xs).flatten
  | 0 => .nil
  | k + 1 => by
    rw [List.replicate_succ, List.replicate_succ, List.flatten_cons, List.flatten_cons]
    exact h.append (RpIs.rep h k)
theorem bMul {K : PySem.W.Frag} : BOk K (rMulAll K) opMul := by
  intro H0 Pz H T σ ρ Fs x y z v u F G Q E r1 o1 r2 o2 e h
  obtain ⟨x, mx⟩ := x
  obtain ⟨y, my⟩ := y
  simp only at r1 r2
  unfold opMul at e
  split at e
  · rename_i q1 q2; cases q1; cases q2
    split at e
    · rename_i hl; cases e
      cases r1 with | i r1 => cases r1; cases r2 with | i r2 => cases r2; exact .inl ⟨_, _, rfl, rfl, hl.elim (fun z => .inl ⟨by omega, by omega⟩) (fun z => .inr ⟨by omega, by omega⟩), fin1 h (.int _)⟩
    · cases e
  · rename_i q1 q2; cases q1; cases q2
    split at e
    · rename_i hl; cases e
      cases r1 with
      | l s1 t1 =>
        cases r2 with
        | i r2 =>
          cases r2
          exact .inr (.inl ⟨_, _, _, rfl, rfl, s1, by omega, by omega, by rw [slEq, t1.length]; exact hl.2, fun p hp => h _ _ _ (same_upd hp) (new_lst hp (t1.rep _)) (new_ok E hp)⟩)
    · cases e
  · rename_i q1 q2; cases q1; cases q2
    split at e
    · rename_i hl; cases e
      cases r1 with
      | i r1 =>
        cases r1 with
        | tup s1 t1 =>
          cases r2 with
          | i r2 =>
            cases r2
            exact .inr (.inr ⟨_, _, _, rfl, rfl, s1, fun z => hl.1 (t1.nil_iff.mp z), hl.2.1, by omega, by rw [t1.length]; exact hl.2.2.2, fun p hp => h _ _ _ (same_upd hp) (new_tup hp (t1.rep _)) .nil⟩)
    · cases e
  · cases e
theorem or_mulAll {X : Cx} : OpR X (binaryOp .Mult) (rMulAll X.K) := op_mul.or (op_rep.or op_repT)

/-! ### comparisons -/
def cInt (p : Int → Int → Bool) : DV × Md → DV × Md → R (DV × Md)
  | (.i (.int a), _), (.i (.int b), _) => ok1 (.bl (p a b))
  | _, _ => .bad
theorem cInt_nx {p : Int → Int → Bool} : NoEx (cInt p) := noex_of fun x y => by
  unfold cInt; split <;> first | exact .inr rfl | exact .inl ⟨_, rfl⟩
theorem bCInt {K : PySem.W.Frag} {p : Int → Int → Bool} : BOk K (rI0 fun i j => .bl (p i j)) (cInt p) := by
  intro H0 Pz H T σ ρ Fs x y z v u F G Q E r1 o1 r2 o2 e h
  obtain ⟨x, mx⟩ := x
  obtain ⟨y, my⟩ := y
  simp only at r1 r2
  unfold cInt at e
  split at e
  · rename_i q1 q2; cases q1; cases q2; cases e
    cases r1 with | i r1 => cases r1; cases r2 with | i r2 => cases r2; exact ⟨_, _, rfl, rfl, fin1 h (.bl _)⟩
  · cases e
/-! ### data as the library's -/
mutual
def IV.py : IV → PyData
  | .non => .none
  | .bl b => .bool b
  | .int i => .int i
  | .str x => .str x
  | .tup xs => .tuple (IV.pys xs)
def IV.pys : List IV → List PyData
  | [] => []
  | x :: xs => IV.py x :: IV.pys xs
end
mutual
def DV.py : DV → PyData
  | .i x => x.py
  | .l xs => .list (IV.pys xs)
  | .f xs => .list (IV.pys xs)
  | .m xs => .list (DV.pys xs)
def DV.pys : List DV → List PyData
  | [] => []
  | x :: xs => DV.py x :: DV.pys xs
end
mutual
theorem RpI.dp {K : PySem.W.Frag} {H : Hp} : ∀ {v : V} {x : IV}, RpI K H v x → Dp K H v x.py
  | _, .non, h => by cases h; exact .non
  | _, .bl b, h => by cases h; exact .bl b
  | _, .int i, h => by cases h; exact .int i
  | _, .str x, h => by cases h; exact .str x
  | _, .tup xs, h => by
    cases h with
    | tup s r => exact .tup s (RpIs.dp r)
theorem RpIs.dp {K : PySem.W.Frag} {H : Hp} : ∀ {vs : List V} {xs : List IV}, RpIs K H vs xs → DpAll K H vs (IV.pys xs)
  | _, [], h => by cases h; exact .nil
  | _, x :: xs, h => by
    cases h with
    | cons a b => exact .cons (RpI.dp a) (RpIs.dp b)
end
mutual
theorem RpD.dp {K : PySem.W.Frag} {H : Hp} : ∀ {v : V} {x : DV} {F : List Addr}, RpD K H v x F → Dp K H v x.py
  | _, .i x, _, h => by cases h with | i r => exact r.dp
  | _, .l xs, _, h => by cases h with | l s r => exact .lst (SqL.of s) r.dp
  | _, .f xs, _, h => by cases h with | f s r => exact .lst s.sq r.dp
  | _, .m xs, _, h => by cases h with | m s r => exact .lst (SqL.of s) (RpDs.dp r)
theorem RpDs.dp {K : PySem.W.Frag} {H : Hp} : ∀ {vs : List V} {xs : List DV} {F : List Addr}, RpDs K H vs xs F → DpAll K H vs (DV.pys xs)
  | _, [], _, h => by cases h; exact .nil
  | _, x :: xs, _, h => by
    cases h with
    | cons a b => exact .cons (RpD.dp a) (RpDs.dp b)
end
/-- == -/
def eqD (x y : DV) : Bool := PyData.eqv x.py y.py
def shp (x : DV) : Bool := SeqAt.shaped x.py
def cEq : DV × Md → DV × Md → R (DV × Md) := fun x y => if shp x.1 && shp y.1 then ok1 (.bl (eqD x.1 y.1)) else .bad
def cNe : DV × Md → DV × Md → R (DV × Md) := fun x y => if shp x.1 && shp y.1 then ok1 (.bl (!eqD x.1 y.1)) else .bad
theorem cEq_nx : NoEx cEq := noex_of fun x y => by
  unfold cEq; split <;> first | exact .inr rfl | exact .inl ⟨_, rfl⟩
theorem cNe_nx : NoEx cNe := noex_of fun x y => by
  unfold cNe; split <;> first | exact .inr rfl | exact .inl ⟨_, rfl⟩
theorem bEq {K : PySem.W.Frag} : BOk K (rEqD K) cEq := by
  intro H0 Pz H T σ ρ Fs x y z v u F G Q E r1 o1 r2 o2 e h
  unfold cEq at e
  split at e
  · rename_i hs
    cases e
    obtain ⟨h1, h2⟩ := Bool.and_eq_true_iff.mp hs
    exact ⟨_, _, r1.dp, r2.dp, h1, h2, fin1 h (.bl _)⟩
  · cases e
theorem bNe {K : PySem.W.Frag} : BOk K (rNeD K) cNe := by
  intro H0 Pz H T σ ρ Fs x y z v u F G Q E r1 o1 r2 o2 e h
  unfold cNe at e
  split at e
  · rename_i hs
    cases e
    obtain ⟨h1, h2⟩ := Bool.and_eq_true_iff.mp hs
    exact ⟨_, _, r1.dp, r2.dp, h1, h2, fin1 h (.bl _)⟩
  · cases e
/-! is None -/
def isN : DV → Bool
  | .i .non => true
  | _ => false
def cIsN : DV × Md → DV × Md → R (DV × Md)
  | x, (.i .non, _) => ok1 (.bl (isN x.1))
  | _, _ => .bad
def cNotN : DV × Md → DV × Md → R (DV × Md)
  | x, (.i .non, _) => ok1 (.bl (!isN x.1))
  | _, _ => .bad
theorem cIsN_nx : NoEx cIsN := noex_of fun x y => by
  unfold cIsN; split <;> first | exact .inr rfl | exact .inl ⟨_, rfl⟩
theorem cNotN_nx : NoEx cNotN := noex_of fun x y => by
  unfold cNotN; split <;> first | exact .inr rfl | exact .inl ⟨_, rfl⟩
theorem isN_iff {K : PySem.W.Frag} {H : Hp} {v : V} {x : DV} {F : List Addr} (r : RpD K H v x F) : decide (v = .non) = isN x := by
  cases r with
  | i r => cases r <;> rfl
  | l => rfl
  | f => rfl
  | m => rfl
theorem bIsN {K : PySem.W.Frag} : BOk K (fun x y H Q => y = .non ∧ Q (.bl (decide (x = .non))) H) cIsN := by
  intro H0 Pz H T σ ρ Fs x y z v u F G Q E r1 o1 r2 o2 e h
  obtain ⟨y, my⟩ := y
  simp only at r2
  unfold cIsN at e
  split at e
  · rename_i q2; cases q2; cases e
    cases r2 with
    | i r2 => cases r2; exact ⟨rfl, by rw [isN_iff r1]; exact fin1 h (.bl _)⟩
  · cases e
theorem bNotN {K : PySem.W.Frag} : BOk K (fun x y H Q => y = .non ∧ Q (.bl (!decide (x = .non))) H) cNotN := by
  intro H0 Pz H T σ ρ Fs x y z v u F G Q E r1 o1 r2 o2 e h
  obtain ⟨y, my⟩ := y
  simp only at r2
  unfold cNotN at e
  split at e
  · rename_i q2; cases q2; cases e
    cases r2 with
    | i r2 => cases r2; exact ⟨rfl, by rw [isN_iff r1]; exact fin1 h (.bl _)⟩
  · cases e
/-! in -/
def inD (x : DV) (ys : List PyData) : Bool := ys.any fun z => PyData.eqv z x.py
def cIn (neg : Bool) : DV × Md → DV × Md → R (DV × Md) := fun x y => match y.1 with
  | .l ys => if shp x.1 && shp y.1 then ok1 (.bl (if neg then !inD x.1 (IV.pys ys) else inD x.1 (IV.pys ys))) else .bad
  | .f ys => if shp x.1 && shp y.1 then ok1 (.bl (if neg then !inD x.1 (IV.pys ys) else inD x.1 (IV.pys ys))) else .bad
  | .m ys => if shp x.1 && shp y.1 then ok1 (.bl (if neg then !inD x.1 (DV.pys ys) else inD x.1 (DV.pys ys))) else .bad
  | .i (.tup ys) => if shp x.1 && shp y.1 then ok1 (.bl (if neg then !inD x.1 (IV.pys ys) else inD x.1 (IV.pys ys))) else .bad
  | _ => .bad
theorem cIn_nx {neg : Bool} : NoEx (cIn neg) := noex_of fun x y => by
  unfold cIn; split <;> first | exact .inr rfl | (split <;> first | exact .inr rfl | exact .inl ⟨_, rfl⟩)
def rInT (K : PySem.W.Frag) (neg : Bool) : R2 := fun x y H Q => ∃ d ds, Dp K H x d ∧ Dp K H y (.tuple ds) ∧ SeqAt.shaped d = true ∧ SeqAt.shaped (.tuple ds) = true ∧ Q (.bl (if neg then !(ds.any fun z => PyData.eqv z d) else ds.any fun z => PyData.eqv z d)) H
abbrev rInAll (K : PySem.W.Frag) : R2 := fun x y H Q => rInD K x y H Q ∨ rInT K false x y H Q
abbrev rNotInAll (K : PySem.W.Frag) : R2 := fun x y H Q => rNotInD K x y H Q ∨ rInT K true x y H Q
theorem bIn {K : PySem.W.Frag} : BOk K (rInAll K) (cIn false) := by
  intro H0 Pz H T σ ρ Fs x y z v u F G Q E r1 o1 r2 o2 e h
  obtain ⟨y, my⟩ := y
  unfold cIn at e
  split at e <;> first
    | (split at e <;> first
        | (rename_i q hs
           cases e
           obtain ⟨h1, h2⟩ := Bool.and_eq_true_iff.mp hs
           simp only at q
           subst q
           first
             | exact .inl ⟨_, _, r1.dp, r2.dp, h1, h2, fin1 h (.bl _)⟩
             | exact .inr ⟨_, _, r1.dp, r2.dp, h1, h2, fin1 h (.bl _)⟩)
        | cases e)
    | cases e
theorem bNotIn {K : PySem.W.Frag} : BOk K (rNotInAll K) (cIn true) := by
  intro H0 Pz H T σ ρ Fs x y z v u F G Q E r1 o1 r2 o2 e h
  obtain ⟨y, my⟩ := y
  unfold cIn at e
  split at e <;> first
    | (split at e <;> first
        | (rename_i q hs
           cases e
           obtain ⟨h1, h2⟩ := Bool.and_eq_true_iff.mp hs
           simp only at q
           subst q
           first
             | exact .inl ⟨_, _, r1.dp, r2.dp, h1, h2, fin1 h (.bl _)⟩
             | exact .inr ⟨_, _, r1.dp, r2.dp, h1, h2, fin1 h (.bl _)⟩)
        | cases e)
    | cases e
section
variable {X : Cx}
theorem op_inT (hu : X.A.units + 65 < cLine) : OpR X (compareOp .In) (rInT X.K false) := by
  intro pins s σ H x y v u Q I rx ry h
  obtain ⟨d, ds, hd, he, sd, se, q⟩ := h
  obtain ⟨as, r1⟩ := Dp.reads I d x v hd rx
  obtain ⟨bs, r2⟩ := Dp.reads I (.tuple ds) y u he ry
  exact SeqAt.in_tuple_reads r2 r1 (SeqAt.canLay_of_shaped se) (SeqAt.canLay_of_shaped sd) (room_in_shaped sd hu) ⟨.bl _, H, I, rfl, q⟩
theorem op_notInT (hu : X.A.units + 65 < cLine) : OpR X (compareOp .NotIn) (rInT X.K true) := by
  intro pins s σ H x y v u Q I rx ry h
  obtain ⟨d, ds, hd, he, sd, se, q⟩ := h
  obtain ⟨as, r1⟩ := Dp.reads I d x v hd rx
  obtain ⟨bs, r2⟩ := Dp.reads I (.tuple ds) y u he ry
  exact SeqAt.notIn_tuple_reads r2 r1 (SeqAt.canLay_of_shaped se) (SeqAt.canLay_of_shaped sd) (room_in_shaped sd hu) ⟨.bl _, H, I, rfl, q⟩
theorem op_inAll {k : Nat} (hr : Room k X.A) : OpR X (compareOp .In) (rInAll X.K) := (op_inD (by have := hr.un; omega)).or (op_inT (by have := hr.un; omega))
theorem op_notInAll {k : Nat} (hr : Room k X.A) : OpR X (compareOp .NotIn) (rNotInAll X.K) := (op_notInD (by have := hr.un; omega)).or (op_notInT (by have := hr.un; omega))
end
end L2.Pv

namespace L2.Pv
open PySem PySem.Spec PyProof.Rows

/-! ## one value in -/
def UOk (K : PySem.W.Frag) (r : V → Hp → VK → Prop) (op : DV × Md → R (DV × Md)) : Prop :=
  ∀ (H0 Pz H : Hp) (T : Addr → Prop) (σ : St) (ρ : Env) (Fs : Nat → List Addr) (x z : DV × Md) (v : V) (F : List Addr) (Q : VK), EnvR K H0 Pz T H σ ρ Fs → RpD K H v x.1 F → ResOk H0 Pz T ρ Fs H F x.2 →
    op x = .ok z → (∀ v H' F, Same H H' → RpD K H' v z.1 F → ResOk H0 Pz T ρ Fs H' F z.2 → Q v H') → r v H Q
def NoEx1 (op : DV × Md → R (DV × Md)) : Prop := ∀ x c p, op x ≠ .ex c p
theorem noex1_of {op : DV × Md → R (DV × Md)} (h : ∀ x, (∃ z, op x = .ok z) ∨ op x = .bad) : NoEx1 op := fun x c p e => by
  rcases h x with ⟨z, q⟩ | q <;> (rw [q] at e; cases e)
def eUn (op : DV × Md → R (DV × Md)) (f : FE) : FE := fun ρ => (f ρ).bind op
theorem un_imp {K : PySem.W.Frag} {mg : MG} {W : WX} {r : V → Hp → VK → Prop} {f : FE} {op : DV × Md → R (DV × Md)} (hb : UOk K r op) (hn : NoEx1 op) (σ : St) (H : Hp) (Q : VK) (h : tev K mg W (eUn op f) σ H Q) : tev K mg W f σ H fun v H1 => r v H1 Q := by
  obtain ⟨H0, Pz, T, ρ, Fs, E, h⟩ := h
  unfold eUn at h
  cases e1 : f ρ with
  | bad => rw [e1] at h; exact h.elim
  | ex c p => rw [e1] at h; exact tev_ex E e1 h
  | ok x =>
    rw [e1] at h
    refine tev_ok E e1 fun v H1 F s1 E1 r1 o1 => ?_
    simp only [R.bind] at h
    cases e3 : op x with
    | bad => rw [e3] at h; exact h.elim
    | ex c p => exact absurd e3 (hn _ _ _)
    | ok z =>
      rw [e3] at h
      exact hb H0 Pz H1 T σ ρ Fs x z v F Q E1 r1 o1 e3 fun v' H' F' s' r' o' => h v' H' F' (s1.trans s') r' o'
theorem ev_un {X : Cx} {a : Expr} {f : FE} {pos : Pos} {o : UnaryOp} {r : V → Hp → VK → Prop} {op : DV × Md → R (DV × Md)} (ho : UnR X (unaryOp o) r) (hb : UOk X.K r op) (hn : NoEx1 op) (ha : PEv X a f) : PEv X (.UnaryOp o a pos) (eUn op f) := fun W tk =>
  PE.imp (pe_un ho (ha W tk)) fun σ H Q h => un_imp hb hn σ H Q h
def opNeg : DV × Md → R (DV × Md)
  | (.i (.int a), _) => ok1 (.int (-a))
  | _ => .bad
theorem opNeg_nx : NoEx1 opNeg := noex1_of fun x => by
  unfold opNeg; split <;> first | exact .inr rfl | exact .inl ⟨_, rfl⟩
theorem uNeg {K : PySem.W.Frag} : UOk K (rU fun i => .int (-i)) opNeg := by
  intro H0 Pz H T σ ρ Fs x z v F Q E r1 o1 e h
  obtain ⟨x, mx⟩ := x
  simp only at r1
  unfold opNeg at e
  split at e
  · rename_i q; cases q; cases e
    cases r1 with | i r1 => cases r1; exact ⟨_, rfl, fin1 h (.int _)⟩
  · cases e

/-! ## calls of built-ins with one argument: by a rule on a list of one -/
def UOk1 (K : PySem.W.Frag) (r : List V → Hp → VK → Prop) (op : DV × Md → R (DV × Md)) : Prop := UOk K (fun v H Q => r [v] H Q) op
section
variable {X : Cx} {a b : Expr} {f g : FE} {x : Str} {p pos : Pos} {r : List V → Hp → VK → Prop} {op : DV × Md → R (DV × Md)} {id T : String}
theorem args1_imp {K : PySem.W.Frag} {mg : MG} {W : WX} (hb : UOk1 K r op) (hn : NoEx1 op) (σ : St) (H : Hp) (Q : VK) (h : tev K mg W (eUn op f) σ H Q) : tCB r (tCons (tev K mg W f) tNil) σ H Q :=
  un_imp hb hn σ H Q h
theorem ev_b1 (hc : CallR X (.builtin id) r) (hb : UOk1 X.K r op) (hn : NoEx1 op) (hg : Gl X x) (hm : X.mg x = none) (hv : bootBuiltins x = some (.builtin id)) (ha : PEv X a f) (hnn : x ≠ "__name__" := by decide) (hdb : (x == ("__debug__" : Str)) = false := by decide)
    (he : starEach (a :: []) X.env = (false, eval a X.env) :: starEach [] X.env := by rfl) (hpl : (backTo pos (starEach [] X.env)).any (·.1) = false := by rfl) : PEv X (.Call (.Name x p) [a] [] pos) (eUn op f) := fun W tk =>
  PE.imp (pe_callB hc hg hm hv (pa_cons (ha W tk) pa_nil he) hnn hdb he hpl) fun σ H Q h => args1_imp hb hn σ H Q h
theorem ev_t1 (hc : CallR X (.type T) r) (hb : UOk1 X.K r op) (hn : NoEx1 op) (hg : Gl X x) (hm : X.mg x = none) (hv : bootBuiltins x = some (.type T)) (ha : PEv X a f) (hnn : x ≠ "__name__" := by decide) (hdb : (x == ("__debug__" : Str)) = false := by decide)
    (he : starEach (a :: []) X.env = (false, eval a X.env) :: starEach [] X.env := by rfl) (hpl : (backTo pos (starEach [] X.env)).any (·.1) = false := by rfl) : PEv X (.Call (.Name x p) [a] [] pos) (eUn op f) := fun W tk =>
  PE.imp (pe_callTy hc hg hm hv (pa_cons (ha W tk) pa_nil he) hnn hdb he hpl) fun σ H Q h => args1_imp hb hn σ H Q h
/-- two arguments -/
def BOk2 (K : PySem.W.Frag) (r : List V → Hp → VK → Prop) (op : DV × Md → DV × Md → R (DV × Md)) : Prop := BOk K (fun v u H Q => r [v, u] H Q) op
theorem ev_b2 {op : DV × Md → DV × Md → R (DV × Md)} (hc : CallR X (.builtin id) r) (hb : BOk2 X.K r op) (hn : NoEx op) (hg : Gl X x) (hm : X.mg x = none) (hv : bootBuiltins x = some (.builtin id)) (ha : PEv X a f) (hb2 : PEv X b g) (hnn : x ≠ "__name__" := by decide) (hdb : (x == ("__debug__" : Str)) = false := by decide)
    (he : starEach (a :: [b]) X.env = (false, eval a X.env) :: starEach [b] X.env := by rfl) (he2 : starEach (b :: []) X.env = (false, eval b X.env) :: starEach [] X.env := by rfl) (hpl : (backTo pos (starEach [b] X.env)).any (·.1) = false := by rfl) : PEv X (.Call (.Name x p) [a, b] [] pos) (eBin op f g) := fun W tk =>
  PE.imp (pe_callB hc hg hm hv (pa_cons (ha W tk) (pa_cons (hb2 W tk) pa_nil he2) he) hnn hdb he hpl) fun σ H Q h => bin_imp (r := fun v u H Q => r [v, u] H Q) hb hn σ H Q h
end
/-! ### len, abs, int, min, max, tuple, list -/
def opLen : DV × Md → R (DV × Md)
  | (.l xs, _) => ok1 (.int xs.length)
  | (.f xs, _) => ok1 (.int xs.length)
  | (.m xs, _) => ok1 (.int xs.length)
  | (.i (.tup xs), _) => ok1 (.int xs.length)
  | (.i (.str x), _) => if x.length ≤ 16777216 then ok1 (.int x.length) else .bad
  | _ => .bad
theorem opLen_nx : NoEx1 opLen := noex1_of fun x => by
  unfold opLen; split <;> first | exact .inr rfl | exact .inl ⟨_, rfl⟩ | (split <;> first | exact .inr rfl | exact .inl ⟨_, rfl⟩)
theorem uLen {K : PySem.W.Frag} : UOk1 K (fun xs H Q => ∃ x n, xs = [x] ∧ LenV K x H n ∧ Q (.int n) H) opLen := by
  intro H0 Pz H T σ ρ Fs x z v F Q E r1 o1 e h
  obtain ⟨x, mx⟩ := x
  simp only at r1
  unfold opLen at e
  split at e
  · rename_i q; cases q; cases e
    cases r1 with | l s t => exact ⟨_, _, rfl, .inl ⟨_, SqL.of s, rfl⟩, by rw [t.length]; exact fin1 h (.int _)⟩
  · rename_i q; cases q; cases e
    cases r1 with | f s t => exact ⟨_, _, rfl, .inl ⟨_, s.sq, rfl⟩, by rw [t.length]; exact fin1 h (.int _)⟩
  · rename_i q; cases q; cases e
    cases r1 with | m s t => exact ⟨_, _, rfl, .inl ⟨_, SqL.of s, rfl⟩, by rw [t.length]; exact fin1 h (.int _)⟩
  · rename_i q; cases q; cases e
    cases r1 with | i r => cases r with | tup s t => exact ⟨_, _, rfl, .inr ⟨_, s, rfl⟩, by rw [t.length]; exact fin1 h (.int _)⟩
  · rename_i q; cases q
    split at e
    · rename_i hl; cases e
      cases r1 with | i r => cases r; exact ⟨_, _, rfl, ⟨by rw [slEq]; exact hl, rfl⟩, fin1 h (.int _)⟩
    · cases e
  · cases e
def opAbs : DV × Md → R (DV × Md)
  | (.i (.int a), _) => ok1 (.int (if a < 0 then -a else a))
  | _ => .bad
theorem opAbs_nx : NoEx1 opAbs := noex1_of fun x => by
  unfold opAbs; split <;> first | exact .inr rfl | exact .inl ⟨_, rfl⟩
theorem uAbs {K : PySem.W.Frag} : UOk1 K (fun xs H Q => ∃ i, xs = [.int i] ∧ Q (.int (if i < 0 then -i else i)) H) opAbs := by
  intro H0 Pz H T σ ρ Fs x z v F Q E r1 o1 e h
  obtain ⟨x, mx⟩ := x
  simp only at r1
  unfold opAbs at e
  split at e
  · rename_i q; cases q; cases e
    cases r1 with | i r1 => cases r1; exact ⟨_, rfl, fin1 h (.int _)⟩
  · cases e
def opInt : DV × Md → R (DV × Md)
  | (.i (.int a), _) => ok1 (.int a)
  | (.i (.bl b), _) => ok1 (.int (if b then 1 else 0))
  | _ => .bad
theorem opInt_nx : NoEx1 opInt := noex1_of fun x => by
  unfold opInt; split <;> first | exact .inr rfl | exact .inl ⟨_, rfl⟩
theorem uInt {K : PySem.W.Frag} : UOk1 K (fun xs H Q => (∃ i, xs = [.int i] ∧ Q (.int i) H) ∨ ∃ k, xs = [.bl k] ∧ Q (.int (if k then 1 else 0)) H) opInt := by
  intro H0 Pz H T σ ρ Fs x z v F Q E r1 o1 e h
  obtain ⟨x, mx⟩ := x
  simp only at r1
  unfold opInt at e
  split at e
  · rename_i q; cases q; cases e
    cases r1 with | i r1 => cases r1; exact .inl ⟨_, rfl, fin1 h (.int _)⟩
  · rename_i q; cases q; cases e
    cases r1 with | i r1 => cases r1; exact .inr ⟨_, rfl, fin1 h (.int _)⟩
  · cases e
def opMin2 : DV × Md → DV × Md → R (DV × Md)
  | (.i (.int a), _), (.i (.int b), _) => ok1 (.int (if b < a then b else a))
  | _, _ => .bad
def opMax2 : DV × Md → DV × Md → R (DV × Md)
  | (.i (.int a), _), (.i (.int b), _) => ok1 (.int (if b > a then b else a))
  | _, _ => .bad
theorem opMin2_nx : NoEx opMin2 := noex_of fun x y => by
  unfold opMin2; split <;> first | exact .inr rfl | exact .inl ⟨_, rfl⟩
theorem opMax2_nx : NoEx opMax2 := noex_of fun x y => by
  unfold opMax2; split <;> first | exact .inr rfl | exact .inl ⟨_, rfl⟩
theorem bMin2 {K : PySem.W.Frag} : BOk2 K (fun xs H Q => ∃ i j, xs = [.int i, .int j] ∧ Q (.int (if j < i then j else i)) H) opMin2 := by
  intro H0 Pz H T σ ρ Fs x y z v u F G Q E r1 o1 r2 o2 e h
  obtain ⟨x, mx⟩ := x
  obtain ⟨y, my⟩ := y
  simp only at r1 r2
  unfold opMin2 at e
  split at e
  · rename_i q1 q2; cases q1; cases q2; cases e
    cases r1 with | i r1 => cases r1; cases r2 with | i r2 => cases r2; exact ⟨_, _, rfl, fin1 h (.int _)⟩
  · cases e
theorem bMax2 {K : PySem.W.Frag} : BOk2 K (fun xs H Q => ∃ i j, xs = [.int i, .int j] ∧ Q (.int (if j > i then j else i)) H) opMax2 := by
  intro H0 Pz H T σ ρ Fs x y z v u F G Q E r1 o1 r2 o2 e h
  obtain ⟨x, mx⟩ := x
  obtain ⟨y, my⟩ := y
  simp only at r1 r2
  unfold opMax2 at e
  split at e
  · rename_i q1 q2; cases q1; cases q2; cases e
    cases r1 with | i r1 => cases r1; cases r2 with | i r2 => cases r2; exact ⟨_, _, rfl, fin1 h (.int _)⟩
  · cases e
def opTuple : DV × Md → R (DV × Md)
  | (.l xs, _) => ok1 (.tup xs)
  | (.f xs, _) => ok1 (.tup xs)
  | (.i (.tup xs), _) => ok1 (.tup xs)
  | _ => .bad
theorem opTuple_nx : NoEx1 opTuple := noex1_of fun x => by
  unfold opTuple; split <;> first | exact .inr rfl | exact .inl ⟨_, rfl⟩
theorem uTuple {K : PySem.W.Frag} : UOk1 K (fun xs H Q => ∃ p ys, xs = [.ref p] ∧ ((SqL K H p ys ∧ ∀ l, H l = none → Q (.ref l) (upd H l (.tup ys))) ∨ (SqT K H p ys ∧ Q (.ref p) H))) opTuple := by
  intro H0 Pz H T σ ρ Fs x z v F Q E r1 o1 e h
  obtain ⟨x, mx⟩ := x
  simp only at r1
  unfold opTuple at e
  split at e
  · rename_i q; cases q; cases e
    cases r1 with | l s t => exact ⟨_, _, rfl, .inl ⟨SqL.of s, fun p hp => h _ _ _ (same_upd hp) (new_tup hp t) .nil⟩⟩
  · rename_i q; cases q; cases e
    cases r1 with | f s t => exact ⟨_, _, rfl, .inl ⟨s.sq, fun p hp => h _ _ _ (same_upd hp) (new_tup hp t) .nil⟩⟩
  · rename_i q; cases q; cases e
    cases r1 with | i r => cases r with | tup s t => exact ⟨_, _, rfl, .inr ⟨s, fin1 h (.tup s t)⟩⟩
  · cases e
def opList : DV × Md → R (DV × Md)
  | (.l xs, _) => .ok (.l xs, .own)
  | (.f xs, _) => .ok (.l xs, .own)
  | (.i (.tup xs), _) => .ok (.l xs, .own)
  | _ => .bad
theorem opList_nx : NoEx1 opList := noex1_of fun x => by
  unfold opList; split <;> first | exact .inr rfl | exact .inl ⟨_, rfl⟩
theorem uList {K : PySem.W.Frag} : UOk1 K (fun xs H Q => ∃ p ys, xs = [.ref p] ∧ (SqL K H p ys ∨ SqT K H p ys) ∧ ∀ l, H l = none → Q (.ref l) (upd H l (.lst ys))) opList := by
  intro H0 Pz H T σ ρ Fs x z v F Q E r1 o1 e h
  obtain ⟨x, mx⟩ := x
  simp only at r1
  unfold opList at e
  split at e
  · rename_i q; cases q; cases e
    cases r1 with | l s t => exact ⟨_, _, rfl, .inl (SqL.of s), fun p hp => h _ _ _ (same_upd hp) (new_lst hp t) (new_ok E hp)⟩
  · rename_i q; cases q; cases e
    cases r1 with | f s t => exact ⟨_, _, rfl, .inl s.sq, fun p hp => h _ _ _ (same_upd hp) (new_lst hp t) (new_ok E hp)⟩
  · rename_i q; cases q; cases e
    cases r1 with | i r => cases r with | tup s t => exact ⟨_, _, rfl, .inr s, fun p hp => h _ _ _ (same_upd hp) (new_lst hp t) (new_ok E hp)⟩
  · cases e
/-! ### ints and bools in lists -/
def ints? : List IV → Option (List Int)
  | [] => some []
  | .int i :: r => (ints? r).map (i :: ·)
  | _ :: _ => none
def bls? : List IV → Option (List Bool)
  | [] => some []
  | .bl i :: r => (bls? r).map (i :: ·)
  | _ :: _ => none
theorem ints?_map (ns : List Int) : ints? (ns.map .int) = some ns := by
  induction ns with
  | nil => rfl
  | cons n ns ih => simp [ints?, ih]
theorem bls?_map (ns : List Bool) : bls? (ns.map .bl) = some ns := by
  induction ns with
  | nil => rfl
  | cons n ns ih => simp [bls?, ih]
theorem ints?_some : ∀ {xs : List IV} {ns : List Int}, ints? xs = some ns → xs = ns.map .int
  | [], ns, h => by cases h; rfl
  | .int i :: r, ns, h => by
    simp only [ints?, Option.map_eq_some_iff] at h
    obtain ⟨ms, h1, h2⟩ := h
    subst h2
    rw [ints?_some h1]
    rfl
  | .non :: _, _, h => by cases h
  | .bl _ :: _, _, h => by cases h
  | .str _ :: _, _, h => by cases h
  | .tup _ :: _, _, h => by cases h
theorem bls?_some : ∀ {xs : List IV} {ns : List Bool}, bls? xs = some ns → xs = ns.map .bl
  | [], ns, h => by cases h; rfl
  | .bl i :: r, ns, h => by
    simp only [bls?, Option.map_eq_some_iff] at h
    obtain ⟨ms, h1, h2⟩ := h
    subst h2
    rw [bls?_some h1]
    rfl
  | .non :: _, _, h => by cases h
  | .int _ :: _, _, h => by cases h
  | .str _ :: _, _, h => by cases h
  | .tup _ :: _, _, h => by cases h
theorem RpIs.ints {K : PySem.W.Frag} {H : Hp} : ∀ {ns : List Int} {vs : List V}, RpIs K H vs (ns.map .int) → vs = ns.map V.int
  | [], _, h => by cases h; rfl
  | n :: ns, _, h => by
    cases h with
    | cons a b => cases a; rw [RpIs.ints b]; rfl
theorem RpIs.bls {K : PySem.W.Frag} {H : Hp} : ∀ {ns : List Bool} {vs : List V}, RpIs K H vs (ns.map .bl) → vs = ns.map V.bl
  | [], _, h => by cases h; rfl
  | n :: ns, _, h => by
    cases h with
    | cons a b => cases a; rw [RpIs.bls b]; rfl
theorem rp_ints {K : PySem.W.Frag} {H : Hp} : ∀ (ns : List Int), RpIs K H (ns.map V.int) (ns.map .int)
  | [] => .nil
  | n :: ns => .cons (.int n) (rp_ints ns)
/-- the items of a list -/
def items? : DV → Option (List IV)
  | .l xs => some xs
  | .f xs => some xs
  | _ => none
theorem items?_rp {K : PySem.W.Frag} {H : Hp} {v : V} {d : DV} {F : List Addr} {xs : List IV} (r : RpD K H v d F) (h : items? d = some xs) : ∃ a vs, v = .ref a ∧ SqL K H a vs ∧ RpIs K H vs xs := by
  cases r with
  | i r => cases h
  | l s t => cases h; exact ⟨_, _, rfl, SqL.of s, t⟩
  | f s t => cases h; exact ⟨_, _, rfl, s.sq, t⟩
  | m s t => cases h
def opOver {α : Type} (get : List IV → Option (List α)) (k : List α → R (DV × Md)) : DV × Md → R (DV × Md) := fun x => match items? x.1 with
  | some xs => (match get xs with
    | some ns => k ns
    | none => .bad)
  | none => .bad
theorem opOver_nx {α : Type} {get : List IV → Option (List α)} {k : List α → R (DV × Md)} (h : ∀ ns, (∃ z, k ns = .ok z) ∨ k ns = .bad) : NoEx1 (opOver get k) := noex1_of fun x => by
  unfold opOver
  split
  · split
    · exact h _
    · exact .inr rfl
  · exact .inr rfl
theorem opOver_ok {α : Type} {get : List IV → Option (List α)} {k : List α → R (DV × Md)} {x z : DV × Md} (h : opOver get k x = .ok z) : ∃ xs ns, items? x.1 = some xs ∧ get xs = some ns ∧ k ns = .ok z := by
  unfold opOver at h
  split at h
  · rename_i xs e1
    split at h
    · rename_i ns e2
      exact ⟨xs, ns, e1, e2, h⟩
    · cases h
  · cases h
def opSum := opOver ints? fun ns => ok1 (.int ns.sum)
def opAll := opOver bls? fun ns => ok1 (.bl (ns.all id))
def opAny := opOver bls? fun ns => ok1 (.bl (ns.any id))
theorem opSum_nx : NoEx1 opSum := opOver_nx fun _ => .inl ⟨_, rfl⟩
theorem opAll_nx : NoEx1 opAll := opOver_nx fun _ => .inl ⟨_, rfl⟩
theorem opAny_nx : NoEx1 opAny := opOver_nx fun _ => .inl ⟨_, rfl⟩
theorem uSum {K : PySem.W.Frag} : UOk1 K (rSum K) opSum := by
  intro H0 Pz H T σ ρ Fs x z v F Q E r1 o1 e h
  obtain ⟨xs, ns, e1, e2, e3⟩ := opOver_ok e
  cases e3
  obtain ⟨a, vs, rfl, s, t⟩ := items?_rp r1 e1
  rw [ints?_some e2] at t
  rw [t.ints] at s
  exact ⟨_, _, rfl, s, fin1 h (.int _)⟩
theorem uAll {K : PySem.W.Frag} : UOk1 K (rAll K) opAll := by
  intro H0 Pz H T σ ρ Fs x z v F Q E r1 o1 e h
  obtain ⟨xs, ns, e1, e2, e3⟩ := opOver_ok e
  cases e3
  obtain ⟨a, vs, rfl, s, t⟩ := items?_rp r1 e1
  rw [bls?_some e2] at t
  rw [t.bls] at s
  exact ⟨_, _, rfl, s, fin1 h (.bl _)⟩
theorem uAny {K : PySem.W.Frag} : UOk1 K (rAny K) opAny := by
  intro H0 Pz H T σ ρ Fs x z v F Q E r1 o1 e h
  obtain ⟨xs, ns, e1, e2, e3⟩ := opOver_ok e
  cases e3
  obtain ⟨a, vs, rfl, s, t⟩ := items?_rp r1 e1
  rw [bls?_some e2] at t
  rw [t.bls] at s
  exact ⟨_, _, rfl, s, fin1 h (.bl _)⟩

/-! ### isinstance -/
def tyN : DV → String
  | .i .non => "NoneType"
  | .i (.bl _) => "bool"
  | .i (.int _) => "int"
  | .i (.str _) => "str"
  | .i (.tup _) => "tuple"
  | _ => "list"
def isTy (t u : String) : Bool := t == u || (t == "bool" && u == "int")
def opIsi (u : String) : DV × Md → R (DV × Md) := fun x => ok1 (.bl (isTy (tyN x.1) u))
theorem opIsi_nx {u : String} : NoEx1 (opIsi u) := noex1_of fun x => .inl ⟨_, rfl⟩
theorem RpD.tyx {K : PySem.W.Frag} {H : Hp} {v : V} {d : DV} {F : List Addr} (r : RpD K H v d F) : TyX K H v (.type (tyN d)) := by
  cases r with
  | i r =>
    cases r with
    | non => exact .base .non
    | bl b => exact .base (.bl b)
    | int i => exact .base (.int i)
    | str x => exact .base (.str x)
    | tup s t =>
      rcases s with (s | ⟨o, s⟩) | ⟨o, its, n, h1, h2, _⟩
      · exact .base (.tup s)
      · exact .fTuple s
      · exact .kTuple h1 h2
  | l s t => exact .base (.lst s)
  | f s t =>
    rcases s with ⟨o, s⟩ | ⟨o, its, n, h1, h2, _⟩
    · exact .base (.frz s)
    · exact .kList h1 h2
  | m s t => exact .base (.lst s)
def KitOk (u : String) : Prop := ∀ d : DV, kitB (tyN d) u = some (isTy (tyN d) u)
theorem kitOk {u : String} (h1 : kitB "NoneType" u = some (isTy "NoneType" u) := by decide +kernel) (h2 : kitB "bool" u = some (isTy "bool" u) := by decide +kernel) (h3 : kitB "int" u = some (isTy "int" u) := by decide +kernel)
    (h4 : kitB "str" u = some (isTy "str" u) := by decide +kernel) (h5 : kitB "tuple" u = some (isTy "tuple" u) := by decide +kernel) (h6 : kitB "list" u = some (isTy "list" u) := by decide +kernel) : KitOk u := fun d => by
  cases d with
  | i x => cases x <;> assumption
  | _ => assumption
theorem kit_int : KitOk "int" := kitOk
theorem kit_bool : KitOk "bool" := kitOk
theorem kit_str : KitOk "str" := kitOk
theorem kit_tuple : KitOk "tuple" := kitOk
theorem kit_list : KitOk "list" := kitOk
section
variable {X : Cx} {a : Expr} {f : FE} {x y : Str} {p q pos : Pos} {u : String}
theorem ev_isi (hk : KitOk u) (hg : Gl X x) (hm : X.mg x = none) (hv : bootBuiltins x = some (.builtin "isinstance")) (hg2 : Gl X y) (hm2 : X.mg y = none) (hv2 : bootBuiltins y = some (.type u)) (ha : PEv X a f)
    (hnn : x ≠ "__name__" := by decide) (hdb : (x == ("__debug__" : Str)) = false := by decide) (hnn2 : y ≠ "__name__" := by decide) (hdb2 : (y == ("__debug__" : Str)) = false := by decide)
    (he : starEach (a :: [.Name y q]) X.env = (false, eval a X.env) :: starEach [.Name y q] X.env := by rfl) (he2 : starEach ((.Name y q) :: []) X.env = (false, eval (.Name y q) X.env) :: starEach [] X.env := by rfl) (hpl : (backTo pos (starEach [.Name y q] X.env)).any (·.1) = false := by rfl) :
    PEv X (.Call (.Name x p) [a, .Name y q] [] pos) (eUn (opIsi u) f) := fun W tk =>
  PE.imp (pe_callB call_isi hg hm hv (pa_cons (ha W tk) (pa_cons (pe_bltn (v := .ty u) hg2 hm2 hv2 rfl hnn2 hdb2) pa_nil he2) he) hnn hdb he hpl) fun σ H Q h => by
    refine un_imp (r := fun v H Q => ∃ (x c : V) (t u : Value) (b : Bool), [v, V.ty _] = [x, c] ∧ ClsV c u ∧ TyX X.K H x t ∧ PySem.W.kitOne X.K t u = some b ∧ Q (.bl b) H) (fun H0 Pz H T σ ρ Fs x z v F Q E r1 o1 e h => ?_) opIsi_nx σ H Q h
    cases e
    exact ⟨_, _, _, _, _, rfl, .ty u, r1.tyx, kit_ty (hk x.1), fin1 h (.bl _)⟩
end

/-! ### subscripts -/
def opIx : DV × Md → DV × Md → R (DV × Md)
  | (.l xs, _), (.i (.int k), _) => (match atI xs k with
    | some x => ok1 x
    | none => .bad)
  | (.f xs, _), (.i (.int k), _) => (match atI xs k with
    | some x => ok1 x
    | none => .bad)
  | (.i (.tup xs), _), (.i (.int k), _) => (match atI xs k with
    | some x => ok1 x
    | none => .bad)
  | (.i (.str z), _), (.i (.int k), _) => if z.length ≤ 16777216 then (match atI z.cps.toList k with
    | some c => ok1 (.str ⟨#[c]⟩)
    | none => .bad) else .bad
  | (.m xs, m), (.i (.int k), _) => (match atI xs k with
    | some (.i x) => ok1 x
    | some x => .ok (x, if m = .bor then .bor else .loc)
    | none => .bad)
  | _, _ => .bad
theorem opIx_nx : NoEx opIx := noex_of fun x y => by
  unfold opIx; split <;> first | exact .inr rfl | (split <;> first | exact .inr rfl | exact .inl ⟨_, rfl⟩ | (split <;> first | exact .inr rfl | exact .inl ⟨_, rfl⟩))
theorem atI_iff {α : Type} {xs : List α} {k : Int} {x : α} (h : atI xs k = some x) : ∃ j, ixN xs.length k = some j ∧ xs[j]? = some x := by
  unfold atI at h
  cases q : ixN xs.length k with
  | none => rw [q] at h; cases h
  | some j => rw [q] at h; exact ⟨j, rfl, h⟩
theorem atI_of {α : Type} {xs : List α} {k : Int} {x : α} {j : Nat} (h : ixN xs.length k = some j) (h2 : xs[j]? = some x) : atI xs k = some x := by
  unfold atI
  rw [h]
  exact h2
theorem RpIs.atI {K : PySem.W.Frag} {H : Hp} {vs : List V} {xs : List IV} (r : RpIs K H vs xs) {k : Int} {x : IV} (h : atI xs k = some x) : ∃ v, L2.atI vs k = some v ∧ RpI K H v x := by
  obtain ⟨j, h1, h2⟩ := atI_iff h
  obtain ⟨v, h3, h4⟩ := r.get h2
  exact ⟨v, atI_of (by rw [r.length]; exact h1) h3, h4⟩
theorem bIx {K : PySem.W.Frag} : BOk K (rIx K) opIx := by
  intro H0 Pz H T σ ρ Fs x y z v u F G Q E r1 o1 r2 o2 e h
  obtain ⟨x, mx⟩ := x
  obtain ⟨y, my⟩ := y
  simp only at r1 r2 o1
  unfold opIx at e
  split at e
  · rename_i q1 q2; cases q1; cases q2
    split at e
    · rename_i hk; cases e
      cases r1 with
      | l s t =>
        cases r2 with
        | i r2 =>
          cases r2
          obtain ⟨w, h1, h2⟩ := t.atI hk
          exact .inl ⟨_, _, _, w, rfl, rfl, SqL.of s, h1, fin1 h h2⟩
    · cases e
  · rename_i q1 q2; cases q1; cases q2
    split at e
    · rename_i hk; cases e
      cases r1 with
      | f s t =>
        cases r2 with
        | i r2 =>
          cases r2
          obtain ⟨w, h1, h2⟩ := t.atI hk
          exact .inl ⟨_, _, _, w, rfl, rfl, s.sq, h1, fin1 h h2⟩
    · cases e
  · rename_i q1 q2; cases q1; cases q2
    split at e
    · rename_i hk; cases e
      cases r1 with
      | i r =>
        cases r with
        | tup s t =>
          cases r2 with
          | i r2 =>
            cases r2
            obtain ⟨w, h1, h2⟩ := t.atI hk
            exact .inr (.inl ⟨_, _, _, w, rfl, rfl, s, h1, fin1 h h2⟩)
    · cases e
  · rename_i q1 q2; cases q1; cases q2
    split at e
    · rename_i hl
      split at e
      · rename_i hk; cases e
        cases r1 with
        | i r =>
          cases r
          cases r2 with
          | i r2 =>
            cases r2
            exact .inr (.inr ⟨_, _, _, rfl, rfl, by rw [slEq]; exact hl, hk, fin1 h (.str _)⟩)
      · cases e
    · cases e
  · rename_i q1 q2; cases q1; cases q2
    cases r1 with
    | @m a vs _ F1 s t =>
      cases r2 with
      | i r2 =>
        cases r2
        split at e
        · rename_i x hk
          cases e
          obtain ⟨j, h1, h2⟩ := atI_iff hk
          obtain ⟨w, G, h3, h4, h5⟩ := t.get h2
          cases h4 with
          | i h4 => exact .inl ⟨_, _, _, w, rfl, rfl, SqL.of s, atI_of (by rw [t.length]; exact h1) h3, fin1 h h4⟩
        · rename_i d hni hk
          cases e
          obtain ⟨j, h1, h2⟩ := atI_iff hk
          obtain ⟨w, G, h3, h4, h5⟩ := t.get h2
          have sub : ∀ c ∈ G, c ∈ a :: F1 := fun c hc => List.mem_cons_of_mem _ (h5 c hc)
          refine .inl ⟨_, _, _, w, rfl, rfl, SqL.of s, atI_of (by rw [t.length]; exact h1) h3, h w H G (fun _ _ z => z) h4 ?_⟩
          by_cases hb : mx = .bor
          · subst hb
            have n := o1.notops (by intro z; cases z)
            rw [if_pos rfl]
            exact ⟨fun z => (by rcases z with z | z <;> cases z), fun z => (nomatch z), fun _ => ⟨fun k d hk a' G' e ha => n.1 k d hk a' G' e (sub _ ha), fun a' ta ha => n.2 a' ta (sub _ ha)⟩, fun z => (nomatch z)⟩
          · rw [if_neg hb]
            by_cases ht : mx = .tmp
            · rcases o1.tmp ht with z | ⟨k0, d0, hk0, eF⟩
              · cases z
              · have top := E.top k0 d0 hk0 a F1 eF.symm
                have fr := E.fresh k0 d0 .own hk0 (by intro z; cases z)
                refine ⟨fun _ c hc => fr c (by rw [← eF]; exact sub c hc), fun z => (nomatch z), fun _ => ⟨fun k d hk a' G' e ha => ?_, fun a' ta ha => E.tt a' ta k0 (by rw [← eF]; exact sub _ ha)⟩, fun z => (nomatch z)⟩
                by_cases hkk : k = k0
                · subst hkk
                  rw [← eF] at e
                  cases e
                  exact top.2.1 (h5 _ ha)
                · have := (E.top k d hk a' G' e).2.2 k0 (fun z => hkk z.symm)
                  exact this (by rw [← eF]; exact sub _ ha)
            · have n := o1.notops ht
              have ho : mx = .own ∨ mx = .loc := by cases mx <;> first | exact .inl rfl | exact .inr rfl | exact absurd rfl hb | exact absurd rfl ht
              exact ⟨fun _ c hc => o1.fresh ho c (sub c hc), fun z => (nomatch z), fun _ => ⟨fun k d hk a' G' e ha => n.1 k d hk a' G' e (sub _ ha), fun a' ta ha => n.2 a' ta (sub _ ha)⟩, fun z => (nomatch z)⟩
        · cases e
  · cases e
theorem ev_ix {X : Cx} {a b : Expr} {f g : FE} {pos : Pos} (ha : PEv X a f) (hb : PEv X b g) (hs : PlainIx b) : PEv X (.Subscript a b pos) (eBin opIx f g) := fun W tk =>
  PE.imp (pe_ix ix_seq (ha W tk) (hb W tk) hs) fun σ H Q h => bin_imp bIx opIx_nx σ H Q h
end L2.Pv

namespace HT
open PySem PySem.Spec PyProof.Rows L2
section
variable {prog : Program} {w : World} {A : Around} {E : Value → Shared → Prop} {s : Shared}
theorem adjust_rev (n : Nat) : Builtin.Slice.sliceAdjust none none (-1) (n : Int) = ((n : Int) - 1, -1) := by
  unfold Builtin.Slice.sliceAdjust
  simp
theorem places_rev (n : Nat) : Builtin.Slice.slicePlaces ((n : Int) - 1) (-1) (-1) = n := by
  unfold Builtin.Slice.slicePlaces
  have h1 : ¬ ((-1 : Int) > 0) := by decide
  simp only [h1, if_false]
  rw [show (- -1 : Int) = 1 by decide, Int.ediv_one]
  split <;> omega
theorem sliceApplied_rev {sl : Addr} {vl vu vs : Value} {n : Nat} {Q : Int × Int × Nat → Shared → Prop} (hs : s.heap.IsSliceOf sl vl vu vs) (pl : IsPart vl none) (pu : IsPart vu none) (ps : IsPart vs (some (-1)))
    (h : Q ((n : Int) - 1, -1, n) s) : wpAny (model prog w) A (Builtin.Slice.sliceApplied (.ref sl) (pure (n : Int))) Q E s := by
  obtain ⟨os, hos, hcs, hds⟩ := id hs
  unfold Builtin.Slice.sliceApplied Builtin.Slice.sliceFields
  refine wpAny_bind (wpAny_bind (wpAny_field hos hds (x := vl) rfl (wpAny_bind (wpAny_field hos hds (x := vu) rfl (wpAny_bind (wpAny_field hos hds (x := vs) rfl (wpAny_pure ?_)))))))
  refine wpAny_bind (slicePart_ ps ?_)
  show wpAny _ _ (if ((-1 : Int) == 0) = true then _ else _) _ _ s
  rw [if_neg (by decide)]
  refine wpAny_bind (slicePart_ pl (wpAny_bind (slicePart_ pu (wpAny_bind (wpAny_pure ?_)))))
  show wpAny _ _ (match Builtin.Slice.sliceAdjust none none (-1) (n : Int) with | (lo, hi) => pure (lo, (-1 : Int), Builtin.Slice.slicePlaces lo hi (-1))) _ _ s
  rw [adjust_rev n]
  show wpAny _ _ (pure ((n : Int) - 1, (-1 : Int), Builtin.Slice.slicePlaces ((n : Int) - 1) (-1) (-1))) _ _ s
  rw [places_rev]
  exact wpAny_pure h
theorem pick_rev (xs : Array Value) : ((List.range xs.size).filterMap fun (m : Nat) => xs[(((xs.size : Nat) : Int) - 1 + (m : Int) * (-1)).toNat]?).toArray = xs.toList.reverse.toArray := by
  rw [← PySem.W.krv_pick]
  unfold slicePick
  rw [PySem.W.krv_bounds, PySem.W.krv_sliceRange, List.filterMap_map]
  congr 1
  have hm : ∀ l : List Nat, (∀ m ∈ l, m < xs.size) → List.filterMap (fun (m : Nat) => xs[(((xs.size : Nat) : Int) - 1 + (m : Int) * (-1)).toNat]?) l = List.filterMap ((fun x => xs[x]?) ∘ fun k => xs.size - 1 - k) l := by
    intro l
    induction l with
    | nil => intro _; rfl
    | cons m l ih =>
      intro hl
      have h0 := hl m List.mem_cons_self
      have e : (((xs.size : Nat) : Int) - 1 + (m : Int) * (-1)).toNat = xs.size - 1 - m := by omega
      rw [List.filterMap_cons, List.filterMap_cons, ih fun k hk => hl k (List.mem_cons_of_mem _ hk), e]
      rfl
  exact hm _ fun m hm => List.mem_range.mp hm
theorem getItem_tuple_rev {t sl : Addr} {items : Array Value} {vl vu vs : Value} {Q : Value → Shared → Prop} (ht : IsTup s.heap t items) (hs : s.heap.IsSliceOf sl vl vu vs) (pl : IsPart vl none) (pu : IsPart vu none) (ps : IsPart vs (some (-1)))
    (h : Q (.ref s.heap.objs.size) { s with heap := s.heap.push { cls := .type "tuple", data := .seq items.toList.reverse.toArray } })
    (hsz : items.size ≤ sizeLine) : wpAny (model prog w) A (getItem (.ref t) (.ref sl)) Q E s := by
  have htake : sizeOk (.seq items.toList.reverse.toArray) := by
    show items.toList.reverse.toArray.size ≤ sizeLine
    rw [List.size_toArray, List.length_reverse, Array.length_toList]
    exact hsz
  obtain ⟨os, hos, hcs, hds⟩ := id hs
  have hTs : s.TypeIs (.ref sl) "slice" := ⟨os, hos, hcs⟩
  unfold getItem
  try with_reducible refine wpAny_holding ?_
  first | refine wpAny_bind (wpAny_pure ?_) | skip
  refine wpAny_bind (wpAny_sequenceKey ht.typeIs (by decide) ?_)
  refine wpAny_bind (wpAny_callSpecial?_slot (name := Str.ofString "__getitem__") ht.typeIs PyProof.Rows.slot_tuple_getitem
    (wpAny_call_entry PyProof.Rows.slot_tuple_getitem ht.typeIs entry_tuple_getitem ?_ (args_tuple_getitem _ _)))
  show wpAny _ _ (Builtin.Tuple.tupleItemsOf (.ref t) >>= _) _ _ s
  refine wpAny_bind (tupleItemsOf_ ht ?_)
  refine wpAny_bind (wpAny_typeOf hTs ?_)
  rw [if_pos (by decide)]
  refine wpAny_bind (sliceApplied_rev (n := items.size) hs pl pu ps ?_)
  have hno : ¬ (((((items.size : Nat) : Int) - 1 == 0) && (-1 : Int) == 1 && items.size == items.size) = true) := by
    intro q
    rw [Bool.and_eq_true, Bool.and_eq_true] at q
    exact absurd (eq_of_beq q.1.2) (by decide)
  show wpAny _ _ (if ((((items.size : Nat) : Int) - 1 == 0) && (-1 : Int) == 1 && items.size == items.size) = true then _ else _) _ _ s
  rw [if_neg hno, pick_rev]
  first
    | exact wpAny_bind (m := Builtin.Tuple.tupleExact _) (wpAny_newObj_type (wpAny_pure ⟨_, rfl, wpAny_pure h⟩) htake)
    | exact wpAny_bind (m := Builtin.Tuple.tupleExact _) (wpAny_newObj_type (wpAny_bind (wpAny_pure (wpAny_pure ⟨_, rfl, wpAny_pure h⟩))) htake)
    | exact wpAny_bind (wpAny_bind (m := Builtin.Tuple.tupleExact _) (wpAny_newObj_type (wpAny_pure (wpAny_pure ⟨_, rfl, wpAny_pure h⟩)) htake))
    | exact wpAny_bind (wpAny_bind (m := Builtin.Tuple.tupleExact _) (wpAny_newObj_type (wpAny_pure ⟨_, rfl, wpAny_pure h⟩) htake))
end
end HT
namespace L2.Pv
open PySem PySem.Spec PyProof.Rows

/-! ## x[::-1] of lists and tuples -/
def tRevA (K : PySem.W.Frag) (te : TE) : TE := fun σ H Q => te σ H fun x H1 => ∃ a xs, x = .ref a ∧ ((SqL K H1 a xs ∧ ∀ p, H1 p = none → Q (.ref p) (upd H1 p (.lst xs.reverse))) ∨ (SqT K H1 a xs ∧ ∀ p, H1 p = none → Q (.ref p) (upd H1 p (.tup xs.reverse))))
theorem pe_revA {X : Cx} {e : Expr} {te : TE} {k : Nat} {p1 p2 p3 pos : Pos} (he : PE X e te) : PE X (.Subscript e (.Slice none none (some (.UnaryOp .USub (.Constant (.int 1) k p1) p2)) p3) pos) (tRevA X.K te) := by
  refine ⟨fun pins s σ H Q I h => ?_⟩
  refine Subscript_ (thn (he.run pins s σ H _ I h) fun v s1 ⟨x, H1, I1, r1, q1⟩ => ?_)
  obtain ⟨a, xs, ex, hx⟩ := q1
  subst ex
  cases r1
  have hst : PO X (some (.UnaryOp .USub (.Constant (.int 1) k p1) p2)) (tPart (tUn (rU fun i => .int (-i)) (tC (.int 1)))) := po_some (pe_un un_neg pe_int)
  refine wpAny_Slice (thn (po_none.run pins s1 σ H1 (fun o H2 => o = none ∧ H2 = H1) I1 ⟨rfl, rfl⟩) fun vl s2 ⟨l, H2, I2, pl, el, e2⟩ => ?_)
  subst el e2
  refine thn (po_none.run pins s2 σ H2 (fun o H3 => o = none ∧ H3 = H2) I2 ⟨rfl, rfl⟩) fun vu s3 ⟨u, H3, I3, pu, eu, e3⟩ => ?_
  subst eu e3
  refine thn (hst.run pins s3 σ H3 (fun o H4 => o = some (-1) ∧ H4 = H3) I3 ⟨1, rfl, -1, rfl, rfl, rfl⟩) fun vs s4 ⟨o, H4, I4, ps, eo, e4⟩ => ?_
  subst eo e4
  have I5 : Inv X pins σ H4 { s4 with heap := s4.heap.push { cls := .type "slice", data := .fields #[vl, vu, vs] } } := I4.kept (t' := s4.toks) fun b ob q => Heap.get?_push_of_some _ q
  rcases hx with ⟨hx, q⟩ | ⟨hx, q⟩
  · obtain ⟨its, r, ht, hz⟩ := I5.list hx
    have hlen := r.length
    show wpAny (model X.prog X.w) X.A (subscriptTail e (.Slice none none (some (.UnaryOp .USub (.Constant (.int 1) k p1) p2)) p3) (.ref a) (.ref s4.heap.objs.size)) (EP X pins σ Q) X.xe { s4 with heap := s4.heap.push { cls := .type "slice", data := .fields #[vl, vu, vs] } }
    refine tail_any (ops := [.ref a, .ref s4.heap.objs.size]) ht.isList.typeIs (PySem.slot_list_getitem.lookup) ?_ (by with_unfolding_all rfl)
    refine wpAny_getItem_list_slice ht.isList (Heap.IsSliceOf.new _ vl vu vs) pl pu ps (by decide) ?_ (by rw [List.size_toArray]; omega)
    rw [PySem.W.krv_pick]
    refine ⟨.ref _, _, I5.laid (t' := s4.toks) (o := .lst xs.reverse) (fun b ob q => Heap.get?_push_of_some _ q) (Nat.le_refl _) ?_, rfl, q _ (I5.hok.fresh (Nat.le_refl _))⟩
    exact ⟨by rw [List.length_reverse]; exact hz, _, 0, r.reverse, Heap.get?_push_size _ rfl⟩
  · obtain ⟨its, r, ht, hz⟩ := I5.tuple hx
    have hlen := r.length
    show wpAny (model X.prog X.w) X.A (subscriptTail e (.Slice none none (some (.UnaryOp .USub (.Constant (.int 1) k p1) p2)) p3) (.ref a) (.ref s4.heap.objs.size)) (EP X pins σ Q) X.xe { s4 with heap := s4.heap.push { cls := .type "slice", data := .fields #[vl, vu, vs] } }
    refine tail_any (ops := [.ref a, .ref s4.heap.objs.size]) ht.typeIs (PyProof.Rows.slot_tuple_getitem.lookup) ?_ (by with_unfolding_all rfl)
    refine HT.getItem_tuple_rev ht (Heap.IsSliceOf.new _ vl vu vs) pl pu ps ?_ (by rw [List.size_toArray]; omega)
    refine ⟨.ref _, _, I5.laid (t' := s4.toks) (o := .tup xs.reverse) (fun b ob q => Heap.get?_push_of_some _ q) (Nat.le_refl _) ?_, rfl, q _ (I5.hok.fresh (Nat.le_refl _))⟩
    exact ⟨by rw [List.length_reverse]; exact hz, _, r.reverse, ⟨_, Heap.get?_push_size _ rfl, rfl, _, rfl⟩⟩
def opRev : DV × Md → R (DV × Md)
  | (.l xs, _) => .ok (.l xs.reverse, .own)
  | (.f xs, _) => .ok (.l xs.reverse, .own)
  | (.i (.tup xs), _) => ok1 (.tup xs.reverse)
  | _ => .bad
theorem opRev_nx : NoEx1 opRev := noex1_of fun x => by
  unfold opRev; split <;> first | exact .inr rfl | exact .inl ⟨_, rfl⟩
theorem ev_rev {X : Cx} {e : Expr} {f : FE} {k : Nat} {p1 p2 p3 pos : Pos} (he : PEv X e f) : PEv X (.Subscript e (.Slice none none (some (.UnaryOp .USub (.Constant (.int 1) k p1) p2)) p3) pos) (eUn opRev f) := fun W tk =>
  PE.imp (pe_revA (he W tk)) fun σ H Q h => by
    refine un_imp (r := fun x H1 Q => ∃ a xs, x = .ref a ∧ ((SqL X.K H1 a xs ∧ ∀ p, H1 p = none → Q (.ref p) (upd H1 p (.lst xs.reverse))) ∨ (SqT X.K H1 a xs ∧ ∀ p, H1 p = none → Q (.ref p) (upd H1 p (.tup xs.reverse))))) (fun H0 Pz H T σ ρ Fs x z v F Q E r1 o1 e h => ?_) opRev_nx σ H Q h
    obtain ⟨x, mx⟩ := x
    simp only at r1
    unfold opRev at e
    split at e
    · rename_i q; cases q; cases e
      cases r1 with | l s t => exact ⟨_, _, rfl, .inl ⟨SqL.of s, fun p hp => h _ _ _ (same_upd hp) (new_lst hp t.reverse) (new_ok E hp)⟩⟩
    · rename_i q; cases q; cases e
      cases r1 with | f s t => exact ⟨_, _, rfl, .inl ⟨s.sq, fun p hp => h _ _ _ (same_upd hp) (new_lst hp t.reverse) (new_ok E hp)⟩⟩
    · rename_i q; cases q; cases e
      cases r1 with | i r => cases r with | tup s t => exact ⟨_, _, rfl, .inr ⟨s, fun p hp => h _ _ _ (same_upd hp) (new_tup hp t.reverse) .nil⟩⟩
    · cases e

/-! ## slices -/
abbrev FO := Env → R (Option Int)
def tov (K : PySem.W.Frag) (mg : MG) (W : WX) (f : FO) : TO := fun σ H Q => ∃ H0 Pz T ρ Fs, EnvR K H0 Pz T H σ ρ Fs ∧ match f ρ with
  | .ok b => ∀ H', Same H H' → Q b H'
  | .ex c p => ExOk K mg W σ H c p
  | .bad => False
def POv (X : Cx) (e : Option Expr) (f : FO) : Prop := ∀ W, Takes X W → PO X e (tov X.K X.mg W f)
theorem PO.imp {X : Cx} {e : Option Expr} {t t' : TO} (h : PO X e t) (k : ∀ σ H Q, t' σ H Q → t σ H Q) : PO X e t' := ⟨fun pins s σ H Q I q => h.run pins s σ H Q I (k σ H Q q)⟩
def oNone : FO := fun _ => .ok none
def asI (x : DV × Md) : R (Option Int) := match x.1 with
  | .i (.int i) => .ok (some i)
  | _ => .bad
theorem asI_ok {x : DV × Md} {o : Option Int} (h : asI x = .ok o) : ∃ i, x.1 = .i (.int i) ∧ o = some i := by
  unfold asI at h
  split at h
  · rename_i i e; cases h; exact ⟨i, e, rfl⟩
  · cases h
theorem asI_noex {x : DV × Md} {c : Str} {p : Exn} : asI x ≠ .ex c p := by
  unfold asI
  split <;> intro h <;> cases h
def oSome (f : FE) : FO := fun ρ => (f ρ).bind asI
section
variable {X : Cx} {e : Expr} {f : FE}
theorem ov_none : POv X none oNone := fun W tk => PO.imp po_none fun σ H Q h => by
  obtain ⟨H0, Pz, T, ρ, Fs, E, h⟩ := h
  exact h H (fun _ _ z => z)
theorem ov_some (h : PEv X e f) : POv X (some e) (oSome f) := fun W tk => PO.imp (po_some (h W tk)) fun σ H Q h => by
  obtain ⟨H0, Pz, T, ρ, Fs, E, h⟩ := h
  show tev X.K X.mg W f σ H _
  cases e1 : f ρ with
  | bad => simp only [oSome, e1, R.bind] at h
  | ex c p => simp only [oSome, e1, R.bind] at h; exact tev_ex E e1 h
  | ok x =>
    simp only [oSome, e1, R.bind] at h
    refine tev_ok E e1 fun v H1 F s1 E1 r1 o1 => ?_
    cases e2 : asI x with
    | bad => rw [e2] at h; exact h.elim
    | ex c p => exact absurd e2 asI_noex
    | ok b =>
      rw [e2] at h
      obtain ⟨i, h1, h2⟩ := asI_ok e2
      rw [h1] at r1
      subst h2
      cases r1 with
      | i r => cases r; exact ⟨i, rfl, h H1 s1⟩
end
def cutL {α : Type} (xs : List α) (lo hi : Option Int) : List α := (xs.drop (HT.sIx xs.length 0 lo)).take (HT.sIx xs.length xs.length hi - HT.sIx xs.length 0 lo)
theorem RpIs.cut {K : PySem.W.Frag} {H : Hp} {vs : List V} {xs : List IV} (r : RpIs K H vs xs) (lo hi : Option Int) : RpIs K H (cutV vs lo hi) (cutL xs lo hi) := by
  unfold cutV cutL
  rw [r.length]
  exact (r.drop _).take _
def opSl (lo hi : Option Int) : DV × Md → R (DV × Md)
  | (.l xs, _) => .ok (.l (cutL xs lo hi), .own)
  | (.f xs, _) => .ok (.l (cutL xs lo hi), .own)
  | (.i (.tup xs), _) => ok1 (.tup (cutL xs lo hi))
  | (.i (.str z), _) => if z.length ≤ 16777216 then ok1 (.str (cutS z lo hi)) else .bad
  | _ => .bad
theorem opSl_nx {lo hi : Option Int} : NoEx1 (opSl lo hi) := noex1_of fun x => by
  unfold opSl; split <;> first | exact .inr rfl | exact .inl ⟨_, rfl⟩ | (split <;> first | exact .inr rfl | exact .inl ⟨_, rfl⟩)
abbrev rSlAll (K : PySem.W.Frag) : V → Option Int → Option Int → Hp → VK → Prop := fun x lo hi H Q => rSlL K x lo hi H Q ∨ (rSlA K x lo hi H Q ∨ rSlS x lo hi H Q)
theorem sl_all {X : Cx} : SlR X (rSlAll X.K) := sl_list.or (sl_tupA.or sl_str)
theorem uSl {K : PySem.W.Frag} {lo hi : Option Int} : UOk K (fun x H Q => rSlAll K x lo hi H Q) (opSl lo hi) := by
  intro H0 Pz H T σ ρ Fs x z v F Q E r1 o1 e h
  obtain ⟨x, mx⟩ := x
  simp only at r1
  unfold opSl at e
  split at e
  · rename_i q; cases q; cases e
    cases r1 with | l s t => exact .inl ⟨_, _, rfl, SqL.of s, fun p hp => h _ _ _ (same_upd hp) (new_lst hp (t.cut _ _)) (new_ok E hp)⟩
  · rename_i q; cases q; cases e
    cases r1 with | f s t => exact .inl ⟨_, _, rfl, s.sq, fun p hp => h _ _ _ (same_upd hp) (new_lst hp (t.cut _ _)) (new_ok E hp)⟩
  · rename_i q; cases q; cases e
    cases r1 with
    | i r =>
      cases r with
      | @tup a0 vs0 _ s t =>
        refine .inr (.inl ⟨_, _, rfl, s, fun hw => ?_, fun _ p hp => h _ _ _ (same_upd hp) (new_tup hp (t.cut _ _)) .nil⟩)
        refine fin1 h (.tup s ?_)
        have e : cutV vs0 lo hi = vs0 := by
          unfold cutV
          rw [hw.1, hw.2, List.drop_zero, Nat.sub_zero, List.take_length]
        have := t.cut lo hi
        rw [e] at this
        exact this
  · rename_i q; cases q
    split at e
    · rename_i hl; cases e
      cases r1 with | i r => cases r; exact .inr (.inr ⟨_, rfl, by rw [slEq]; exact hl, fin1 h (.str _)⟩)
    · cases e
  · cases e
def eSlice (f : FE) (lo hi : FO) : FE := fun ρ => (f ρ).bind fun x => (lo ρ).bind fun l => (hi ρ).bind fun u => opSl l u x
theorem ev_slice {X : Cx} {e : Expr} {lo hi : Option Expr} {f : FE} {fl fh : FO} {pos p2 : Pos} (he : PEv X e f) (hl : POv X lo fl) (hh : POv X hi fh) : PEv X (.Subscript e (.Slice lo hi none p2) pos) (eSlice f fl fh) := fun W tk =>
  PE.imp (pe_slice sl_all (he W tk) (hl W tk) (hh W tk)) fun σ H Q h => by
    obtain ⟨H0, Pz, T, ρ, Fs, E, h⟩ := h
    show tev X.K X.mg W f σ H _
    cases e1 : f ρ with
    | bad => simp only [eSlice, e1, R.bind] at h
    | ex c p => simp only [eSlice, e1, R.bind] at h; exact tev_ex E e1 h
    | ok x =>
      simp only [eSlice, e1, R.bind] at h
      refine tev_ok E e1 fun v H1 F s1 E1 r1 o1 => ⟨H0, Pz, T, ρ, Fs, E1, ?_⟩
      cases e2 : fl ρ with
      | bad => simp only [e2] at h
      | ex c p => simp only [e2] at h; exact h.of s1
      | ok l =>
        simp only [e2] at h
        refine fun H2 s2 => ⟨H0, Pz, T, ρ, Fs, E1.same s2, ?_⟩
        cases e3 : fh ρ with
        | bad => simp only [e3] at h
        | ex c p => simp only [e3] at h; exact h.of (s1.trans s2)
        | ok u =>
          simp only [e3] at h
          refine fun H3 s3 => ?_
          cases e4 : opSl l u x with
          | bad => rw [e4] at h; exact h.elim
          | ex c p => exact absurd e4 (opSl_nx _ _ _)
          | ok z =>
            rw [e4] at h
            exact uSl H0 Pz H3 T σ ρ Fs x z v F Q ((E1.same s2).same s3) ((r1.same s2).same s3) ((o1.same s2).same s3) e4 fun v' H' F' s' r' o' => h v' H' F' (s1.trans (s2.trans (s3.trans s'))) r' o'

/-! ## chains a < b < c -/
def eChain (op op' : DV × Md → DV × Md → R (DV × Md)) (f g k : FE) : FE := fun ρ => (f ρ).bind fun x => (g ρ).bind fun y => (op x y).bind fun z => (asB z).bind fun b => if b then (k ρ).bind fun u => op' y u else .ok (.i (.bl false), .own)
section
variable {X : Cx} {a b c : Expr} {f g k : FE} {pos : Pos} {o o' : CmpOp} {r r' : R2} {op op' : DV × Md → DV × Md → R (DV × Md)}
theorem chain_imp {K : PySem.W.Frag} {mg : MG} {W : WX} (hb : BOk K r op) (hn : NoEx op) (hb' : BOk K r' op') (hn' : NoEx op') (σ : St) (H : Hp) (Q : VK) (h : tev K mg W (eChain op op' f g k) σ H Q) : tChain r r' (tev K mg W f) (tev K mg W g) (tev K mg W k) σ H Q := by
  obtain ⟨H0, Pz, T, ρ, Fs, E, h⟩ := h
  show tev K mg W f σ H _
  cases e1 : f ρ with
  | bad => simp only [eChain, e1, R.bind] at h
  | ex c p => simp only [eChain, e1, R.bind] at h; exact tev_ex E e1 h
  | ok x =>
    refine tev_ok E e1 fun v H1 F s1 E1 r1 o1 => ?_
    cases e2 : g ρ with
    | bad => simp only [eChain, e1, e2, R.bind] at h
    | ex c p => simp only [eChain, e1, e2, R.bind] at h; exact tev_ex E1 e2 (h.of s1)
    | ok y =>
      refine tev_ok E1 e2 fun u H2 G s2 E2 r2 o2 => ?_
      cases e3 : op x y with
      | bad => simp only [eChain, e1, e2, e3, R.bind] at h
      | ex c p => exact absurd e3 (hn _ _ _ _)
      | ok z =>
        refine hb H0 Pz H2 T σ ρ Fs x y z v u F G _ E2 (r1.same s2) (o1.same s2) r2 o2 e3 fun w H3 F3 s3 r3 o3 => ?_
        cases e4 : asB z with
        | bad => simp only [eChain, e1, e2, e3, e4, R.bind] at h
        | ex c p => exact absurd e4 asB_noex
        | ok b =>
          rw [asB_ok e4] at r3
          cases r3 with
          | i r3 =>
            cases r3
            refine ⟨b, rfl, ?_⟩
            cases b with
            | false =>
              simp only [eChain, e1, e2, e3, e4, R.bind, Bool.false_eq_true, if_false] at h ⊢
              exact h _ H3 [] (s1.trans (s2.trans s3)) (.i (.bl _)) .nil
            | true =>
              simp only [eChain, e1, e2, e3, e4, R.bind, if_true] at h ⊢
              cases e5 : k ρ with
              | bad => rw [e5] at h; exact h.elim
              | ex c p => rw [e5] at h; exact tev_ex (E2.same s3) e5 (h.of (s1.trans (s2.trans s3)))
              | ok t =>
                rw [e5] at h
                refine tev_ok (E2.same s3) e5 fun u4 H4 F4 s4 E4 r4 o4 => ?_
                simp only at h
                cases e6 : op' y t with
                | bad => rw [e6] at h; exact h.elim
                | ex c p => exact absurd e6 (hn' _ _ _ _)
                | ok z2 =>
                  rw [e6] at h
                  exact hb' H0 Pz H4 T σ ρ Fs y t z2 u u4 G F4 Q E4 ((r2.same s3).same s4) ((o2.same s3).same s4) r4 o4 e6 fun v' H' F' s' r' o' => h v' H' F' (s1.trans (s2.trans (s3.trans (s4.trans s')))) r' o'
theorem ev_chain (ho : OpR X (compareOp o) r) (hb : BOk X.K r op) (hn : NoEx op) (ho' : OpR X (compareOp o') r') (hb' : BOk X.K r' op') (hn' : NoEx op') (h1 : PEv X a f) (h2 : PEv X b g) (h3 : PEv X c k)
    (hm : lastMarks [o, o'] [b, c] = false := by with_unfolding_all rfl) : PEv X (.Compare a [o, o'] [b, c] pos) (eChain op op' f g k) := fun W tk =>
  PE.imp (pe_chain ho ho' (h1 W tk) (h2 W tk) (h3 W tk) hm) fun σ H Q h => chain_imp hb hn hb' hn' σ H Q h
theorem tv_chain (ho : OpR X (compareOp o) r) (hb : BOk X.K r op) (hn : NoEx op) (ho' : OpR X (compareOp o') r') (hb' : BOk X.K r' op') (hn' : NoEx op') (h1 : PEv X a f) (h2 : PEv X b g) (h3 : PEv X c k)
    (hm : lastMarks [o, o'] [b, c] = false := by with_unfolding_all rfl) : PTv X (.Compare a [o, o'] [b, c] pos) (tB (eChain op op' f g k)) := fun W tk =>
  PT.imp (pt_chain ho ho' (h1 W tk) (h2 W tk) (h3 W tk) hm) fun σ H Q h => tB_imp (fun σ H Q z => chain_imp hb hn hb' hn' σ H Q z) σ H Q h
end

/-! ## displays -/
/-- all plain values -/
def allI : List (DV × Md) → Option (List IV)
  | [] => some []
  | (.i x, _) :: r => (allI r).map (x :: ·)
  | _ :: _ => none
/-- the mode of a new list whose items are these -/
def mdL : List (DV × Md) → Md
  | [] => .own
  | (_, .own) :: r => mdL r
  | (_, .loc) :: r => mdL r
  | (_, .bor) :: r => (match mdL r with
    | .tmp => .tmp
    | _ => .bor)
  | (_, .tmp) :: _ => .tmp
def dLst (xs : List (DV × Md)) : R (DV × Md) := match allI xs with
  | some ys => if ys.length ≤ 16777216 then .ok (.l ys, .own) else .bad
  | none => if xs.length ≤ 16777216 then (match mdL xs with
    | .tmp => .bad
    | m => .ok (.m (xs.map (·.1)), m)) else .bad
def dTup (xs : List (DV × Md)) : R (DV × Md) := match allI xs with
  | some ys => if ys.length ≤ 16777216 then ok1 (.tup ys) else .bad
  | none => .bad
def eLst (g : FA) : FE := fun ρ => (g ρ).bind dLst
def eTup (g : FA) : FE := fun ρ => (g ρ).bind dTup
section
variable {K : PySem.W.Frag} {H0 Pz H : Hp} {T : Addr → Prop} {σ : St} {ρ : Env} {Fs : Nat → List Addr}
theorem allI_len : ∀ {xs : List (DV × Md)} {ys : List IV}, allI xs = some ys → ys.length = xs.length
  | [], _, h => by cases h; rfl
  | (.i x, _) :: r, ys, h => by
    simp only [allI, Option.map_eq_some_iff] at h
    obtain ⟨zs, h1, h2⟩ := h
    subst h2
    exact congrArg (· + 1) (allI_len h1)
  | (.l _, _) :: _, _, h => by cases h
  | (.m _, _) :: _, _, h => by cases h
  | (.f _, _) :: _, _, h => by cases h
theorem ArgsOk.allI : ∀ {vs : List V} {xs : List (DV × Md)} {ys : List IV}, ArgsOk K H0 Pz T ρ Fs H vs xs → allI xs = some ys → RpIs K H vs ys
  | _, [], _, h, e => by cases h; cases e; exact .nil
  | _, (.i x, _) :: r, ys, h, e => by
    simp only [Pv.allI, Option.map_eq_some_iff] at e
    obtain ⟨zs, h1, h2⟩ := e
    subst h2
    cases h with
    | cons a b c =>
      cases a with
      | i a => exact .cons a (ArgsOk.allI c h1)
  | _, (.l _, _) :: _, _, _, e => by cases e
  | _, (.m _, _) :: _, _, _, e => by cases e
  | _, (.f _, _) :: _, _, _, e => by cases e
/-- the items' footprints together -/
theorem ArgsOk.all : ∀ {vs : List V} {xs : List (DV × Md)}, ArgsOk K H0 Pz T ρ Fs H vs xs → ∃ F, RpDs K H vs (xs.map (·.1)) F ∧ (mdL xs ≠ .tmp → NoTops T ρ Fs F) ∧ (mdL xs = .own → ∀ a ∈ F, H0 a = none ∧ ∃ vs, H a = some (.lst vs)) ∧ (mdL xs = .own ∨ mdL xs = .bor ∨ mdL xs = .tmp)
  | _, [], h => by
    cases h
    exact ⟨[], .nil, fun _ => ⟨fun _ _ _ _ _ _ z => (nomatch z), fun _ _ z => (nomatch z)⟩, fun _ _ z => (nomatch z), .inl rfl⟩
  | _, (x, m) :: r, h => by
    cases h with
    | @cons v vs _ _ F a b c =>
      obtain ⟨G, h1, h2, h3, h4⟩ := ArgsOk.all c
      refine ⟨F ++ G, .cons a h1, ?_⟩
      have join : NoTops T ρ Fs F → NoTops T ρ Fs G → NoTops T ρ Fs (F ++ G) := fun p q => ⟨fun k d hk a' G' e ha => (List.mem_append.mp ha).elim (p.1 k d hk a' G' e) (q.1 k d hk a' G' e), fun a' ta ha => (List.mem_append.mp ha).elim (p.2 a' ta) (q.2 a' ta)⟩
      cases m with
      | own =>
        refine ⟨fun z => join (b.notops (by intro z; cases z)) (h2 z), fun z a' ha => ?_, h4⟩
        rcases List.mem_append.mp ha with ha | ha
        · exact b.fresh (.inl rfl) a' ha
        · exact h3 z a' ha
      | loc =>
        refine ⟨fun z => join (b.notops (by intro z; cases z)) (h2 z), fun z a' ha => ?_, h4⟩
        rcases List.mem_append.mp ha with ha | ha
        · exact b.fresh (.inr rfl) a' ha
        · exact h3 z a' ha
      | bor =>
        have nb := b.notops (by intro z; cases z)
        have e : mdL ((x, Md.bor) :: r) = (match mdL r with | .tmp => Md.tmp | _ => Md.bor) := rfl
        rw [e]
        rcases h4 with z | z | z
        · rw [z]; exact ⟨fun _ => join nb (h2 (by rw [z]; intro q; cases q)), fun q => (nomatch q), .inr (.inl rfl)⟩
        · rw [z]; exact ⟨fun _ => join nb (h2 (by rw [z]; intro q; cases q)), fun q => (nomatch q), .inr (.inl rfl)⟩
        · rw [z]; exact ⟨fun q => absurd rfl q, fun q => (nomatch q), .inr (.inr rfl)⟩
      | tmp => exact ⟨fun z => absurd rfl z, fun z => (nomatch z), .inr (.inr rfl)⟩
/-- a new list of items that lie already -/
theorem newM_ok (E : EnvR K H0 Pz T H σ ρ Fs) {p : Addr} {vs : List V} {xs : List DV} {F : List Addr} {m : Md} (hp : H p = none) (r : RpDs K H vs xs F) (hn : NoTops T ρ Fs F) (hm : m = .own ∨ m = .bor) (hf : m = .own → ∀ a ∈ F, H0 a = none ∧ ∃ vs, H a = some (.lst vs)) :
    RpD K (upd H p (.lst vs)) (.ref p) (.m xs) (p :: F) ∧ ResOk H0 Pz T ρ Fs (upd H p (.lst vs)) (p :: F) m := by
  have no : ∀ {G : Hp}, Same G H → G p = none := fun {G} e => by
    cases q : G p with
    | none => rfl
    | some o => rw [e _ _ q] at hp; cases hp
  have npF : p ∉ F := fun h => by
    obtain ⟨o, q⟩ := r.dom p h
    rw [hp] at q; cases q
  have nofs : ∀ j, p ∉ Fs j := fun j h => by
    obtain ⟨o, q⟩ := E.dom j p h
    rw [hp] at q; cases q
  refine ⟨.m upd_same (r.same (same_upd hp)), ⟨fun z a ha => ?_, fun z a G e => ?_, fun z => ⟨fun k d hk a G e ha => ?_, fun a ta ha => ?_⟩, fun z => ?_⟩⟩
  · have z : m = .own := by
      rcases z with z | z
      · exact z
      · rcases hm with q | q <;> (rw [q] at z; cases z)
    rcases List.mem_cons.mp ha with e | ha
    · subst e
      exact ⟨no (E.h0.trans E.pz), vs, upd_same⟩
    · obtain ⟨h1, us, h2⟩ := hf z a ha
      exact ⟨h1, us, (same_upd hp) _ _ h2⟩
  · cases e
    exact ⟨no E.pz, npF, nofs⟩
  · rcases List.mem_cons.mp ha with e' | ha
    · subst e'
      exact nofs k (by rw [e]; exact List.mem_cons_self)
    · exact hn.1 k d hk a G e ha
  · rcases List.mem_cons.mp ha with e' | ha
    · subst e'
      obtain ⟨o, q⟩ := E.th a ta
      rw [hp] at q; cases q
    · exact hn.2 a ta ha
  · rcases hm with q | q <;> (rw [q] at z; cases z)
end
section
variable {X : Cx} {es : List Expr} {g : FA} {pos : Pos}
theorem ev_lst (h : PAv X es g) : PEv X (.List es pos) (eLst g) := fun W tk =>
  PE.imp (pe_lst (h W tk)) fun σ H Q h => by
    obtain ⟨H0, Pz, T, ρ, Fs, E, h⟩ := h
    show tav X.K X.mg W g σ H _
    cases e1 : g ρ with
    | bad => simp only [eLst, e1, R.bind] at h
    | ex c p => simp only [eLst, e1, R.bind] at h; exact tav_ex E e1 h
    | ok xs =>
      simp only [eLst, e1, R.bind] at h
      refine tav_ok E e1 fun vs H1 s1 E1 r1 => ?_
      unfold dLst at h
      cases e2 : allI xs with
      | some ys =>
        simp only [e2] at h
        by_cases hl : ys.length ≤ 16777216
        · rw [if_pos hl] at h
          have t := r1.allI e2
          exact ⟨by rw [slEq, t.length]; exact hl, fun p hp => h _ _ _ (s1.trans (same_upd hp)) (new_lst hp t) (new_ok E1 hp)⟩
        · rw [if_neg hl] at h; exact h.elim
      | none =>
        simp only [e2] at h
        by_cases hl : xs.length ≤ 16777216
        · rw [if_pos hl] at h
          obtain ⟨F, t, nt, fr, mm⟩ := r1.all
          refine ⟨by rw [slEq, r1.length]; exact hl, fun p hp => ?_⟩
          rcases mm with z | z | z
          · rw [z] at h
            obtain ⟨q1, q2⟩ := newM_ok E1 (m := .own) hp t (nt (by rw [z]; intro q; cases q)) (.inl rfl) fun _ => fr z
            exact h _ _ _ (s1.trans (same_upd hp)) q1 q2
          · rw [z] at h
            obtain ⟨q1, q2⟩ := newM_ok E1 (m := .bor) hp t (nt (by rw [z]; intro q; cases q)) (.inr rfl) fun q => (nomatch q)
            exact h _ _ _ (s1.trans (same_upd hp)) q1 q2
          · rw [z] at h; exact h.elim
        · rw [if_neg hl] at h; exact h.elim
theorem ev_tup {k : Nat} (h : PAv X es g) : PEv X (.Tuple es k pos) (eTup g) := fun W tk =>
  PE.imp (pe_tup (h W tk)) fun σ H Q h => by
    obtain ⟨H0, Pz, T, ρ, Fs, E, h⟩ := h
    show tav X.K X.mg W g σ H _
    cases e1 : g ρ with
    | bad => simp only [eTup, e1, R.bind] at h
    | ex c p => simp only [eTup, e1, R.bind] at h; exact tav_ex E e1 h
    | ok xs =>
      simp only [eTup, e1, R.bind] at h
      refine tav_ok E e1 fun vs H1 s1 E1 r1 => ?_
      unfold dTup at h
      cases e2 : allI xs with
      | some ys =>
        simp only [e2] at h
        by_cases hl : ys.length ≤ 16777216
        · rw [if_pos hl] at h
          have t := r1.allI e2
          exact ⟨by rw [slEq, t.length]; exact hl, fun p hp => h _ _ _ (s1.trans (same_upd hp)) (new_tup hp t) .nil⟩
        · rw [if_neg hl] at h; exact h.elim
      | none => simp only [e2] at h
end
end L2.Pv

namespace L2.Pv
open PySem PySem.Spec PyProof.Rows

/-! ## what is walked -/
def Keep (H H' : Hp) (P : List Addr) : Prop := TKeep H H' ∧ FKeep H H' P
theorem Keep.of_same {H H' : Hp} {P : List Addr} (e : Same H H') (d : ∀ a ∈ P, ∃ o, H a = some o) : Keep H H' P := ⟨same_tkeep e, fun a ha => by
  obtain ⟨o, q⟩ := d a ha
  rw [q, e _ _ q]⟩
/-- an item as it comes: what it may lean on is within P -/
structure ItemOk (K : PySem.W.Frag) (H0 Pz : Hp) (T : Addr → Prop) (ρ : Env) (Fs : Nat → List Addr) (P : List Addr) (H : Hp) (v : V) (it : DV × Md) : Prop where
  ex : ∃ F, RpD K H v it.1 F ∧ ResOk H0 Pz T ρ Fs H F it.2 ∧ (∀ a ∈ F, a ∈ P) ∧ (it.2 = .own → F = []) ∧ it.2 ≠ .tmp
/-- an iterator J that begins at H1 and gives these items, as long as P is as it was -/
structure Walk (K : PySem.W.Frag) (H0 Pz : Hp) (T : Addr → Prop) (ρ : Env) (Fs : Nat → List Addr) (H1 : Hp) (P : List Addr) (J : It) (items : List (DV × Md)) (m : Md) : Prop where
  dom : ∀ a ∈ P, ∃ o, H1 a = some o
  notops : m ≠ .tmp → NoTops T ρ Fs P
  go : ∀ i H2, Keep H1 H2 P → i < items.length → J.go i H2
  stop : ∀ i H2, Keep H1 H2 P → i = items.length → J.stop i H2
  yld : ∀ i H2 x H3, Keep H1 H2 P → J.yld i H2 x H3 → ∀ it, items[i]? = some it → Same H2 H3 ∧ ItemOk K H0 Pz T ρ Fs P H3 x it
abbrev FI := Env → R (List (DV × Md) × Md)
def tiv (K : PySem.W.Frag) (mg : MG) (W : WX) (f : FI) : TI := fun σ H Q => ∃ H0 Pz T ρ Fs, EnvR K H0 Pz T H σ ρ Fs ∧ match f ρ with
  | .ok x => ∀ J H1 P, Same H H1 → Walk K H0 Pz T ρ Fs H1 P J x.1 x.2 → Q J H1
  | .ex c p => ExOk K mg W σ H c p
  | .bad => False
def PIv (X : Cx) (tg e : Expr) (f : FI) : Prop := ∀ W, Takes X W → PI X tg e (tiv X.K X.mg W f)
theorem PI.imp {X : Cx} {tg e : Expr} {t t' : TI} (h : PI X tg e t) (k : ∀ σ H Q, t' σ H Q → t σ H Q) : PI X tg e t' := ⟨fun pins s σ H Q I q => h.run pins s σ H Q I (k σ H Q q)⟩

def elI (xs : List IV) : List (DV × Md) := xs.map fun x => (.i x, .own)
def elM (m : Md) : List DV → List (DV × Md)
  | [] => []
  | .i x :: r => (.i x, .own) :: elM m r
  | d :: r => (d, if m = .bor then .bor else .loc) :: elM m r
def elS (x : Str) : List (DV × Md) := x.cps.toList.map fun c => (.i (.str ⟨#[c]⟩), .own)
def itemsOf : DV × Md → R (List (DV × Md) × Md)
  | (.l xs, m) => .ok (elI xs, m)
  | (.f xs, m) => .ok (elI xs, .own)
  | (.m xs, m) => .ok (elM m xs, m)
  | (.i (.tup xs), _) => .ok (elI xs, .own)
  | (.i (.str x), _) => .ok (elS x, .own)
  | _ => .bad
def iAny (f : FE) : FI := fun ρ => (f ρ).bind itemsOf
section
variable {K : PySem.W.Frag} {H0 Pz H H1 H2 : Hp} {T : Addr → Prop} {σ : St} {ρ : Env} {Fs : Nat → List Addr}
theorem elI_get {xs : List IV} {i : Nat} {it : DV × Md} (h : (elI xs)[i]? = some it) : ∃ x, xs[i]? = some x ∧ it = (.i x, .own) := by
  unfold elI at h
  rw [List.getElem?_map, Option.map_eq_some_iff] at h
  obtain ⟨x, h1, h2⟩ := h
  exact ⟨x, h1, h2.symm⟩
theorem elI_len (xs : List IV) : (elI xs).length = xs.length := by unfold elI; rw [List.length_map]
theorem elM_len (m : Md) : ∀ xs : List DV, (elM m xs).length = xs.length
  | [] => rfl
  | .i x :: r => congrArg (· + 1) (elM_len m r)
  | .l x :: r => congrArg (· + 1) (elM_len m r)
  | .f x :: r => congrArg (· + 1) (elM_len m r)
  | .m x :: r => congrArg (· + 1) (elM_len m r)
theorem elM_get {m : Md} : ∀ {xs : List DV} {i : Nat} {it : DV × Md}, (elM m xs)[i]? = some it → ∃ d, xs[i]? = some d ∧ it.1 = d ∧ ((∃ x, it = (.i x, .own)) ∨ it.2 = (if m = .bor then .bor else .loc))
  | [], _, _, h => by simp [elM] at h
  | .i x :: r, 0, it, h => by
    have e : (DV.i x, Md.own) = it := by simpa [elM] using h
    subst e
    exact ⟨_, rfl, rfl, .inl ⟨x, rfl⟩⟩
  | .l x :: r, 0, it, h => by
    have e : (DV.l x, (if m = .bor then Md.bor else Md.loc)) = it := by simpa [elM] using h
    subst e
    exact ⟨_, rfl, rfl, .inr rfl⟩
  | .f x :: r, 0, it, h => by
    have e : (DV.f x, (if m = .bor then Md.bor else Md.loc)) = it := by simpa [elM] using h
    subst e
    exact ⟨_, rfl, rfl, .inr rfl⟩
  | .m x :: r, 0, it, h => by
    have e : (DV.m x, (if m = .bor then Md.bor else Md.loc)) = it := by simpa [elM] using h
    subst e
    exact ⟨_, rfl, rfl, .inr rfl⟩
  | .i x :: r, i + 1, it, h => elM_get (xs := r) (i := i) (by simpa [elM] using h)
  | .l x :: r, i + 1, it, h => elM_get (xs := r) (i := i) (by simpa [elM] using h)
  | .f x :: r, i + 1, it, h => elM_get (xs := r) (i := i) (by simpa [elM] using h)
  | .m x :: r, i + 1, it, h => elM_get (xs := r) (i := i) (by simpa [elM] using h)
theorem item_I {P : List Addr} {v : V} {x : IV} (r : RpI K H v x) : ItemOk K H0 Pz T ρ Fs P H v (.i x, .own) := ⟨[], .i r, .nil, fun _ h => (nomatch h), fun _ => rfl, by intro z; cases z⟩
theorem noTops_nil : NoTops T ρ Fs [] := ⟨fun _ _ _ _ _ _ h => (nomatch h), fun _ _ h => (nomatch h)⟩
theorem atT {a : Addr} {vs : List V} {xs : List IV} (E : EnvR K H0 Pz T H1 σ ρ Fs) (s : SqT K H1 a vs) (t : RpIs K H1 vs xs) : Walk K H0 Pz T ρ Fs H1 [] (Itt K a) (elI xs) .own where
  dom := fun _ h => (nomatch h)
  notops := fun _ => noTops_nil
  go := fun i H2 k h => by
    rw [elI_len] at h
    have hl : i < vs.length := by rw [t.length]; exact h
    exact ⟨vs, vs[i], k.1.sq s, by simp [hl]⟩
  stop := fun i H2 k h => by
    rw [elI_len] at h
    exact ⟨vs, k.1.sq s, by rw [t.length, h]; exact Nat.le_refl _⟩
  yld := fun i H2 x H3 k y it hi => by
    obtain ⟨rfl, y⟩ := y
    obtain ⟨z, h1, rfl⟩ := elI_get hi
    obtain ⟨v, h2, h3⟩ := t.get h1
    have e := y vs (k.1.sq s)
    rw [h2] at e
    cases e
    exact ⟨fun _ _ q => q, item_I (h3.mono k.1)⟩
theorem atF {a : Addr} {vs : List V} {xs : List IV} (E : EnvR K H0 Pz T H1 σ ρ Fs) (s : FzL K H1 a vs) (t : RpIs K H1 vs xs) : Walk K H0 Pz T ρ Fs H1 [] (Itl K a) (elI xs) .own where
  dom := fun _ h => (nomatch h)
  notops := fun _ => noTops_nil
  go := fun i H2 k h => by
    rw [elI_len] at h
    have hl : i < vs.length := by rw [t.length]; exact h
    exact ⟨vs, vs[i], (k.1.fz s).sq, by simp [hl]⟩
  stop := fun i H2 k h => by
    rw [elI_len] at h
    exact ⟨vs, (k.1.fz s).sq, by rw [t.length, h]; exact Nat.le_refl _⟩
  yld := fun i H2 x H3 k y it hi => by
    obtain ⟨rfl, y⟩ := y
    obtain ⟨z, h1, rfl⟩ := elI_get hi
    obtain ⟨v, h2, h3⟩ := t.get h1
    have e := y vs (k.1.fz s).sq
    rw [h2] at e
    cases e
    exact ⟨fun _ _ q => q, item_I (h3.mono k.1)⟩
theorem atL {a : Addr} {vs : List V} {xs : List IV} {m : Md} (o : ResOk H0 Pz T ρ Fs H1 [a] m) (s : H1 a = some (.lst vs)) (t : RpIs K H1 vs xs) : Walk K H0 Pz T ρ Fs H1 [a] (Itl K a) (elI xs) m where
  dom := fun b h => by cases List.mem_singleton.mp h; exact ⟨_, s⟩
  notops := fun hm => o.notops hm
  go := fun i H2 k h => by
    rw [elI_len] at h
    have hl : i < vs.length := by rw [t.length]; exact h
    have s2 : H2 a = some (.lst vs) := by rw [k.2 a List.mem_cons_self]; exact s
    exact ⟨vs, vs[i], SqL.of s2, by simp [hl]⟩
  stop := fun i H2 k h => by
    rw [elI_len] at h
    have s2 : H2 a = some (.lst vs) := by rw [k.2 a List.mem_cons_self]; exact s
    exact ⟨vs, SqL.of s2, by rw [t.length, h]; exact Nat.le_refl _⟩
  yld := fun i H2 x H3 k y it hi => by
    obtain ⟨rfl, y⟩ := y
    obtain ⟨z, h1, rfl⟩ := elI_get hi
    obtain ⟨v, h2, h3⟩ := t.get h1
    have s2 : H3 a = some (.lst vs) := by rw [k.2 a List.mem_cons_self]; exact s
    have e := y vs (SqL.of s2)
    rw [h2] at e
    cases e
    exact ⟨fun _ _ q => q, item_I (h3.mono k.1)⟩
theorem atM {a : Addr} {vs : List V} {xs : List DV} {F : List Addr} {m : Md} (E : EnvR K H0 Pz T H1 σ ρ Fs) (o : ResOk H0 Pz T ρ Fs H1 (a :: F) m) (s : H1 a = some (.lst vs)) (t : RpDs K H1 vs xs F) : Walk K H0 Pz T ρ Fs H1 (a :: F) (Itl K a) (elM m xs) m where
  dom := fun b h => by
    rcases List.mem_cons.mp h with e | h
    · subst e; exact ⟨_, s⟩
    · exact t.dom b h
  notops := fun hm => o.notops hm
  go := fun i H2 k h => by
    rw [elM_len] at h
    have hl : i < vs.length := by rw [t.length]; exact h
    have s2 : H2 a = some (.lst vs) := by rw [k.2 a List.mem_cons_self]; exact s
    exact ⟨vs, vs[i], SqL.of s2, by simp [hl]⟩
  stop := fun i H2 k h => by
    rw [elM_len] at h
    have s2 : H2 a = some (.lst vs) := by rw [k.2 a List.mem_cons_self]; exact s
    exact ⟨vs, SqL.of s2, by rw [t.length, h]; exact Nat.le_refl _⟩
  yld := fun i H2 x H3 k y it hi => by
    obtain ⟨rfl, y⟩ := y
    obtain ⟨d, h1, h1', h1''⟩ := elM_get hi
    obtain ⟨v, G, h2, h3, h4⟩ := t.get h1
    have s2 : H3 a = some (.lst vs) := by rw [k.2 a List.mem_cons_self]; exact s
    have e := y vs (SqL.of s2)
    rw [h2] at e
    cases e
    refine ⟨fun _ _ q => q, ?_⟩
    have h3' : RpD K H3 _ d G := h3.mono k.1 fun c hc => k.2 c (List.mem_cons_of_mem _ (h4 c hc))
    obtain ⟨d', m'⟩ := it
    simp only at h1' h1''
    subst h1'
    rcases h1'' with ⟨z, e⟩ | e
    · cases e
      cases h3' with
      | i h3' => exact item_I h3'
    · subst e
      have sub : ∀ c ∈ G, c ∈ a :: F := fun c hc => List.mem_cons_of_mem _ (h4 c hc)
      have keepv : ∀ c ∈ G, (∃ us, H1 c = some (.lst us)) → ∃ us, H3 c = some (.lst us) := fun c hc ⟨us, q⟩ => ⟨us, by rw [k.2 c (sub c hc)]; exact q⟩
      refine ⟨G, h3', ?_, sub, fun z => ?_, ?_⟩
      · by_cases hb : m = .bor
        · subst hb
          have n := o.notops (by intro z; cases z)
          show ResOk _ _ _ _ _ _ _ (if Md.bor = Md.bor then Md.bor else Md.loc)
          rw [if_pos rfl]
          exact ⟨fun z => (by rcases z with z | z <;> cases z), fun z => (nomatch z), fun _ => ⟨fun k d hk a' G' e ha => n.1 k d hk a' G' e (sub _ ha), fun a' ta ha => n.2 a' ta (sub _ ha)⟩, fun z => (nomatch z)⟩
        · show ResOk _ _ _ _ _ _ _ (if m = Md.bor then Md.bor else Md.loc)
          rw [if_neg hb]
          by_cases ht : m = .tmp
          · rcases o.tmp ht with z | ⟨k0, d0, hk0, eF⟩
            · cases z
            · have top := E.top k0 d0 hk0 a F eF.symm
              have fr := E.fresh k0 d0 .own hk0 (by intro z; cases z)
              refine ⟨fun _ c hc => ⟨(fr c (by rw [← eF]; exact sub c hc)).1, keepv c hc (fr c (by rw [← eF]; exact sub c hc)).2⟩, fun z => (nomatch z), fun _ => ⟨fun k d hk a' G' e ha => ?_, fun a' ta ha => E.tt a' ta k0 (by rw [← eF]; exact sub _ ha)⟩, fun z => (nomatch z)⟩
              by_cases hkk : k = k0
              · subst hkk
                rw [← eF] at e
                cases e
                exact top.2.1 (h4 _ ha)
              · have := (E.top k d hk a' G' e).2.2 k0 (fun z => hkk z.symm)
                exact this (by rw [← eF]; exact sub _ ha)
          · have n := o.notops ht
            have ho : m = .own ∨ m = .loc := by cases m <;> first | exact .inl rfl | exact .inr rfl | exact absurd rfl hb | exact absurd rfl ht
            exact ⟨fun _ c hc => ⟨(o.fresh ho c (sub c hc)).1, keepv c hc (o.fresh ho c (sub c hc)).2⟩, fun z => (nomatch z), fun _ => ⟨fun k d hk a' G' e ha => n.1 k d hk a' G' e (sub _ ha), fun a' ta ha => n.2 a' ta (sub _ ha)⟩, fun z => (nomatch z)⟩
      · have z : (if m = Md.bor then Md.bor else Md.loc) = Md.own := z
        split at z <;> cases z
      · show (if m = Md.bor then Md.bor else Md.loc) ≠ Md.tmp
        split <;> (intro z; cases z)
theorem atS {x : Str} (E : EnvR K H0 Pz T H1 σ ρ Fs) : Walk K H0 Pz T ρ Fs H1 [] (Its x) (elS x) .own where
  dom := fun _ h => (nomatch h)
  notops := fun _ => noTops_nil
  go := fun i H2 k h => by
    unfold elS at h
    rw [List.length_map, Array.length_toList] at h
    exact h
  stop := fun i H2 k h => by
    unfold elS at h
    rw [List.length_map, Array.length_toList] at h
    exact Nat.le_of_eq h.symm
  yld := fun i H2 v H3 k y it hi => by
    obtain ⟨rfl, c, hc, rfl⟩ := y
    unfold elS at hi
    rw [List.getElem?_map, Array.getElem?_toList, hc] at hi
    cases hi
    exact ⟨fun _ _ q => q, item_I (.str _)⟩
end
/-- any list, tuple or text -/
def iAnyT (K : PySem.W.Frag) (te : TE) : TI := fun σ H R => te σ H fun x H1 => (∃ a, x = .ref a ∧ (∃ xs, SqL K H1 a xs) ∧ R (Itl K a) H1) ∨ (∃ a, x = .ref a ∧ (∃ xs, SqT K H1 a xs) ∧ R (Itt K a) H1) ∨ ∃ z, x = .str z ∧ R (Its z) H1
section
variable {X : Cx} {tg e : Expr}
theorem pi_any {te : TE} (he : PE X e te) : PI X tg e (iAnyT X.K te) := by
  refine ⟨fun pins s σ H R I h => ?_⟩
  refine thn (he.run pins s σ H _ I h) fun v s1 ⟨x, H1, I1, r1, q1⟩ => ?_
  rcases q1 with ⟨a, e, ⟨xs, hq⟩, q⟩ | ⟨a, e, ⟨xs, hq⟩, q⟩ | ⟨z, e, q⟩
  · subst e
    cases r1
    obtain ⟨its, rv, p, hz⟩ := I1.list hq
    refine wpAny_pyIter_list p.isList ?_
    refine ⟨s1.heap.objs.size, [s1.heap.objs.size], _, _, H1, rfl, I1.kept (t' := s1.toks) fun b o e => Heap.get?_push_of_some _ e, turn_list a _, ⟨_, Heap.get?_push_size _ rfl, rfl, rfl⟩, fun b hb => ?_, q⟩
    have e : b = s1.heap.objs.size := by simpa using hb
    subst e
    exact I1.fpOk (Nat.le_refl _) (I1.hok.fresh (Nat.le_refl _))
  · subst e
    cases r1
    obtain ⟨its, rv, p, hz⟩ := I1.tuple hq
    refine wpAny_pyIter_tuple (show s1.heap.IsTuple a its.toArray from p) ?_
    refine ⟨s1.heap.objs.size, [s1.heap.objs.size], _, _, H1, rfl, I1.kept (t' := s1.toks) fun b o e => Heap.get?_push_of_some _ e, turn_tuple a _, ⟨_, Heap.get?_push_size _ rfl, rfl, rfl⟩, fun b hb => ?_, q⟩
    have e : b = s1.heap.objs.size := by simpa using hb
    subst e
    exact I1.fpOk (Nat.le_refl _) (I1.hok.fresh (Nat.le_refl _))
  · subst e
    obtain ⟨t, rfl⟩ := r1
    cases ha : z.cps.all (· < 128)
    · exact wpAny_pyIter_wide ha (pi_one (tk := s1.toks) I1 _ (turn_str _ z t "str_iterator" (.inr rfl)) ⟨_, Heap.get?_push_size _ rfl, rfl, rfl⟩ q)
    · exact wpAny_pyIter_ascii ha (pi_one (tk := s1.toks) I1 _ (turn_str _ z t "str_ascii_iterator" (.inl rfl)) ⟨_, Heap.get?_push_size _ rfl, rfl, rfl⟩ q)
theorem itemsOf_noex {x : DV × Md} {c : Str} {p : Exn} : itemsOf x ≠ .ex c p := by
  unfold itemsOf
  split <;> intro h <;> cases h
theorem iv_any {f : FE} (he : PEv X e f) : PIv X tg e (iAny f) := fun W tk =>
  PI.imp (pi_any (he W tk)) fun σ H Q h => by
    obtain ⟨H0, Pz, T, ρ, Fs, E, h⟩ := h
    show tev X.K X.mg W f σ H _
    cases e1 : f ρ with
    | bad => simp only [iAny, e1, R.bind] at h
    | ex c p => simp only [iAny, e1, R.bind] at h; exact tev_ex E e1 h
    | ok x =>
      simp only [iAny, e1, R.bind] at h
      refine tev_ok E e1 fun v H1 F s1 E1 r1 o1 => ?_
      obtain ⟨x, m⟩ := x
      simp only at r1 o1
      cases r1 with
      | i r =>
        cases r with
        | tup s t => exact .inr (.inl ⟨_, rfl, ⟨_, s⟩, h _ H1 [] s1 (atT E1 s t)⟩)
        | str z => exact .inr (.inr ⟨_, rfl, h _ H1 [] s1 (atS E1)⟩)
        | non => exact h.elim
        | bl b => exact h.elim
        | int i => exact h.elim
      | l s t => exact .inl ⟨_, rfl, ⟨_, SqL.of s⟩, h _ H1 _ s1 (atL o1 s t)⟩
      | f s t => exact .inl ⟨_, rfl, ⟨_, s.sq⟩, h _ H1 _ s1 (atF E1 s t)⟩
      | m s t => exact .inl ⟨_, rfl, ⟨_, SqL.of s⟩, h _ H1 _ s1 (atM E1 o1 s t)⟩
end
/-! ### ranges -/
def rgL (lo : Int) (n : Nat) : List (DV × Md) := (List.range n).map fun (k : Nat) => (.i (.int (lo + (k : Int))), .own)
def rgC (lo c : Int) (n : Nat) : List (DV × Md) := (List.range n).map fun (k : Nat) => (.i (.int (lo + (k : Int) * c)), .own)
def smI (i : Int) : Bool := decide (i.natAbs < 2 ^ 62)
theorem smI_iff {i : Int} (h : smI i = true) : -(2 ^ 62) ≤ i ∧ i < 2 ^ 62 := by
  have h1 : i.natAbs < 2 ^ 62 := of_decide_eq_true h
  omega
def iRg1 (f : FE) : FI := fun ρ => (f ρ).bind fun x => match x.1 with
  | .i (.int j) => if smI j then .ok (rgL 0 j.toNat, .own) else .bad
  | _ => .bad
def iRg2 (f g : FE) : FI := fun ρ => (f ρ).bind fun x => (g ρ).bind fun y => match x.1, y.1 with
  | .i (.int i), .i (.int j) => if smI i && smI j then .ok (rgL i (j - i).toNat, .own) else .bad
  | _, _ => .bad
/-- range(i, j, -1) and other steps written out -/
def iRg3 (f g : FE) (c : Int) : FI := fun ρ => (f ρ).bind fun x => (g ρ).bind fun y => match x.1, y.1 with
  | .i (.int i), .i (.int j) => if smI i && smI j && decide (c ≠ 0) && decide (c.natAbs < 1073741824) && Builtin.Range.small i j c then .ok (rgC i c (Builtin.Range.rangeSize i j c).toNat, .own) else .bad
  | _, _ => .bad
section
variable {K : PySem.W.Frag} {H0 Pz H H1 H2 : Hp} {T : Addr → Prop} {σ : St} {ρ : Env} {Fs : Nat → List Addr}
theorem atR {lo : Int} {n : Nat} : Walk K H0 Pz T ρ Fs H1 [] (Itr lo n) (rgL lo n) .own where
  dom := fun _ h => (nomatch h)
  notops := fun _ => noTops_nil
  go := fun i H2 k h => by
    unfold rgL at h
    rw [List.length_map, List.length_range] at h
    exact h
  stop := fun i H2 k h => by
    unfold rgL at h
    rw [List.length_map, List.length_range] at h
    exact Nat.le_of_eq h.symm
  yld := fun i H2 v H3 k y it hi => by
    obtain ⟨rfl, rfl⟩ := y
    unfold rgL at hi
    rw [List.getElem?_map, Option.map_eq_some_iff] at hi
    obtain ⟨j, h1, h2⟩ := hi
    obtain ⟨hl, h1⟩ := List.getElem?_eq_some_iff.mp h1
    rw [List.getElem_range] at h1
    subst h1 h2
    exact ⟨fun _ _ q => q, item_I (.int _)⟩
theorem atC {lo c : Int} {n : Nat} : Walk K H0 Pz T ρ Fs H1 [] (Itc lo c n) (rgC lo c n) .own where
  dom := fun _ h => (nomatch h)
  notops := fun _ => noTops_nil
  go := fun i H2 k h => by
    unfold rgC at h
    rw [List.length_map, List.length_range] at h
    exact h
  stop := fun i H2 k h => by
    unfold rgC at h
    rw [List.length_map, List.length_range] at h
    exact Nat.le_of_eq h.symm
  yld := fun i H2 v H3 k y it hi => by
    obtain ⟨rfl, rfl⟩ := y
    unfold rgC at hi
    rw [List.getElem?_map, Option.map_eq_some_iff] at hi
    obtain ⟨j, h1, h2⟩ := hi
    obtain ⟨hl, h1⟩ := List.getElem?_eq_some_iff.mp h1
    rw [List.getElem_range] at h1
    subst h1 h2
    exact ⟨fun _ _ q => q, item_I (.int _)⟩
end
section
variable {X : Cx} {tg a b c : Expr} {f g : FE} {p pos : Pos}
theorem iv_rg1 (hg : Gl X "range") (hm : X.mg "range" = none) (ha : PEv X a f) (hs : starEach [a] X.env = [(false, eval a X.env)] := by rfl) : PIv X tg (.Call (.Name "range" p) [a] [] pos) (iRg1 f) := fun W tk =>
  PI.imp (pi_range1 hg hm (pa_cons (ha W tk) pa_nil hs) hs) fun σ H Q h => by
    obtain ⟨H0, Pz, T, ρ, Fs, E, h⟩ := h
    show tev X.K X.mg W f σ H _
    cases e1 : f ρ with
    | bad => simp only [iRg1, e1, R.bind] at h
    | ex c p => simp only [iRg1, e1, R.bind] at h; exact tev_ex E e1 h
    | ok x =>
      simp only [iRg1, e1, R.bind] at h
      refine tev_ok E e1 fun v H1 F s1 E1 r1 o1 => ?_
      obtain ⟨x, m⟩ := x
      simp only at r1 h
      split at h
      · rename_i q
        split at q
        · rename_i j
          split at q
          · rename_i hj
            cases q
            cases r1 with
            | i r =>
              cases r
              obtain ⟨h1, h2⟩ := smI_iff hj
              exact ⟨_, rfl, h1, h2, h _ H1 [] s1 atR⟩
          · cases q
        · cases q
      · rename_i q
        split at q
        · split at q <;> cases q
        · cases q
      · exact h.elim
theorem iv_rg2 (hg : Gl X "range") (hm : X.mg "range" = none) (ha : PEv X a f) (hb : PEv X b g) (hs : starEach [a, b] X.env = [(false, eval a X.env), (false, eval b X.env)] := by rfl) (hs2 : starEach [b] X.env = [(false, eval b X.env)] := by rfl) : PIv X tg (.Call (.Name "range" p) [a, b] [] pos) (iRg2 f g) := fun W tk =>
  PI.imp (pi_range2 hg hm (pa_cons (ha W tk) (pa_cons (hb W tk) pa_nil hs2) (by rw [hs, hs2])) hs hs2) fun σ H Q h => by
    obtain ⟨H0, Pz, T, ρ, Fs, E, h⟩ := h
    show tev X.K X.mg W f σ H _
    cases e1 : f ρ with
    | bad => simp only [iRg2, e1, R.bind] at h
    | ex c p => simp only [iRg2, e1, R.bind] at h; exact tev_ex E e1 h
    | ok x =>
      refine tev_ok E e1 fun v H1 F s1 E1 r1 o1 => ?_
      show tev X.K X.mg W g σ H1 _
      cases e2 : g ρ with
      | bad => simp only [iRg2, e1, e2, R.bind] at h
      | ex c p => simp only [iRg2, e1, e2, R.bind] at h; exact tev_ex E1 e2 (h.of s1)
      | ok y =>
        simp only [iRg2, e1, e2, R.bind] at h
        refine tev_ok E1 e2 fun u H2 G s2 E2 r2 o2 => ?_
        obtain ⟨x, m⟩ := x
        obtain ⟨y, m'⟩ := y
        simp only at r1 r2 h
        split at h
        · rename_i q
          split at q
          · split at q
            · rename_i hj
              cases q
              obtain ⟨hi, hj⟩ := Bool.and_eq_true_iff.mp hj
              cases r1 with
              | i r =>
                cases r
                cases r2 with
                | i r2 =>
                  cases r2
                  obtain ⟨h1, h2⟩ := smI_iff hi
                  obtain ⟨h3, h4⟩ := smI_iff hj
                  exact ⟨_, _, rfl, ⟨h1, h2, h3, h4⟩, h _ H2 [] (s1.trans s2) atR⟩
            · cases q
          · cases q
        · rename_i q
          split at q
          · split at q <;> cases q
          · cases q
        · exact h.elim
/-- a written step -/
def IsC (X : Cx) (e : Expr) (c : Int) : Prop := PEv X e (eC (.int c))
theorem iv_rg3 {st : Int} (hg : Gl X "range") (hm : X.mg "range" = none) (ha : PEv X a f) (hb : PEv X b g) (hc : PEv X c (fun _ => ok1 (.int st))) (hs : starEach [a, b, c] X.env = (false, eval a X.env) :: starEach [b, c] X.env := by rfl) (hs1 : starEach [b, c] X.env = (false, eval b X.env) :: starEach [c] X.env := by rfl)
    (hs2 : starEach [c] X.env = (false, eval c X.env) :: starEach [] X.env := by rfl) (hpl : (backTo pos (starEach [b, c] X.env)).any (·.1) = false := by rfl) : PIv X tg (.Call (.Name "range" p) [a, b, c] [] pos) (iRg3 f g st) := fun W tk =>
  PI.imp (pi_range3 hg hm (pa_cons (ha W tk) (pa_cons (hb W tk) (pa_cons (hc W tk) pa_nil hs2) hs1) hs) hs hpl) fun σ H Q h => by
    obtain ⟨H0, Pz, T, ρ, Fs, E, h⟩ := h
    show tev X.K X.mg W f σ H _
    cases e1 : f ρ with
    | bad => simp only [iRg3, e1, R.bind] at h
    | ex c p => simp only [iRg3, e1, R.bind] at h; exact tev_ex E e1 h
    | ok x =>
      refine tev_ok E e1 fun v H1 F s1 E1 r1 o1 => ?_
      show tev X.K X.mg W g σ H1 _
      cases e2 : g ρ with
      | bad => simp only [iRg3, e1, e2, R.bind] at h
      | ex c p => simp only [iRg3, e1, e2, R.bind] at h; exact tev_ex E1 e2 (h.of s1)
      | ok y =>
        simp only [iRg3, e1, e2, R.bind] at h
        refine tev_ok E1 e2 fun u H2 G s2 E2 r2 o2 => ?_
        show tev X.K X.mg W (fun _ => ok1 (.int st)) σ H2 _
        refine tev_ok (x := (.i (.int st), .own)) E2 rfl fun w H3 G3 s3 E3 r3 o3 => ?_
        obtain ⟨x, m⟩ := x
        obtain ⟨y, m'⟩ := y
        simp only at r1 r2 h
        split at h
        · rename_i q
          split at q
          · split at q
            · rename_i hj
              cases q
              simp only [Bool.and_eq_true, decide_eq_true_eq] at hj
              obtain ⟨⟨⟨⟨hi, hj⟩, hc0⟩, hc1⟩, hsm⟩ := hj
              cases r1 with
              | i r =>
                cases r
                cases r2 with
                | i r2 =>
                  cases r2
                  cases r3 with
                  | i r3 =>
                    cases r3
                    have nn : ∀ i j c : Int, 0 ≤ Builtin.Range.rangeSize i j c := fun i j c => by
                      unfold Builtin.Range.rangeSize
                      repeat' split
                      all_goals first | omega | (apply Int.ediv_nonneg <;> omega) | (have := Int.ediv_nonneg (a := j - i - 1) (b := c) (by omega) (by omega); omega) | (have := Int.ediv_nonneg (a := i - j - 1) (b := -c) (by omega) (by omega); omega)
                    exact ⟨_, _, _, _, rfl, ⟨hc0, hc1, hsm, (Int.toNat_of_nonneg (nn _ _ _)).symm⟩, h _ H3 [] (s1.trans (s2.trans s3)) atC⟩
            · cases q
          · cases q
        · rename_i q
          split at q
          · split at q <;> cases q
          · cases q
        · exact h.elim
end
end L2.Pv

namespace L2.Pv
open PySem PySem.Spec PyProof.Rows

/-! ## storing -/
def nrmM : DV → Md → Md
  | .i _, _ => .own
  | _, m => m
def stF (Fs : Nat → List Addr) (i : Nat) (F : List Addr) : Nat → List Addr := fun j => if j = i then F else Fs j
theorem stF_same {Fs : Nat → List Addr} {i : Nat} {F : List Addr} : stF Fs i F i = F := if_pos rfl
theorem stF_ne {Fs : Nat → List Addr} {i j : Nat} {F : List Addr} (h : j ≠ i) : stF Fs i F j = Fs j := if_neg h
section
variable {K : PySem.W.Frag} {H0 Pz H H1 H2 : Hp} {T : Addr → Prop} {σ : St} {ρ : Env} {Fs : Nat → List Addr}
theorem ResOk.nrm {F : List Addr} {v : V} {d : DV} {m : Md} (r : RpD K H v d F) (o : ResOk H0 Pz T ρ Fs H F m) : ResOk H0 Pz T ρ Fs H F (nrmM d m) := by
  cases r with
  | i r => exact .nil
  | l => exact o
  | f => exact o
  | m => exact o
theorem EnvR.set (E : EnvR K H0 Pz T H σ ρ Fs) {i : Nat} {v : V} {d : DV} {m : Md} {F : List Addr} (hi : i < ρ.length) (r : RpD K H v d F) (o : ResOk H0 Pz T ρ Fs H F m) (hm : m ≠ .tmp) : EnvR K H0 Pz T H (σ.set i (some v)) (ρ.set i (some (d, m))) (stF Fs i F) where
  h0 := E.h0
  pz := E.pz
  tn := E.tn
  th := E.th
  len := by rw [List.length_set, List.length_set]; exact E.len
  at_ := fun j d' m' h => by
    by_cases hj : j = i
    · subst hj
      rw [List.getElem?_set_self hi] at h
      cases h
      rw [stF_same]
      exact ⟨v, List.getElem?_set_self (by rw [← E.len]; exact hi), r⟩
    · rw [List.getElem?_set_ne (fun z => hj z.symm)] at h
      rw [stF_ne hj, List.getElem?_set_ne (fun z => hj z.symm)]
      exact E.at_ j d' m' h
  fresh := fun j d' m' h hb => by
    by_cases hj : j = i
    · subst hj
      rw [List.getElem?_set_self hi] at h
      cases h
      rw [stF_same]
      exact o.fresh (by cases m <;> first | exact .inl rfl | exact .inr rfl | exact absurd rfl hb | exact absurd rfl hm)
    · rw [List.getElem?_set_ne (fun z => hj z.symm)] at h
      rw [stF_ne hj]
      exact E.fresh j d' m' h hb
  top := fun j d' h a G e => by
    by_cases hj : j = i
    · subst hj
      rw [List.getElem?_set_self hi] at h
      cases h
      rw [stF_same] at e
      obtain ⟨h1, h2, h3⟩ := o.top rfl a G e
      exact ⟨h1, h2, fun k hk => by rw [stF_ne hk]; exact h3 k⟩
    · rw [List.getElem?_set_ne (fun z => hj z.symm)] at h
      rw [stF_ne hj] at e
      obtain ⟨h1, h2, h3⟩ := E.top j d' h a G e
      refine ⟨h1, h2, fun k hk => ?_⟩
      by_cases hk' : k = i
      · subst hk'
        rw [stF_same]
        exact (o.notops hm).1 j d' h a G e
      · rw [stF_ne hk']
        exact h3 k hk
  tt := fun a ta j => by
    by_cases hj : j = i
    · subst hj
      rw [stF_same]
      exact (o.notops hm).2 a ta
    · rw [stF_ne hj]
      exact E.tt a ta j
  nil := fun j h => by
    by_cases hj : j = i
    · subst hj
      exact absurd (List.getElem?_set_self hi) (h d m)
    · rw [stF_ne hj]
      refine E.nil j fun d' m' z => h d' m' ?_
      rw [List.getElem?_set_ne (fun z => hj z.symm)]
      exact z
end
/-! ## targets -/
abbrev TF := DV × Md → Env → Option Env
abbrev TFs := List IV → Env → Option Env
structure Agr (vs : List Nat) (σ σ' : St) (ρ ρ' : Env) (Fs Fs' : Nat → List Addr) : Prop where
  len : σ'.length = σ.length
  at_ : ∀ j, j ∉ vs → σ'[j]? = σ[j]? ∧ ρ'[j]? = ρ[j]? ∧ Fs' j = Fs j
theorem Agr.refl {vs : List Nat} {σ : St} {ρ : Env} {Fs : Nat → List Addr} : Agr vs σ σ ρ ρ Fs Fs := ⟨rfl, fun _ _ => ⟨rfl, rfl, rfl⟩⟩
theorem Agr.trans {vs : List Nat} {σ σ1 σ2 : St} {ρ ρ1 ρ2 : Env} {Fs Fs1 Fs2 : Nat → List Addr} (a : Agr vs σ σ1 ρ ρ1 Fs Fs1) (b : Agr vs σ1 σ2 ρ1 ρ2 Fs1 Fs2) : Agr vs σ σ2 ρ ρ2 Fs Fs2 :=
  ⟨b.len.trans a.len, fun j hj => ⟨(b.at_ j hj).1.trans (a.at_ j hj).1, (b.at_ j hj).2.1.trans (a.at_ j hj).2.1, (b.at_ j hj).2.2.trans (a.at_ j hj).2.2⟩⟩
def tgv (K : PySem.W.Frag) (vs : List Nat) (t : TF) : TG := fun v σ H Q => ∃ H0 Pz T ρ Fs x F, EnvR K H0 Pz T H σ ρ Fs ∧ RpD K H v x.1 F ∧ ResOk H0 Pz T ρ Fs H F x.2 ∧ x.2 ≠ .tmp ∧ match t x ρ with
  | some ρ' => ∀ σ' H' Fs', Same H H' → EnvR K H0 Pz T H' σ' ρ' Fs' → Agr vs σ σ' ρ ρ' Fs Fs' → Q σ' H'
  | none => False
def PGv (X : Cx) (vs : List Nat) (tg : Expr) (t : TF) : Prop := PG X tg (tgv X.K vs t)
def tgsv (K : PySem.W.Frag) (vs : List Nat) (t : TFs) : TGs := fun us σ H Q => ∃ H0 Pz T ρ Fs xs, EnvR K H0 Pz T H σ ρ Fs ∧ RpIs K H us xs ∧ match t xs ρ with
  | some ρ' => ∀ σ' H' Fs', Same H H' → EnvR K H0 Pz T H' σ' ρ' Fs' → Agr vs σ σ' ρ ρ' Fs Fs' → Q σ' H'
  | none => False
def PGsv (X : Cx) (vs : List Nat) (ts : List Expr) (t : TFs) : Prop := PGs X ts (tgsv X.K vs t)
theorem PG.imp {X : Cx} {e : Expr} {t t' : TG} (h : PG X e t) (k : ∀ v σ H Q, t' v σ H Q → t v σ H Q) : PG X e t' := ⟨fun pins s σ H v u Q I r q => h.run pins s σ H v u Q I r (k v σ H Q q)⟩
theorem PGs.imp {X : Cx} {e : List Expr} {t t' : TGs} (h : PGs X e t) (k : ∀ v σ H Q, t' v σ H Q → t v σ H Q) : PGs X e t' := ⟨fun pins s σ H v u Q I r q => h.run pins s σ H v u Q I r (k v σ H Q q)⟩
def tName (i : Nat) : TF := fun x ρ => if i < ρ.length then some (ρ.set i (some (x.1, nrmM x.1 x.2))) else none
def tsNil : TFs := fun xs ρ => match xs with
  | [] => some ρ
  | _ => none
def tsCons (t : TF) (ts : TFs) : TFs := fun xs ρ => match xs with
  | x :: r => (t (.i x, .own) ρ).bind (ts r)
  | [] => none
/-- a tuple, or a list, of that length -/
def tTupT (n : Nat) (ts : TFs) : TF := fun x ρ => match x.1 with
  | .i (.tup xs) => if xs.length = n then ts xs ρ else none
  | .l xs => if xs.length = n then ts xs ρ else none
  | _ => none
section
variable {X : Cx} {pos : Pos} {vs : List Nat}
theorem gv_name {i : Nat} {x : Str} (hN : X.N.Nodup) (hi : X.N[i]? = some x) (hx : Loc X.env.scope x) (hv : i ∈ vs) (hf : X.fn x = true ∨ X.env.scope.names.lookup x = some .local := by first | exact .inl rfl | exact .inr rfl | assumption) : PGv X vs (.Name x pos) (tName i) :=
  PG.imp (pg_name hN hi hx hf) fun v σ H Q h => by
    obtain ⟨H0, Pz, T, ρ, Fs, x, F, E, r, o, hm, h⟩ := h
    unfold tName at h
    by_cases hl : i < ρ.length
    · rw [if_pos hl] at h
      refine h _ H _ (fun _ _ z => z) (E.set hl r (o.nrm r) ?_) ⟨by rw [List.length_set], fun j hj => ?_⟩
      · cases x with
        | mk d m => cases d <;> first | exact hm | (intro z; cases z)
      · have ne : i ≠ j := fun z => hj (z ▸ hv)
        rw [List.getElem?_set_ne ne, List.getElem?_set_ne ne, stF_ne (fun z => ne z.symm)]
        exact ⟨rfl, rfl, rfl⟩
    · rw [if_neg hl] at h; exact h.elim
theorem gsv_nil : PGsv X vs [] tsNil := PGs.imp pgs_nil fun us σ H Q h => by
  obtain ⟨H0, Pz, T, ρ, Fs, xs, E, r, h⟩ := h
  cases r with
  | nil => exact ⟨rfl, h σ H Fs (fun _ _ z => z) E .refl⟩
  | cons a b => exact h.elim
theorem gsv_cons {e : Expr} {es : List Expr} {t : TF} {ts : TFs} (h1 : PGv X vs e t) (h2 : PGsv X vs es ts)
    (hs : (assignEach (e :: es) X.env).map (·.2) = assign e X.env :: (assignEach es X.env).map (·.2) := by rfl) : PGsv X vs (e :: es) (tsCons t ts) :=
  PGs.imp (pgs_cons h1 h2 hs) fun us σ H Q h => by
    obtain ⟨H0, Pz, T, ρ, Fs, xs, E, r, h⟩ := h
    cases r with
    | nil => exact h.elim
    | @cons v us x xs a b =>
      refine ⟨v, us, rfl, H0, Pz, T, ρ, Fs, (.i x, .own), [], E, .i a, .nil, (by intro z; cases z), ?_⟩
      unfold tsCons at h
      simp only at h
      cases e1 : t (.i x, .own) ρ with
      | none => rw [e1] at h; exact h
      | some ρ1 =>
        rw [e1] at h
        refine fun σ1 H1 Fs1 s1 E1 A1 => ⟨H0, Pz, T, ρ1, Fs1, xs, E1, b.same s1, ?_⟩
        have h' : match ts xs ρ1 with
          | some ρ' => ∀ σ' H' Fs', Same H H' → EnvR X.K H0 Pz T H' σ' ρ' Fs' → Agr vs σ σ' ρ ρ' Fs Fs' → Q σ' H'
          | none => False := h
        cases e2 : ts xs ρ1 with
        | none => rw [e2] at h'; exact h'
        | some ρ2 =>
          rw [e2] at h'
          exact fun σ' H' Fs' s' E' A' => h' σ' H' Fs' (s1.trans s') E' (A1.trans A')
theorem gv_tup {es : List Expr} {k n : Nat} {ts : TFs} (hc : X.calm = true) (h : PGsv X vs es ts)
    (hn : (assignEach es X.env).length = n := by rfl) (hst : (assignEach es X.env).findIdx? (·.1) = none := by rfl) : PGv X vs (.Tuple es k pos) (tTupT n ts) := by
  have go : PG X (.Tuple es k pos) (fun v σ H Q => gTup X.K n (tgsv X.K vs ts) v σ H Q ∨ gLst X.K n (tgsv X.K vs ts) v σ H Q) := ⟨fun pins s σ H v u Q I r q => by
    rcases q with q | q
    · exact (pg_tup hc h hn hst).run pins s σ H v u Q I r q
    · exact (pg_lst hc h hn hst).run pins s σ H v u Q I r q⟩
  refine PG.imp go fun v σ H Q h => ?_
  obtain ⟨H0, Pz, T, ρ, Fs, x, F, E, r, o, hm, h⟩ := h
  obtain ⟨x, m⟩ := x
  unfold tTupT at h
  simp only at r h
  split at h
  · rename_i q
    split at q
    · split at q
      · rename_i hl
        cases r with
        | i r =>
          cases r with
          | tup s t => exact .inl ⟨_, _, rfl, s, by rw [t.length]; exact hl, H0, Pz, T, ρ, Fs, _, E, t, by rw [q]; exact h⟩
      · cases q
    · split at q
      · rename_i hl
        cases r with
        | l s t => exact .inr ⟨_, _, rfl, SqL.of s, by rw [t.length]; exact hl, H0, Pz, T, ρ, Fs, _, E, t, by rw [q]; exact h⟩
      · cases q
    · cases q
  · exact h.elim
end

/-! ## comprehensions -/
def wipeE (ρ : Env) : List Nat → Env
  | [] => ρ
  | v :: vs => (wipeE ρ vs).set v none
theorem wipeE_length (ρ : Env) : ∀ vs : List Nat, (wipeE ρ vs).length = ρ.length
  | [] => rfl
  | v :: vs => by unfold wipeE; rw [List.length_set, wipeE_length ρ vs]
theorem wipe_at {σ : St} {j : Nat} : ∀ {vs : List Nat}, (wipe σ vs)[j]? = if j ∈ vs then (if j < σ.length then some none else none) else σ[j]?
  | [] => by simp [wipe]
  | v :: vs => by
    unfold wipe
    by_cases hj : v = j
    · subst hj
      rw [if_pos List.mem_cons_self]
      by_cases hl : v < σ.length
      · rw [if_pos hl, List.getElem?_set_self (by rw [wipe_length]; exact hl)]
      · rw [if_neg hl, List.getElem?_eq_none (by rw [List.length_set, wipe_length]; omega)]
    · rw [List.getElem?_set_ne hj, wipe_at (vs := vs)]
      have : j ∈ v :: vs ↔ j ∈ vs := ⟨fun h => (List.mem_cons.mp h).resolve_left fun z => hj z.symm, List.mem_cons_of_mem _⟩
      by_cases hm : j ∈ vs
      · rw [if_pos hm, if_pos (this.mpr hm)]
      · rw [if_neg hm, if_neg (fun z => hm (this.mp z))]
theorem wipeE_at {σ : Env} {j : Nat} : ∀ {vs : List Nat}, (wipeE σ vs)[j]? = if j ∈ vs then (if j < σ.length then some none else none) else σ[j]?
  | [] => by simp [wipeE]
  | v :: vs => by
    unfold wipeE
    by_cases hj : v = j
    · subst hj
      rw [if_pos List.mem_cons_self]
      by_cases hl : v < σ.length
      · rw [if_pos hl, List.getElem?_set_self (by rw [wipeE_length]; exact hl)]
      · rw [if_neg hl, List.getElem?_eq_none (by rw [List.length_set, wipeE_length]; omega)]
    · rw [List.getElem?_set_ne hj, wipeE_at (vs := vs)]
      have : j ∈ v :: vs ↔ j ∈ vs := ⟨fun h => (List.mem_cons.mp h).resolve_left fun z => hj z.symm, List.mem_cons_of_mem _⟩
      by_cases hm : j ∈ vs
      · rw [if_pos hm, if_pos (this.mpr hm)]
      · rw [if_neg hm, if_neg (fun z => hm (this.mp z))]
theorem wipe_agr {σ σ' : St} {vs : List Nat} (hl : σ'.length = σ.length) (h : ∀ j, j ∉ vs → σ'[j]? = σ[j]?) : wipe σ' vs = wipe σ vs := by
  apply List.ext_getElem?
  intro j
  rw [wipe_at, wipe_at, hl]
  by_cases hm : j ∈ vs
  · rw [if_pos hm, if_pos hm]
  · rw [if_neg hm, if_neg hm, h j hm]
/-- the new list, and what the wiped names own -/
def TB (T : Addr → Prop) (ρ : Env) (Fs : Nat → List Addr) (vs : List Nat) (D : Addr) : Addr → Prop := fun a => T a ∨ a = D ∨ ∃ k d G, k ∈ vs ∧ ρ[k]? = some (some (d, .own)) ∧ Fs k = a :: G
def wF (Fs : Nat → List Addr) (vs : List Nat) : Nat → List Addr := fun j => if j ∈ vs then [] else Fs j
section
variable {K : PySem.W.Frag} {H0 Pz H H1 H2 : Hp} {T : Addr → Prop} {σ : St} {ρ : Env} {Fs : Nat → List Addr} {vs : List Nat} {D : Addr}
theorem wipeE_some {j : Nat} {d : DV} {m : Md} (h : (wipeE ρ vs)[j]? = some (some (d, m))) : ρ[j]? = some (some (d, m)) ∧ j ∉ vs := by
  rw [wipeE_at] at h
  by_cases hm : j ∈ vs
  · rw [if_pos hm] at h
    split at h <;> cases h
  · rw [if_neg hm] at h
    exact ⟨h, hm⟩
theorem EnvR.blk (E : EnvR K H0 Pz T H σ ρ Fs) (hD : ∃ vs, H D = some (.lst vs)) (hP : Pz D = none) (hF : ∀ j, D ∉ Fs j) : EnvR K H0 Pz (TB T ρ Fs vs D) H (wipe σ vs) (wipeE ρ vs) (wF Fs vs) where
  h0 := E.h0
  pz := E.pz
  tn := fun a h => by
    rcases h with h | h | ⟨k, d, G, h1, h2, h3⟩
    · exact E.tn a h
    · subst h; exact hP
    · exact (E.top k d h2 a G h3).1
  th := fun a h => by
    rcases h with h | h | ⟨k, d, G, h1, h2, h3⟩
    · exact E.th a h
    · subst h; exact hD
    · exact (E.fresh k d .own h2 (by intro z; cases z) a (by rw [h3]; exact List.mem_cons_self)).2
  len := by rw [wipe_length, wipeE_length]; exact E.len
  at_ := fun j d m h => by
    obtain ⟨h1, h2⟩ := wipeE_some h
    unfold wF
    rw [if_neg h2, wipe_at, if_neg h2]
    exact E.at_ j d m h1
  fresh := fun j d m h hb => by
    obtain ⟨h1, h2⟩ := wipeE_some h
    unfold wF
    rw [if_neg h2]
    exact E.fresh j d m h1 hb
  top := fun j d h a G e => by
    obtain ⟨h1, h2⟩ := wipeE_some h
    unfold wF at e
    rw [if_neg h2] at e
    obtain ⟨q1, q2, q3⟩ := E.top j d h1 a G e
    refine ⟨q1, q2, fun k hk => ?_⟩
    unfold wF
    split
    · intro z; cases z
    · exact q3 k hk
  tt := fun a h j => by
    unfold wF
    split
    · intro z; cases z
    · rename_i hj
      rcases h with h | h | ⟨k, d, G, h1, h2, h3⟩
      · exact E.tt a h j
      · subst h; exact hF j
      · exact (E.top k d h2 a G h3).2.2 j fun z => hj (z ▸ h1)
  nil := fun j h => by
    unfold wF
    split
    · rfl
    · rename_i hj
      refine E.nil j fun d m z => h d m ?_
      rw [wipeE_at, if_neg hj]
      exact z
/-- an item in the block -/
theorem ResOk.inBlk {F : List Addr} {m : Md} (o : ResOk H0 Pz T ρ Fs H F m) (hD : D ∉ F) (hm : m ≠ .tmp) (hw : m = .own → F = []) : ResOk H0 Pz (TB T ρ Fs vs D) (wipeE ρ vs) (wF Fs vs) H F m := by
  by_cases ho : m = .own
  · rw [hw ho]; exact .nil
  · have n := o.notops hm
    refine ⟨o.fresh, fun z => absurd z ho, fun _ => ⟨fun k d hk a G e => ?_, fun a h => ?_⟩, fun z => absurd z hm⟩
    · obtain ⟨h1, h2⟩ := wipeE_some hk
      unfold wF at e
      rw [if_neg h2] at e
      exact n.1 k d h1 a G e
    · rcases h with h | h | ⟨k, d, G, h1, h2, h3⟩
      · exact n.2 a h
      · subst h; exact hD
      · exact n.1 k d h2 a G h3
def demM : DV → Md → Md
  | .i _, _ => .own
  | _, .own => .loc
  | _, m => m
/-- a made item, outside the block -/
theorem ResOk.outBlk {ρ1 : Env} {Fs1 : Nat → List Addr} {σ1 : St} {F : List Addr} {v : V} {d : DV} {m : Md} (A : Agr vs (wipe σ vs) σ1 (wipeE ρ vs) ρ1 (wF Fs vs) Fs1) (r : RpD K H v d F) (o : ResOk H0 Pz (TB T ρ Fs vs D) ρ1 Fs1 H F m) (hm : demM d m ≠ .tmp) :
    ResOk H0 Pz (fun a => T a ∨ a = D) ρ Fs H F (demM d m) := by
  have go : m ≠ .tmp → (demM d m = .loc → m = .own ∨ m = .loc) → demM d m ≠ .own → ResOk H0 Pz (fun a => T a ∨ a = D) ρ Fs H F (demM d m) := fun h1 h2 h3 => by
    have n := o.notops h1
    refine ⟨fun z => ?_, fun z => absurd z h3, fun _ => ⟨fun k dk hk a G e => ?_, fun a h => n.2 a (h.elim .inl fun z => .inr (.inl z))⟩, fun z => absurd z hm⟩
    · rcases z with z | z
      · exact absurd z h3
      · exact o.fresh (h2 z)
    · by_cases hv : k ∈ vs
      · exact n.2 a (.inr (.inr ⟨k, dk, G, hv, hk, e⟩))
      · obtain ⟨_, q2, q3⟩ := A.at_ k hv
        refine n.1 k dk ?_ a G ?_
        · rw [q2, wipeE_at, if_neg hv]; exact hk
        · rw [q3]; unfold wF; rw [if_neg hv]; exact e
  cases r with
  | i r => exact .nil
  | l => cases m <;> first | exact absurd rfl hm | exact go (by intro z; cases z) (fun _ => .inl rfl) (by intro z; cases z) | exact go (by intro z; cases z) (fun _ => .inr rfl) (by intro z; cases z) | exact go (by intro z; cases z) (fun z => (nomatch z)) (by intro z; cases z) | exact absurd rfl hm
  | f => cases m <;> first | exact absurd rfl hm | exact go (by intro z; cases z) (fun _ => .inl rfl) (by intro z; cases z) | exact go (by intro z; cases z) (fun _ => .inr rfl) (by intro z; cases z) | exact go (by intro z; cases z) (fun z => (nomatch z)) (by intro z; cases z) | exact absurd rfl hm
  | m => cases m <;> first | exact absurd rfl hm | exact go (by intro z; cases z) (fun _ => .inl rfl) (by intro z; cases z) | exact go (by intro z; cases z) (fun _ => .inr rfl) (by intro z; cases z) | exact go (by intro z; cases z) (fun z => (nomatch z)) (by intro z; cases z) | exact absurd rfl hm
/-- .. while the new list grows -/
theorem ArgsOk.updD {acc' : List V} {acc : List V} (hD : H D = some (.lst acc)) : ∀ {vs : List V} {xs : List (DV × Md)}, ArgsOk K H0 Pz (fun a => T a ∨ a = D) ρ Fs H vs xs → (∀ x ∈ xs, x.2 ≠ .tmp) → ArgsOk K H0 Pz (fun a => T a ∨ a = D) ρ Fs (upd H D (.lst acc')) vs xs
  | _, [], h, _ => by cases h; exact .nil
  | _, x :: xs, h, hm => by
    cases h with
    | @cons v vs _ _ F a b c =>
      have n : D ∉ F := (b.notops (hm x List.mem_cons_self)).2 D (.inr rfl)
      have ne : ∀ c ∈ F, c ≠ D := fun c hc z => n (by rw [← z]; exact hc)
      refine .cons (a.mono (upd_tkeep hD) fun c hc => upd_ne (ne c hc)) ⟨fun z c hc => ?_, b.top, b.notops, b.tmp⟩ (ArgsOk.updD hD c fun y hy => hm y (List.mem_cons_of_mem _ hy))
      obtain ⟨h1, us, h2⟩ := b.fresh z c hc
      exact ⟨h1, us, by rw [upd_ne (ne c hc)]; exact h2⟩
theorem ArgsOk.snoc : ∀ {vs : List V} {xs : List (DV × Md)} {v : V} {x : DV × Md} {F : List Addr}, ArgsOk K H0 Pz T ρ Fs H vs xs → RpD K H v x.1 F → ResOk H0 Pz T ρ Fs H F x.2 → ArgsOk K H0 Pz T ρ Fs H (vs ++ [v]) (xs ++ [x])
  | _, [], _, _, _, h, r, o => by cases h; exact .cons r o .nil
  | _, _ :: _, _, _, _, h, r, o => by
    cases h with
    | cons a b c => exact .cons a b (ArgsOk.snoc c r o)
theorem ArgsOk.weakT {T' : Addr → Prop} (ht : ∀ a, T' a → T a) : ∀ {vs : List V} {xs : List (DV × Md)}, ArgsOk K H0 Pz T ρ Fs H vs xs → ArgsOk K H0 Pz T' ρ Fs H vs xs
  | _, [], h => by cases h; exact .nil
  | _, _ :: _, h => by
    cases h with
    | cons a b c => exact .cons a ⟨b.fresh, b.top, fun z => ⟨(b.notops z).1, fun a' ta => (b.notops z).2 a' (ht a' ta)⟩, b.tmp⟩ (ArgsOk.weakT ht c)
end
def bindB {α β : Type} (x : R α) (f : α → R β) : R β := match x with
  | .ok a => f a
  | _ => .bad
/-- the items that a comprehension makes -/
def compF (t : TF) (tt : FT) (el : FE) (ρw : Env) : List (DV × Md) → R (List (DV × Md))
  | [] => .ok []
  | x :: r => match t x ρw with
    | none => .bad
    | some ρ1 => bindB (tt ρ1) fun b => if b then bindB (el ρ1) fun y => if demM y.1 y.2 = .tmp then .bad else bindB (compF t tt el ρw r) fun ys => .ok ((y.1, demM y.1 y.2) :: ys) else compF t tt el ρw r
def finI (xs : List (DV × Md)) : R (DV × Md) := match allI xs with
  | some ys => .ok (.l ys, .own)
  | none => .bad
def finM (xs : List (DV × Md)) : R (DV × Md) := match mdL xs with
  | .tmp => .bad
  | m => .ok (.m (xs.map (·.1)), m)
def eComp (src : FI) (vs : List Nat) (t : TF) (tt : FT) (el : FE) (fin : List (DV × Md) → R (DV × Md)) : FE := fun ρ => (src ρ).bind fun it => if it.1.length ≤ 16777216 then (compF t tt el (wipeE ρ vs) it.1).bind fin else .bad
theorem compF_tmp {t : TF} {tt : FT} {el : FE} {ρw : Env} : ∀ {its ys : List (DV × Md)}, compF t tt el ρw its = .ok ys → ∀ x ∈ ys, x.2 ≠ .tmp
  | [], ys, h => by cases h; intro x hx; cases hx
  | x :: r, ys, h => by
    unfold compF at h
    split at h
    · cases h
    · rename_i ρ1 _
      cases e1 : tt ρ1 with
      | bad => rw [e1] at h; cases h
      | ex c p => rw [e1] at h; cases h
      | ok b =>
        rw [e1] at h
        simp only [bindB] at h
        cases b with
        | false => exact compF_tmp (by simpa using h)
        | true =>
          simp only [if_true] at h
          cases e2 : el ρ1 with
          | bad => rw [e2] at h; cases h
          | ex c p => rw [e2] at h; cases h
          | ok y =>
            rw [e2] at h
            simp only at h
            split at h
            · cases h
            · rename_i hd
              cases e3 : compF t tt el ρw r with
              | bad => rw [e3] at h; cases h
              | ex c p => rw [e3] at h; cases h
              | ok zs =>
                rw [e3] at h
                simp only at h
                cases h
                intro z hz
                rcases List.mem_cons.mp hz with e | hz
                · subst e; exact hd
                · exact compF_tmp e3 z hz
def FinOk (fin : List (DV × Md) → R (DV × Md)) : Prop := (∀ xs c p, fin xs ≠ .ex c p) ∧ ∀ (K : PySem.W.Frag) (H0 Pz H H' : Hp) (T : Addr → Prop) (σ : St) (ρ : Env) (Fs : Nat → List Addr) (D : Addr) (acc : List V) (xs : List (DV × Md)) (z : DV × Md),
  EnvR K H0 Pz T H σ ρ Fs → H D = none → Same H H' → H' D = some (.lst acc) → ArgsOk K H0 Pz (fun a => T a ∨ a = D) ρ Fs H' acc xs → fin xs = .ok z → ∃ F, RpD K H' (.ref D) z.1 F ∧ ResOk H0 Pz T ρ Fs H' F z.2
theorem finI_ok : FinOk finI := by
  refine ⟨fun xs c p => ?_, ?_⟩
  · unfold finI
    split <;> intro h <;> cases h
  intro K H0 Pz H H' T σ ρ Fs D acc xs z E hD sm hD' ao e
  unfold finI at e
  split at e
  · rename_i ys ey
    cases e
    refine ⟨[D], .l hD' (ao.allI ey), .new E (fun a ha => ?_) fun a G e => ?_⟩
    · cases List.mem_singleton.mp ha
      exact ⟨hD, acc, hD'⟩
    · cases e; intro z; cases z
  · cases e
theorem finM_ok : FinOk finM := by
  refine ⟨fun xs c p => ?_, ?_⟩
  · unfold finM
    split <;> intro h <;> cases h
  intro K H0 Pz H H' T σ ρ Fs D acc xs z E hD sm hD' ao e
  obtain ⟨F, r, nt, fr, mm⟩ := ao.all
  have no : ∀ {G : Hp}, Same G H → G D = none := fun {G} e => by
    cases q : G D with
    | none => rfl
    | some o => rw [e _ _ q] at hD; cases hD
  have nofs : ∀ j, D ∉ Fs j := fun j h => by
    obtain ⟨o, q⟩ := E.dom j D h
    rw [hD] at q; cases q
  unfold finM at e
  have key : ∀ m, m = .own ∨ m = .bor → mdL xs = m → ∃ G, RpD K H' (.ref D) (.m (xs.map (·.1))) G ∧ ResOk H0 Pz T ρ Fs H' G m := fun m hm em => by
    have n := nt (by rw [em]; rcases hm with q | q <;> (rw [q]; intro z; cases z))
    have nD : D ∉ F := n.2 D (.inr rfl)
    refine ⟨D :: F, .m hD' r, ⟨fun z a ha => ?_, fun z a G e => ?_, fun z => ⟨fun k d hk a G e ha => ?_, fun a ta ha => ?_⟩, fun z => ?_⟩⟩
    · have z : m = .own := by
        rcases z with z | z
        · exact z
        · rcases hm with q | q <;> (rw [q] at z; cases z)
      rcases List.mem_cons.mp ha with e | ha
      · subst e
        exact ⟨no (E.h0.trans E.pz), acc, hD'⟩
      · exact fr (by rw [em]; exact z) a ha
    · cases e
      exact ⟨no E.pz, nD, nofs⟩
    · rcases List.mem_cons.mp ha with e' | ha
      · subst e'
        exact nofs k (by rw [e]; exact List.mem_cons_self)
      · exact n.1 k d hk a G e ha
    · rcases List.mem_cons.mp ha with e' | ha
      · subst e'
        obtain ⟨o, q⟩ := E.th a ta
        rw [hD] at q; cases q
      · exact n.2 a (.inl ta) ha
    · rcases hm with q | q <;> (rw [q] at z; cases z)
  rcases mm with q | q | q
  · rw [q] at e; cases e; exact key .own (.inl rfl) q
  · rw [q] at e; cases e; exact key .bor (.inr rfl) q
  · rw [q] at e; cases e
theorem comp_imp {K : PySem.W.Frag} {mg : MG} {W : WX} {src : FI} {vs : List Nat} {t : TF} {tt : FT} {el : FE} {fin : List (DV × Md) → R (DV × Md)} (hfin : FinOk fin) (σ : St) (H : Hp) (Q : VK) (h : tev K mg W (eComp src vs t tt el fin) σ H Q) :
    tLc (tiv K mg W src) (tgv K vs t) (ttv K mg (fun _ _ _ _ => False) tt) (tev K mg (fun _ _ _ _ => False) el) vs σ H Q := by
  obtain ⟨H0, Pz, T, ρ, Fs, E, h⟩ := h
  refine ⟨H0, Pz, T, ρ, Fs, E, ?_⟩
  cases e1 : src ρ with
  | bad => simp only [eComp, e1, R.bind] at h
  | ex c p => simp only [eComp, e1, R.bind] at h; exact h
  | ok it =>
    obtain ⟨items, m⟩ := it
    simp only [eComp, e1, R.bind] at h
    by_cases hlen : items.length ≤ 16777216
    · rw [if_pos hlen] at h
      cases e2 : compF t tt el (wipeE ρ vs) items with
      | bad => rw [e2] at h; exact h.elim
      | ex c p =>
        exfalso
        have nx : ∀ its, compF t tt el (wipeE ρ vs) its ≠ .ex c p := by
          intro its
          induction its with
          | nil => intro z; cases z
          | cons x r ih =>
            intro z
            unfold compF at z
            split at z
            · cases z
            · rename_i ρ1 _
              cases q1 : tt ρ1 with
              | bad => rw [q1] at z; cases z
              | ex c p => rw [q1] at z; cases z
              | ok b =>
                rw [q1] at z
                simp only [bindB] at z
                cases b with
                | false => exact ih (by simpa using z)
                | true =>
                  simp only [if_true] at z
                  cases q2 : el ρ1 with
                  | bad => rw [q2] at z; cases z
                  | ex c p => rw [q2] at z; cases z
                  | ok y =>
                    rw [q2] at z
                    simp only at z
                    split at z
                    · cases z
                    · cases q3 : compF t tt el (wipeE ρ vs) r with
                      | bad => rw [q3] at z; cases z
                      | ex c p => rw [q3] at z; cases z
                      | ok zs => rw [q3] at z; cases z
        exact nx items e2
      | ok total =>
        rw [e2] at h
        simp only at h
        intro J H1 P s1 wk D hD
        have E1 := E.same s1
        have hPD : Pz D = none := by
          cases q : Pz D with
          | none => rfl
          | some o => rw [E1.pz _ _ q] at hD; cases hD
        have hFD : ∀ j, D ∉ Fs j := fun j hj => by
          obtain ⟨o, q⟩ := E1.dom j D hj
          rw [hD] at q; cases q
        have hDP : D ∉ P := fun hj => by
          obtain ⟨o, q⟩ := wk.dom D hj
          rw [hD] at q; cases q
        refine ⟨fun i mm Hc => mm = items.length - i ∧ i ≤ items.length ∧ Same H1 Hc ∧ ∃ acc done rest, Hc D = some (.lst acc) ∧ acc.length ≤ i ∧ ArgsOk K H0 Pz (fun a => T a ∨ a = D) ρ Fs Hc acc done ∧ (∀ x ∈ done, x.2 ≠ .tmp) ∧ compF t tt el (wipeE ρ vs) (items.drop i) = .ok rest ∧ done ++ rest = total,
          ⟨items.length, by simp, Nat.zero_le _, same_upd hD, [], [], total, upd_same, Nat.zero_le _, .nil, fun _ z => (nomatch z), e2, rfl⟩, ?_⟩
        rintro i mm Hc ⟨rfl, hi, sc, acc, done, rest, hDc, hal, ao, nt, er, et⟩
        have kp : Keep H1 Hc P := .of_same sc wk.dom
        by_cases hlt : i < items.length
        · right
          refine ⟨wk.go i Hc kp hlt, fun H' => ∃ mm', mm' < items.length - i ∧ (mm' = items.length - (i + 1) ∧ i + 1 ≤ items.length ∧ Same H1 H' ∧ ∃ acc done rest, H' D = some (.lst acc) ∧ acc.length ≤ i + 1 ∧ ArgsOk K H0 Pz (fun a => T a ∨ a = D) ρ Fs H' acc done ∧ (∀ x ∈ done, x.2 ≠ .tmp) ∧ compF t tt el (wipeE ρ vs) (items.drop (i + 1)) = .ok rest ∧ done ++ rest = total), fun H' z => z, fun x H' y => ?_⟩
          have hget : items[i]? = some items[i] := List.getElem?_eq_getElem hlt
          obtain ⟨s2, ⟨F, r2, o2, hFP, hw, hnt⟩⟩ := wk.yld i Hc x H' kp y items[i] hget
          have hdrop : items.drop i = items[i] :: items.drop (i + 1) := List.drop_eq_getElem_cons hlt
          rw [hdrop] at er
          have E2 := (E1.same sc).same s2
          refine ⟨H0, Pz, TB T ρ Fs vs D, wipeE ρ vs, wF Fs vs, items[i], F, E2.blk ⟨_, s2 _ _ hDc⟩ hPD hFD, r2, o2.inBlk (fun z => hDP (hFP D z)) hnt hw, hnt, ?_⟩
          unfold compF at er
          cases q0 : t items[i] (wipeE ρ vs) with
          | none => rw [q0] at er; cases er
          | some ρ1 =>
            rw [q0] at er
            simp only at er
            intro σ3 H3 Fs3 s3 E3 A3
            refine ⟨wipe_agr (by rw [A3.len, wipe_length]) fun j hj => by rw [(A3.at_ j hj).1, wipe_at, if_neg hj], ?_⟩
            cases q1 : tt ρ1 with
            | bad => rw [q1] at er; cases er
            | ex c p => rw [q1] at er; cases er
            | ok b =>
              rw [q1] at er
              simp only [bindB] at er
              refine ttv_ok E3 q1 fun H4 s4 E4 => ?_
              have hD4 : H4 D = some (.lst acc) := s4 _ _ (s3 _ _ (s2 _ _ hDc))
              have S4 : Same Hc H4 := s2.trans (s3.trans s4)
              cases b with
              | false =>
                simp only [Bool.false_eq_true, if_false] at er ⊢
                exact ⟨items.length - (i + 1), by omega, rfl, hlt, sc.trans S4, acc, done, rest, hD4, by omega, ao.same S4, nt, er, et⟩
              | true =>
                simp only [if_true] at er ⊢
                cases q2 : el ρ1 with
                | bad => rw [q2] at er; cases er
                | ex c p => rw [q2] at er; cases er
                | ok z =>
                  rw [q2] at er
                  simp only at er
                  split at er
                  · cases er
                  · rename_i hdm
                    cases q3 : compF t tt el (wipeE ρ vs) (items.drop (i + 1)) with
                    | bad => rw [q3] at er; cases er
                    | ex c p => rw [q3] at er; cases er
                    | ok ys =>
                      rw [q3] at er
                      simp only at er
                      cases er
                      refine tev_ok E4 q2 fun v H5 G s5 E5 r5 o5 => ?_
                      have hD5 : H5 D = some (.lst acc) := s5 _ _ hD4
                      have o5' := o5.outBlk A3 r5 hdm
                      refine ⟨acc, hD5, by rw [slEq]; omega, items.length - (i + 1), by omega, rfl, hlt, fun b o e => ?_, acc ++ [v], done ++ [(z.1, demM z.1 z.2)], ys, upd_same, by rw [List.length_append]; simp; omega, ?_, fun x hx => ?_, rfl, by rw [List.append_assoc]; exact et⟩
                      · have nb : b ≠ D := fun z => by rw [z, hD] at e; cases e
                        rw [upd_ne nb]
                        exact s5 _ _ (S4 _ _ (sc _ _ e))
                      · refine ArgsOk.updD hD5 (((ao.same (S4.trans s5))).snoc r5 o5') fun x hx => ?_
                        rcases List.mem_append.mp hx with hx | hx
                        · exact nt x hx
                        · cases List.mem_singleton.mp hx; exact hdm
                      · rcases List.mem_append.mp hx with hx | hx
                        · exact nt x hx
                        · cases List.mem_singleton.mp hx; exact hdm
        · left
          have ei : i = items.length := by omega
          subst ei
          rw [List.drop_length] at er
          cases er
          rw [List.append_nil] at et
          subst et
          refine ⟨wk.stop _ Hc kp rfl, ?_⟩
          cases e3 : fin done with
          | bad => rw [e3] at h; exact h.elim
          | ex c p => exact absurd e3 (hfin.1 _ _ _)
          | ok z =>
            rw [e3] at h
            obtain ⟨F, r, o⟩ := hfin.2 K H0 Pz H1 Hc T σ ρ Fs D acc done z E1 hD sc hDc ao e3
            exact h _ Hc F (s1.trans sc) r o
    · rw [if_neg hlen] at h; exact h.elim
def PTsv (X : Cx) (ifs : List Expr) (f : FT) : Prop := ∀ W, Takes X W → PTs X ifs (ttv X.K X.mg W f)
theorem PTs.imp {X : Cx} {e : List Expr} {t t' : TT} (h : PTs X e t) (k : ∀ σ H Q, t' σ H Q → t σ H Q) : PTs X e t' := ⟨fun pins s σ H Q I q => h.run pins s σ H Q I (k σ H Q q)⟩
def tYesF : FT := fun _ => .ok true
section
variable {X : Cx}
theorem tsv_nil : PTsv X [] tYesF := fun W tk => PTs.imp pts_nil fun σ H Q h => by
  obtain ⟨H0, Pz, T, ρ, Fs, E, h⟩ := h
  exact h H (fun _ _ z => z)
theorem tsv_one {c : Expr} {f : FT} (h : PTv X c f) : PTsv X [c] f := fun W tk => pts_one (h W tk)
theorem ev_comp {elt tg iter : Expr} {ifs : List Expr} {scope : Scope} {own : List (Str × Nat)} {pos : Pos} {src : FI} {t : TF} {tt : FT} {el : FE} {fin : List (DV × Md) → R (DV × Md)} (hfin : FinOk fin) (hc : X.calm = true) (hN : X.N.Nodup) (hi : PIv X tg iter src) (ok : BlkOk X.N X.env.scope scope own)
    (hg : ∀ (s : Shared) (H : Hp) (C : Addr) (cl : List (Str × Addr)) (fp : List Addr), PGv (X.blk s H scope (compEnvC scope cl C X.env) fp) (own.map (·.2)) tg t)
    (ht : ∀ (s : Shared) (H : Hp) (C : Addr) (cl : List (Str × Addr)) (fp : List Addr), PTsv (X.blk s H scope (compEnvC scope cl C X.env) fp) ifs tt)
    (he : ∀ (s : Shared) (H : Hp) (C : Addr) (cl : List (Str × Addr)) (fp : List Addr), PEv (X.blk s H scope (compEnvC scope cl C X.env) fp) elt el) (hs : ∀ x, foldedSetIterable iter X.env x = pure x := by intro _; rfl) :
    PEv X (.ListComp elt [⟨tg, iter, ifs, 0⟩] scope pos) (eComp src (own.map (·.2)) t tt el fin) := fun W tk =>
  PE.imp (pe_lc (g := tgv X.K (List.map (fun x : Str × Nat => x.2) own) t) hc hN (hi W tk) ok hg (fun s H C cl fp => ht s H C cl fp _ takes0) (fun s H C cl fp => he s H C cl fp _ takes0) hs) fun σ H Q h => comp_imp hfin σ H Q h
end
end L2.Pv

namespace L2.Pv
open PySem PySem.Spec PyProof.Rows

/-! ## statements -/
abbrev FS := Env → RS
def tsv (K : PySem.W.Frag) (mg : MG) (W : WX) (g : FS) : TS := fun D σ H => ∃ H0 Pz T ρ Fs, EnvR K H0 Pz T H σ ρ Fs ∧ match g ρ with
  | .nx ρ' => ∀ σ' H' Fs', EnvR K H0 Pz T H' σ' ρ' Fs' → D.nx σ' H'
  | .rt d => ∀ v H' F, Same H0 H' → RpD K H' v d F → RetOk H0 H' F → D.rt v H'
  | .bk ρ' => ∀ σ' H' Fs', EnvR K H0 Pz T H' σ' ρ' Fs' → D.bk σ' H'
  | .ct ρ' => ∀ σ' H' Fs', EnvR K H0 Pz T H' σ' ρ' Fs' → D.ct σ' H'
  | .ex c p ρ' => ∀ C d σ' H' Fs', mg c = some (.ref C) → EnvR K H0 Pz T H' σ' ρ' Fs' → ExD K H' d p → W (.ref C) d σ' H'
  | .bad => False
def PSv (X : Cx) (s : Stmt) (g : FS) : Prop := ∀ W, Takes X W → PS X s (tsv X.K X.mg W g)
def PSsv (X : Cx) (s : List Stmt) (g : FS) : Prop := ∀ W, Takes X W → PSs X s (tsv X.K X.mg W g)
theorem PS.imp {X : Cx} {e : Stmt} {t t' : TS} (h : PS X e t) (k : ∀ D σ H, t' D σ H → t D σ H) : PS X e t' := ⟨fun pins s σ H D I q => h.run pins s σ H D I (k D σ H q)⟩
theorem PSs.imp {X : Cx} {e : List Stmt} {t t' : TS} (h : PSs X e t) (k : ∀ D σ H, t' D σ H → t D σ H) : PSs X e t' := ⟨fun pins s σ H D I q => h.run pins s σ H D I (k D σ H q)⟩
section
variable {K : PySem.W.Frag} {mg : MG} {W : WX} {σ : St} {H H0 Pz : Hp} {T : Addr → Prop} {ρ : Env} {Fs : Nat → List Addr}
theorem ex_of {g : FE} {c : Str} {p : Exn} {Q : VK} (E : EnvR K H0 Pz T H σ ρ Fs) (e : g ρ = .ex c p) (h : ∀ C d σ' H' Fs', mg c = some (.ref C) → EnvR K H0 Pz T H' σ' ρ Fs' → ExD K H' d p → W (.ref C) d σ' H') : tev K mg W g σ H Q :=
  tev_ex E e fun C H' d hC s xd => h C d σ H' Fs hC (E.same s) xd
end
/-! ### blocks -/
def sSeq (f g : FS) : FS := fun ρ => match f ρ with
  | .nx ρ' => g ρ'
  | r => r
def sNil : FS := .nx
section
variable {X : Cx} {s : Stmt} {ss : List Stmt} {f g : FS}
theorem sv_nil : PSsv X [] sNil := fun W tk => PSs.imp pss_nil fun D σ H h => by
  obtain ⟨H0, Pz, T, ρ, Fs, E, h⟩ := h
  exact h σ H Fs E
theorem sv_cons (h1 : PSv X s f) (h2 : PSsv X ss g) : PSsv X (s :: ss) (sSeq f g) := fun W tk => PSs.imp (pss_cons (h1 W tk) (h2 W tk)) fun D σ H h => by
  obtain ⟨H0, Pz, T, ρ, Fs, E, h⟩ := h
  refine ⟨H0, Pz, T, ρ, Fs, E, ?_⟩
  unfold sSeq at h
  cases e1 : f ρ with
  | nx ρ' =>
    rw [e1] at h
    exact fun σ' H' Fs' E' => ⟨H0, Pz, T, ρ', Fs', E', h⟩
  | rt d => rw [e1] at h; exact h
  | bk ρ' => rw [e1] at h; exact h
  | ct ρ' => rw [e1] at h; exact h
  | ex c p ρ' => rw [e1] at h; exact h
  | bad => rw [e1] at h; exact h
theorem sv_one (h1 : PSv X s f) : PSsv X [s] f := fun W tk => pss_one (h1 W tk)
end
/-! ### assignments -/
def sAsg (f : FE) (t : TF) : FS := fun ρ => match f ρ with
  | .ok x => if x.2 = .tmp then .bad else (match t x ρ with
    | some ρ' => .nx ρ'
    | none => .bad)
  | .ex c p => .ex c p ρ
  | .bad => .bad
section
variable {X : Cx} {tg e : Expr} {f : FE} {t : TF} {pos : Pos} {vs : List Nat}
theorem asg_imp {K : PySem.W.Frag} {mg : MG} {W : WX} (D : Ends) (σ : St) (H : Hp) (h : tsv K mg W (sAsg f t) D σ H) : tAsg (tev K mg W f) (tgv K vs t) D σ H := by
  obtain ⟨H0, Pz, T, ρ, Fs, E, h⟩ := h
  show tev K mg W f σ H _
  unfold sAsg at h
  cases e1 : f ρ with
  | bad => rw [e1] at h; exact h.elim
  | ex c p => rw [e1] at h; exact ex_of E e1 h
  | ok x =>
    rw [e1] at h
    refine tev_ok E e1 fun v H1 F s1 E1 r1 o1 => ?_
    simp only at h
    by_cases hm : x.2 = .tmp
    · rw [if_pos hm] at h; exact h.elim
    · rw [if_neg hm] at h
      refine ⟨H0, Pz, T, ρ, Fs, x, F, E1, r1, o1, hm, ?_⟩
      cases e2 : t x ρ with
      | none => rw [e2] at h; exact h
      | some ρ' =>
        rw [e2] at h
        exact fun σ' H' Fs' s' E' A' => h σ' H' Fs' E'
theorem sv_asg (he : PEv X e f) (hg : PGv X vs tg t) (hs : swapsWithSole [tg] e pos.line X.env = pure false := by rfl) (hw : swappedStores [tg] e X.env = pure none := by rfl)
    (h1 : (assignEach [tg] X.env).map (·.2) = [assign tg X.env] := by rfl) : PSv X (.Assign [tg] e pos) (sAsg f t) := fun W tk =>
  PS.imp (ps_asg (he W tk) hg hs hw h1) fun D σ H h => asg_imp D σ H h
theorem sv_set {i : Nat} {x : Str} {pos' : Pos} (hN : X.N.Nodup) (hi : X.N[i]? = some x) (hx : Loc X.env.scope x) (he : PEv X e f) (hs : swapsWith e (some (.Name x pos')) pos.line X.env = pure false := by rfl) (hf : X.fn x = true ∨ X.env.scope.names.lookup x = some .local := by first | exact .inl rfl | exact .inr rfl | assumption) :
    PSv X (.Assign [.Name x pos'] e pos) (sAsg f (tName i)) := fun W tk =>
  PS.imp (ps_set hN hi hx (he W tk) hs hf) fun D σ H h => by
    have q := asg_imp (vs := [i]) D σ H h
    obtain ⟨H0, Pz, T, ρ, Fs, E, _⟩ := h
    show tev X.K X.mg W f σ H _
    obtain ⟨H0', Pz', T', ρ', Fs', E', q⟩ := q
    refine ⟨H0', Pz', T', ρ', Fs', E', ?_⟩
    cases e1 : f ρ' with
    | bad => rw [e1] at q; exact q
    | ex c p => rw [e1] at q; exact q
    | ok z =>
      rw [e1] at q
      intro v H1 F s1 r1 o1
      obtain ⟨H2, Pz2, T2, ρ2, Fs2, z2, F2, E2, r2, o2, hm, q2⟩ := q v H1 F s1 r1 o1
      unfold tName at q2
      by_cases hl : i < ρ2.length
      · rw [if_pos hl] at q2
        refine q2 _ H1 _ (fun _ _ z => z) (E2.set hl r2 (o2.nrm r2) ?_) ⟨by rw [List.length_set], fun j hj => ?_⟩
        · cases z2 with
          | mk d m => cases d <;> first | exact hm | (intro z; cases z)
        · have ne : i ≠ j := fun z => hj (by rw [← z]; exact List.mem_singleton.mpr rfl)
          rw [List.getElem?_set_ne ne, List.getElem?_set_ne ne, stF_ne (fun z => ne z.symm)]
          exact ⟨rfl, rfl, rfl⟩
      · rw [if_neg hl] at q2; exact q2.elim
/-- y = [..], y a local that no comprehension captures -/
theorem sv_setComp {i : Nat} {y : Str} {py : Pos} {elt iter : Expr} {ifs : List Expr} {scope : Scope} {own : List (Str × Nat)} {pos' : Pos} {src : FI} {tc : TF} {tt : FT} {el : FE} {fin : List (DV × Md) → R (DV × Md)} (hfin : FinOk fin) (hc : X.calm = true) (hN : X.N.Nodup) (hy : X.N[i]? = some y) (hyl : X.env.scope.names.lookup y = some .local)
    (hsw : swapsWith (.ListComp elt [⟨tg, iter, ifs, 0⟩] scope pos') (some (.Name y py)) pos.line X.env = pure true) (hi : PIv X tg iter src) (ok : BlkOk X.N X.env.scope scope own)
    (hg : ∀ (s : Shared) (H : Hp) (C : Addr) (cl : List (Str × Addr)) (fp : List Addr), PGv (X.blk s H scope (compEnvC scope cl C X.env) fp) (own.map (·.2)) tg tc)
    (ht : ∀ (s : Shared) (H : Hp) (C : Addr) (cl : List (Str × Addr)) (fp : List Addr), PTsv (X.blk s H scope (compEnvC scope cl C X.env) fp) ifs tt)
    (he : ∀ (s : Shared) (H : Hp) (C : Addr) (cl : List (Str × Addr)) (fp : List Addr), PEv (X.blk s H scope (compEnvC scope cl C X.env) fp) elt el) (hs : ∀ x, foldedSetIterable iter X.env x = pure x := by intro _; rfl) :
    PSv X (.Assign [.Name y py] (.ListComp elt [⟨tg, iter, ifs, 0⟩] scope pos') pos) (sAsg (eComp src (own.map (·.2)) tc tt el fin) (tName i)) := fun W tk =>
  PS.imp (ps_setLc (g := tgv X.K (List.map (fun x : Str × Nat => x.2) own) tc) (tt := ttv X.K X.mg (fun _ _ _ _ => False) tt) (te := tev X.K X.mg (fun _ _ _ _ => False) el) hc hN hy hyl hsw (hi W tk) ok hg (fun s H C cl fp => ht s H C cl fp _ takes0) (fun s H C cl fp => he s H C cl fp _ takes0) hs) fun D σ H h => by
    have q := asg_imp (vs := [i]) D σ H h
    show tLc _ _ _ _ _ σ H _
    refine comp_imp (mg := X.mg) (W := W) (tt := tt) (el := el) hfin σ H _ ?_
    obtain ⟨H0', Pz', T', ρ', Fs', E', q⟩ := q
    refine ⟨H0', Pz', T', ρ', Fs', E', ?_⟩
    cases e1 : eComp src (own.map (·.2)) tc tt el fin ρ' with
    | bad => rw [e1] at q; exact q
    | ex c p => rw [e1] at q; exact q
    | ok z =>
      rw [e1] at q
      intro v H1 F s1 r1 o1
      obtain ⟨H2, Pz2, T2, ρ2, Fs2, z2, F2, E2, r2, o2, hm, q2⟩ := q v H1 F s1 r1 o1
      unfold tName at q2
      by_cases hl : i < ρ2.length
      · rw [if_pos hl] at q2
        refine q2 _ H1 _ (fun _ _ z => z) (E2.set hl r2 (o2.nrm r2) ?_) ⟨by rw [List.length_set], fun j hj => ?_⟩
        · cases z2 with
          | mk d m => cases d <;> first | exact hm | (intro z; cases z)
        · have ne : i ≠ j := fun z => hj (by rw [← z]; exact List.mem_singleton.mpr rfl)
          rw [List.getElem?_set_ne ne, List.getElem?_set_ne ne, stF_ne (fun z => ne z.symm)]
          exact ⟨rfl, rfl, rfl⟩
      · rw [if_neg hl] at q2; exact q2.elim
end
/-! a, b = e1, e2 -/
section
variable {K : PySem.W.Frag} {H0 Pz H H1 H2 : Hp} {T : Addr → Prop} {σ : St} {ρ : Env} {Fs : Nat → List Addr}
/-- a result that was made ahead of a store stays apart from what is stored -/
theorem ResOk.afterSet {i : Nat} {F G : List Addr} {d : DV} {m m' : Md} (hi : i < ρ.length) (o : ResOk H0 Pz T ρ Fs H F m) (o' : ResOk H0 Pz T ρ Fs H G m') (hm : m ≠ .tmp) (hm' : m' ≠ .tmp) (hFG : ∀ a ∈ F, a ∉ G) : ResOk H0 Pz T (ρ.set i (some (d, m))) (stF Fs i F) H G m' := by
  refine ⟨o'.fresh, fun z a A e => ?_, fun _ => ⟨fun k dk hk a A e ha => ?_, fun a ta => (o'.notops hm').2 a ta⟩, fun z => absurd z hm'⟩
  · obtain ⟨h1, h2, h3⟩ := o'.top z a A e
    refine ⟨h1, h2, fun j => ?_⟩
    by_cases hj : j = i
    · subst hj
      rw [stF_same]
      intro ha
      exact hFG a ha (by rw [e]; exact List.mem_cons_self)
    · rw [stF_ne hj]; exact h3 j
  · by_cases hk' : k = i
    · subst hk'
      rw [stF_same] at e
      exact hFG a (by rw [e]; exact List.mem_cons_self) ha
    · rw [List.getElem?_set_ne (fun z => hk' z.symm)] at hk
      rw [stF_ne hk'] at e
      exact (o'.notops hm').1 k dk hk a A e ha
end
section
variable {X : Cx} {pos : Pos}
/-- for plain values on both sides, or one of them -/
def parE (ρ : Env) (i j : Nat) : DV × Md → DV × Md → Option Env
  | (.i x, _), (d, m) => if m = .tmp then none else some ((ρ.set i (some (.i x, .own))).set j (some (d, nrmM d m)))
  | (d, m), (.i y, _) => if m = .tmp then none else some ((ρ.set i (some (d, nrmM d m))).set j (some (.i y, .own)))
  | _, _ => none
def sPar1 (i j : Nat) (f g : FE) : FS := fun ρ => match f ρ with
  | .ok x => (match g ρ with
    | .ok y => if i < ρ.length ∧ j < ρ.length then (match parE ρ i j x y with
      | some ρ' => .nx ρ'
      | none => .bad) else .bad
    | .ex c p => .ex c p ρ
    | .bad => .bad)
  | .ex c p => .ex c p ρ
  | .bad => .bad
theorem sv_par {i j : Nat} {x y : Str} {a b : Expr} {f g : FE} {px py pt : Pos} {kt k2 pt2} (hc : X.calm = true) (hN : X.N.Nodup) (hi : X.N[i]? = some x) (hj : X.N[j]? = some y) (hij : i ≠ j)
    (hx : X.env.scope.names.lookup x = some .local) (hy : X.env.scope.names.lookup y = some .local) (ha : PEv X a f) (hb : PEv X b g)
    (hw : swappedStores [.Tuple [.Name x px, .Name y py] kt pt] (.Tuple [a, b] k2 pt2) X.env = pure (some [x, y]))
    (hs : swapsWithSole [.Tuple [.Name x px, .Name y py] kt pt] (.Tuple [a, b] k2 pt2) pos.line X.env = pure false := by rfl)
    (he : starEach (a :: [b]) X.env = (false, eval a X.env) :: starEach [b] X.env := by rfl) (he2 : starEach (b :: []) X.env = (false, eval b X.env) :: starEach [] X.env := by rfl) :
    PSv X (.Assign [.Tuple [.Name x px, .Name y py] kt pt] (.Tuple [a, b] k2 pt2) pos) (sPar1 i j f g) := fun W tk =>
  PS.imp (ps_par hc hN hi hj hij hx hy (pa_cons (ha W tk) (pa_cons (hb W tk) pa_nil he2) he) hw hs) fun D σ H h => by
    obtain ⟨H0, Pz, T, ρ, Fs, E, h⟩ := h
    show tev X.K X.mg W f σ H _
    unfold sPar1 at h
    cases e1 : f ρ with
    | bad => rw [e1] at h; exact h.elim
    | ex c p => rw [e1] at h; exact ex_of E e1 h
    | ok x =>
      rw [e1] at h
      refine tev_ok E e1 fun v H1 F s1 E1 r1 o1 => ?_
      show tev X.K X.mg W g σ H1 _
      simp only at h
      cases e2 : g ρ with
      | bad => rw [e2] at h; exact h.elim
      | ex c p => rw [e2] at h; exact ex_of E1 e2 h
      | ok y =>
        rw [e2] at h
        refine tev_ok E1 e2 fun u H2 G s2 E2 r2 o2 => ?_
        simp only at h
        by_cases hl : i < ρ.length ∧ j < ρ.length
        · rw [if_pos hl] at h
          obtain ⟨hil, hjl⟩ := hl
          refine ⟨v, u, rfl, ?_⟩
          have r1' := r1.same s2
          have o1' := o1.same s2
          obtain ⟨x, mx⟩ := x
          obtain ⟨y, my⟩ := y
          simp only at r1' r2 o1' o2
          -- the two stores
          have fin : ∀ (m1 m2 : Md), m1 ≠ .tmp → m2 ≠ .tmp → ResOk H0 Pz T ρ Fs H2 F m1 → ResOk H0 Pz T ρ Fs H2 G m2 → (∀ a ∈ F, a ∉ G) → EnvR X.K H0 Pz T H2 ((σ.set i (some v)).set j (some u)) ((ρ.set i (some (x, m1))).set j (some (y, m2))) (stF (stF Fs i F) j G) := fun m1 m2 hm1 hm2 q1 q2 hd =>
            (E2.set hil r1' q1 hm1).set (by rw [List.length_set]; exact hjl) r2 (q1.afterSet hil q2 hm1 hm2 hd) hm2
          cases e3 : parE ρ i j (x, mx) (y, my) with
          | none => rw [e3] at h; exact h.elim
          | some ρ' =>
            rw [e3] at h
            unfold parE at e3
            split at e3
            · rename_i hq1 hq2
              cases hq1
              cases hq2
              split at e3
              · cases e3
              · rename_i hm
                cases e3
                have eF : F = [] := by cases r1'; rfl
                subst eF
                exact h _ H2 _ (fin .own (nrmM y my) (by intro z; cases z) (by cases y <;> first | exact hm | (intro z; cases z)) .nil (o2.nrm r2) fun _ z => (nomatch z))
            · rename_i hq1 hq2
              cases hq1
              cases hq2
              split at e3
              · cases e3
              · rename_i hm
                cases e3
                have eG : G = [] := by cases r2; rfl
                subst eG
                exact h _ H2 _ (fin (nrmM x mx) .own (by cases x <;> first | exact hm | (intro z; cases z)) (by intro z; cases z) (o1'.nrm r1') .nil fun _ _ z => (nomatch z))
            · cases e3
        · rw [if_neg hl] at h; exact h.elim
end

/-- both new lists -/
def parL (ρ : Env) (i j : Nat) : DV × Md → DV × Md → Option Env
  | (.l a, .own), (.l b, .own) => some ((ρ.set i (some (.l a, .own))).set j (some (.l b, .own)))
  | _, _ => none
def sParL (i j : Nat) (f g : FE) : FS := fun ρ => match f ρ with
  | .ok x => (match g ρ with
    | .ok y => if i < ρ.length ∧ j < ρ.length then (match parL ρ i j x y with
      | some ρ' => .nx ρ'
      | none => .bad) else .bad
    | .ex c p => .ex c p ρ
    | .bad => .bad)
  | .ex c p => .ex c p ρ
  | .bad => .bad
theorem EnvR.moreT {K : PySem.W.Frag} {H0 Pz H : Hp} {T : Addr → Prop} {σ : St} {ρ : Env} {Fs : Nat → List Addr} (E : EnvR K H0 Pz T H σ ρ Fs) {a : Addr} (h1 : Pz a = none) (h2 : ∃ vs, H a = some (.lst vs)) (h3 : ∀ j, a ∉ Fs j) : EnvR K H0 Pz (fun b => T b ∨ b = a) H σ ρ Fs :=
  ⟨E.h0, E.pz, fun b hb => hb.elim (E.tn b) fun z => z ▸ h1, fun b hb => hb.elim (E.th b) fun z => z ▸ h2, E.len, E.at_, E.fresh, E.top, fun b hb => hb.elim (E.tt b) fun z => z ▸ h3, E.nil⟩
theorem EnvR.lessT {K : PySem.W.Frag} {H0 Pz H : Hp} {T T' : Addr → Prop} {σ : St} {ρ : Env} {Fs : Nat → List Addr} (E : EnvR K H0 Pz T H σ ρ Fs) (h : ∀ a, T' a → T a) : EnvR K H0 Pz T' H σ ρ Fs :=
  ⟨E.h0, E.pz, fun b hb => E.tn b (h b hb), fun b hb => E.th b (h b hb), E.len, E.at_, E.fresh, E.top, fun b hb => E.tt b (h b hb), E.nil⟩
theorem ResOk.lessT {H0 Pz H : Hp} {T T' : Addr → Prop} {ρ : Env} {Fs : Nat → List Addr} {F : List Addr} {m : Md} (o : ResOk H0 Pz T ρ Fs H F m) (h : ∀ a, T' a → T a) : ResOk H0 Pz T' ρ Fs H F m :=
  ⟨o.fresh, o.top, fun z => ⟨(o.notops z).1, fun a ta => (o.notops z).2 a (h a ta)⟩, o.tmp⟩
section
variable {X : Cx} {pos : Pos}
theorem sv_parL {i j : Nat} {x y : Str} {a b : Expr} {f g : FE} {px py pt : Pos} {kt k2 pt2} (hc : X.calm = true) (hN : X.N.Nodup) (hi : X.N[i]? = some x) (hj : X.N[j]? = some y) (hij : i ≠ j)
    (hx : X.env.scope.names.lookup x = some .local) (hy : X.env.scope.names.lookup y = some .local) (ha : PEv X a f) (hb : PEv X b g)
    (hw : swappedStores [.Tuple [.Name x px, .Name y py] kt pt] (.Tuple [a, b] k2 pt2) X.env = pure (some [x, y]))
    (hs : swapsWithSole [.Tuple [.Name x px, .Name y py] kt pt] (.Tuple [a, b] k2 pt2) pos.line X.env = pure false := by rfl)
    (he : starEach (a :: [b]) X.env = (false, eval a X.env) :: starEach [b] X.env := by rfl) (he2 : starEach (b :: []) X.env = (false, eval b X.env) :: starEach [] X.env := by rfl) :
    PSv X (.Assign [.Tuple [.Name x px, .Name y py] kt pt] (.Tuple [a, b] k2 pt2) pos) (sParL i j f g) := fun W tk =>
  PS.imp (ps_par hc hN hi hj hij hx hy (pa_cons (ha W tk) (pa_cons (hb W tk) pa_nil he2) he) hw hs) fun D σ H h => by
    obtain ⟨H0, Pz, T, ρ, Fs, E, h⟩ := h
    show tev X.K X.mg W f σ H _
    unfold sParL at h
    cases e1 : f ρ with
    | bad => rw [e1] at h; exact h.elim
    | ex c p => rw [e1] at h; exact ex_of E e1 h
    | ok x =>
      rw [e1] at h
      refine tev_ok E e1 fun v H1 F s1 E1 r1 o1 => ?_
      show tev X.K X.mg W g σ H1 _
      simp only at h
      cases e2 : g ρ with
      | bad => rw [e2] at h; exact h.elim
      | ex c p => rw [e2] at h; exact ex_of E1 e2 h
      | ok y =>
        rw [e2] at h
        simp only at h
        by_cases hl : i < ρ.length ∧ j < ρ.length
        · rw [if_pos hl] at h
          obtain ⟨hil, hjl⟩ := hl
          obtain ⟨x, mx⟩ := x
          obtain ⟨y, my⟩ := y
          cases e3 : parL ρ i j (x, mx) (y, my) with
          | none => rw [e3] at h; exact h.elim
          | some ρ' =>
            rw [e3] at h
            unfold parL at e3
            split at e3
            · rename_i a1 b1 hq1 hq2
              cases hq1
              cases hq2
              cases e3
              cases r1 with
              | @l aa vs1 _ p1 t1 =>
                have tp := o1.top rfl aa [] rfl
                have E1' := E1.moreT tp.1 ⟨_, p1⟩ tp.2.2
                refine tev_ok E1' e2 fun u H2 G s2 E2 r2 o2 => ?_
                refine ⟨_, u, rfl, ?_⟩
                have o2' := o2.lessT (T' := T) fun b tb => .inl tb
                have hd : ∀ c ∈ [aa], c ∉ G := fun c hc => by
                  have e := List.mem_singleton.mp hc
                  rw [e]
                  exact (o2.notops (by intro z; cases z)).2 aa (.inr rfl)
                have r1' : RpD X.K H1 (.ref aa) (.l a1) [aa] := .l p1 t1
                have E3 := E2.lessT (T' := T) fun b tb => .inl tb
                exact h _ H2 _ ((E3.set hil (r1'.same s2) (o1.same s2) (by intro z; cases z)).set (by rw [List.length_set]; exact hjl) r2 ((o1.same s2).afterSet hil o2' (by intro z; cases z) (by intro z; cases z) hd) (by intro z; cases z))
            · cases e3
        · rw [if_neg hl] at h; exact h.elim
end

/-! ### name op= e -/
def sAug (i : Nat) (op : DV × Md → DV × Md → R (DV × Md)) (f : FE) : FS := fun ρ => match eVar i ρ with
  | .ok x => (match f ρ with
    | .ok y => (match op x y with
      | .ok z => if z.2 = .tmp ∨ ¬ i < ρ.length then .bad else .nx (ρ.set i (some (z.1, nrmM z.1 z.2)))
      | _ => .bad)
    | .ex c p => .ex c p ρ
    | .bad => .bad)
  | _ => .bad
abbrev rIAddAll : R2 := fun x y H Q => rI0 (fun i j => .int (i + j)) x y H Q ∨ strAddR x y H Q
def opIAdd : DV × Md → DV × Md → R (DV × Md)
  | (.i (.int a), _), (.i (.int b), _) => ok1 (.int (a + b))
  | (.i (.str a), _), (.i (.str b), _) => if a.length + b.length ≤ 16777216 then ok1 (.str (a ++ b)) else .bad
  | _, _ => .bad
theorem opIAdd_nx : NoEx opIAdd := noex_of fun x y => by
  unfold opIAdd; split <;> first | exact .inr rfl | exact .inl ⟨_, rfl⟩ | (split <;> first | exact .inr rfl | exact .inl ⟨_, rfl⟩)
theorem bIAdd {K : PySem.W.Frag} : BOk K rIAddAll opIAdd := by
  intro H0 Pz H T σ ρ Fs x y z v u F G Q E r1 o1 r2 o2 e h
  obtain ⟨x, mx⟩ := x
  obtain ⟨y, my⟩ := y
  simp only at r1 r2
  unfold opIAdd at e
  split at e
  · rename_i q1 q2; cases q1; cases q2; cases e
    cases r1 with | i r1 => cases r1; cases r2 with | i r2 => cases r2; exact .inl ⟨_, _, rfl, rfl, fin1 h (.int _)⟩
  · rename_i q1 q2; cases q1; cases q2
    split at e
    · rename_i hl; cases e
      cases r1 with | i r1 => cases r1; cases r2 with | i r2 => cases r2; exact .inr ⟨_, _, rfl, rfl, by rw [slEq]; exact hl, fin1 h (.str _)⟩
    · cases e
  · cases e
section
variable {X : Cx} {pos : Pos}
theorem or_iadd : OpR X (inplaceOp .Add) rIAddAll := iop_add.or iop_add_str
theorem sv_aug {i : Nat} {x : Str} {e : Expr} {f : FE} {o : Operator} {r : R2} {op : DV × Md → DV × Md → R (DV × Md)} {pos' : Pos} (hN : X.N.Nodup) (hi : X.N[i]? = some x) (hx : Loc X.env.scope x) (ho : OpR X (inplaceOp o) r) (hb : BOk X.K r op) (he : PEv X e f) (hf : X.fn x = true ∨ X.env.scope.names.lookup x = some .local := by first | exact .inl rfl | exact .inr rfl | assumption) :
    PSv X (.AugAssign (.Name x pos') o e pos) (sAug i op f) := fun W tk =>
  PS.imp (ps_aug (ti := r) hN hi hx (he W tk) (fun pins s σ H x y v u Q I rx ry h => ho pins s σ H x y v u Q I rx ry h) hf) fun D σ H h => by
    obtain ⟨H0, Pz, T, ρ, Fs, E, h⟩ := h
    unfold sAug at h
    cases e0 : eVar i ρ with
    | bad => rw [e0] at h; exact h.elim
    | ex c p => rw [e0] at h; exact h.elim
    | ok x =>
      rw [e0] at h
      obtain ⟨v, F, h1, r1, o1⟩ := E.look e0
      refine ⟨v, h1, ?_⟩
      simp only at h
      cases e1 : f ρ with
      | bad => rw [e1] at h; exact h.elim
      | ex c p => rw [e1] at h; exact ex_of E e1 h
      | ok y =>
        rw [e1] at h
        refine tev_ok E e1 fun u H1 G s1 E1 r2 o2 => ?_
        simp only at h
        cases e2 : op x y with
        | bad => rw [e2] at h; exact h.elim
        | ex c p => rw [e2] at h; exact h.elim
        | ok z =>
          rw [e2] at h
          simp only at h
          by_cases hz : z.2 = .tmp ∨ ¬ i < ρ.length
          · rw [if_pos hz] at h; exact h.elim
          · rw [if_neg hz] at h
            obtain ⟨hz1, hz2⟩ := not_or.mp hz
            refine hb H0 Pz H1 T σ ρ Fs x y z v u F G _ E1 (r1.same s1) (o1.same s1) r2 o2 e2 fun w H2 F2 s2 r3 o3 => ?_
            exact h _ H2 _ ((E1.same s2).set (Decidable.not_not.mp hz2) r3 (o3.nrm r3) (by
              cases z with
              | mk d m => cases d <;> first | exact hz1 | (intro q; cases q)))
end
/-! ### if, return, pass -/
def sIf (c : FT) (f g : FS) : FS := fun ρ => match c ρ with
  | .ok b => if b then f ρ else g ρ
  | .ex c p => .ex c p ρ
  | .bad => .bad
def retOk : DV × Md → Bool
  | (.i _, _) => true
  | (.l _, .own) => true
  | (.l _, .loc) => true
  | (.m _, .own) => true
  | _ => false
def sRet (f : FE) : FS := fun ρ => match f ρ with
  | .ok x => if retOk x then .rt x.1 else .bad
  | .ex c p => .ex c p ρ
  | .bad => .bad
/-- return x, x a name -/
def retV : Option (Option (DV × Md)) → Option DV
  | some (some (.i x, _)) => some (.i x)
  | some (some (d, m)) => if retOk (d, m) then some d else none
  | _ => none
def sRetV (i : Nat) : FS := fun ρ => match retV ρ[i]? with
  | some d => .rt d
  | none => .bad
def sBreak : FS := .bk
def sCont : FS := .ct
section
variable {X : Cx} {pos : Pos}
theorem sv_if {c : Expr} {a b : List Stmt} {t : FT} {f g : FS} (hc : PTv X c t) (ha : PSsv X a f) (hb : PSsv X b g) : PSv X (.If c a b pos) (sIf t f g) := fun W tk =>
  PS.imp (ps_if (hc W tk) (ha W tk) (hb W tk)) fun D σ H h => by
    obtain ⟨H0, Pz, T, ρ, Fs, E, h⟩ := h
    show ttv X.K X.mg W t σ H _
    unfold sIf at h
    cases e1 : t ρ with
    | bad => rw [e1] at h; exact h.elim
    | ex c p => rw [e1] at h; exact ttv_ex E e1 fun C H' d hC s xd => h C d σ H' Fs hC (E.same s) xd
    | ok x =>
      rw [e1] at h
      refine ttv_ok E e1 fun H1 s1 E1 => ?_
      cases x with
      | true =>
        simp only [if_true] at h ⊢
        exact ⟨H0, Pz, T, ρ, Fs, E1, h⟩
      | false =>
        simp only [Bool.false_eq_true, if_false] at h ⊢
        exact ⟨H0, Pz, T, ρ, Fs, E1, h⟩
theorem ret_of {K : PySem.W.Frag} {H0 Pz H : Hp} {T : Addr → Prop} {ρ : Env} {Fs : Nat → List Addr} {v : V} {x : DV × Md} {F : List Addr} (h : retOk x = true) (r : RpD K H v x.1 F) (o : ResOk H0 Pz T ρ Fs H F x.2) : RetOk H0 H F := by
  obtain ⟨d, m⟩ := x
  simp only at r o
  unfold retOk at h
  split at h
  · rename_i q; cases q; cases r; exact ⟨fun _ z => (nomatch z), fun _ _ z => (nomatch z)⟩
  · rename_i q; cases q; cases r with | l s t => exact ⟨o.fresh (.inl rfl), fun a G e => by cases e; intro z; cases z⟩
  · rename_i q; cases q; cases r with | l s t => exact ⟨o.fresh (.inr rfl), fun a G e => by cases e; intro z; cases z⟩
  · rename_i q; cases q; exact ⟨o.fresh (.inl rfl), fun a G e => (o.top rfl a G e).2.1⟩
  · cases h
theorem sv_ret {e : Expr} {f : FE} (he : PEv X e f) : PSv X (.Return (some e) pos) (sRet f) := fun W tk =>
  PS.imp (ps_ret (he W tk)) fun D σ H h => by
    obtain ⟨H0, Pz, T, ρ, Fs, E, h⟩ := h
    show tev X.K X.mg W f σ H _
    unfold sRet at h
    cases e1 : f ρ with
    | bad => rw [e1] at h; exact h.elim
    | ex c p => rw [e1] at h; exact ex_of E e1 h
    | ok x =>
      rw [e1] at h
      refine tev_ok E e1 fun v H1 F s1 E1 r1 o1 => ?_
      simp only at h
      by_cases hx : retOk x = true
      · rw [if_pos hx] at h
        exact h v H1 F (E1.h0.trans E1.pz) r1 (ret_of hx r1 o1)
      · rw [if_neg hx] at h; exact h.elim
theorem sv_retN : PSv X (.Return none pos) (fun _ => .rt (.i .non)) := fun W tk =>
  PS.imp ps_retN fun D σ H h => by
    obtain ⟨H0, Pz, T, ρ, Fs, E, h⟩ := h
    exact h .non H [] (E.h0.trans E.pz) (.i .non) ⟨fun _ z => (nomatch z), fun _ _ z => (nomatch z)⟩
theorem sv_retV (i : Nat) {x : Str} {p : Pos} (hN : X.N[i]? = some x := by rfl) (hv : Vis X.env.scope x := by first | exact Or.inl rfl | exact Or.inr (Or.inl rfl) | exact Or.inr (Or.inr rfl)) (hd : (x == ("__debug__" : Str)) = false := by decide)
    (hcd : (x == ("__classdict__" : Str)) = false := by decide) : PSv X (.Return (some (.Name x p)) pos) (sRetV i) := fun W tk =>
  PS.imp (ps_ret (pe_var hN hv hd hcd)) fun D σ H h => by
    obtain ⟨H0, Pz, T, ρ, Fs, E, h⟩ := h
    unfold sRetV at h
    cases e0 : retV ρ[i]? with
    | none => rw [e0] at h; exact h.elim
    | some d0 =>
      rw [e0] at h
      unfold retV at e0
      split at e0
      · rename_i y m e
        cases e0
        obtain ⟨v, h1, h2⟩ := E.at_ i _ _ e
        generalize Fs i = G at h2
        cases h2 with
        | i r => exact ⟨v, h1, h v H [] (E.h0.trans E.pz) (.i r) ⟨fun _ z => (nomatch z), fun _ _ z => (nomatch z)⟩⟩
      · rename_i d m hni e
        split at e0
        · rename_i hx
          cases e0
          obtain ⟨v, h1, h2⟩ := E.at_ i _ _ e
          refine ⟨v, h1, h v H (Fs i) (E.h0.trans E.pz) h2 ?_⟩
          have hb : m ≠ .bor := by
            intro z; subst z
            cases d0 <;> simp [retOk] at hx
            exact hni _ rfl
          refine ⟨E.fresh i _ m e hb, fun a G eG => ?_⟩
          cases d0 with
          | i y => exact absurd rfl (hni y)
          | l ys => rw [eG] at h2; cases h2; intro z; cases z
          | f ys => cases m <;> simp [retOk] at hx
          | m ys =>
            have : m = .own := by cases m <;> simp [retOk] at hx; rfl
            subst this
            exact (E.top i _ e a G eG).2.1
        · cases e0
      · cases e0
theorem sv_pass : PSv X (.Pass pos) sNil := fun W tk => PS.imp ps_pass fun D σ H h => by
  obtain ⟨H0, Pz, T, ρ, Fs, E, h⟩ := h
  exact h σ H Fs E
theorem sv_break : PSv X (.Break pos) sBreak := fun W tk => PS.imp ps_break fun D σ H h => by
  obtain ⟨H0, Pz, T, ρ, Fs, E, h⟩ := h
  exact h σ H Fs E
theorem sv_cont : PSv X (.Continue pos) sCont := fun W tk => PS.imp ps_continue fun D σ H h => by
  obtain ⟨H0, Pz, T, ρ, Fs, E, h⟩ := h
  exact h σ H Fs E
/-- an expression whose value is dropped -/
def sExpr (f : FE) : FS := fun ρ => match f ρ with
  | .ok _ => .nx ρ
  | .ex c p => .ex c p ρ
  | .bad => .bad
theorem sv_expr {e : Expr} {f : FE} (he : PEv X e f) (hs : swapsWith e none pos.line X.env = pure false := by rfl) : PSv X (.Expr e pos) (sExpr f) := fun W tk =>
  PS.imp (ps_expr (he W tk) hs) fun D σ H h => by
    obtain ⟨H0, Pz, T, ρ, Fs, E, h⟩ := h
    show tev X.K X.mg W f σ H _
    unfold sExpr at h
    cases e1 : f ρ with
    | bad => rw [e1] at h; exact h.elim
    | ex c p => rw [e1] at h; exact ex_of E e1 h
    | ok x =>
      rw [e1] at h
      exact tev_ok E e1 fun v H1 F s1 E1 r1 o1 => h σ H1 Fs E1
/-- raise X('..') -/
def sRaise (c : Str) : FS := fun ρ => .ex c none ρ
theorem sv_raise {c : Str} {C : Addr} {m : Str} {j : Nat} {p p2 p3 : Pos} (hc : X.calm = true) (q : PySem.W.excIn X.K C He.veBase "ValueError.__new__" = true) (gC : X.mg c = some (.ref C)) (kC : PySem.W.keepIn X.K (.ref C) = true)
    (sC : PySem.W.subIn X.K (.ref C) (.type "BaseException") = some true) (tC : PySem.W.typeIn X.K (.ref C) = some (.type "type")) (hg : Gl X c) (hdb : (c == ("__debug__" : Str)) = false := by decide) :
    PSv X (.Raise (some (.Call (.Name c p) [.Constant (.str m) j p2] [] p3)) none pos) (sRaise c) := fun W tk =>
  PS.imp (ps_raise hc tk (pmk_own PySem.F.excBase_ValueError q gC kC (raises_own sC tC) hg hdb)) fun D σ H h => by
    obtain ⟨H0, Pz, T, ρ, Fs, E, h⟩ := h
    exact h C none σ H Fs gC E rfl
end
end L2.Pv

namespace L2.Pv
open PySem PySem.Spec PyProof.Rows

/-! ## lists that grow and change -/
section
variable {K : PySem.W.Frag} {H0 Pz H : Hp} {T : Addr → Prop} {σ : St} {ρ : Env} {Fs : Nat → List Addr}
theorem EnvR.updTop (E : EnvR K H0 Pz T H σ ρ Fs) {i : Nat} {d d' : DV} {a : Addr} {G G' : List Addr} {vs us : List V} (hi : ρ[i]? = some (some (d, .own))) (hF : Fs i = a :: G) (hv : σ[i]? = some (some (.ref a))) (hl : H a = some (.lst vs))
    (r : RpD K (upd H a (.lst us)) (.ref a) d' (a :: G')) (g1 : ∀ c ∈ G', H0 c = none ∧ ∃ vs, H c = some (.lst vs)) (g2 : a ∉ G') (g3 : ∀ k dk, k ≠ i → ρ[k]? = some (some (dk, .own)) → ∀ b B, Fs k = b :: B → b ∉ G') (g4 : ∀ b, T b → b ∉ G') :
    EnvR K H0 Pz T (upd H a (.lst us)) σ (ρ.set i (some (d', .own))) (stF Fs i (a :: G')) := by
  have tp := E.top i d hi a G hF
  have hil : i < ρ.length := (List.getElem?_eq_some_iff.mp hi).1
  have fr := E.fresh i d .own hi (by intro z; cases z)
  have nj : ∀ j, j ≠ i → ∀ c ∈ Fs j, c ≠ a := fun j hj c hc z => tp.2.2 j hj (by rw [← z]; exact hc)
  refine ⟨E.h0, fun b o e => ?_, E.tn, fun b tb => ?_, by rw [List.length_set]; exact E.len, fun j d1 m1 h => ?_, fun j d1 m1 h hb c hc => ?_, fun j d1 h b B e => ?_, fun b tb j => ?_, fun j h => ?_⟩
  · have nb : b ≠ a := fun z => by rw [z, tp.1] at e; cases e
    rw [upd_ne nb]; exact E.pz _ _ e
  · obtain ⟨ws, q⟩ := E.th b tb
    by_cases hb : b = a
    · subst hb; exact ⟨us, upd_same⟩
    · exact ⟨ws, by rw [upd_ne hb]; exact q⟩
  · by_cases hj : j = i
    · subst hj
      rw [List.getElem?_set_self hil] at h
      cases h
      rw [stF_same]
      exact ⟨_, hv, r⟩
    · rw [List.getElem?_set_ne (fun z => hj z.symm)] at h
      rw [stF_ne hj]
      obtain ⟨v, h1, h2⟩ := E.at_ j d1 m1 h
      exact ⟨v, h1, h2.mono (upd_tkeep hl) fun c hc => upd_ne (nj j hj c hc)⟩
  · by_cases hj : j = i
    · subst hj
      rw [stF_same] at hc
      rcases List.mem_cons.mp hc with e | hc
      · subst e
        exact ⟨(fr c (by rw [hF]; exact List.mem_cons_self)).1, us, upd_same⟩
      · obtain ⟨q1, ws, q2⟩ := g1 c hc
        exact ⟨q1, ws, by rw [upd_ne (fun z => g2 (by rw [← z]; exact hc))]; exact q2⟩
    · rw [List.getElem?_set_ne (fun z => hj z.symm)] at h
      rw [stF_ne hj] at hc
      obtain ⟨q1, ws, q2⟩ := E.fresh j d1 m1 h hb c hc
      exact ⟨q1, ws, by rw [upd_ne (nj j hj c hc)]; exact q2⟩
  · by_cases hj : j = i
    · subst hj
      rw [stF_same] at e
      cases e
      exact ⟨tp.1, g2, fun k hk => by rw [stF_ne hk]; exact tp.2.2 k hk⟩
    · rw [List.getElem?_set_ne (fun z => hj z.symm)] at h
      rw [stF_ne hj] at e
      obtain ⟨q1, q2, q3⟩ := E.top j d1 h b B e
      refine ⟨q1, q2, fun k hk => ?_⟩
      by_cases hk' : k = i
      · subst hk'
        rw [stF_same]
        intro hb
        rcases List.mem_cons.mp hb with z | hb
        · exact nj j hj b (by rw [e]; exact List.mem_cons_self) z
        · exact g3 j d1 hj h b B e hb
      · rw [stF_ne hk']; exact q3 k hk
  · by_cases hj : j = i
    · subst hj
      rw [stF_same]
      intro hb
      rcases List.mem_cons.mp hb with z | hb
      · exact E.tt b tb j (by rw [hF, z]; exact List.mem_cons_self)
      · exact g4 b tb hb
    · rw [stF_ne hj]; exact E.tt b tb j
  · by_cases hj : j = i
    · subst hj
      exact absurd (List.getElem?_set_self hil) (h d' .own)
    · rw [stF_ne hj]
      refine E.nil j fun d1 m1 z => h d1 m1 ?_
      rw [List.getElem?_set_ne (fun z => hj z.symm)]
      exact z
theorem RpDs.append : ∀ {vs : List V} {xs : List DV} {F : List Addr} {us : List V} {ys : List DV} {G : List Addr}, RpDs K H vs xs F → RpDs K H us ys G → RpDs K H (vs ++ us) (xs ++ ys) (F ++ G)
  | _, [], _, _, _, _, h, k => by cases h; exact k
  | _, _ :: _, _, _, _, _, h, k => by
    cases h with
    | cons a b => rw [List.append_assoc]; exact .cons a (RpDs.append b k)
theorem RpIs.ds : ∀ {vs : List V} {xs : List IV}, RpIs K H vs xs → RpDs K H vs (xs.map .i) []
  | _, [], h => by cases h; exact .nil
  | _, _ :: _, h => by
    cases h with
    | cons a b => exact .cons (F := []) (.i a) (RpIs.ds b)
theorem RpDs.set : ∀ (j : Nat) {vs : List V} {xs : List DV} {F : List Addr} {v : V} {x : DV} {G : List Addr}, RpDs K H vs xs F → RpD K H v x G → ∃ F', RpDs K H (vs.set j v) (xs.set j x) F' ∧ ∀ c ∈ F', c ∈ F ∨ c ∈ G
  | _, _, [], _, _, _, _, h, _ => by cases h; exact ⟨[], .nil, fun _ z => (nomatch z)⟩
  | 0, _, _ :: _, _, _, _, G, h, k => by
    cases h with
    | @cons _ _ _ _ F1 F2 a b => exact ⟨G ++ F2, .cons k b, fun c hc => (List.mem_append.mp hc).elim .inr fun z => .inl (List.mem_append_right _ z)⟩
  | j + 1, _, _ :: _, _, _, _, G, h, k => by
    cases h with
    | @cons _ _ _ _ F1 F2 a b =>
      obtain ⟨F', h1, h2⟩ := RpDs.set j b k
      exact ⟨F1 ++ F', .cons a h1, fun c hc => (List.mem_append.mp hc).elim (fun z => .inl (List.mem_append_left _ z)) fun z => (h2 c z).elim (fun q => .inl (List.mem_append_right _ q)) .inr⟩
/-- what may go into a list that a slot owns -/
def putOk : Md → Bool
  | .own => true
  | .loc => true
  | _ => false
def appD : DV → DV × Md → Option DV
  | .l xs, (.i y, _) => if xs.length < 16777216 then some (.l (xs ++ [y])) else none
  | .l xs, (d, m) => if xs.length < 16777216 ∧ putOk m then some (.m (xs.map .i ++ [d])) else none
  | .m xs, (.i y, _) => if xs.length < 16777216 then some (.m (xs ++ [.i y])) else none
  | .m xs, (d, m) => if xs.length < 16777216 ∧ putOk m then some (.m (xs ++ [d])) else none
  | _, _ => none
def setD : DV → Int → DV × Md → Option DV
  | .l xs, k, (.i y, _) => (ixN xs.length k).map fun j => .l (xs.set j y)
  | .l xs, k, (d, m) => if putOk m then (ixN xs.length k).map fun j => .m ((xs.map .i).set j d) else none
  | .m xs, k, (.i y, _) => (ixN xs.length k).map fun j => .m (xs.set j (.i y))
  | .m xs, k, (d, m) => if putOk m then (ixN xs.length k).map fun j => .m (xs.set j d) else none
  | _, _, _ => none
theorem putOk_iff {m : Md} (h : putOk m = true) : m = .own ∨ m = .loc := by
  cases m <;> first | exact .inl rfl | exact .inr rfl | cases h
/-- a new item's footprint is fit to go into a list of slot i -/
theorem ResOk.put {G : List Addr} {m : Md} (E : EnvR K H0 Pz T H σ ρ Fs) (o : ResOk H0 Pz T ρ Fs H G m) (h : G = [] ∨ putOk m = true) {i : Nat} {d : DV} {a : Addr} {A : List Addr} (hi : ρ[i]? = some (some (d, .own))) (hF : Fs i = a :: A) :
    (∀ c ∈ G, H0 c = none ∧ ∃ vs, H c = some (.lst vs)) ∧ a ∉ G ∧ (∀ k dk, k ≠ i → ρ[k]? = some (some (dk, .own)) → ∀ b B, Fs k = b :: B → b ∉ G) ∧ ∀ b, T b → b ∉ G := by
  rcases h with h | h
  · subst h
    exact ⟨fun _ z => (nomatch z), fun z => (nomatch z), fun _ _ _ _ _ _ _ z => (nomatch z), fun _ _ z => (nomatch z)⟩
  · have hm := putOk_iff h
    have n := o.notops (by rcases hm with z | z <;> (rw [z]; intro q; cases q))
    exact ⟨o.fresh hm, n.1 i d hi a A hF, fun k dk _ hk b B e => n.1 k dk hk b B e, n.2⟩
/-- the old items' footprint is -/
theorem EnvR.old (E : EnvR K H0 Pz T H σ ρ Fs) {i : Nat} {d : DV} {a : Addr} {A : List Addr} (hi : ρ[i]? = some (some (d, .own))) (hF : Fs i = a :: A) :
    (∀ c ∈ A, H0 c = none ∧ ∃ vs, H c = some (.lst vs)) ∧ a ∉ A ∧ (∀ k dk, k ≠ i → ρ[k]? = some (some (dk, .own)) → ∀ b B, Fs k = b :: B → b ∉ A) ∧ ∀ b, T b → b ∉ A :=
  ⟨fun c hc => E.fresh i d .own hi (by intro z; cases z) c (by rw [hF]; exact List.mem_cons_of_mem _ hc), (E.top i d hi a A hF).2.1,
    fun k dk hk hk' b B e hb => (E.top k dk hk' b B e).2.2 i (fun z => hk z.symm) (by rw [hF]; exact List.mem_cons_of_mem _ hb), fun b tb hb => E.tt b tb i (by rw [hF]; exact List.mem_cons_of_mem _ hb)⟩
/-- x.append(y), by data: the list and its new state -/
theorem app_env (E : EnvR K H0 Pz T H σ ρ Fs) {i : Nat} {d d' : DV} {v : V} {y : DV × Md} {G : List Addr} (hi : ρ[i]? = some (some (d, .own))) (r : RpD K H v y.1 G) (o : ResOk H0 Pz T ρ Fs H G y.2) (e : appD d y = some d') :
    ∃ a vs Fs', σ[i]? = some (some (.ref a)) ∧ H a = some (.lst vs) ∧ vs.length < sizeLine ∧ EnvR K H0 Pz T (upd H a (.lst (vs ++ [v]))) σ (ρ.set i (some (d', .own))) Fs' := by
  obtain ⟨w, hv, rd⟩ := E.at_ i d .own hi
  obtain ⟨y, my⟩ := y
  simp only at r o
  have key : ∀ {a : Addr} {vs : List V} {A G' : List Addr} {d1 : DV}, H a = some (.lst vs) → Fs i = a :: A → w = .ref a → vs.length < 16777216 → (G = [] ∨ putOk my = true) → (∀ c ∈ G', c ∈ A ∨ c ∈ G) → (RpD K (upd H a (.lst (vs ++ [v]))) (.ref a) d1 (a :: G')) →
      ∃ a vs Fs', σ[i]? = some (some (.ref a)) ∧ H a = some (.lst vs) ∧ vs.length < sizeLine ∧ EnvR K H0 Pz T (upd H a (.lst (vs ++ [v]))) σ (ρ.set i (some (d1, .own))) Fs' := fun {a vs A G' d1} hl hF hw hz hp hsub rr => by
    subst hw
    obtain ⟨p1, p2, p3, p4⟩ := o.put E hp hi hF
    obtain ⟨q1, q2, q3, q4⟩ := E.old hi hF
    exact ⟨a, vs, _, hv, hl, by rw [slEq]; exact hz, E.updTop hi hF hv hl rr (fun c hc => (hsub c hc).elim (q1 c) (p1 c)) (fun z => (hsub a z).elim q2 p2) (fun k dk h1 h2 b B h3 h4 => (hsub b h4).elim (q3 k dk h1 h2 b B h3) (p3 k dk h1 h2 b B h3)) fun b tb hb => (hsub b hb).elim (q4 b tb) (p4 b tb)⟩
  generalize hFi : Fs i = Fi at rd
  unfold appD at e
  split at e
  · rename_i q; cases q
    split at e
    · rename_i hz; cases e
      cases rd with
      | l s t =>
        cases r with
        | i r => exact key (G' := []) s hFi rfl (by rw [t.length]; exact hz) (.inl rfl) (fun _ z => (nomatch z)) (.l upd_same (((t.append (.one r))).mono (upd_tkeep s)))
    · cases e
  · rename_i hni q
    cases q
    split at e
    · rename_i hz; cases e
      cases rd with
      | l s t =>
        have n := (o.put E (.inr hz.2) hi hFi).2.1
        refine key (G' := [] ++ (G ++ [])) s hFi rfl (by rw [t.length]; exact hz.1) (.inr hz.2) (fun c hc => .inr (by simpa using hc)) (.m upd_same ?_)
        exact (t.ds.append (.cons r .nil)).mono (upd_tkeep s) fun c hc => upd_ne fun z => n (by rw [← z]; simpa using hc)
    · cases e
  · rename_i q; cases q
    split at e
    · rename_i hz; cases e
      cases rd with
      | @m a vs _ A s t =>
        cases r with
        | i r =>
          have n := (E.old hi hFi).2.1
          refine key (G' := A ++ ([] ++ [])) s hFi rfl (by rw [t.length]; exact hz) (.inl rfl) (fun c hc => .inl (by simpa using hc)) (.m upd_same ?_)
          exact (t.append (.cons (.i r) .nil)).mono (upd_tkeep s) fun c hc => upd_ne fun z => n (by rw [← z]; simpa using hc)
    · cases e
  · rename_i hni q
    cases q
    split at e
    · rename_i hz; cases e
      cases rd with
      | @m a vs _ A s t =>
        have n := (E.old hi hFi).2.1
        have n2 := (o.put E (.inr hz.2) hi hFi).2.1
        refine key (G' := A ++ (G ++ [])) s hFi rfl (by rw [t.length]; exact hz.1) (.inr hz.2) (fun c hc => by simpa using hc) (.m upd_same ?_)
        refine (t.append (.cons r .nil)).mono (upd_tkeep s) fun c hc => upd_ne fun z => ?_
        have hc' : c ∈ A ∨ c ∈ G := by simpa using hc
        exact hc'.elim (fun q => n (by rw [← z]; exact q)) fun q => n2 (by rw [← z]; exact q)
    · cases e
  · cases e
/-- x[k] = y, by data -/
theorem set_env (E : EnvR K H0 Pz T H σ ρ Fs) {i : Nat} {d d' : DV} {v : V} {k : Int} {y : DV × Md} {G : List Addr} (hi : ρ[i]? = some (some (d, .own))) (r : RpD K H v y.1 G) (o : ResOk H0 Pz T ρ Fs H G y.2) (e : setD d k y = some d') :
    ∃ a vs j Fs', σ[i]? = some (some (.ref a)) ∧ H a = some (.lst vs) ∧ ixN vs.length k = some j ∧ EnvR K H0 Pz T (upd H a (.lst (vs.set j v))) σ (ρ.set i (some (d', .own))) Fs' := by
  obtain ⟨w, hv, rd⟩ := E.at_ i d .own hi
  obtain ⟨y, my⟩ := y
  simp only at r o
  have key : ∀ {a : Addr} {vs : List V} {A G' : List Addr} {d1 : DV} {j : Nat}, H a = some (.lst vs) → Fs i = a :: A → w = .ref a → ixN vs.length k = some j → (G = [] ∨ putOk my = true) → (∀ c ∈ G', c ∈ A ∨ c ∈ G) → (RpD K (upd H a (.lst (vs.set j v))) (.ref a) d1 (a :: G')) →
      ∃ a vs j Fs', σ[i]? = some (some (.ref a)) ∧ H a = some (.lst vs) ∧ ixN vs.length k = some j ∧ EnvR K H0 Pz T (upd H a (.lst (vs.set j v))) σ (ρ.set i (some (d1, .own))) Fs' := fun {a vs A G' d1 j} hl hF hw hz hp hsub rr => by
    subst hw
    obtain ⟨p1, p2, p3, p4⟩ := o.put E hp hi hF
    obtain ⟨q1, q2, q3, q4⟩ := E.old hi hF
    exact ⟨a, vs, j, _, hv, hl, hz, E.updTop hi hF hv hl rr (fun c hc => (hsub c hc).elim (q1 c) (p1 c)) (fun z => (hsub a z).elim q2 p2) (fun k dk h1 h2 b B h3 h4 => (hsub b h4).elim (q3 k dk h1 h2 b B h3) (p3 k dk h1 h2 b B h3)) fun b tb hb => (hsub b hb).elim (q4 b tb) (p4 b tb)⟩
  generalize hFi : Fs i = Fi at rd
  unfold setD at e
  split at e
  · rename_i q; cases q
    obtain ⟨j, hj, e2⟩ := Option.map_eq_some_iff.mp e
    subst e2
    cases rd with
    | l s t =>
      cases r with
      | i r => exact key (G' := []) s hFi rfl (by rw [t.length]; exact hj) (.inl rfl) (fun _ z => (nomatch z)) (.l upd_same ((t.set j r).mono (upd_tkeep s)))
  · rename_i hni q
    cases q
    split at e
    · rename_i hp
      obtain ⟨j, hj, e2⟩ := Option.map_eq_some_iff.mp e
      subst e2
      cases rd with
      | l s t =>
        have n := (o.put E (.inr hp) hi hFi).2.1
        obtain ⟨F', h1, h2⟩ := t.ds.set j r
        exact key (G' := F') s hFi rfl (by rw [t.length]; exact hj) (.inr hp) (fun c hc => (h2 c hc).elim (fun z => (nomatch z)) .inr) (.m upd_same (h1.mono (upd_tkeep s) fun c hc => upd_ne fun z => (h2 c hc).elim (fun z => (nomatch z)) fun q => n (by rw [← z]; exact q)))
    · cases e
  · rename_i q; cases q
    obtain ⟨j, hj, e2⟩ := Option.map_eq_some_iff.mp e
    subst e2
    cases rd with
    | @m a vs _ A s t =>
      have n := (E.old hi hFi).2.1
      obtain ⟨F', h1, h2⟩ := t.set j r
      cases r with
      | i r => exact key (G' := F') s hFi rfl (by rw [t.length]; exact hj) (.inl rfl) (fun c hc => (h2 c hc).elim .inl fun z => (nomatch z)) (.m upd_same (h1.mono (upd_tkeep s) fun c hc => upd_ne fun z => (h2 c hc).elim (fun q => n (by rw [← z]; exact q)) fun z => (nomatch z)))
  · rename_i hni q
    cases q
    split at e
    · rename_i hp
      obtain ⟨j, hj, e2⟩ := Option.map_eq_some_iff.mp e
      subst e2
      cases rd with
      | @m a vs _ A s t =>
        have n := (E.old hi hFi).2.1
        have n2 := (o.put E (.inr hp) hi hFi).2.1
        obtain ⟨F', h1, h2⟩ := t.set j r
        exact key (G' := F') s hFi rfl (by rw [t.length]; exact hj) (.inr hp) (fun c hc => h2 c hc) (.m upd_same (h1.mono (upd_tkeep s) fun c hc => upd_ne fun z => (h2 c hc).elim (fun q => n (by rw [← z]; exact q)) fun q => n2 (by rw [← z]; exact q)))
    · cases e
  · cases e
end
def ownAt (ρ : Env) (i : Nat) : Option DV := match ρ[i]? with
  | some (some (.l xs, .own)) => some (.l xs)
  | some (some (.m xs, .own)) => some (.m xs)
  | _ => none
theorem ownAt_iff {ρ : Env} {i : Nat} {d : DV} (h : ownAt ρ i = some d) : ρ[i]? = some (some (d, .own)) := by
  unfold ownAt at h
  split at h
  · rename_i q; cases h; exact q
  · rename_i q; cases h; exact q
  · cases h
theorem EnvR.ownL {K : PySem.W.Frag} {H0 Pz H : Hp} {T : Addr → Prop} {σ : St} {ρ : Env} {Fs : Nat → List Addr} (E : EnvR K H0 Pz T H σ ρ Fs) {i : Nat} {d : DV} (h : ownAt ρ i = some d) : ∃ a vs A, σ[i]? = some (some (.ref a)) ∧ Fs i = a :: A ∧ H a = some (.lst vs) := by
  obtain ⟨w, h1, h2⟩ := E.at_ i d .own (ownAt_iff h)
  have hd : ∀ x, d ≠ .i x := fun x z => by
    subst z
    unfold ownAt at h
    split at h <;> cases h
  have hf : ∀ x, d ≠ .f x := fun x z => by
    subst z
    unfold ownAt at h
    split at h <;> cases h
  generalize Fs i = Fi at h2
  cases h2 with
  | i r => exact absurd rfl (hd _)
  | f r => exact absurd rfl (hf _)
  | l s t => exact ⟨_, _, _, h1, rfl, s⟩
  | m s t => exact ⟨_, _, _, h1, rfl, s⟩
def sApp (i : Nat) (f : FE) : FS := fun ρ => match ownAt ρ i with
  | some d => (match f ρ with
    | .ok y => (match appD d y with
      | some d' => .nx (ρ.set i (some (d', .own)))
      | none => .bad)
    | .ex c p => .ex c p ρ
    | .bad => .bad)
  | none => .bad
/-- x[k] = e: the value comes first -/
def sPut (i : Nat) (k f : FE) : FS := fun ρ => match f ρ with
  | .ok y => (match ownAt ρ i with
    | some d => (match k ρ with
      | .ok z => (match asI z with
        | .ok (some n) => (match setD d n y with
          | some d' => .nx (ρ.set i (some (d', .own)))
          | none => .bad)
        | _ => .bad)
      | .ex c p => .ex c p ρ
      | .bad => .bad)
    | none => .bad)
  | .ex c p => .ex c p ρ
  | .bad => .bad
section
variable {X : Cx} {pos : Pos}
/-- x.append(e) -/
theorem sv_app {i : Nat} {x : Str} {e : Expr} {f : FE} {px apos cpos : Pos} (he : PEv X e f) (hN : X.N[i]? = some x := by rfl) (hv : Vis X.env.scope x := by first | exact Or.inl rfl | exact Or.inr (Or.inl rfl) | exact Or.inr (Or.inr rfl)) (hd : (x == ("__debug__" : Str)) = false := by decide)
    (hcd : (x == ("__classdict__" : Str)) = false := by decide)
    (hbase : attributeBase (.Name x px) "append" X.env (eval (.Name x px) X.env) = eval (.Name x px) X.env := by rfl)
    (hfew : ((backTo cpos (starEach (e :: []) X.env)).all (fun x => !x.1) && (backToKw cpos (keywordEach [] X.env)).all (fun x => x.1.isSome)
      && decide ((e :: []).length + ([] : List Keyword).length + (if ([] : List Keyword).isEmpty then 0 else 1) < 30)) = true := by rfl)
    (hline : (apos.endLine == cpos.line) = true := by rfl) (hs : starEach (e :: []) X.env = (false, eval e X.env) :: starEach [] X.env := by rfl) (hplain : (backTo cpos (starEach [] X.env)).any (·.1) = false := by rfl)
    (hsw : swapsWith (.Call (.Attribute (.Name x px) "append" apos) [e] [] cpos) none pos.line X.env = pure false := by rfl) :
    PSv X (.Expr (.Call (.Attribute (.Name x px) "append" apos) [e] [] cpos) pos) (sApp i f) := fun W tk =>
  PS.imp (ps_expr (pe_bm PySem.F.plainAttrs_list PySem.F.slot_list_append PySem.F.type_list_append mt_append (pe_var hN hv hd hcd) (pa_cons (he W tk) pa_nil hs) hbase hfew hline hs hplain) hsw) fun D σ H h => by
    obtain ⟨H0, Pz, T, ρ, Fs, E, h⟩ := h
    unfold sApp at h
    cases e2 : ownAt ρ i with
    | none => rw [e2] at h; exact h.elim
    | some d =>
      rw [e2] at h
      obtain ⟨a, vs, A, hv, hF, hl⟩ := E.ownL e2
      refine ⟨_, hv, .inl ⟨rfl, vs, SqL.of hl⟩, ?_⟩
      show tev X.K X.mg W f σ H _
      simp only at h
      cases e1 : f ρ with
      | bad => rw [e1] at h; exact h.elim
      | ex c p => rw [e1] at h; exact ex_of E e1 h
      | ok y =>
        rw [e1] at h
        refine tev_ok E e1 fun v H1 F s1 E1 r1 o1 => ?_
        simp only at h
        cases e3 : appD d y with
        | none => rw [e3] at h; exact h.elim
        | some d' =>
          rw [e3] at h
          obtain ⟨a', vs', Fs', hv', hl', hz, E'⟩ := app_env E1 (ownAt_iff e2) r1 o1 e3
          rw [hv] at hv'
          cases hv'
          exact ⟨a, vs', v, rfl, rfl, hl', hz, h σ _ Fs' E'⟩
/-- x[k] = e -/
theorem sv_put {i : Nat} {x : Str} {e ke : Expr} {f k : FE} {px tpos : Pos} (he : PEv X e f) (hk : PEv X ke k) (hN : X.N[i]? = some x := by rfl) (hv : Vis X.env.scope x := by first | exact Or.inl rfl | exact Or.inr (Or.inl rfl) | exact Or.inr (Or.inr rfl)) (hd : (x == ("__debug__" : Str)) = false := by decide)
    (hcd : (x == ("__classdict__" : Str)) = false := by decide)
    (ha : ∀ v, assign (.Subscript (.Name x px) ke tpos) X.env v = (do
      let ov ← holding [v] (eval (.Name x px) X.env)
      let iv ← holding [v, ov] (eval ke X.env)
      standAt tpos
      holding [v, ov, iv] (setItem ov iv v)
      release [v, ov, iv] []) := by intro _; rfl)
    (hs : swapsWithSole [.Subscript (.Name x px) ke tpos] e pos.line X.env = pure false := by rfl) (hw : swappedStores [.Subscript (.Name x px) ke tpos] e X.env = pure none := by rfl)
    (h1 : (assignEach [.Subscript (.Name x px) ke tpos] X.env).map (·.2) = [assign (.Subscript (.Name x px) ke tpos) X.env] := by rfl) :
    PSv X (.Assign [.Subscript (.Name x px) ke tpos] e pos) (sPut i k f) := fun W tk =>
  PS.imp (ps_asg (he W tk) (pg_sub (pe_var hN hv hd hcd) (hk W tk) set_list ha) hs hw h1) fun D σ H h => by
    obtain ⟨H0, Pz, T, ρ, Fs, E, h⟩ := h
    show tev X.K X.mg W f σ H _
    unfold sPut at h
    cases e1 : f ρ with
    | bad => rw [e1] at h; exact h.elim
    | ex c p => rw [e1] at h; exact ex_of E e1 h
    | ok y =>
      rw [e1] at h
      refine tev_ok E e1 fun v H1 F s1 E1 r1 o1 => ?_
      simp only at h
      cases e2 : ownAt ρ i with
      | none => rw [e2] at h; exact h.elim
      | some d =>
        rw [e2] at h
        obtain ⟨a, vs, A, hv, hF, hl⟩ := E1.ownL e2
        refine ⟨_, hv, ?_⟩
        show tev X.K X.mg W k σ H1 _
        simp only at h
        cases e3 : k ρ with
        | bad => rw [e3] at h; exact h.elim
        | ex c p => rw [e3] at h; exact ex_of E1 e3 h
        | ok z =>
          rw [e3] at h
          refine tev_ok E1 e3 fun w H2 G s2 E2 r2 o2 => ?_
          simp only at h
          cases e4 : asI z with
          | bad => rw [e4] at h; exact h.elim
          | ex c p => exact absurd e4 asI_noex
          | ok n =>
            obtain ⟨n', hz, hn⟩ := asI_ok e4
            subst hn
            rw [e4] at h
            simp only at h
            rw [hz] at r2
            cases r2 with
            | i r2 =>
              cases r2
              cases e5 : setD d n' y with
              | none => rw [e5] at h; exact h.elim
              | some d' =>
                rw [e5] at h
                obtain ⟨a', vs', j, Fs', hv', hl', hj, E'⟩ := set_env E2 (ownAt_iff e2) (r1.same s2) (o1.same s2) e5
                rw [hv] at hv'
                cases hv'
                exact ⟨a, vs', n', j, rfl, rfl, hl', hj, h σ _ Fs' E'⟩
end
end L2.Pv

namespace L2.Pv
open PySem PySem.Spec PyProof.Rows

/-! ## while -/
def whileF (c : FT) (b : FS) : Nat → FS
  | 0 => fun _ => .bad
  | n + 1 => fun ρ => match c ρ with
    | .ok true => (match b ρ with
      | .nx ρ' => whileF c b n ρ'
      | .ct ρ' => whileF c b n ρ'
      | .bk ρ' => .nx ρ'
      | .rt d => .rt d
      | .ex x p ρ' => .ex x p ρ'
      | .bad => .bad)
    | .ok false => .nx ρ
    | .ex x p => .ex x p ρ
    | .bad => .bad
def sWhile (c : FT) (b : FS) : FS := whileF c b 100000
/-- what is wanted behind a statement whose data are r -/
def Post (K : PySem.W.Frag) (mg : MG) (W : WX) (H0 Pz : Hp) (T : Addr → Prop) (D : Ends) : RS → Prop
  | .nx ρ' => ∀ σ' H' Fs', EnvR K H0 Pz T H' σ' ρ' Fs' → D.nx σ' H'
  | .rt d => ∀ v H' F, Same H0 H' → RpD K H' v d F → RetOk H0 H' F → D.rt v H'
  | .bk ρ' => ∀ σ' H' Fs', EnvR K H0 Pz T H' σ' ρ' Fs' → D.bk σ' H'
  | .ct ρ' => ∀ σ' H' Fs', EnvR K H0 Pz T H' σ' ρ' Fs' → D.ct σ' H'
  | .ex c p ρ' => ∀ C d σ' H' Fs', mg c = some (.ref C) → EnvR K H0 Pz T H' σ' ρ' Fs' → ExD K H' d p → W (.ref C) d σ' H'
  | .bad => False
theorem tsv_post {K : PySem.W.Frag} {mg : MG} {W : WX} {g : FS} {D : Ends} {σ : St} {H : Hp} : tsv K mg W g D σ H ↔ ∃ H0 Pz T ρ Fs, EnvR K H0 Pz T H σ ρ Fs ∧ Post K mg W H0 Pz T D (g ρ) := by
  constructor
  · rintro ⟨H0, Pz, T, ρ, Fs, E, h⟩
    refine ⟨H0, Pz, T, ρ, Fs, E, ?_⟩
    cases e : g ρ <;> (rw [e] at h; exact h)
  · rintro ⟨H0, Pz, T, ρ, Fs, E, h⟩
    refine ⟨H0, Pz, T, ρ, Fs, E, ?_⟩
    cases e : g ρ <;> (rw [e] at h; exact h)
section
variable {X : Cx} {pos : Pos}
theorem sv_while {c : Expr} {body : List Stmt} {t : FT} {g : FS} (hp : PassesOwn (model X.prog X.w) X.A X.env X.xe) (hc : PTv X c t) (hb : PSsv X body g) : PSv X (.While c body [] pos) (sWhile t g) := fun W tk =>
  PS.imp (ps_while hp (hc W tk) (hb W tk)) fun D σ H h => by
    obtain ⟨H0, Pz, T, ρ, Fs, E, h⟩ := tsv_post.mp h
    refine ⟨fun m σ H => ∃ ρ Fs, EnvR X.K H0 Pz T H σ ρ Fs ∧ Post X.K X.mg W H0 Pz T D (whileF t g m ρ), ⟨100000, ρ, Fs, E, h⟩, ?_⟩
    clear h E
    rintro m σ H ⟨ρ, Fs, E, h⟩
    show ttv X.K X.mg W t σ H _
    cases m with
    | zero => exact h.elim
    | succ n =>
      unfold whileF at h
      cases e1 : t ρ with
      | bad => rw [e1] at h; exact h.elim
      | ex c p => rw [e1] at h; exact ttv_ex E e1 fun C H' d hC s xd => h C d σ H' Fs hC (E.same s) xd
      | ok b =>
        rw [e1] at h
        refine ttv_ok E e1 fun H1 s1 E1 => ?_
        cases b with
        | false => simp only [Bool.false_eq_true, if_false] at h ⊢; exact h σ H1 Fs E1
        | true =>
          simp only [if_true] at h ⊢
          refine ⟨fun σ' H' => ∃ ρ Fs, EnvR X.K H0 Pz T H' σ' ρ Fs ∧ Post X.K X.mg W H0 Pz T D (whileF t g n ρ), fun σ' H' q => ⟨n, Nat.lt_succ_self n, q⟩, ?_⟩
          refine tsv_post.mpr ⟨H0, Pz, T, ρ, Fs, E1, ?_⟩
          cases e2 : g ρ with
          | nx ρ' => rw [e2] at h; exact fun σ' H' Fs' E' => ⟨ρ', Fs', E', h⟩
          | ct ρ' => rw [e2] at h; exact fun σ' H' Fs' E' => ⟨ρ', Fs', E', h⟩
          | bk ρ' => rw [e2] at h; exact h
          | rt d => rw [e2] at h; exact h
          | ex c p ρ' => rw [e2] at h; exact h
          | bad => rw [e2] at h; exact h
end
/-! ## for -/
def loopF (t : TF) (b : FS) : List (DV × Md) → FS
  | [] => .nx
  | x :: r => fun ρ => match t x ρ with
    | none => .bad
    | some ρ1 => (match b ρ1 with
      | .nx ρ2 => loopF t b r ρ2
      | .ct ρ2 => loopF t b r ρ2
      | .bk ρ2 => .nx ρ2
      | .rt d => .rt d
      | .ex x p ρ' => .ex x p ρ'
      | .bad => .bad)
/-- an owned list that is walked is not changed from then on -/
def dem1 (ρ : Env) (i : Nat) : Env := match ρ[i]? with
  | some (some (.l xs, .own)) => ρ.set i (some (.l xs, .loc))
  | some (some (.m xs, .own)) => ρ.set i (some (.m xs, .loc))
  | _ => ρ
def demL (ρ : Env) : List Nat → Env
  | [] => ρ
  | i :: r => demL (dem1 ρ i) r
def sFor (ds : List Nat) (src : FI) (t : TF) (b : FS) : FS := fun ρ => match src (demL ρ ds) with
  | .ok it => if it.2 = .tmp then .bad else loopF t b it.1 (demL ρ ds)
  | .ex c p => .ex c p (demL ρ ds)
  | .bad => .bad
section
variable {K : PySem.W.Frag} {H0 Pz H H1 H2 : Hp} {T : Addr → Prop} {σ : St} {ρ : Env} {Fs : Nat → List Addr}
theorem EnvR.setLoc (E : EnvR K H0 Pz T H σ ρ Fs) {i : Nat} {d : DV} (hi : ρ[i]? = some (some (d, .own))) : EnvR K H0 Pz T H σ (ρ.set i (some (d, .loc))) Fs := by
  have hil : i < ρ.length := (List.getElem?_eq_some_iff.mp hi).1
  refine ⟨E.h0, E.pz, E.tn, E.th, by rw [List.length_set]; exact E.len, fun j d' m' h => ?_, fun j d' m' h hb => ?_, fun j d' h => ?_, E.tt, fun j h => ?_⟩
  · by_cases hj : j = i
    · subst hj
      rw [List.getElem?_set_self hil] at h
      cases h
      exact E.at_ j d .own hi
    · rw [List.getElem?_set_ne (fun z => hj z.symm)] at h
      exact E.at_ j d' m' h
  · by_cases hj : j = i
    · subst hj
      exact E.fresh j d .own hi (by intro z; cases z)
    · rw [List.getElem?_set_ne (fun z => hj z.symm)] at h
      exact E.fresh j d' m' h hb
  · by_cases hj : j = i
    · subst hj
      rw [List.getElem?_set_self hil] at h
      cases h
    · rw [List.getElem?_set_ne (fun z => hj z.symm)] at h
      exact E.top j d' h
  · by_cases hj : j = i
    · subst hj
      exact absurd (List.getElem?_set_self hil) (h d .loc)
    · refine E.nil j fun d' m' z => h d' m' ?_
      rw [List.getElem?_set_ne (fun z => hj z.symm)]
      exact z
theorem EnvR.dem1 (E : EnvR K H0 Pz T H σ ρ Fs) (i : Nat) : EnvR K H0 Pz T H σ (dem1 ρ i) Fs := by
  unfold Pv.dem1
  split
  · rename_i q; exact E.setLoc q
  · rename_i q; exact E.setLoc q
  · exact E
theorem EnvR.demL : ∀ {ds : List Nat} {ρ : Env}, EnvR K H0 Pz T H σ ρ Fs → EnvR K H0 Pz T H σ (demL ρ ds) Fs
  | [], _, E => E
  | i :: r, _, E => EnvR.demL (ds := r) (E.dem1 i)
/-- what is walked may not change meanwhile -/
def prot (H1 Pz : Hp) (P : List Addr) : Hp := fun a => match H1 a with
  | some (.tup xs) => some (.tup xs)
  | some (.frz o u) => some (.frz o u)
  | o => if a ∈ P then o else Pz a
theorem prot_same {P : List Addr} (e : Same Pz H1) : Same Pz (prot H1 Pz P) := fun a o h => by
  have q := e a o h
  unfold prot
  rw [q]
  split
  · rename_i z; cases z; rfl
  · rename_i z; cases z; rfl
  · split
    · rfl
    · exact h
theorem prot_le {P : List Addr} (e : Same Pz H1) : Same (prot H1 Pz P) H1 := fun a o h => by
  unfold prot at h
  split at h
  · rename_i q; rw [q]; exact h
  · rename_i q; rw [q]; exact h
  · split at h
    · exact h
    · exact e a o h
theorem prot_keep {P : List Addr} (d : ∀ a ∈ P, ∃ o, H1 a = some o) (s : Same (prot H1 Pz P) H2) : Keep H1 H2 P := by
  refine ⟨⟨fun a xs h => s a _ ?_, fun a o u h => s a _ ?_⟩, fun a ha => ?_⟩
  · unfold prot; rw [h]
  · unfold prot; rw [h]
  · obtain ⟨o, q⟩ := d a ha
    rw [q]
    refine s a o ?_
    unfold prot
    rw [q]
    split
    · rename_i z; cases z; rfl
    · rename_i z; cases z; rfl
    · rw [if_pos ha]
theorem prot_none {P : List Addr} {a : Addr} {vs : List V} (h : H1 a = some (.lst vs)) (hp : Pz a = none) (ha : a ∉ P) : prot H1 Pz P a = none := by
  unfold prot
  rw [h]
  simp only
  rw [if_neg ha, hp]
theorem prot_mem {P : List Addr} {a : Addr} (d : ∀ a ∈ P, ∃ o, H1 a = some o) (ha : a ∈ P) : prot H1 Pz P a ≠ none := by
  obtain ⟨o, q⟩ := d a ha
  unfold prot
  rw [q]
  split
  · intro z; cases z
  · intro z; cases z
  · rw [if_pos ha]; intro z; cases z
theorem EnvR.prot (E : EnvR K H0 Pz T H1 σ ρ Fs) {P : List Addr} (n : NoTops T ρ Fs P) : EnvR K H0 (prot H1 Pz P) T H1 σ ρ Fs where
  h0 := E.h0.trans (prot_same E.pz)
  pz := prot_le E.pz
  tn := fun a ta => by
    obtain ⟨vs, q⟩ := E.th a ta
    exact prot_none q (E.tn a ta) (n.2 a ta)
  th := E.th
  len := E.len
  at_ := E.at_
  fresh := E.fresh
  top := fun i d h a G e => by
    obtain ⟨h1, h2, h3⟩ := E.top i d h a G e
    obtain ⟨_, vs, q⟩ := E.fresh i d .own h (by intro z; cases z) a (by rw [e]; exact List.mem_cons_self)
    exact ⟨prot_none q h1 (n.1 i d h a G e), h2, h3⟩
  tt := E.tt
  nil := E.nil
theorem EnvR.unprot {Pz' : Hp} (h0 : Same H0 Pz) (hp : Same Pz Pz') (E : EnvR K H0 Pz' T H σ ρ Fs) : EnvR K H0 Pz T H σ ρ Fs := by
  have no : ∀ a, Pz' a = none → Pz a = none := fun a h => by
    cases q : Pz a with
    | none => rfl
    | some o => rw [hp _ _ q] at h; cases h
  exact ⟨h0, hp.trans E.pz, fun a ta => no a (E.tn a ta), E.th, E.len, E.at_, E.fresh, fun i d h a G e => ⟨no a (E.top i d h a G e).1, (E.top i d h a G e).2⟩, E.tt, E.nil⟩
theorem Post.unprot {mg : MG} {W : WX} {Pz' : Hp} {D : Ends} {r : RS} (h0 : Same H0 Pz) (hp : Same Pz Pz') (h : Post K mg W H0 Pz T D r) : Post K mg W H0 Pz' T D r := by
  cases r with
  | nx ρ' => exact fun σ' H' Fs' E' => h σ' H' Fs' (E'.unprot h0 hp)
  | rt d => exact h
  | bk ρ' => exact fun σ' H' Fs' E' => h σ' H' Fs' (E'.unprot h0 hp)
  | ct ρ' => exact fun σ' H' Fs' E' => h σ' H' Fs' (E'.unprot h0 hp)
  | ex c p ρ' => exact fun C d σ' H' Fs' hC E' => h C d σ' H' Fs' hC (E'.unprot h0 hp)
  | bad => exact h
end
section
variable {X : Cx} {pos : Pos}
theorem sv_for {tg iter : Expr} {body : List Stmt} {src : FI} {t : TF} {g : FS} {vs : List Nat} (ds : List Nat) (hp : PassesOwn (model X.prog X.w) X.A X.env X.xe) (hc : X.calm = true) (hi : PIv X tg iter src) (hg : PGv X vs tg t) (hb : PSsv X body g)
    (hs : ∀ x, foldedSetIterable iter X.env x = pure x := by intro _; rfl) : PSv X (.For tg iter body [] pos) (sFor ds src t g) := fun W tk =>
  PS.imp (ps_for hp hc (hi W tk) hg (hb W tk) hs) fun D σ H h => by
    obtain ⟨H0, Pz, T, ρ, Fs, E, h⟩ := tsv_post.mp h
    have E := E.demL (ds := ds)
    unfold sFor at h
    generalize demL ρ ds = ρ0 at E h
    show tiv X.K X.mg W src σ H _
    refine ⟨H0, Pz, T, ρ0, Fs, E, ?_⟩
    cases e1 : src ρ0 with
    | bad => rw [e1] at h; exact h.elim
    | ex c p => rw [e1] at h; exact fun C H' d hC s xd => h C d σ H' Fs hC (E.same s) xd
    | ok it =>
      rw [e1] at h
      simp only at h
      by_cases hm : it.2 = .tmp
      · rw [if_pos hm] at h; exact h.elim
      · rw [if_neg hm] at h
        obtain ⟨items, m⟩ := it
        simp only at hm h
        intro J H1 P s1 wk
        have E1 := (E.same s1)
        have nt := wk.notops hm
        have E1p := E1.prot nt
        have hpz : Same Pz (prot H1 Pz P) := prot_same E1.pz
        have h' : Post X.K X.mg W H0 (prot H1 Pz P) T D (loopF t g items ρ0) := Post.unprot E.h0 hpz h
        refine ⟨fun i mm σ H => mm = items.length - i ∧ i ≤ items.length ∧ ∃ ρ Fs, EnvR X.K H0 (prot H1 Pz P) T H σ ρ Fs ∧ Post X.K X.mg W H0 (prot H1 Pz P) T D (loopF t g (items.drop i) ρ), ⟨items.length, by simp, Nat.zero_le _, ρ0, Fs, E1p, h'⟩, ?_⟩
        rintro i mm σ2 H2 ⟨rfl, hil, ρ2, Fs2, E2, h2⟩
        have kp : Keep H1 H2 P := prot_keep wk.dom E2.pz
        by_cases hlt : i < items.length
        · right
          refine ⟨wk.go i H2 kp hlt, fun σ' H' => ∃ ρ Fs, EnvR X.K H0 (prot H1 Pz P) T H' σ' ρ Fs ∧ Post X.K X.mg W H0 (prot H1 Pz P) T D (loopF t g (items.drop (i + 1)) ρ), fun σ' H' q => ⟨items.length - (i + 1), by omega, rfl, hlt, q⟩, fun x H3 y => ?_⟩
          have hget : items[i]? = some items[i] := List.getElem?_eq_getElem hlt
          obtain ⟨s3, ⟨F, r3, o3, hFP, hw, hnt⟩⟩ := wk.yld i H2 x H3 kp y items[i] hget
          have hdrop : items.drop i = items[i] :: items.drop (i + 1) := List.drop_eq_getElem_cons hlt
          rw [hdrop] at h2
          unfold loopF at h2
          have E3 := E2.same s3
          have o3' : ResOk H0 (prot H1 Pz P) T ρ2 Fs2 H3 F items[i].2 := by
            by_cases ho : items[i].2 = .own
            · rw [hw ho]; exact .nil
            · refine ⟨o3.fresh, fun z => absurd z ho, fun _ => ⟨fun k d hk a G e ha => ?_, fun a ta ha => ?_⟩, fun z => absurd z hnt⟩
              · exact prot_mem wk.dom (hFP a ha) (E3.top k d hk a G e).1
              · exact prot_mem wk.dom (hFP a ha) (E3.tn a ta)
          refine ⟨H0, prot H1 Pz P, T, ρ2, Fs2, items[i], F, E3, r3, o3', hnt, ?_⟩
          cases e2 : t items[i] ρ2 with
          | none => rw [e2] at h2; exact h2
          | some ρ3 =>
            rw [e2] at h2
            intro σ4 H4 Fs4 s4 E4 A4
            refine tsv_post.mpr ⟨H0, prot H1 Pz P, T, ρ3, Fs4, E4, ?_⟩
            simp only at h2
            cases e3 : g ρ3 with
            | nx ρ' => rw [e3] at h2; exact fun σ' H' Fs' E' => ⟨ρ', Fs', E', h2⟩
            | ct ρ' => rw [e3] at h2; exact fun σ' H' Fs' E' => ⟨ρ', Fs', E', h2⟩
            | bk ρ' => rw [e3] at h2; exact h2
            | rt d => rw [e3] at h2; exact h2
            | ex c p ρ' => rw [e3] at h2; exact h2
            | bad => rw [e3] at h2; exact h2
        · left
          have ei : i = items.length := by omega
          subst ei
          rw [List.drop_length] at h2
          exact ⟨wk.stop _ H2 kp rfl, h2 σ2 H2 Fs2 E2⟩
end
/-! ## defs -/
def pmd : DV → Md
  | .i _ => .own
  | _ => .bor
def startE (n : Nat) (ds : List DV) : Env := ds.map (fun d => some (d, pmd d)) ++ List.replicate (n - ds.length) none
def runF (n : Nat) (g : FS) : FF := fun ds => match g (startE n ds) with
  | .rt d => .ok d
  | .nx _ => .ok (.i .non)
  | .ex c p _ => .ex c p
  | _ => .bad
theorem ArgsIn.fps {K : PySem.W.Frag} {H : Hp} : ∀ {vs : List V} {ds : List DV}, ArgsIn K H vs ds → ∃ Fl : List (List Addr), Fl.length = ds.length ∧ ∀ (i : Nat) (d : DV), ds[i]? = some d → ∃ v F, vs[i]? = some v ∧ Fl[i]? = some F ∧ RpD K H v d F
  | _, [], h => ⟨[], rfl, fun i d e => by simp at e⟩
  | _, d :: ds, h => by
    cases h with
    | @cons v vs _ _ F a b =>
      obtain ⟨Fl, h1, h2⟩ := ArgsIn.fps b
      refine ⟨F :: Fl, congrArg (· + 1) h1, fun i d' e => ?_⟩
      cases i with
      | zero =>
        have e' : d = d' := by simpa using e
        subst e'
        exact ⟨v, F, rfl, rfl, a⟩
      | succ i =>
        obtain ⟨v', F', q1, q2, q3⟩ := h2 i d' (by simpa using e)
        exact ⟨v', F', by simpa using q1, by simpa using q2, q3⟩
theorem start_env {K : PySem.W.Frag} {H : Hp} {N : List Str} {vs : List V} {ds : List DV} (a : ArgsIn K H vs ds) : ∃ Fs, EnvR K H H (fun _ => False) H (start N vs) (startE N.length ds) Fs := by
  obtain ⟨Fl, hl, hf⟩ := a.fps
  have hlen := a.length
  refine ⟨fun j => (Fl[j]?).getD [], fun _ _ z => z, fun _ _ z => z, fun _ z => z.elim, fun _ z => z.elim, ?_, fun i d m h => ?_, fun i d m h hb c hc => ?_, fun i d h b G e => ?_, fun _ z => z.elim, fun j h => ?_⟩
  · unfold start startE
    simp only [List.length_append, List.length_map, List.length_replicate]
    omega
  all_goals (try (
    have key : i < ds.length ∧ ds[i]? = some d ∧ m = pmd d := by
      unfold startE at h
      by_cases hi : i < ds.length
      · rw [List.getElem?_append_left (by rw [List.length_map]; exact hi), List.getElem?_map, List.getElem?_eq_getElem hi] at h
        simp only [Option.map_some, Option.some.injEq, Prod.mk.injEq] at h
        exact ⟨hi, by rw [List.getElem?_eq_getElem hi, h.1], by rw [← h.2, h.1]⟩
      · rw [List.getElem?_append_right (by rw [List.length_map]; omega), List.getElem?_replicate] at h
        split at h <;> cases h))
  · obtain ⟨hi, hd, _⟩ := key
    obtain ⟨v, F, q1, q2, q3⟩ := hf i d hd
    refine ⟨v, ?_, by rw [q2]; exact q3⟩
    unfold start
    have hv : i < vs.length := by omega
    rw [List.getElem?_append_left (by rw [List.length_map]; exact hv), List.getElem?_map, q1]
    rfl
  · obtain ⟨hi, hd, hm⟩ := key
    obtain ⟨v, F, q1, q2, q3⟩ := hf i d hd
    rw [q2] at hc
    cases d with
    | i x => cases q3; cases hc
    | _ => exact absurd hm hb
  · have key : ds[i]? = some d ∧ Md.own = pmd d := by
      unfold startE at h
      by_cases hi : i < ds.length
      · rw [List.getElem?_append_left (by rw [List.length_map]; exact hi), List.getElem?_map, List.getElem?_eq_getElem hi] at h
        simp only [Option.map_some, Option.some.injEq, Prod.mk.injEq] at h
        exact ⟨by rw [List.getElem?_eq_getElem hi, h.1], by rw [← h.2, h.1]⟩
      · rw [List.getElem?_append_right (by rw [List.length_map]; omega), List.getElem?_replicate] at h
        split at h <;> cases h
    obtain ⟨hd, hm⟩ := key
    obtain ⟨v, F, q1, q2, q3⟩ := hf i d hd
    have e' : (Fl[i]?).getD [] = b :: G := e
    rw [q2] at e'
    cases d with
    | i x => cases q3; cases e'
    | _ => cases hm
  · show (Fl[j]?).getD [] = []
    by_cases hj : j < ds.length
    · exfalso
      refine h ds[j] (pmd ds[j]) ?_
      unfold startE
      rw [List.getElem?_append_left (by rw [List.length_map]; exact hj), List.getElem?_map, List.getElem?_eq_getElem hj]
      rfl
    · rw [List.getElem?_eq_none (by omega)]
      rfl
section
variable {P : Program} {w : World} {K : PySem.W.Frag} {mg : MG} {base : Heap}
/-- THE RULE for a def: its body's data function is its own -/
theorem fn_ok {x qual : Str} {params : Arguments} {body : List Stmt} {scope : Scope} {f : Addr} {fd : FuncData} {N ps : List Str} {k : Nat} {g : FS} (F : FunD K x qual params body scope [] [] f fd) (S : FnScope N ps scope)
    (hbody : ∀ (cdv : Value) (A : Around) (outer : List PySem.Env) (s : Shared) (H : Hp) (E : XK), Room k (A.deeper (envOfC qual scope s.heap.objs.size f cdv)) →
      PSsv (cxOf (L2.CX P w) P w K mg base N qual scope f cdv A outer s H E) body g) : FnOk P w K mg base (L2.CX P w) (k + 1) f fd ps (spF K mg ps.length (runF N.length g)) := by
  refine F.ok S (fun vs H Q E h => h.1) fun cdv A outer s H vs Q E hr h => ⟨_, hbody cdv A outer s H E hr (fun cls d _ H => E cls d H) (takes_of rfl rfl rfl rfl), ?_⟩
  obtain ⟨hl, ds, ha, h⟩ := h
  obtain ⟨Fs, E0⟩ := start_env (N := N) ha
  refine tsv_post.mpr ⟨H, H, fun _ => False, startE N.length ds, Fs, E0, ?_⟩
  unfold runF at h
  cases e : g (startE N.length ds) with
  | nx ρ' =>
    rw [e] at h
    exact fun σ' H' Fs' E' => h .non H' [] E'.pz (.i .non) ⟨fun _ z => (nomatch z), fun _ _ z => (nomatch z)⟩
  | rt d => rw [e] at h; exact h
  | bk ρ' => rw [e] at h; exact h.elim
  | ct ρ' => rw [e] at h; exact h.elim
  | ex c p ρ' =>
    rw [e] at h
    exact fun C d σ' H' Fs' hC E' xd => h C H' d hC E'.pz xd
  | bad => rw [e] at h; exact h.elim
end
end L2.Pv
namespace L2.Pv
open PySem PySem.Spec PyProof.Rows
/-- the name x holds a def that keeps its promise -/
def Has (P : Program) (w : World) (K : PySem.W.Frag) (mg : MG) (base : Heap) (x : Str) (k n : Nat) (Fn : FF) : Prop :=
  ∃ fa fd ps, FnOk P w K mg base (L2.CX P w) k fa fd ps (spF K mg n Fn) ∧ mg x = some (.ref fa) ∧ PySem.W.keepIn K (.ref fa) = true ∧ Binds K fd ps []
/-- the name x holds the def of this text -/
def Def (K : PySem.W.Frag) (mg : MG) (x : Str) (st : Stmt) : Prop := ∃ f fd, FunD K x x (defArgs st) (defBody st) (defScope st) [] [] f fd ∧ mg x = some (.ref f)
/-- an own exception without an __init__ -/
def Exc (K : PySem.W.Frag) (mg : MG) (x : Str) : Prop := ∃ C, mg x = some (.ref C) ∧ PySem.W.excIn K C He.veBase "ValueError.__new__" = true ∧ PySem.W.keepIn K (.ref C) = true ∧ PySem.W.subIn K (.ref C) (.type "BaseException") = some true ∧ PySem.W.typeIn K (.ref C) = some (.type "type")
section
variable {P : Program} {w : World} {K : PySem.W.Frag} {mg : MG} {base : Heap}
theorem has_of {x : Str} {st : Stmt} {N ps : List Str} {k : Nat} {g : FS} (D : Def K mg x st) (S : FnScope N ps (defScope st))
    (hb : ∀ (kV doc pm : Value) (an : Option Addr) (cdv ct : Value) (us : List Value), us.length = ps.length → bindArgs (PySem.W.fnOf x x (defArgs st) (defBody st) (defScope st) .none kV doc pm an cdv ct) ⟨us, []⟩ = pure (ps.zip us))
    (hbody : ∀ (f : Addr) (cdv : Value) (A : Around) (outer : List PySem.Env) (s : Shared) (H : Hp) (E : XK), Room k (A.deeper (envOfC x (defScope st) s.heap.objs.size f cdv)) →
      PSsv (cxOf (L2.CX P w) P w K mg base N x (defScope st) f cdv A outer s H E) (defBody st) g) : Has P w K mg base x (k + 1) ps.length (runF N.length g) := by
  obtain ⟨f, fd, F, hm⟩ := D
  exact ⟨f, fd, ps, fn_ok F S fun cdv A outer s H E hr => hbody f cdv A outer s H E hr, hm, F.kp, F.bindsN hb⟩
end
section
variable {X : Cx} {k : Nat} {Fn : FF} {x : Str} {p pos : Pos} {e : Expr} {es : List Expr} {g : FA} {n : Nat}
theorem ev_callH (h : Has X.prog X.w X.K X.mg X.base x k n Fn) (hr : Room k X.A) (hg : Gl X x)
    (hn : (e :: es).length = n) (ha : PAv X (e :: es) g) (hl : ∀ ρ xs, g ρ = .ok xs → xs.length = n) (hdb : (x == ("__debug__" : Str)) = false := by decide) (he : starEach (e :: es) X.env = (false, eval e X.env) :: starEach es X.env := by rfl) (hpl : (backTo pos (starEach es X.env)).any (·.1) = false := by rfl) :
    PEv X (.Call (.Name x p) (e :: es) [] pos) (eCall Fn g) := by
  obtain ⟨fa, fd, ps, F, hm, hk, hb⟩ := h
  exact ev_call F hr hg hm hk hb hn ha hdb he hpl hl
theorem sv_raiseH {c : Str} {m : Str} {j : Nat} {p p2 p3 : Pos} (h : Exc X.K X.mg c) (hc : X.calm = true) (hg : Gl X c) (hdb : (c == ("__debug__" : Str)) = false := by decide) :
    PSv X (.Raise (some (.Call (.Name c p) [.Constant (.str m) j p2] [] p3)) none pos) (sRaise c) := by
  obtain ⟨C, gC, q, kC, sC, tC⟩ := h
  exact sv_raise hc q gC kC sC tC hg hdb
end
end L2.Pv

namespace L2.Pv
open PySem PySem.Spec PyProof.Rows

/-! ## try: several clauses, with or without a name -/
/-- a clause: the class, the name's slot if it has one, the suite -/
structure Cl where
  c : Value
  i : Option Nat
  ts : Addr → Value → Option Addr → TS
def offN (i : Option Nat) (D : Ends) : Ends := match i with
  | none => D
  | some i => { nx := fun σ' H' => D.nx (σ'.set i none) H', rt := D.rt, bk := fun σ' H' => D.bk (σ'.set i none) H', ct := fun σ' H' => D.ct (σ'.set i none) H' }
def onN (i : Option Nat) (a : Addr) (σ : St) : St := match i with
  | none => σ
  | some i => σ.set i (some (.ref a))
def wCl (K : PySem.W.Frag) (Wout : WX) (D : Ends) : List Cl → WX
  | [] => Wout
  | q :: r => fun cls d σ H => ∃ b, PySem.W.exmOne K cls q.c = some b ∧ (b = true → ∀ a, H a = none → q.ts a cls d (offN q.i D) (onN q.i a σ) H) ∧ (b = false → wCl K Wout D r cls d σ H)
inductive ClOk (X : Cx) : List ExceptHandler → List Cl → Prop
  | nil : ClOk X [] []
  | cons {x : Str} {c : Value} {ts : Addr → Value → Option Addr → TS} {b₀ : Stmt} {suite : List Stmt} {np pos' : Pos} {hds : List ExceptHandler} {l : List Cl} (hc : Names X x c)
      (hsu : ∀ (a : Addr) (oe : Obj) (cls : Value) (d : Option Addr) (pn : List (Addr × Obj)), Zc cls d oe → (∃ vs, oe.data = .fields vs) → PSs (X.suite a ((a, oe) :: pn)) (b₀ :: suite) (ts a cls d)) (r : ClOk X hds l) :
      ClOk X (.ExceptHandler (some (.Name x np)) none (b₀ :: suite) pos' :: hds) (⟨c, none, ts⟩ :: l)
  | as {x n : Str} {c : Value} {i : Nat} {ts : Addr → Value → Option Addr → TS} {b₀ : Stmt} {suite : List Stmt} {np pos' : Pos} {hds : List ExceptHandler} {l : List Cl} (hc : Names X x c) (hN : X.N.Nodup) (hi : X.N[i]? = some n) (hln : X.env.kindOf n = some .local)
      (hsu : ∀ (a : Addr) (oe : Obj) (cls : Value) (d : Option Addr) (pn : List (Addr × Obj)), Zc cls d oe → (∃ vs, oe.data = .fields vs) → PSs (X.suite a ((a, oe) :: pn)) (b₀ :: suite) (ts a cls d)) (r : ClOk X hds l) :
      ClOk X (.ExceptHandler (some (.Name x np)) (some n) (b₀ :: suite) pos' :: hds) (⟨c, some i, ts⟩ :: l)
theorem ps_tryCl {X : Cx} {body : List Stmt} {h₀ : ExceptHandler} {hds : List ExceptHandler} {l : List Cl} {pos : Pos} {tb : WX → TS} {Wout : WX} (hs : X.stack = X.env :: X.outer) (hf : X.env.frame = some X.env.locals) (tk : Takes X Wout)
    (hb : ∀ (W : WX) (pn : List (Addr × Obj)) (xe : Value → Shared → Prop), Takes (X.tr pn xe) W → PassesOwn (model X.prog X.w) X.A X.env xe → PSs (X.tr pn xe) body (tb W))
    (hh : ClOk X (h₀ :: hds) l) : PS X (.Try body (h₀ :: hds) [] [] pos) (fun D σ H => tb (wCl X.K Wout D l) D σ H) := by
  refine ⟨fun pins s σ H D I h => ?_⟩
  have ok := I.ok
  have hfr : X.A.frames = some (X.env :: X.outer) := by rw [ok.frames, hs]
  refine wpAny_Try_except ?_
  refine wpAny_mono ((hb (wCl X.K Wout D l) (X.pn ++ pins) (fun e s₁ => wpAny (model X.prog X.w) X.A (noteFrame e X.env) (fun _ s₂ => wpAny (model X.prog X.w) X.A (setFlight e none) (fun _ s₃ =>
    wpAny (model X.prog X.w) X.A (handleBy e X.env (h₀ :: hds)) (SP X pins D) X.xe s₃) X.xe s₂) X.xe s₁) (fun u s' xx => ?_) PassesOwn.looking).run [] s σ H D (I.toTry _) h) (fun f s1 hsp => ?_) (fun e s1 he => he)
  · obtain ⟨a, B, sI, pins', σ', H', cls, d, rfl, J', nb, up, sky, na, os, ag, wish⟩ := xx
    have J : Inv X pins σ' H' sI := J'.ofTry ok
    show wpAny (model X.prog X.w) X.A (noteFrame (.ref a) X.env) _ _ _
    refine Sky.land Zc.steady hfr hf (show Sky B (X.env :: X.outer) a (Zc cls d) X.env.locals s'.heap by rw [← hs]; exact sky) fun h3 fl3 up3 => ?_
    have J3 : Inv X pins σ' H' { s' with heap := h3 } := J.landed nb fl3.1 (up.trans up3) os ag
    obtain ⟨oe3, vs3, he3, hz3, hd3⟩ := fl3.there
    have nfr : a ∉ frs (X.env :: X.outer) := fun hm => by
      obtain ⟨_, o', e', hnf⟩ := fl3.2.2.1.mem hm
      rw [he3] at e'; cases e'
      exact hnf _ hd3
    have nL : a ≠ X.env.locals := fun z => nfr (List.mem_filterMap.mpr ⟨X.env, List.mem_cons_self, by rw [hf, z]⟩)
    have nF : a ∉ X.fs := fun hm => by
      obtain ⟨e, he, q⟩ := List.mem_filterMap.mp hm
      exact nfr (List.mem_filterMap.mpr ⟨e, List.mem_cons_of_mem _ he, q⟩)
    have S3 := J3.suite he3 hd3 na nL nF
    have LT : PySem.W.Looks (model X.prog X.w) h3 (typeOf (.ref a)) cls := fun A Q E s k q => wpAny_typeOf_ref (k _ _ he3) (by rw [hz3.1]; exact q)
    have test : ∀ {x : Str} {c : Value} {np : Pos} {Q : Value → Shared → Prop} {E : Value → Shared → Prop}, Names X x c → Q c { s' with heap := h3 } → wpAny (model X.prog X.w) (X.A.mark (some (.ref a))) (eval (.Name x np) X.env) Q E { s' with heap := h3 } := fun {x c np Q E} hc q => by
      obtain ⟨hg, hdbg, hm | ⟨hm, hv, hnn⟩⟩ := hc
      · exact ld_glob (X := X.suite a ((a, oe3) :: (X.pn ++ pins))) S3 hg hm q hdbg
      · exact ld_blt (X := X.suite a ((a, oe3) :: (X.pn ++ pins))) S3 hg hm hv q hnn hdbg
    have go : ∀ {hds' : List ExceptHandler} {l' : List Cl}, ClOk X hds' l' → wCl X.K Wout D l' cls d σ' H' →
        wpAny (model X.prog X.w) X.A (handleBy (.ref a) X.env hds') (SP X pins D) X.xe { s' with heap := h3 } := by
      intro hds' l' hk
      induction hk with
      | nil =>
        intro w
        refine wpAny_handleBy_nil ?_
        obtain ⟨k1, k2, k3, oe, vs, T, oT, ts', he, hz, hd, h1, hr⟩ := id fl3
        unfold PySem.passOn
        refine wpAny_bind (wpAny_field he hd h1 ?_)
        rw [if_neg (show ¬ ((Value.ref T == Value.none) = true) from by simp)]
        have fin : wpAny (model X.prog X.w) X.A (setFlight (.ref a) X.env.frame) (fun _ s4 => wpAny (model X.prog X.w) X.A (throw (.ref a) : Sem Flow) (SP X pins D) X.xe s4) X.xe { s' with heap := h3 } := by
          rw [hf]
          refine HandSPX.setFlight_upZ fl3 fun h4 hh4 up4 => wpAny_throw (tk _ _ ?_)
          exact ⟨a, B, sI, pins, σ', H', cls, d, rfl, J, nb, (up.trans up3).trans up4, .inr (.inr (by rw [hs]; exact hh4)), na, os, ag, w⟩
        first
          | exact wpAny_bind (wpAny_pure (wpAny_bind fin))
          | exact wpAny_bind fin
      | @cons x c ts b₀ suite np pos' hds2 l2 hc hsu r ih =>
        rintro ⟨b, hb1, hyes, hno⟩
        refine wpAny_handleBy_cons (codeAny_handlers_test ?_) (by intro q; cases q)
        refine test hc ((PySem.W.exm_one (M := model X.prog X.w) (J3.kIn) LT hb1).here ?_)
        cases b with
        | true =>
          refine codeAny_handlers_suite (HandSPX.lands_againZ fl3 fun h4 fl4 up4 => ?_)
          have J4 : Inv X pins σ' H' { s' with heap := h4 } := J.landed nb fl4.1 ((up.trans up3).trans up4) os ag
          obtain ⟨oe4, vs4, he4, hz4, hd4⟩ := fl4.there
          refine wpAny_mono ((hsu a oe4 cls d (X.pn ++ pins) hz4 ⟨_, hd4⟩).run [] _ _ H' _ (J4.suite he4 hd4 na nL nF) (hyes rfl a na)) (fun f s6 hsp => ?_) (fun _ _ z => False.elim z)
          cases f with
          | next => obtain ⟨σ6, H6, S6, q6⟩ := hsp; exact ⟨_, _, S6.unsuite ok, q6⟩
          | brk => obtain ⟨σ6, H6, S6, q6⟩ := hsp; exact ⟨_, _, S6.unsuite ok, q6⟩
          | cont => obtain ⟨σ6, H6, S6, q6⟩ := hsp; exact ⟨_, _, S6.unsuite ok, q6⟩
          | ret u => obtain ⟨v6, σ6, H6, S6, r6, q6⟩ := hsp; exact ⟨_, _, _, S6.unsuite ok, r6, q6⟩
        | false =>
          show wpAny _ X.A (handleBy (.ref a) X.env hds2) _ _ _
          exact ih (hno rfl)
      | @as x n c i ts b₀ suite np pos' hds2 l2 hc hN hi hln hsu r ih =>
        rintro ⟨b, hb1, hyes, hno⟩
        refine wpAny_handleBy_cons (codeAny_handlers_test ?_) (by intro q; cases q)
        refine test hc ((PySem.W.exm_one (M := model X.prog X.w) (J3.kIn) LT hb1).here ?_)
        cases b with
        | true =>
          refine codeAny_handlers_suite_as (HandSPX.lands_againZ fl3 fun h4 fl4 up4 => ?_)
          have J4 : Inv X pins σ' H' { s' with heap := h4 } := J.landed nb fl4.1 ((up.trans up3).trans up4) os ag
          obtain ⟨oe4, vs4, he4, hz4, hd4⟩ := fl4.there
          refine store_ok (X := X.suite a ((a, oe4) :: (X.pn ++ pins))) (v := .ref a) (J4.suite he4 hd4 na nL nF) hN hi (.inl hln) rfl (fun s5 S5 => ?_) (.inr hln)
          refine wpAny_mono ((hsu a oe4 cls d (X.pn ++ pins) hz4 ⟨_, hd4⟩).run [] s5 _ H' _ S5 (hyes rfl a na)) (fun f s6 hsp => ?_) (fun _ _ z => False.elim z)
          have end_ : ∀ {σ6 : St} {H6 : Hp} {Q : Shared → Prop}, Inv (X.suite a ((a, oe4) :: (X.pn ++ pins))) [] σ6 H6 s6 → (∀ s7, Inv X pins (σ6.set i none) H6 s7 → Q s7) →
              wpAny (model X.prog X.w) X.A (do bindName X.env n .none; unbindBehindTheSuite X.env n pos') (fun _ s7 => Q s7) X.xe s6 := fun {σ6 H6 Q} S6 hq => gone_ok (S6.unsuite ok) hN hi hln hq
          cases f with
          | next => obtain ⟨σ6, H6, S6, q6⟩ := hsp; exact end_ S6 fun s7 J7 => ⟨_, _, J7, q6⟩
          | brk => obtain ⟨σ6, H6, S6, q6⟩ := hsp; exact end_ S6 fun s7 J7 => ⟨_, _, J7, q6⟩
          | cont => obtain ⟨σ6, H6, S6, q6⟩ := hsp; exact end_ S6 fun s7 J7 => ⟨_, _, J7, q6⟩
          | ret u => obtain ⟨v6, σ6, H6, S6, r6, q6⟩ := hsp; exact end_ S6 fun s7 J7 => ⟨_, _, _, J7, r6, q6⟩
        | false =>
          show wpAny _ X.A (handleBy (.ref a) X.env hds2) _ _ _
          exact ih (hno rfl)
    exact go hh wish
  · cases f with
    | next => obtain ⟨σ', H', J', q⟩ := hsp; exact wpAny_execs_nil ⟨σ', H', J'.ofTry ok, q⟩
    | brk => obtain ⟨σ', H', J', q⟩ := hsp; exact ⟨σ', H', J'.ofTry ok, q⟩
    | cont => obtain ⟨σ', H', J', q⟩ := hsp; exact ⟨σ', H', J'.ofTry ok, q⟩
    | ret u => obtain ⟨v, σ', H', J', r, q⟩ := hsp; exact ⟨v, σ', H', J'.ofTry ok, r, q⟩

/-! ### by data -/
/-- the classes of a text's exceptions: what isinstance and except make of them -/
structure ExFacts (K : PySem.W.Frag) (mg : MG) (xs : List Str) (sub : Str → Str → Bool) : Prop where
  cls : ∀ c ∈ xs, ∃ C, mg c = some (.ref C) ∧ ExcC K C
  one : ∀ c ∈ xs, ∀ y ∈ xs, ∀ C Y, mg c = some (.ref C) → mg y = some (.ref Y) → PySem.W.kitOne K (.ref C) (.ref Y) = some (sub c y) ∧ PySem.W.exmOne K (.ref C) (.ref Y) = some (sub c y)
/-- a suite: of the class, the exception's field -/
abbrev SU := Str → Exn → FS
structure Hd where
  c : Str
  i : Option Nat
  su : SU
def offE (i : Option Nat) (r : RS) : RS := match i with
  | none => (match r with
    | .ex _ _ _ => .bad
    | r => r)
  | some i => (match r with
    | .nx ρ => .nx (ρ.set i none)
    | .bk ρ => .bk (ρ.set i none)
    | .ct ρ => .ct (ρ.set i none)
    | .rt d => .rt d
    | _ => .bad)
def onE (i : Option Nat) (ρ : Env) : Env := match i with
  | none => ρ
  | some i => ρ.set i none
def inE (i : Option Nat) (ρ : Env) : Bool := match i with
  | none => true
  | some i => decide (i < ρ.length)
def handleF (sub : Str → Str → Bool) (c : Str) (p : Exn) : List Hd → FS
  | [], ρ => .ex c p ρ
  | h :: r, ρ => if sub c h.c then (if inE h.i ρ then offE h.i (h.su c p (onE h.i ρ)) else .bad) else handleF sub c p r ρ
def sTry (xs : List Str) (sub : Str → Str → Bool) (body : FS) (hs : List Hd) : FS := fun ρ => match body ρ with
  | .ex c p ρ' => if c ∈ xs then handleF sub c p hs ρ' else .bad
  | r => r
/-- a suite by data: the exception's object lies at a (untracked), its slot holds it -/
def tsu (K : PySem.W.Frag) (mg : MG) (xs : List Str) (i : Option Nat) (su : SU) (a : Addr) (cls : Value) (d : Option Addr) : TS := fun D σ H => ∃ c C p H0 Pz T ρ Fs, c ∈ xs ∧ cls = .ref C ∧ mg c = some (.ref C) ∧ EnvR K H0 Pz T H σ ρ Fs ∧ ExD K H d p ∧ (∀ j, i = some j → σ[j]? = some (some (.ref a)) ∧ j < ρ.length) ∧ H a = none ∧ Post K mg (fun _ _ _ _ => False) H0 Pz T D (su c p ρ)
def PSuv (X : Cx) (xs : List Str) (i : Option Nat) (suite : List Stmt) (su : SU) : Prop := ∀ (a : Addr) (oe : Obj) (cls : Value) (d : Option Addr) (pn : List (Addr × Obj)), Zc cls d oe → (∃ vs, oe.data = .fields vs) → PSs (X.suite a ((a, oe) :: pn)) suite (tsu X.K X.mg xs i su a cls d)
inductive HdsV (X : Cx) (xs : List Str) : List ExceptHandler → List Hd → Prop
  | nil : HdsV X xs [] []
  | cons {x : Str} {b₀ : Stmt} {suite : List Stmt} {np pos' : Pos} {hds : List ExceptHandler} {l : List Hd} {su : SU} (hx : x ∈ xs) (hg : Gl X x) (hdb : (x == ("__debug__" : Str)) = false) (hsu : PSuv X xs none (b₀ :: suite) su) (r : HdsV X xs hds l) :
      HdsV X xs (.ExceptHandler (some (.Name x np)) none (b₀ :: suite) pos' :: hds) (⟨x, none, su⟩ :: l)
  | as {x n : Str} {i : Nat} {b₀ : Stmt} {suite : List Stmt} {np pos' : Pos} {hds : List ExceptHandler} {l : List Hd} {su : SU} (hx : x ∈ xs) (hg : Gl X x) (hdb : (x == ("__debug__" : Str)) = false) (hN : X.N.Nodup) (hi : X.N[i]? = some n) (hln : X.env.kindOf n = some .local) (hsu : PSuv X xs (some i) (b₀ :: suite) su) (r : HdsV X xs hds l) :
      HdsV X xs (.ExceptHandler (some (.Name x np)) (some n) (b₀ :: suite) pos' :: hds) (⟨x, some i, su⟩ :: l)
section
variable {K : PySem.W.Frag} {H0 Pz H : Hp} {T : Addr → Prop} {σ : St} {ρ : Env} {Fs : Nat → List Addr}
theorem setNone_ne {ρ : Env} {i j : Nat} {x : DV × Md} (h : (ρ.set i none)[j]? = some (some x)) : j ≠ i ∧ ρ[j]? = some (some x) := by
  have key : j ≠ i := fun z => by
    subst z
    by_cases hl : j < ρ.length
    · rw [List.getElem?_set_self hl] at h; cases h
    · rw [List.getElem?_eq_none (by rw [List.length_set]; omega)] at h; cases h
  rw [List.getElem?_set_ne (fun z => key z.symm)] at h
  exact ⟨key, h⟩
/-- a slot is forgotten, or holds what is not told -/
theorem EnvR.drop (E : EnvR K H0 Pz T H σ ρ Fs) (i : Nat) (o : Option V) : ∃ Fs', EnvR K H0 Pz T H (σ.set i o) (ρ.set i none) Fs' := by
  refine ⟨fun j => if j = i then [] else Fs j, E.h0, E.pz, E.tn, E.th, by rw [List.length_set, List.length_set]; exact E.len, fun j d m h => ?_, fun j d m h hb => ?_, fun j d h a G e => ?_, fun a ta j => ?_, fun j h => ?_⟩
  · obtain ⟨key, h⟩ := setNone_ne h
    simp only [if_neg key]
    rw [List.getElem?_set_ne (fun z => key z.symm)]
    exact E.at_ j d m h
  · obtain ⟨key, h⟩ := setNone_ne h
    rw [if_neg key]
    exact E.fresh j d m h hb
  · obtain ⟨key, h⟩ := setNone_ne h
    simp only [if_neg key] at e
    obtain ⟨h1, h2, h3⟩ := E.top j d h a G e
    refine ⟨h1, h2, fun k hk => ?_⟩
    by_cases hk' : k = i
    · rw [if_pos hk']; intro z; cases z
    · rw [if_neg hk']; exact h3 k hk
  · by_cases hj : j = i
    · rw [if_pos hj]; intro z; cases z
    · rw [if_neg hj]; exact E.tt a ta j
  · by_cases hj : j = i
    · rw [if_pos hj]
    · rw [if_neg hj]
      refine E.nil j fun d m z => h d m ?_
      rw [List.getElem?_set_ne (fun z => hj z.symm)]
      exact z
end
theorem HdsV.cl {X : Cx} {xs : List Str} {sub : Str → Str → Bool} (ef : ExFacts X.K X.mg xs sub) : ∀ {hds : List ExceptHandler} {l : List Hd}, HdsV X xs hds l → ∃ cl, ClOk X hds cl ∧
    ∀ (W : WX) (H0 Pz : Hp) (T : Addr → Prop) (D : Ends) (c : Str) (p : Exn) (C : Addr) (d : Option Addr) (σ : St) (H : Hp) (ρ : Env) (Fs : Nat → List Addr), c ∈ xs → X.mg c = some (.ref C) → EnvR X.K H0 Pz T H σ ρ Fs → ExD X.K H d p → Post X.K X.mg W H0 Pz T D (handleF sub c p l ρ) → wCl X.K W D cl (.ref C) d σ H := by
  intro hds l h
  induction h with
  | nil => exact ⟨[], .nil, fun W H0 Pz T D c p C d σ H ρ Fs hc hC E xd h => h C d σ H Fs hC E xd⟩
  | @cons x b₀ suite np pos' hds l su hx hg hdb hsu r ih =>
    obtain ⟨cl, k, q⟩ := ih
    obtain ⟨Y, hY, _⟩ := ef.cls x hx
    refine ⟨⟨.ref Y, none, tsu X.K X.mg xs none su⟩ :: cl, .cons ⟨hg, hdb, .inl hY⟩ hsu k, fun W H0 Pz T D c p C d σ H ρ Fs hc hC E xd h => ?_⟩
    refine ⟨sub c x, (ef.one c hc x hx C Y hC hY).2, fun e a na => ?_, fun e => ?_⟩
    · unfold handleF at h
      rw [if_pos e] at h
      refine ⟨c, C, p, H0, Pz, T, ρ, Fs, hc, rfl, hC, E, xd, fun j z => (nomatch z), na, ?_⟩
      have h' : Post X.K X.mg W H0 Pz T D (offE none (su c p ρ)) := h
      cases e2 : su c p ρ with
      | ex c' p' ρ' => rw [e2] at h'; exact h'.elim
      | nx ρ' => rw [e2] at h'; exact h'
      | rt d => rw [e2] at h'; exact h'
      | bk ρ' => rw [e2] at h'; exact h'
      | ct ρ' => rw [e2] at h'; exact h'
      | bad => rw [e2] at h'; exact h'
    · unfold handleF at h
      rw [if_neg (by rw [e]; exact Bool.false_ne_true)] at h
      exact q W H0 Pz T D c p C d σ H ρ Fs hc hC E xd h
  | @as x n i b₀ suite np pos' hds l su hx hg hdb hN hi hln hsu r ih =>
    obtain ⟨cl, k, q⟩ := ih
    obtain ⟨Y, hY, _⟩ := ef.cls x hx
    refine ⟨⟨.ref Y, some i, tsu X.K X.mg xs (some i) su⟩ :: cl, .as ⟨hg, hdb, .inl hY⟩ hN hi hln hsu k, fun W H0 Pz T D c p C d σ H ρ Fs hc hC E xd h => ?_⟩
    refine ⟨sub c x, (ef.one c hc x hx C Y hC hY).2, fun e a na => ?_, fun e => ?_⟩
    · unfold handleF at h
      rw [if_pos e] at h
      by_cases hil0 : inE (some i) ρ = true
      case neg => rw [if_neg hil0] at h; exact h.elim
      rw [if_pos hil0] at h
      obtain ⟨Fs', E'⟩ := E.drop i (some (.ref a))
      have hil : i < ρ.length := of_decide_eq_true hil0
      refine ⟨c, C, p, H0, Pz, T, ρ.set i none, Fs', hc, rfl, hC, E', xd, fun j z => ?_, na, ?_⟩
      · cases z
        exact ⟨List.getElem?_set_self (by rw [← E.len]; exact hil), by rw [List.length_set]; exact hil⟩
      · have h' : Post X.K X.mg W H0 Pz T D (offE (some i) (su c p (ρ.set i none))) := h
        cases e2 : su c p (ρ.set i none) with
        | ex c' p' ρ' => rw [e2] at h'; exact h'.elim
        | nx ρ' =>
          rw [e2] at h'
          exact fun σ' H' Fs2 E2 => by
            obtain ⟨Fs3, E3⟩ := E2.drop i none
            exact h' _ H' Fs3 E3
        | rt d => rw [e2] at h'; exact h'
        | bk ρ' =>
          rw [e2] at h'
          exact fun σ' H' Fs2 E2 => by
            obtain ⟨Fs3, E3⟩ := E2.drop i none
            exact h' _ H' Fs3 E3
        | ct ρ' =>
          rw [e2] at h'
          exact fun σ' H' Fs2 E2 => by
            obtain ⟨Fs3, E3⟩ := E2.drop i none
            exact h' _ H' Fs3 E3
        | bad => rw [e2] at h'; exact h'
    · unfold handleF at h
      rw [if_neg (by rw [e]; exact Bool.false_ne_true)] at h
      exact q W H0 Pz T D c p C d σ H ρ Fs hc hC E xd h

theorem sv_try {X : Cx} {xs : List Str} {sub : Str → Str → Bool} {body : List Stmt} {h₀ : ExceptHandler} {hds : List ExceptHandler} {l : List Hd} {pos : Pos} {g : FS} (ef : ExFacts X.K X.mg xs sub) (hs : X.stack = X.env :: X.outer) (hf : X.env.frame = some X.env.locals)
    (hb : ∀ (pn : List (Addr × Obj)) (xe : Value → Shared → Prop), PassesOwn (model X.prog X.w) X.A X.env xe → PSsv (X.tr pn xe) body g) (hh : HdsV X xs (h₀ :: hds) l)
    : PSv X (.Try body (h₀ :: hds) [] [] pos) (sTry xs sub g l) := fun W tk => by
  obtain ⟨cl, k, q⟩ := hh.cl ef
  refine ⟨fun pins s σ H D I h => ?_⟩
  refine (ps_tryCl (tb := fun W' => tsv X.K X.mg W' g) hs hf tk (fun W' pn xe tk' hp => hb pn xe hp W' tk') k).run pins s σ H D I ?_
  obtain ⟨H0, Pz, T, ρ, Fs, E, h⟩ := tsv_post.mp h
  refine tsv_post.mpr ⟨H0, Pz, T, ρ, Fs, E, ?_⟩
  unfold sTry at h
  cases e : g ρ with
  | nx ρ' => rw [e] at h; exact h
  | rt d => rw [e] at h; exact h
  | bk ρ' => rw [e] at h; exact h
  | ct ρ' => rw [e] at h; exact h
  | bad => rw [e] at h; exact h
  | ex c p ρ' =>
    rw [e] at h
    simp only at h
    by_cases hc : c ∈ xs
    · rw [if_pos hc] at h
      intro C d σ' H' Fs' hC E' xd
      exact q W H0 Pz T D c p C d σ' H' ρ' Fs' hc hC E' xd h
    · rw [if_neg hc] at h; exact h.elim
end L2.Pv
namespace L2.Pv
open PySem PySem.Spec PyProof.Rows
/-! ### suites -/
theorem EnvR.pz' {K : PySem.W.Frag} {H0 Pz H : Hp} {T : Addr → Prop} {σ : St} {ρ : Env} {Fs : Nat → List Addr} (E : EnvR K H0 Pz T H σ ρ Fs) : Same H0 H := E.h0.trans E.pz
section
variable {X : Cx} {xs : List Str}
/-- a suite that does not look at the exception -/
theorem su_any {i : Option Nat} {suite : List Stmt} {g : FS} (h : ∀ (a : Addr) (oe : Obj) (pn : List (Addr × Obj)), PSsv (X.suite a ((a, oe) :: pn)) suite g) : PSuv X xs i suite (fun _ _ => g) := fun a oe cls d pn hz hf =>
  PSs.imp (h a oe pn _ takes0) fun D σ H h => by
    obtain ⟨c, C, p, H0, Pz, T, ρ, Fs, _, _, _, E, _, _, _, h⟩ := h
    exact tsv_post.mpr ⟨H0, Pz, T, ρ, Fs, E, h⟩
def tIs (j : Nat) (a : Addr) (b : Bool) : TE := fun σ H Q => σ[j]? = some (some (.ref a)) ∧ Q (.bl b) H
variable {sub : Str → Str → Bool} {a C : Addr} {oe : Obj} {pn : List (Addr × Obj)} {c y n : Str} {j : Nat} {p1 p2 p3 pos : Pos}
theorem pe_isE (ef : ExFacts X.K X.mg xs sub) (hc : c ∈ xs) (hy : y ∈ xs) (hC : X.mg c = some (.ref C)) (hz : Zc (.ref C) none oe) (hf : ∃ vs, oe.data = .fields vs) (hm : X.mg "isinstance" = none) (hg : Gl X "isinstance") (hgy : Gl X y) (hdy : (y == ("__debug__" : Str)) = false)
    (hN : X.N[j]? = some n) (hv : Vis X.env.scope n) (hd : (n == ("__debug__" : Str)) = false) (hcd : (n == ("__classdict__" : Str)) = false)
    (he : starEach [.Name n p2, .Name y p3] X.env = (false, eval (.Name n p2) X.env) :: starEach [.Name y p3] X.env) (he2 : starEach [.Name y p3] X.env = (false, eval (.Name y p3) X.env) :: starEach [] X.env) (hpl : (backTo pos (starEach [.Name y p3] X.env)).any (·.1) = false) :
    PE (X.suite a ((a, oe) :: pn)) (.Call (.Name "isinstance" p1) [.Name n p2, .Name y p3] [] pos) (tIs j a (sub c y)) := by
  obtain ⟨C', hC', ec⟩ := ef.cls c hc
  rw [hC] at hC'
  cases hC'
  obtain ⟨Y, hY, _⟩ := ef.cls y hy
  have hk := (ef.one c hc y hy C Y hC hY).1
  refine PE.imp (pe_callB (X := X.suite a ((a, oe) :: pn)) (call_isE ec hz hf) hg hm (by decide +kernel) (pa_cons (pe_var hN hv hd hcd) (pa_cons (pe_glob (v := .ref Y) hgy hY rfl hdy) pa_nil he2) he) (by decide) (by decide) he hpl) fun σ H Q h => ?_
  exact ⟨_, h.1, _, _, _, rfl, fun u r => r, hk, h.2⟩
end
/-- return isinstance(e, Y) -/
theorem su_is {X : Cx} {xs : List Str} {sub : Str → Str → Bool} {y n : Str} {j : Nat} {p1 p2 p3 pos pos2 : Pos} (ef : ExFacts X.K X.mg xs sub) (hy : y ∈ xs) (hm : X.mg "isinstance" = none) (hg : Gl X "isinstance") (hgy : Gl X y) (hdy : (y == ("__debug__" : Str)) = false)
    (hN : X.N[j]? = some n) (hv : Vis X.env.scope n) (hd : (n == ("__debug__" : Str)) = false) (hcd : (n == ("__classdict__" : Str)) = false)
    (he : starEach [.Name n p2, .Name y p3] X.env = (false, eval (.Name n p2) X.env) :: starEach [.Name y p3] X.env := by rfl) (he2 : starEach [.Name y p3] X.env = (false, eval (.Name y p3) X.env) :: starEach [] X.env := by rfl) (hpl : (backTo pos (starEach [.Name y p3] X.env)).any (·.1) = false := by rfl) :
    PSuv X xs (some j) [.Return (some (.Call (.Name "isinstance" p1) [.Name n p2, .Name y p3] [] pos)) pos2] (fun c p ρ => if p.isNone then .rt (.i (.bl (sub c y))) else .bad) := fun a oe cls d pn hz hf => by
  refine ⟨fun pins s σ H D I h => ?_⟩
  obtain ⟨c, C, p, H0, Pz, T, ρ, Fs, hc, rfl, hC, E, xd, hj, _, h⟩ := h
  cases p with
  | some q => exact h.elim
  | none =>
    have hd0 : d = none := xd
    subst hd0
    refine (pss_one (ps_ret (pe_isE ef hc hy hC hz hf hm hg hgy hdy hN hv hd hcd he he2 hpl))).run pins s σ H D I ?_
    exact ⟨(hj j rfl).1, h _ H [] E.pz' (.i (.bl _)) ⟨fun _ z => (nomatch z), fun _ _ z => (nomatch z)⟩⟩
/-- return A if isinstance(e, Y) else B -/
theorem su_isIf {X : Cx} {xs : List Str} {sub : Str → Str → Bool} {y n : Str} {j : Nat} {p1 p2 p3 pos pos2 pos3 : Pos} {ea eb : Expr} {f g : FE} (ef : ExFacts X.K X.mg xs sub) (hy : y ∈ xs) (hm : X.mg "isinstance" = none) (hg : Gl X "isinstance") (hgy : Gl X y) (hdy : (y == ("__debug__" : Str)) = false)
    (hN : X.N[j]? = some n) (hv : Vis X.env.scope n) (hd : (n == ("__debug__" : Str)) = false) (hcd : (n == ("__classdict__" : Str)) = false)
    (ha : ∀ (a : Addr) (oe : Obj) (pn : List (Addr × Obj)), PEv (X.suite a ((a, oe) :: pn)) ea f) (hb : ∀ (a : Addr) (oe : Obj) (pn : List (Addr × Obj)), PEv (X.suite a ((a, oe) :: pn)) eb g)
    (he : starEach [.Name n p2, .Name y p3] X.env = (false, eval (.Name n p2) X.env) :: starEach [.Name y p3] X.env := by rfl) (he2 : starEach [.Name y p3] X.env = (false, eval (.Name y p3) X.env) :: starEach [] X.env := by rfl) (hpl : (backTo pos (starEach [.Name y p3] X.env)).any (·.1) = false := by rfl) :
    PSuv X xs (some j) [.Return (some (.IfExp (.Call (.Name "isinstance" p1) [.Name n p2, .Name y p3] [] pos) ea eb pos3)) pos2] (fun c p => if p.isNone then (if sub c y then sRet f else sRet g) else fun _ => .bad) := fun a oe cls d pn hz hf => by
  refine ⟨fun pins s σ H D I h => ?_⟩
  obtain ⟨c, C, p, H0, Pz, T, ρ, Fs, hc, rfl, hC, E, xd, hj, _, h⟩ := h
  cases p with
  | some q => exact h.elim
  | none =>
    have hd0 : d = none := xd
    subst hd0
    refine (pss_one (ps_ret (pe_ifExp (pt_val (pe_isE ef hc hy hC hz hf hm hg hgy hdy hN hv hd hcd he he2 hpl)) (ha a oe pn _ takes0) (hb a oe pn _ takes0)))).run pins s σ H D I ?_
    refine ⟨(hj j rfl).1, _, rfl, ?_⟩
    have key : ∀ f : FE, Post X.K X.mg (fun _ _ _ _ => False) H0 Pz T D (sRet f ρ) → tev X.K X.mg (fun _ _ _ _ => False) f σ H D.rt := fun f h => by
      unfold sRet at h
      cases e1 : f ρ with
      | bad => rw [e1] at h; exact h.elim
      | ex c p => rw [e1] at h; exact ex_of E e1 h
      | ok x =>
        rw [e1] at h
        refine tev_ok E e1 fun v H1 F s1 E1 r1 o1 => ?_
        simp only at h
        by_cases hx : retOk x = true
        · rw [if_pos hx] at h
          exact h v H1 F (E1.h0.trans E1.pz) r1 (ret_of hx r1 o1)
        · rw [if_neg hx] at h; exact h.elim
    simp only [Option.isNone_none, if_true] at h
    cases e : sub c y with
    | true => rw [e] at h; simp only [if_true] at h ⊢; exact key f h
    | false => rw [e] at h; simp only [Bool.false_eq_true, if_false] at h ⊢; exact key g h
end L2.Pv

namespace L2.Pv
open PySem PySem.Spec PyProof.Rows

/-! ## sorted -/
def tupNE : IV → Bool
  | .tup (_ :: _) => true
  | _ => false
def plainK : IV → Bool
  | .non => false
  | .tup _ => false
  | _ => true
def okSort (xs : List IV) : Bool := (xs.all fun a => xs.all fun b => PySem.W.alike a.py b.py) && (xs.all tupNE || xs.all plainK) && xs.all fun x => decide (x.py.depth ≤ 64)
def leI : IV → IV → Bool := PySem.W.dataLe false IV.py
def sortI (xs : List IV) : List IV := xs.mergeSort leI
def opSorted : DV × Md → R (DV × Md) := fun x => match items? x.1 with
  | some xs => if okSort xs then .ok (.l (sortI xs), .own) else .bad
  | none => .bad
theorem opSorted_nx : NoEx1 opSorted := noex1_of fun x => by
  unfold opSorted
  split
  · split
    · exact .inl ⟨_, rfl⟩
    · exact .inr rfl
  · exact .inr rfl
/-- a new sorted list of data -/
def rSortedD (K : PySem.W.Frag) : List V → Hp → VK → Prop := fun vs H Q => ∃ (a : Addr) (us : List V) (xs : List IV), vs = [V.ref a] ∧ SqL K H a us ∧ RpIs K H us xs ∧ okSort xs = true ∧
  ∀ (p : Addr) (ws : List V), H p = none → RpIs K H ws (sortI xs) → Q (.ref p) (upd H p (.lst ws))
theorem pys_map : ∀ xs : List IV, IV.pys xs = xs.map IV.py
  | [] => rfl
  | x :: xs => by rw [List.map_cons, ← pys_map xs]; rfl
section
variable {X : Cx}
theorem each_of {K : PySem.W.Frag} {H : Hp} : ∀ {us : List V} {xs : List IV} {its : List Value}, RpIs K H us xs → Vals us its → PySem.W.EachIs (fun (u : Value) x => ∃ v, RelV v u ∧ RpI K H v x) its xs
  | _, [], _, h, r => by cases h; cases r; exact .nil
  | _, _ :: _, _, h, r => by
    cases h with
    | cons a b =>
      cases r with
      | cons r1 r2 => exact .cons ⟨_, r1, a⟩ (each_of b r2)
theorem of_each {K : PySem.W.Frag} {H : Hp} : ∀ {xs : List IV} {its : List Value}, PySem.W.EachIs (fun (u : Value) x => ∃ v, RelV v u ∧ RpI K H v x) its xs → ∃ us, RpIs K H us xs ∧ Vals us its
  | [], _, h => by cases h; exact ⟨[], .nil, .nil⟩
  | _ :: _, _, h => by
    cases h with
    | cons a b =>
      obtain ⟨v, h1, h2⟩ := a
      obtain ⟨us, h3, h4⟩ := of_each b
      exact ⟨v :: us, .cons h2 h3, .cons h1 h4⟩
theorem okSort_iff {xs : List IV} (h : okSort xs = true) : PySem.W.AllAlike (xs.map IV.py) ∧ PySem.W.Sortable (xs.map IV.py) ∧ ∀ b ∈ xs, b.py.depth ≤ 64 := by
  unfold okSort at h
  rw [Bool.and_eq_true, Bool.and_eq_true, Bool.or_eq_true] at h
  obtain ⟨⟨h1, h2⟩, h3⟩ := h
  refine ⟨fun d hd d' hd' => ?_, ?_, fun b hb => of_decide_eq_true (List.all_eq_true.mp h3 b hb)⟩
  · obtain ⟨a, ha, rfl⟩ := List.mem_map.mp hd
    obtain ⟨b, hb, rfl⟩ := List.mem_map.mp hd'
    exact List.all_eq_true.mp (List.all_eq_true.mp h1 a ha) b hb
  · rcases h2 with h2 | h2
    · left
      intro d hd
      obtain ⟨a, ha, rfl⟩ := List.mem_map.mp hd
      have := List.all_eq_true.mp h2 a ha
      unfold tupNE at this
      split at this
      · exact ⟨_, _, rfl⟩
      · cases this
    · right
      intro d hd
      obtain ⟨a, ha, rfl⟩ := List.mem_map.mp hd
      have := List.all_eq_true.mp h2 a ha
      unfold plainK at this
      split at this
      · cases this
      · cases this
      · cases a with
        | non => rename_i z _; exact absurd rfl z
        | tup xs => rename_i _ z; exact absurd rfl (z xs)
        | bl b => exact ⟨by intro z; simp [IV.py] at z, fun xs z => by simp [IV.py] at z⟩
        | int b => exact ⟨by intro z; simp [IV.py] at z, fun xs z => by simp [IV.py] at z⟩
        | str b => exact ⟨by intro z; simp [IV.py] at z, fun xs z => by simp [IV.py] at z⟩
theorem cr_sortedV (hu : X.A.units + 70 < cLine) : CallR X (.builtin "sorted") (rSortedD X.K) := by
  intro pins s σ H vs us Q I r h
  obtain ⟨a, ws, xs, rfl, hs, hr, hk, q⟩ := h
  obtain ⟨its, rv, hl, hz⟩ := I.list hs
  rw [Vals.ref1 r]
  obtain ⟨k1, k2, k3⟩ := okSort_iff hk
  have e0 := each_of hr rv
  have e1 : PySem.W.EachIs (fun v b => ∃ as, Reads s.heap v (IV.py b) as) its xs := e0.mono fun u x ⟨v, h1, h2⟩ => Dp.reads I _ v u h2.dp h1
  refine PySem.W.sorted_data (enc := IV.py) hl.isList e0 e1 k1 k2 (by rw [← hr.length]; exact hz) (fun b hb => by have := k3 b hb; omega) fun out h1 h2 => ?_
  obtain ⟨us2, q1, q2⟩ := of_each h2
  obtain ⟨ep, he'⟩ := PyProof.Rows.sortedAll_at s.heap its out.toArray
  have hlen : us2.length ≤ sizeLine := by rw [q2.length, h1, ← hr.length]; exact hz
  exact ⟨.ref _, upd H (s.heap.objs.size + 1) (.lst us2), I.laid (t' := s.toks) (fun _ _ => PyProof.Rows.sortedAll_old) (Nat.le_succ _) ⟨hlen, out, ep, q2, he'⟩, rfl, q _ _ (I.hok.fresh (Nat.le_succ _)) q1⟩
end
theorem uSorted {K : PySem.W.Frag} : UOk1 K (rSortedD K) opSorted := by
  intro H0 Pz H T σ ρ Fs x z v F Q E r1 o1 e h
  unfold opSorted at e
  split at e
  · rename_i xs e1
    split at e
    · rename_i hk
      cases e
      obtain ⟨a, vs, rfl, s, t⟩ := items?_rp r1 e1
      exact ⟨a, vs, xs, rfl, s, t, hk, fun p ws hp hw => h _ _ _ (same_upd hp) (new_lst hp hw) (new_ok E hp)⟩
    · cases e
  · cases e
theorem un2_of {k : Nat} {A : Around} (r : Room k A) : A.units + 70 < cLine := by have := r.un; omega

/-! ## min, max of a list of ints -/
def opMin := opOver ints? fun ns => match ns.min? with
  | some m => ok1 (.int m)
  | none => .bad
def opMax := opOver ints? fun ns => match ns.max? with
  | some m => ok1 (.int m)
  | none => .bad
theorem opMin_nx : NoEx1 opMin := opOver_nx fun ns => by
  cases ns.min? with
  | none => exact .inr rfl
  | some m => exact .inl ⟨_, rfl⟩
theorem opMax_nx : NoEx1 opMax := opOver_nx fun ns => by
  cases ns.max? with
  | none => exact .inr rfl
  | some m => exact .inl ⟨_, rfl⟩
theorem uMin {K : PySem.W.Frag} : UOk1 K (rMin K) opMin := by
  intro H0 Pz H T σ ρ Fs x z v F Q E r1 o1 e h
  obtain ⟨xs, ns, e1, e2, e3⟩ := opOver_ok e
  obtain ⟨a, vs, rfl, s, t⟩ := items?_rp r1 e1
  rw [ints?_some e2] at t
  rw [t.ints] at s
  cases e4 : ns.min? with
  | none => rw [e4] at e3; cases e3
  | some m =>
    rw [e4] at e3
    cases e3
    obtain ⟨hm, hle⟩ := List.min?_eq_some_iff.mp e4
    refine ⟨_, _, rfl, s, List.length_pos_of_mem hm, fun m' hm' hle' => ?_⟩
    have : m' = m := Int.le_antisymm (hle' m hm) (hle m' hm')
    subst this
    exact fin1 h (.int _)
theorem uMax {K : PySem.W.Frag} : UOk1 K (rMax K) opMax := by
  intro H0 Pz H T σ ρ Fs x z v F Q E r1 o1 e h
  obtain ⟨xs, ns, e1, e2, e3⟩ := opOver_ok e
  obtain ⟨a, vs, rfl, s, t⟩ := items?_rp r1 e1
  rw [ints?_some e2] at t
  rw [t.ints] at s
  cases e4 : ns.max? with
  | none => rw [e4] at e3; cases e3
  | some m =>
    rw [e4] at e3
    cases e3
    obtain ⟨hm, hle⟩ := List.max?_eq_some_iff.mp e4
    refine ⟨_, _, rfl, s, List.length_pos_of_mem hm, fun m' hm' hle' => ?_⟩
    have : m' = m := Int.le_antisymm (hle m' hm') (hle' m hm)
    subst this
    exact fin1 h (.int _)

/-! ## list(range(..)), tuple(range(..)) -/
def rgI (a b : Int) : List IV := (List.range (b - a).toNat).map fun i => .int (a + (i : Nat))
def rgOkB (a b : Int) : Bool := smI a && smI b && decide ((b - a).toNat ≤ 16777216)
def eListRg1 (f : FE) : FE := fun ρ => (f ρ).bind fun x => match x.1 with
  | .i (.int b) => if rgOkB 0 b then .ok (.l (rgI 0 b), .own) else .bad
  | _ => .bad
def eTupleRg1 (f : FE) : FE := fun ρ => (f ρ).bind fun x => match x.1 with
  | .i (.int b) => if rgOkB 0 b then ok1 (.tup (rgI 0 b)) else .bad
  | _ => .bad
def eListRg2 (f g : FE) : FE := fun ρ => (f ρ).bind fun x => (g ρ).bind fun y => match x.1, y.1 with
  | .i (.int a), .i (.int b) => if rgOkB a b then .ok (.l (rgI a b), .own) else .bad
  | _, _ => .bad
def eTupleRg2 (f g : FE) : FE := fun ρ => (f ρ).bind fun x => (g ρ).bind fun y => match x.1, y.1 with
  | .i (.int a), .i (.int b) => if rgOkB a b then ok1 (.tup (rgI a b)) else .bad
  | _, _ => .bad
theorem rgOkB_iff {a b : Int} (h : rgOkB a b = true) : RgOk a b := by
  unfold rgOkB at h
  rw [Bool.and_eq_true, Bool.and_eq_true] at h
  obtain ⟨h1, h2⟩ := smI_iff h.1.1
  obtain ⟨h3, h4⟩ := smI_iff h.1.2
  exact ⟨h1, h2, h3, h4, of_decide_eq_true h.2⟩
theorem rg_rp {K : PySem.W.Frag} {H : Hp} {a b : Int} : RpIs K H (rgV a b) (rgI a b) := by
  unfold rgV rgI
  have go : ∀ l : List Nat, RpIs K H (l.map fun i => V.int (a + (i : Nat))) (l.map fun i => IV.int (a + (i : Nat))) := by
    intro l
    induction l with
    | nil => exact .nil
    | cons x r ih => exact .cons (.int _) ih
  exact go _
section
variable {X : Cx} {a b : Expr} {f g : FE} {p pr pos posr : Pos}
theorem rg1_imp {K : PySem.W.Frag} {mg : MG} {W : WX} (σ : St) (H : Hp) {R' : Int → Int → Hp → Prop} (k : Int → R (DV × Md)) (hk : ∀ b c p, k b ≠ .ex c p) {Q : VK} (h : tev K mg W (fun ρ => (f ρ).bind fun x => match x.1 with
    | .i (.int b) => k b
    | _ => .bad) σ H Q) (fin : ∀ H0 Pz T ρ Fs H1 b z, EnvR K H0 Pz T H1 σ ρ Fs → k b = .ok z → (∀ v H' F, Same H1 H' → RpD K H' v z.1 F → ResOk H0 Pz T ρ Fs H' F z.2 → Q v H') → R' 0 b H1) : tRg1 (tev K mg W f) σ H R' := by
  obtain ⟨H0, Pz, T, ρ, Fs, E, h⟩ := h
  show tev K mg W f σ H _
  cases e1 : f ρ with
  | bad => simp only [e1, R.bind] at h
  | ex c p => simp only [e1, R.bind] at h; exact tev_ex E e1 h
  | ok x =>
    obtain ⟨x, m⟩ := x
    simp only [e1, R.bind] at h
    refine tev_ok E e1 fun v H1 F s1 E1 r1 o1 => ?_
    simp only at r1
    cases r1 with
    | i r =>
      cases r with
      | int b =>
        simp only at h
        cases e2 : k b with
        | bad => rw [e2] at h; exact h.elim
        | ex c p => exact absurd e2 (hk _ _ _)
        | ok z =>
          rw [e2] at h
          exact ⟨b, rfl, fin H0 Pz T ρ Fs H1 b z E1 e2 fun v H' F s r o => h v H' F (s1.trans s) r o⟩
      | non => exact h.elim
      | bl b => exact h.elim
      | str b => exact h.elim
      | tup s t => exact h.elim
    | l => exact h.elim
    | f => exact h.elim
    | m => exact h.elim
theorem rg2_imp {K : PySem.W.Frag} {mg : MG} {W : WX} (σ : St) (H : Hp) {R' : Int → Int → Hp → Prop} (k : Int → Int → R (DV × Md)) (hk : ∀ a b c p, k a b ≠ .ex c p) {Q : VK} (h : tev K mg W (fun ρ => (f ρ).bind fun x => (g ρ).bind fun y => match x.1, y.1 with
    | .i (.int a), .i (.int b) => k a b
    | _, _ => .bad) σ H Q) (fin : ∀ H0 Pz T ρ Fs H1 a b z, EnvR K H0 Pz T H1 σ ρ Fs → k a b = .ok z → (∀ v H' F, Same H1 H' → RpD K H' v z.1 F → ResOk H0 Pz T ρ Fs H' F z.2 → Q v H') → R' a b H1) : tRg2 (tev K mg W f) (tev K mg W g) σ H R' := by
  obtain ⟨H0, Pz, T, ρ, Fs, E, h⟩ := h
  show tev K mg W f σ H _
  cases e1 : f ρ with
  | bad => simp only [e1, R.bind] at h
  | ex c p => simp only [e1, R.bind] at h; exact tev_ex E e1 h
  | ok x =>
    refine tev_ok E e1 fun v H1 F s1 E1 r1 o1 => ?_
    show tev K mg W g σ H1 _
    cases e2 : g ρ with
    | bad => simp only [e1, e2, R.bind] at h
    | ex c p => simp only [e1, e2, R.bind] at h; exact tev_ex E1 e2 (h.of s1)
    | ok y =>
      simp only [e1, e2, R.bind] at h
      refine tev_ok E1 e2 fun u H2 G s2 E2 r2 o2 => ?_
      obtain ⟨x, m⟩ := x
      obtain ⟨y, m'⟩ := y
      simp only at r1 r2 h
      have go : ∀ a b, x = .i (.int a) → y = .i (.int b) → ∃ i j, v = .int i ∧ u = .int j ∧ R' i j H2 := fun a b ex ey => by
        subst ex ey
        cases r1 with
        | i r1 =>
          cases r1
          cases r2 with
          | i r2 =>
            cases r2
            simp only at h
            cases e3 : k a b with
            | bad => rw [e3] at h; exact h.elim
            | ex c p => exact absurd e3 (hk _ _ _ _)
            | ok z =>
              rw [e3] at h
              exact ⟨a, b, rfl, rfl, fin H0 Pz T ρ Fs H2 a b z E2 e3 fun v H' F s r o => h v H' F (s1.trans (s2.trans s)) r o⟩
      cases x with
      | i x =>
        cases x with
        | int a =>
          cases y with
          | i y =>
            cases y with
            | int b => exact go a b rfl rfl
            | non => exact h.elim
            | bl b => exact h.elim
            | str b => exact h.elim
            | tup b => exact h.elim
          | l => exact h.elim
          | f => exact h.elim
          | m => exact h.elim
        | non => exact h.elim
        | bl b => exact h.elim
        | str b => exact h.elim
        | tup b => exact h.elim
      | l => exact h.elim
      | f => exact h.elim
      | m => exact h.elim
theorem ev_listRg1 (hc : X.calm = true) (hg : Gl X "list") (hm : X.mg "list" = none) (hg2 : Gl X "range") (hm2 : X.mg "range" = none) (ha : PEv X a f) (na : starEach [a] X.env = (false, eval a X.env) :: starEach [] X.env := by rfl)
    (nb : starEach [.Call (.Name "range" pr) [a] [] posr] X.env = (false, eval (.Call (.Name "range" pr) [a] [] posr) X.env) :: starEach [] X.env := by rfl) : PEv X (.Call (.Name "list" p) [.Call (.Name "range" pr) [a] [] posr] [] pos) (eListRg1 f) := fun W tk =>
  PE.imp (pe_listRg hc hg hm (prg_1 hg2 hm2 (ha W tk) na) nb) fun σ H Q h => by
    refine rg1_imp σ H (fun b => if rgOkB 0 b then .ok (.l (rgI 0 b), .own) else .bad) (fun b c p => by split <;> (intro z; cases z)) h fun H0 Pz T ρ Fs H1 b z E e k => ?_
    split at e
    · rename_i hb
      cases e
      exact ⟨rgOkB_iff hb, fun q hq => k _ _ _ (same_upd hq) (new_lst hq rg_rp) (new_ok E hq)⟩
    · cases e
theorem ev_tupleRg1 (hc : X.calm = true) (hg : Gl X "tuple") (hm : X.mg "tuple" = none) (hg2 : Gl X "range") (hm2 : X.mg "range" = none) (ha : PEv X a f) (na : starEach [a] X.env = (false, eval a X.env) :: starEach [] X.env := by rfl)
    (nb : starEach [.Call (.Name "range" pr) [a] [] posr] X.env = (false, eval (.Call (.Name "range" pr) [a] [] posr) X.env) :: starEach [] X.env := by rfl) : PEv X (.Call (.Name "tuple" p) [.Call (.Name "range" pr) [a] [] posr] [] pos) (eTupleRg1 f) := fun W tk =>
  PE.imp (pe_tupRg hc hg hm (prg_1 hg2 hm2 (ha W tk) na) nb) fun σ H Q h => by
    refine rg1_imp σ H (fun b => if rgOkB 0 b then ok1 (.tup (rgI 0 b)) else .bad) (fun b c p => by split <;> (intro z; cases z)) h fun H0 Pz T ρ Fs H1 b z E e k => ?_
    split at e
    · rename_i hb
      cases e
      exact ⟨rgOkB_iff hb, fun q hq => k _ _ _ (same_upd hq) (new_tup hq rg_rp) .nil⟩
    · cases e
theorem ev_listRg2 (hc : X.calm = true) (hg : Gl X "list") (hm : X.mg "list" = none) (hg2 : Gl X "range") (hm2 : X.mg "range" = none) (ha : PEv X a f) (hb : PEv X b g) (na : starEach [a, b] X.env = (false, eval a X.env) :: starEach [b] X.env := by rfl) (na2 : starEach [b] X.env = (false, eval b X.env) :: starEach [] X.env := by rfl) (np : (backTo posr (starEach [b] X.env)).any (·.1) = false := by rfl)
    (nb : starEach [.Call (.Name "range" pr) [a, b] [] posr] X.env = (false, eval (.Call (.Name "range" pr) [a, b] [] posr) X.env) :: starEach [] X.env := by rfl) : PEv X (.Call (.Name "list" p) [.Call (.Name "range" pr) [a, b] [] posr] [] pos) (eListRg2 f g) := fun W tk =>
  PE.imp (pe_listRg hc hg hm (prg_2 hg2 hm2 (ha W tk) (hb W tk) na na2 np) nb) fun σ H Q h => by
    refine rg2_imp σ H (fun a b => if rgOkB a b then .ok (.l (rgI a b), .own) else .bad) (fun a b c p => by split <;> (intro z; cases z)) h fun H0 Pz T ρ Fs H1 a b z E e k => ?_
    split at e
    · rename_i hb
      cases e
      exact ⟨rgOkB_iff hb, fun q hq => k _ _ _ (same_upd hq) (new_lst hq rg_rp) (new_ok E hq)⟩
    · cases e
theorem ev_tupleRg2 (hc : X.calm = true) (hg : Gl X "tuple") (hm : X.mg "tuple" = none) (hg2 : Gl X "range") (hm2 : X.mg "range" = none) (ha : PEv X a f) (hb : PEv X b g) (na : starEach [a, b] X.env = (false, eval a X.env) :: starEach [b] X.env := by rfl) (na2 : starEach [b] X.env = (false, eval b X.env) :: starEach [] X.env := by rfl) (np : (backTo posr (starEach [b] X.env)).any (·.1) = false := by rfl)
    (nb : starEach [.Call (.Name "range" pr) [a, b] [] posr] X.env = (false, eval (.Call (.Name "range" pr) [a, b] [] posr) X.env) :: starEach [] X.env := by rfl) : PEv X (.Call (.Name "tuple" p) [.Call (.Name "range" pr) [a, b] [] posr] [] pos) (eTupleRg2 f g) := fun W tk =>
  PE.imp (pe_tupRg hc hg hm (prg_2 hg2 hm2 (ha W tk) (hb W tk) na na2 np) nb) fun σ H Q h => by
    refine rg2_imp σ H (fun a b => if rgOkB a b then ok1 (.tup (rgI a b)) else .bad) (fun a b c p => by split <;> (intro z; cases z)) h fun H0 Pz T ρ Fs H1 a b z E e k => ?_
    split at e
    · rename_i hb
      cases e
      exact ⟨rgOkB_iff hb, fun q hq => k _ _ _ (same_upd hq) (new_tup hq rg_rp) .nil⟩
    · cases e
end
end L2.Pv

/-! the head: what the run of the top must tell; the end -/
namespace L2.Pv
open PySem PySem.Spec PyProof.Rows L2
def eqB (a b : Option Bool) : Bool := match a, b with
  | some true, some true => true
  | some false, some false => true
  | none, none => true
  | _, _ => false
theorem eqB_ok {a b : Option Bool} (h : eqB a b = true) : a = b := by
  rcases a with _ | (_ | _) <;> rcases b with _ | (_ | _) <;> first | rfl | cases h
def excB (K : PySem.W.Frag) (C : Addr) : Bool :=
  He.eqO (PySem.W.findIn K (.ref C) "__getattribute__") (some (some (.builtin "BaseException.__getattribute__"))) &&
  (He.eqO (PySem.W.findIn K (.ref C) "__getattr__") (some none) &&
  (eqB (PySem.W.subIn K (.ref C) (.type "BaseException")) (some true) &&
  (PySem.W.hasDictIn K C &&
  (He.eqO (PySem.W.findIn K (.ref C) "__class__") (some (some (.builtin "object.__class__"))) &&
  (He.eqO (PySem.W.specialIn K (.builtin "object.__class__") "__get__") (some (some (.builtin "getset_descriptor.__get__"))) &&
  (eqB (PySem.W.takesIn K (.builtin "object.__class__")) (some true) &&
  eqB (PySem.W.mroIn K C (.type "object")) (some true)))))))
theorem excB_ok {K : PySem.W.Frag} {C : Addr} (h : excB K C = true) : ExcC K C := by
  obtain ⟨h1, h⟩ := He.ba h
  obtain ⟨h2, h⟩ := He.ba h
  obtain ⟨h3, h⟩ := He.ba h
  obtain ⟨h4, h⟩ := He.ba h
  obtain ⟨h5, h⟩ := He.ba h
  obtain ⟨h6, h⟩ := He.ba h
  obtain ⟨h7, h8⟩ := He.ba h
  exact ⟨He.eqO_ok h1, He.eqO_ok h2, eqB_ok h3, h4, He.eqO_ok h5, He.eqO_ok h6, eqB_ok h7, eqB_ok h8⟩
def pairsB (K : PySem.W.Frag) (sub : Str → Str → Bool) (xs : List Str) : Bool := xs.all fun c => xs.all fun y =>
  eqB (PySem.W.kitOne K (.ref (He.ga K c)) (.ref (He.ga K y))) (some (sub c y)) && eqB (PySem.W.exmOne K (.ref (He.ga K c)) (.ref (He.ga K y))) (some (sub c y))
def exB (xs : List Str) (sub : Str → Str → Bool) (K : PySem.W.Frag) : Bool := (xs.all fun c => He.Fa.ok K (.glo c) && excB K (He.ga K c)) && pairsB K sub xs
abbrev AlP : Type := Bool × He.AlD
def obsP (n : Nat) (fa : List He.Fa) (fn : List He.DefD) (xs : List Str) (sub : Str → Str → Bool) (g : Addr → Option Obj) : AlP :=
  (exB xs sub (He.frG g (He.asD g n)), He.obsD fa fn (He.frG g (He.asD g n)))
def SaysP (fa : List He.Fa) (fn : List He.DefD) (xs : List Str) (sub : Str → Str → Bool) (K : PySem.W.Frag) : Prop := exB xs sub K = true ∧ He.SaysD fa fn K
def hookP (n : Nat) (fa : List He.Fa) (fn : List He.DefD) (xs : List Str) (sub : Str → Str → Bool) : PySem.W.Hook where
  α := AlP
  obs := fun s => obsP n fa fn xs sub s.heap.get?
  val := fun _ => (true, He.valD fn)
  says := fun _ h => ∃ K : PySem.W.Frag, K.In h ∧ SaysP fa fn xs sub K
  of := fun _ _ e => ⟨_, He.frG_in, congrArg (fun z : AlP => z.1) e, congrArg (fun z : AlP => z.2) e⟩
  keeps := fun _ _ _ ⟨K, hK, c⟩ k => ⟨K, PySem.W.Frag.In.keeps hK k, c⟩
theorem obsP_eq {n : Nat} {fa : List He.Fa} {fn : List He.DefD} {xs : List Str} {sub : Str → Str → Bool} {g : Addr → Option Obj} {s : Shared} (h : ∀ a, g a = s.heap.get? a) : obsP n fa fn xs sub g = (hookP n fa fn xs sub).obs s := by
  have e : g = s.heap.get? := funext h
  rw [e] <;> rfl
section
variable {fa : List He.Fa} {fn : List He.DefD} {xs : List Str} {sub : Str → Str → Bool} {K : PySem.W.Frag} {h : Heap} {mg : MG}
theorem SaysP.exF (X : K.In h) (G : h.Ns mainGlobals mg) (c : SaysP fa fn xs sub K) : ExFacts K mg xs sub := by
  obtain ⟨c1, c2⟩ := He.ba c.1
  have c1' : ∀ x ∈ xs, mg x = some (.ref (He.ga K x)) ∧ ExcC K (He.ga K x) := fun x hx => by
    obtain ⟨z1, z2⟩ := He.ba (List.all_eq_true.mp c1 x hx)
    exact ⟨He.glo_ok X G z1, excB_ok z2⟩
  refine ⟨fun x hx => ⟨_, (c1' x hx).1, (c1' x hx).2⟩, fun x hx y hy C Y e1 e2 => ?_⟩
  have z := List.all_eq_true.mp (List.all_eq_true.mp c2 x hx) y hy
  obtain ⟨z1, z2⟩ := He.ba z
  have q1 := (c1' x hx).1.symm.trans e1
  have q2 := (c1' y hy).1.symm.trans e2
  cases q1
  cases q2
  exact ⟨eqB_ok z1, eqB_ok z2⟩
theorem SaysP.free (X : K.In h) (G : h.Ns mainGlobals mg) (c : SaysP fa fn xs sub K) (i : Nat) {x : Str} (e : fa[i]? = some (.free x) := by rfl) : mg x = none := He.free_ok X G (c.2.fact i e)
theorem SaysP.int (X : K.In h) (G : h.Ns mainGlobals mg) (c : SaysP fa fn xs sub K) (i : Nat) {x : Str} {z : Int} (e : fa[i]? = some (.int x z) := by rfl) : ∃ t, mg x = some (.int z t) := He.int_ok X G (c.2.fact i e)
theorem SaysP.str (X : K.In h) (G : h.Ns mainGlobals mg) (c : SaysP fa fn xs sub K) (i : Nat) {x z : Str} (e : fa[i]? = some (.str x z) := by rfl) : ∃ t, mg x = some (.str z t) := He.str_ok X G (c.2.fact i e)
theorem SaysP.exc (X : K.In h) (G : h.Ns mainGlobals mg) (c : SaysP fa fn xs sub K) (i j : Nat) {x : Str} (e : fa[i]? = some (.exc x) := by rfl) (e2 : fa[j]? = some (.glo x) := by rfl) : Exc K mg x := by
  obtain ⟨a, b, d, f⟩ := He.exc_ok (c.2.fact i e)
  exact ⟨_, He.glo_ok X G (c.2.fact j e2), a, b, d, f⟩
theorem SaysP.def_ (X : K.In h) (G : h.Ns mainGlobals mg) (c : SaysP fa fn xs sub K) (i j : Nat) {x : Str} {st : Stmt} (e : fn[i]? = some ⟨(x, none), x, x, defArgs st, defBody st, defScope st, [], []⟩ := by rfl) (e2 : fa[j]? = some (.glo x) := by rfl) : Def K mg x st := by
  obtain ⟨fd, F⟩ := c.2.def_ i e
  exact ⟨_, fd, F, He.glo_ok X G (c.2.fact j e2)⟩
end
/-- the end: the law's data function answers true on every script -/
theorem law_end {l : PySem.W.OpenLaw} {k : Nat} {q : Program} {loose : List Str} {XP : (Str → Option Value) → Heap → Prop} {d : DefRec} {Fn : FF} {fa : List He.Fa} {fn : List He.DefD} {xs : List Str} {sub : Str → Str → Bool} {n : Nat} {st : Stmt} {jd jg : Nat}
    (hn : l.most = some 63) (hdf : d.params.defaults = []) (hnm : d.name = "law") (hr : Room k callerA)
    (hd : fn[jd]? = some ⟨(("law" : Str), none), ("law" : Str), ("law" : Str), defArgs st, defBody st, defScope st, [], []⟩) (hg : fa[jg]? = some (.glo ("law" : Str)))
    (hb : ∀ (kV doc pm : Value) (an : Option Addr) (cdv ct : Value) (us : List Value), us.length = 1 → bindArgs (PySem.W.fnOf ("law" : Str) ("law" : Str) (defArgs st) (defBody st) (defScope st) .none kV doc pm an cdv ct) ⟨us, []⟩ = pure ((["script"] : List Str).zip us))
    (F : ∀ (w : World) (K : PySem.W.Frag) (mg : MG) (h : Heap), K.In h → h.Ns mainGlobals mg → SaysP fa fn xs sub K → ∀ (f : Addr) (fd : FuncData), FunD K ("law" : Str) ("law" : Str) (defArgs st) (defBody st) (defScope st) [] [] f fd →
      ∀ base : Heap, K.In base → base.Ns mainGlobals mg → FnOk l.prog w K mg base (L2.CX l.prog w) k f fd ["script"] (spF K mg 1 Fn))
    (hF : ∀ ns : List Int, ns.length ≤ 63 → Fn [.f (ns.map IV.int)] = .ok (.i (.bl true))) :
    PySem.W.WalkO q loose XP (hookP n fa fn xs sub).says l.row.toRowW d [] (fun f vs => PySem.call f vs) := by
  refine Att.attach_call hn hdf fun w s₀ s₁ mg mb fa' o pm cd doc a vs ns G Y ho hd' hcd hmg hobj hints hlen hg' => ?_
  obtain ⟨K, KX, c⟩ := Y
  obtain ⟨fd, F0⟩ := c.2.def_ jd hd
  have e1 := He.glo_ok KX G.T.g (c.2.fact jg hg)
  rw [hnm] at hmg
  have e2 := hmg.symm.trans e1
  cases e2
  have hbd := FunD.bindsA (ps := ["script"]) F0 hb
  refine law_call (fd := fd) (sp := spF K mg 1 Fn) KX G.T.g G.T.b G.T.builtins G.T.nolimit hg' hobj hints (Nat.le_trans hlen (by decide)) hr
    (fun base h1 h2 => F w K mg _ KX G.T.g c _ fd F0 base h1 h2) (fun s u => hbd s [u] rfl) (fun H hO hS => ?_) (fun H e s' z => ?_)
  · refine ⟨rfl, [.f (ns.map IV.int)], .cons (F := []) (.f (vs := ns.map V.int) ?_ ?_) .nil, ?_⟩
    · rcases hS with (hS | ⟨o, hS⟩) | hS
      · rcases hO a with h0 | ⟨o, ys, h0⟩
        · rw [h0] at hS; cases hS
        · rw [h0] at hS; cases hS
      · exact .inl ⟨o, hS⟩
      · exact .inr hS
    · clear hS hints hlen hobj
      induction ns with
      | nil => exact .nil
      | cons i r ih => exact .cons (.int i) ih
    · rw [hF ns hlen]
      intro v H' F s r _
      cases r with
      | i r => cases r; rfl
  · obtain ⟨_, _, _, _, _, _, _, _, _, _, _, _, z⟩ := z
    exact z
end L2.Pv

/-! evaluating by simp: what each combinator gives -/
namespace L2.Pv
open PySem PySem.Spec PyProof.Rows L2
def iL (xs : List Int) : List IV := xs.map .int
/-! ### combinators -/
@[simp] theorem R_ok {α β : Type} (a : α) (f : α → R β) : (R.ok a).bind f = f a := rfl
@[simp] theorem R_ex {α β : Type} (c : Str) (p : Exn) (f : α → R β) : (R.ex c p : R α).bind f = .ex c p := rfl
@[simp] theorem eC_ap (x : IV) (ρ : Env) : eC x ρ = .ok (.i x, .own) := rfl
/-- a name's value, as it may be looked at -/
def look : Option (Option (DV × Md)) → R (DV × Md)
  | some (some (.i x, _)) => .ok (.i x, .own)
  | some (some (d, .own)) => .ok (d, .tmp)
  | some (some (_, .tmp)) => .bad
  | some (some (d, m)) => .ok (d, m)
  | _ => .bad
@[simp] theorem eVar_ap (i : Nat) (ρ : Env) : eVar i ρ = look ρ[i]? := by
  unfold eVar look
  rcases ρ[i]? with _ | _ | ⟨d, m⟩ <;> first | rfl | (cases d <;> cases m <;> rfl)
@[simp] theorem look_i (x : IV) (m : Md) : look (some (some (.i x, m))) = .ok (.i x, .own) := rfl
@[simp] theorem look_lo (x : List IV) : look (some (some (.l x, .own))) = .ok (.l x, .tmp) := rfl
@[simp] theorem look_ll (x : List IV) : look (some (some (.l x, .loc))) = .ok (.l x, .loc) := rfl
@[simp] theorem look_lb (x : List IV) : look (some (some (.l x, .bor))) = .ok (.l x, .bor) := rfl
@[simp] theorem look_mo (x : List DV) : look (some (some (.m x, .own))) = .ok (.m x, .tmp) := rfl
@[simp] theorem look_ml (x : List DV) : look (some (some (.m x, .loc))) = .ok (.m x, .loc) := rfl
@[simp] theorem look_mb (x : List DV) : look (some (some (.m x, .bor))) = .ok (.m x, .bor) := rfl
@[simp] theorem look_fb (x : List IV) : look (some (some (.f x, .bor))) = .ok (.f x, .bor) := rfl
@[simp] theorem look_fl (x : List IV) : look (some (some (.f x, .loc))) = .ok (.f x, .loc) := rfl
@[simp] theorem eBin_ap (op : DV × Md → DV × Md → R (DV × Md)) (f g : FE) (ρ : Env) : eBin op f g ρ = (f ρ).bind fun x => (g ρ).bind fun y => op x y := rfl
@[simp] theorem eUn_ap (op : DV × Md → R (DV × Md)) (f : FE) (ρ : Env) : eUn op f ρ = (f ρ).bind op := rfl
@[simp] theorem tB_ap (f : FE) (ρ : Env) : tB f ρ = (f ρ).bind asB := rfl
@[simp] theorem asB_bl (b : Bool) (m : Md) : asB (.i (.bl b), m) = .ok b := rfl
@[simp] theorem tAndF_ap (f g : FT) (ρ : Env) : tAndF f g ρ = (f ρ).bind fun b => if b then g ρ else .ok false := rfl
@[simp] theorem tOrF_ap (f g : FT) (ρ : Env) : tOrF f g ρ = (f ρ).bind fun b => if b then .ok true else g ρ := rfl
@[simp] theorem tNotF_ap (f : FT) (ρ : Env) : tNotF f ρ = (f ρ).bind fun b => .ok (!b) := rfl
@[simp] theorem tYesF_ap (ρ : Env) : tYesF ρ = .ok true := rfl
@[simp] theorem eIfF_ap (c : FT) (f g : FE) (ρ : Env) : eIfF c f g ρ = (c ρ).bind fun b => if b then f ρ else g ρ := rfl
@[simp] theorem eAndF_ap (f g : FE) (ρ : Env) : eAndF f g ρ = (f ρ).bind fun x => (asB x).bind fun b => if b then g ρ else .ok (.i (.bl false), .own) := rfl
@[simp] theorem eOrF_ap (f g : FE) (ρ : Env) : eOrF f g ρ = (f ρ).bind fun x => (asB x).bind fun b => if b then .ok (.i (.bl true), .own) else g ρ := rfl
@[simp] theorem eNotF_ap (f : FE) (ρ : Env) : eNotF f ρ = (f ρ).bind fun x => (asB x).bind fun b => .ok (.i (.bl (!b)), .own) := rfl
@[simp] theorem aNil_ap (ρ : Env) : aNil ρ = .ok [] := rfl
@[simp] theorem aCons_ap (f : FE) (g : FA) (ρ : Env) : aCons f g ρ = (f ρ).bind fun x => (g ρ).bind fun xs => .ok (x :: xs) := rfl
@[simp] theorem eCall_ap (F : FF) (g : FA) (ρ : Env) : eCall F g ρ = (g ρ).bind fun xs => (F (xs.map (·.1))).bind fun d => .ok (d, .own) := rfl
@[simp] theorem eChain_ap (op op' : DV × Md → DV × Md → R (DV × Md)) (f g k : FE) (ρ : Env) : eChain op op' f g k ρ = (f ρ).bind fun x => (g ρ).bind fun y => (op x y).bind fun z => (asB z).bind fun b => if b then (k ρ).bind fun u => op' y u else .ok (.i (.bl false), .own) := rfl
@[simp] theorem oNone_ap (ρ : Env) : oNone ρ = .ok none := rfl
@[simp] theorem oSome_ap (f : FE) (ρ : Env) : oSome f ρ = (f ρ).bind asI := rfl
@[simp] theorem asI_int (i : Int) (m : Md) : asI (.i (.int i), m) = .ok (some i) := rfl
@[simp] theorem eSlice_ap (f : FE) (l h : FO) (ρ : Env) : eSlice f l h ρ = (f ρ).bind fun x => (l ρ).bind fun l => (h ρ).bind fun u => opSl l u x := rfl
@[simp] theorem eLst_ap (g : FA) (ρ : Env) : eLst g ρ = (g ρ).bind dLst := rfl
@[simp] theorem eTup_ap (g : FA) (ρ : Env) : eTup g ρ = (g ρ).bind dTup := rfl
@[simp] theorem iAny_ap (f : FE) (ρ : Env) : iAny f ρ = (f ρ).bind itemsOf := rfl
/-! ### statements -/
def RS.seq (r : RS) (g : FS) : RS := match r with
  | .nx ρ => g ρ
  | r => r
@[simp] theorem seq_nx (ρ : Env) (g : FS) : (RS.nx ρ).seq g = g ρ := rfl
@[simp] theorem seq_rt (d : DV) (g : FS) : (RS.rt d).seq g = .rt d := rfl
@[simp] theorem seq_bk (ρ : Env) (g : FS) : (RS.bk ρ).seq g = .bk ρ := rfl
@[simp] theorem seq_ct (ρ : Env) (g : FS) : (RS.ct ρ).seq g = .ct ρ := rfl
@[simp] theorem seq_ex (c : Str) (p : Exn) (ρ : Env) (g : FS) : (RS.ex c p ρ).seq g = .ex c p ρ := rfl
@[simp] theorem sSeq_ap (f g : FS) (ρ : Env) : sSeq f g ρ = (f ρ).seq g := by
  unfold sSeq RS.seq
  cases f ρ <;> rfl
@[simp] theorem sNil_ap (ρ : Env) : sNil ρ = .nx ρ := rfl
@[simp] theorem sBreak_ap (ρ : Env) : sBreak ρ = .bk ρ := rfl
@[simp] theorem sCont_ap (ρ : Env) : sCont ρ = .ct ρ := rfl
@[simp] theorem sRaise_ap (c : Str) (ρ : Env) : sRaise c ρ = .ex c none ρ := rfl
/-- what follows an expression -/
def R.st {α : Type} (x : R α) (ρ : Env) (k : α → RS) : RS := match x with
  | .ok a => k a
  | .ex c p => .ex c p ρ
  | .bad => .bad
@[simp] theorem st_ok {α : Type} (a : α) (ρ : Env) (k : α → RS) : (R.ok a).st ρ k = k a := rfl
@[simp] theorem st_ex {α : Type} (c : Str) (p : Exn) (ρ : Env) (k : α → RS) : (R.ex c p : R α).st ρ k = .ex c p ρ := rfl
def bindT (t : TF) (x : DV × Md) (ρ : Env) : RS := if x.2 = .tmp then .bad else (match t x ρ with
  | some ρ' => .nx ρ'
  | none => .bad)
@[simp] theorem sAsg_ap (f : FE) (t : TF) (ρ : Env) : sAsg f t ρ = (f ρ).st ρ fun x => bindT t x ρ := by
  unfold sAsg R.st bindT
  cases f ρ <;> rfl
theorem bindT_name (i : Nat) (d : DV) (m : Md) (ρ : Env) (h : m ≠ .tmp) (hi : i < ρ.length) : bindT (tName i) (d, m) ρ = .nx (ρ.set i (some (d, nrmM d m))) := by
  unfold bindT tName
  rw [if_neg h, if_pos hi]
@[simp] theorem bindT_i (i : Nat) (x : IV) (ρ : Env) : bindT (tName i) (.i x, .own) ρ = if i < ρ.length then .nx (ρ.set i (some (.i x, .own))) else .bad := by
  unfold bindT tName
  rw [if_neg (show ¬ Md.own = Md.tmp by decide)]
  by_cases h : i < ρ.length
  · rw [if_pos h, if_pos h] <;> rfl
  · rw [if_neg h, if_neg h]
@[simp] theorem bindT_o (i : Nat) (d : DV) (ρ : Env) : bindT (tName i) (d, .own) ρ = if i < ρ.length then .nx (ρ.set i (some (d, .own))) else .bad := by
  have e : nrmM d .own = .own := by cases d <;> rfl
  unfold bindT tName
  rw [if_neg (show ¬ Md.own = Md.tmp by decide)]
  by_cases h : i < ρ.length
  · rw [if_pos h, if_pos h]; simp only [e]
  · rw [if_neg h, if_neg h]
@[simp] theorem bindT_l (i : Nat) (d : List IV) (ρ : Env) : bindT (tName i) (.l d, .loc) ρ = if i < ρ.length then .nx (ρ.set i (some (.l d, .loc))) else .bad := by
  unfold bindT tName nrmM
  rw [if_neg (show ¬ Md.loc = Md.tmp by decide)]
  by_cases h : i < ρ.length
  · rw [if_pos h, if_pos h]
  · rw [if_neg h, if_neg h]
@[simp] theorem tName_i (i : Nat) (x : IV) (m : Md) (ρ : Env) : tName i (.i x, m) ρ = if i < ρ.length then some (ρ.set i (some (.i x, .own))) else none := rfl
@[simp] theorem tName_l (i : Nat) (x : List IV) (m : Md) (ρ : Env) : tName i (.l x, m) ρ = if i < ρ.length then some (ρ.set i (some (.l x, m))) else none := rfl
@[simp] theorem tName_m (i : Nat) (x : List DV) (m : Md) (ρ : Env) : tName i (.m x, m) ρ = if i < ρ.length then some (ρ.set i (some (.m x, m))) else none := rfl
@[simp] theorem tTupT_ap (n : Nat) (ts : TFs) (xs : List IV) (m : Md) (ρ : Env) : tTupT n ts (.i (.tup xs), m) ρ = if xs.length = n then ts xs ρ else none := rfl
@[simp] theorem tTupT_l (n : Nat) (ts : TFs) (xs : List IV) (m : Md) (ρ : Env) : tTupT n ts (.l xs, m) ρ = if xs.length = n then ts xs ρ else none := rfl
@[simp] theorem tsNil_ap (ρ : Env) : tsNil [] ρ = some ρ := rfl
@[simp] theorem tsCons_ap (t : TF) (ts : TFs) (x : IV) (r : List IV) (ρ : Env) : tsCons t ts (x :: r) ρ = (t (.i x, .own) ρ).bind (ts r) := rfl
@[simp] theorem bindT_tup (n : Nat) (ts : TFs) (xs : List IV) (m : Md) (ρ : Env) (h : m = .own) : bindT (tTupT n ts) (.i (.tup xs), m) ρ = if xs.length = n then (match ts xs ρ with
    | some ρ' => .nx ρ'
    | none => .bad) else .bad := by
  subst h
  unfold bindT tTupT
  rw [if_neg (show ¬ Md.own = Md.tmp by decide)]
  by_cases h : xs.length = n <;> simp [h]
@[simp] theorem bindT_tupl (n : Nat) (ts : TFs) (xs : List IV) (m : Md) (ρ : Env) (h : m ≠ .tmp) : bindT (tTupT n ts) (.l xs, m) ρ = if xs.length = n then (match ts xs ρ with
    | some ρ' => .nx ρ'
    | none => .bad) else .bad := by
  unfold bindT tTupT
  rw [if_neg h]
  by_cases h : xs.length = n <;> simp [h]
@[simp] theorem sIf_ap (c : FT) (f g : FS) (ρ : Env) : sIf c f g ρ = (c ρ).st ρ fun b => if b then f ρ else g ρ := by
  unfold sIf R.st
  cases c ρ <;> rfl
@[simp] theorem sRet_ap (f : FE) (ρ : Env) : sRet f ρ = (f ρ).st ρ fun x => if retOk x then .rt x.1 else .bad := by
  unfold sRet R.st
  cases f ρ <;> rfl
@[simp] theorem retOk_i (x : IV) (m : Md) : retOk (.i x, m) = true := rfl
@[simp] theorem retOk_l (x : List IV) : retOk (.l x, .own) = true := rfl
@[simp] theorem retOk_ll (x : List IV) : retOk (.l x, .loc) = true := rfl
@[simp] theorem retOk_m (x : List DV) : retOk (.m x, .own) = true := rfl
@[simp] theorem sRetV_ap (i : Nat) (ρ : Env) : sRetV i ρ = match retV ρ[i]? with
    | some d => .rt d
    | none => .bad := rfl
@[simp] theorem retV_i (x : IV) (m : Md) : retV (some (some (.i x, m))) = some (.i x) := rfl
@[simp] theorem retV_l (x : List IV) : retV (some (some (.l x, .own))) = some (.l x) := rfl
@[simp] theorem retV_ll (x : List IV) : retV (some (some (.l x, .loc))) = some (.l x) := rfl
@[simp] theorem retV_m (x : List DV) : retV (some (some (.m x, .own))) = some (.m x) := rfl
@[simp] theorem sExpr_ap (f : FE) (ρ : Env) : sExpr f ρ = (f ρ).st ρ fun _ => .nx ρ := by
  unfold sExpr R.st
  cases f ρ <;> rfl
@[simp] theorem sAug_ap (i : Nat) (op : DV × Md → DV × Md → R (DV × Md)) (f : FE) (ρ : Env) : sAug i op f ρ = match look ρ[i]? with
  | .ok x => ((f ρ).st ρ fun y => match op x y with
    | .ok z => if z.2 = .tmp ∨ ¬ i < ρ.length then .bad else .nx (ρ.set i (some (z.1, nrmM z.1 z.2)))
    | _ => .bad)
  | _ => .bad := by
  unfold sAug R.st
  rw [eVar_ap]
  cases look ρ[i]? with
  | ok x => simp only; cases f ρ <;> rfl
  | ex => rfl
  | bad => rfl
@[simp] theorem sApp_ap (i : Nat) (f : FE) (ρ : Env) : sApp i f ρ = match ownAt ρ i with
  | some d => (f ρ).st ρ fun y => (match appD d y with
    | some d' => .nx (ρ.set i (some (d', .own)))
    | none => .bad)
  | none => .bad := by
  unfold sApp R.st
  cases ownAt ρ i with
  | none => rfl
  | some d => simp only; cases f ρ <;> rfl
def ownO : Option (Option (DV × Md)) → Option DV
  | some (some (.l xs, .own)) => some (.l xs)
  | some (some (.m xs, .own)) => some (.m xs)
  | _ => none
@[simp] theorem ownAt_ap (ρ : Env) (i : Nat) : ownAt ρ i = ownO ρ[i]? := by
  unfold ownAt ownO
  rcases ρ[i]? with _ | _ | ⟨d, m⟩ <;> first | rfl | (cases d <;> cases m <;> rfl)
@[simp] theorem ownO_l (xs : List IV) : ownO (some (some (.l xs, .own))) = some (.l xs) := rfl
@[simp] theorem ownO_m (xs : List DV) : ownO (some (some (.m xs, .own))) = some (.m xs) := rfl
@[simp] theorem appD_l (xs : List IV) (y : IV) (m : Md) : appD (.l xs) (.i y, m) = if xs.length < 16777216 then some (.l (xs ++ [y])) else none := rfl
@[simp] theorem appD_m (xs : List DV) (y : IV) (m : Md) : appD (.m xs) (.i y, m) = if xs.length < 16777216 then some (.m (xs ++ [.i y])) else none := rfl
@[simp] theorem sPut_ap (i : Nat) (k f : FE) (ρ : Env) : sPut i k f ρ = (f ρ).st ρ fun y => match ownO ρ[i]? with
  | some d => (k ρ).st ρ fun z => (match asI z with
      | .ok (some n) => (match setD d n y with
        | some d' => .nx (ρ.set i (some (d', .own)))
        | none => .bad)
      | _ => .bad)
  | none => .bad := by
  unfold sPut R.st
  rw [ownAt_ap]
  cases f ρ with
  | ok y => simp only; cases ownO ρ[i]? with
    | none => rfl
    | some d => simp only; cases k ρ <;> rfl
  | ex => rfl
  | bad => rfl
def parR (i j : Nat) (ρ : Env) (x y : DV × Md) : RS := if i < ρ.length ∧ j < ρ.length then (match parE ρ i j x y with
  | some ρ' => .nx ρ'
  | none => .bad) else .bad
@[simp] theorem sPar1_ap (i j : Nat) (f g : FE) (ρ : Env) : sPar1 i j f g ρ = (f ρ).st ρ fun x => (g ρ).st ρ fun y => parR i j ρ x y := by
  unfold sPar1 R.st parR
  cases f ρ with
  | ok x => simp only; cases g ρ <;> rfl
  | ex => rfl
  | bad => rfl
@[simp] theorem parR_ii (i j : Nat) (ρ : Env) (x y : IV) : parR i j ρ (.i x, .own) (.i y, .own) = if i < ρ.length ∧ j < ρ.length then .nx ((ρ.set i (some (.i x, .own))).set j (some (.i y, .own))) else .bad := by
  unfold parR parE nrmM
  simp
/-! ### for, while -/
@[simp] theorem sFor_ap (ds : List Nat) (src : FI) (t : TF) (b : FS) (ρ : Env) : sFor ds src t b ρ = (src (demL ρ ds)).st (demL ρ ds) fun it => if it.2 = .tmp then .bad else loopF t b it.1 (demL ρ ds) := by
  unfold sFor R.st
  cases src (demL ρ ds) <;> rfl
@[simp] theorem demL_nil (ρ : Env) : demL ρ [] = ρ := rfl
@[simp] theorem demL_cons (ρ : Env) (i : Nat) (r : List Nat) : demL ρ (i :: r) = demL (dem1 ρ i) r := rfl
def demO (ρ : Env) (i : Nat) : Option (Option (DV × Md)) → Env
  | some (some (.l xs, .own)) => ρ.set i (some (.l xs, .loc))
  | some (some (.m xs, .own)) => ρ.set i (some (.m xs, .loc))
  | _ => ρ
@[simp] theorem dem1_ap (ρ : Env) (i : Nat) : dem1 ρ i = demO ρ i ρ[i]? := by
  unfold dem1 demO
  rcases ρ[i]? with _ | _ | ⟨d, m⟩ <;> first | rfl | (cases d <;> cases m <;> rfl)
@[simp] theorem demO_i (ρ : Env) (i : Nat) (x : IV) (m : Md) : demO ρ i (some (some (.i x, m))) = ρ := rfl
@[simp] theorem demO_lo (ρ : Env) (i : Nat) (x : List IV) : demO ρ i (some (some (.l x, .own))) = ρ.set i (some (.l x, .loc)) := rfl
@[simp] theorem demO_mo (ρ : Env) (i : Nat) (x : List DV) : demO ρ i (some (some (.m x, .own))) = ρ.set i (some (.m x, .loc)) := rfl
@[simp] theorem demO_ll (ρ : Env) (i : Nat) (x : List IV) : demO ρ i (some (some (.l x, .loc))) = ρ := rfl
@[simp] theorem demO_ml (ρ : Env) (i : Nat) (x : List DV) : demO ρ i (some (some (.m x, .loc))) = ρ := rfl
@[simp] theorem demO_lb (ρ : Env) (i : Nat) (x : List IV) : demO ρ i (some (some (.l x, .bor))) = ρ := rfl
@[simp] theorem demO_mb (ρ : Env) (i : Nat) (x : List DV) : demO ρ i (some (some (.m x, .bor))) = ρ := rfl
@[simp] theorem demO_f (ρ : Env) (i : Nat) (x : List IV) (m : Md) : demO ρ i (some (some (.f x, m))) = ρ := rfl
/-- what is wanted behind a statement -/
structure PD where
  nx : Env → Prop
  bk : Env → Prop
  ct : Env → Prop
  rt : DV → Prop
  ex : Str → Exn → Prop
def RS.toP (r : RS) (D : PD) : Prop := match r with
  | .nx ρ => D.nx ρ
  | .bk ρ => D.bk ρ
  | .ct ρ => D.ct ρ
  | .rt d => D.rt d
  | .ex c p _ => D.ex c p
  | .bad => False
/-- a statement's end meets D (boxed, so that nothing is run by unfolding) -/
structure RS.to (r : RS) (D : PD) : Prop where
  h : r.toP D
@[simp] theorem to_nx (ρ : Env) (D : PD) : (RS.nx ρ).to D = D.nx ρ := propext ⟨fun z => z.h, fun z => ⟨z⟩⟩
@[simp] theorem to_bk (ρ : Env) (D : PD) : (RS.bk ρ).to D = D.bk ρ := propext ⟨fun z => z.h, fun z => ⟨z⟩⟩
@[simp] theorem to_ct (ρ : Env) (D : PD) : (RS.ct ρ).to D = D.ct ρ := propext ⟨fun z => z.h, fun z => ⟨z⟩⟩
@[simp] theorem to_rt (d : DV) (D : PD) : (RS.rt d).to D = D.rt d := propext ⟨fun z => z.h, fun z => ⟨z⟩⟩
@[simp] theorem to_ex (c : Str) (p : Exn) (ρ : Env) (D : PD) : (RS.ex c p ρ).to D = D.ex c p := propext ⟨fun z => z.h, fun z => ⟨z⟩⟩
@[simp] theorem to_bad (D : PD) : RS.bad.to D = False := propext ⟨fun z => z.h, fun z => z.elim⟩
/-- g comes behind -/
def PD.thn (D : PD) (g : FS) : PD := ⟨fun ρ => (g ρ).to D, D.bk, D.ct, D.rt, D.ex⟩
@[simp] theorem thn_nx (D : PD) (g : FS) (ρ : Env) : (D.thn g).nx ρ = (g ρ).to D := rfl
@[simp] theorem thn_bk (D : PD) (g : FS) (ρ : Env) : (D.thn g).bk ρ = D.bk ρ := rfl
@[simp] theorem thn_ct (D : PD) (g : FS) (ρ : Env) : (D.thn g).ct ρ = D.ct ρ := rfl
@[simp] theorem thn_rt (D : PD) (g : FS) (d : DV) : (D.thn g).rt d = D.rt d := rfl
@[simp] theorem thn_ex (D : PD) (g : FS) (c : Str) (p : Exn) : (D.thn g).ex c p = D.ex c p := rfl
@[simp] theorem to_seq (r : RS) (g : FS) (D : PD) : (r.seq g).to D = r.to (D.thn g) := by
  cases r <;> simp [RS.seq]
/-- what a turn must reach: I, or the loop's end D -/
structure Hide (I : Env → Prop) (D W : PD) : Prop where
  nx : ∀ ρ, I ρ → W.nx ρ
  ct : ∀ ρ, I ρ → W.ct ρ
  bk : ∀ ρ, D.nx ρ → W.bk ρ
  rt : ∀ d, D.rt d → W.rt d
  ex : ∀ c p, D.ex c p → W.ex c p
theorem Hide.self (I : Env → Prop) (D : PD) : Hide I D ⟨I, D.nx, I, D.rt, D.ex⟩ := ⟨fun _ h => h, fun _ h => h, fun _ h => h, fun _ h => h, fun _ _ h => h⟩
/-- a def's end -/
def fin (S : DV → Prop) (E : Str → Exn → Prop) : PD := ⟨fun _ => S (.i .non), fun _ => False, fun _ => False, S, E⟩
@[simp] theorem fin_nx (S : DV → Prop) (E : Str → Exn → Prop) (ρ : Env) : (fin S E).nx ρ = S (.i .non) := rfl
@[simp] theorem fin_rt (S : DV → Prop) (E : Str → Exn → Prop) (d : DV) : (fin S E).rt d = S d := rfl
@[simp] theorem fin_ex (S : DV → Prop) (E : Str → Exn → Prop) (c : Str) (p : Exn) : (fin S E).ex c p = E c p := rfl
theorem run_ok {n : Nat} {G : FS} {ds : List DV} (S : DV → Prop) (h : ∀ J : DV → Prop, (∀ d, S d → J d) → (G (startE n ds)).to (fin J fun _ _ => False)) : ∃ d, runF n G ds = .ok d ∧ S d := by
  have h := (h S fun _ h => h).h
  unfold runF
  cases e : G (startE n ds) with
  | nx ρ => rw [e] at h; exact ⟨_, rfl, h⟩
  | rt d => rw [e] at h; exact ⟨_, rfl, h⟩
  | bk ρ => rw [e] at h; exact h.elim
  | ct ρ => rw [e] at h; exact h.elim
  | ex c p ρ => rw [e] at h; exact h.elim
  | bad => rw [e] at h; exact h.elim
theorem run_eq {n : Nat} {G : FS} {ds : List DV} {v : DV} (h : (G (startE n ds)).to (fin (· = v) fun _ _ => False)) : runF n G ds = .ok v := by
  have h := h.h
  unfold runF
  cases e : G (startE n ds) with
  | nx ρ => rw [e] at h; exact congrArg R.ok h
  | rt d => rw [e] at h; exact congrArg R.ok h
  | bk ρ => rw [e] at h; exact h.elim
  | ct ρ => rw [e] at h; exact h.elim
  | ex c p ρ => rw [e] at h; exact h.elim
  | bad => rw [e] at h; exact h.elim
theorem run_ex {n : Nat} {G : FS} {ds : List DV} {c : Str} {p : Exn} (h : (G (startE n ds)).to (fin (fun _ => False) fun c' p' => c' = c ∧ p' = p)) : runF n G ds = .ex c p := by
  have h := h.h
  unfold runF
  cases e : G (startE n ds) with
  | nx ρ => rw [e] at h; exact h.elim
  | rt d => rw [e] at h; exact h.elim
  | bk ρ => rw [e] at h; exact h.elim
  | ct ρ => rw [e] at h; exact h.elim
  | ex c' p' ρ => rw [e] at h; obtain ⟨h1, h2⟩ := h; rw [h1, h2]
  | bad => rw [e] at h; exact h.elim
def goOn (o : Option Env) (b : FS) : RS := match o with
  | some ρ1 => b ρ1
  | none => .bad
@[simp] theorem goOn_some (ρ : Env) (b : FS) : goOn (some ρ) b = b ρ := rfl
/-- a walk over items: I k holds before the k-th turn -/
theorem loop_ind {t : TF} {b : FS} {D : PD} (I : Nat → Env → Prop) : ∀ (items : List (DV × Md)) (n : Nat) (ρ : Env), I n ρ →
    (∀ k x ρ, items[k]? = some x → I (n + k) ρ → (goOn (t x ρ) b).toP ⟨I (n + k + 1), D.nx, I (n + k + 1), D.rt, D.ex⟩) → (∀ ρ, I (n + items.length) ρ → D.nx ρ) → (loopF t b items ρ).toP D
  | [], n, ρ, h0, _, he => he ρ h0
  | x :: r, n, ρ, h0, hs, he => by
    have z := hs 0 x ρ rfl h0
    have hr : ∀ ρ2, I (n + 1) ρ2 → (loopF t b r ρ2).toP D := fun ρ2 h2 => loop_ind I r (n + 1) ρ2 h2 (fun k y ρ3 hk h3 => by
      have w := hs (k + 1) y ρ3 (by simpa using hk) (by rw [show n + (k + 1) = n + 1 + k by omega]; exact h3)
      rw [show n + 1 + k + 1 = n + (k + 1) + 1 by omega]
      exact w) (fun ρ3 h3 => he ρ3 (by rw [List.length_cons, show n + (r.length + 1) = n + 1 + r.length by omega]; exact h3))
    unfold loopF
    cases e : t x ρ with
    | none => rw [e] at z; exact z.elim
    | some ρ1 =>
      rw [e] at z
      simp only
      change (b ρ1).toP _ at z
      cases e2 : b ρ1 with
      | nx ρ2 => rw [e2] at z; exact hr ρ2 z
      | ct ρ2 => rw [e2] at z; exact hr ρ2 z
      | bk ρ2 => rw [e2] at z; exact z
      | rt d => rw [e2] at z; exact z
      | ex c p ρ2 => rw [e2] at z; exact z
      | bad => rw [e2] at z; exact z.elim
/-- a loop over written items, turn by turn -/
theorem loop_nil (t : TF) (b : FS) (ρ : Env) (D : PD) : (loopF t b [] ρ).to D = D.nx ρ := propext ⟨fun z => z.h, fun z => ⟨z⟩⟩
theorem loop_cons {t : TF} {b : FS} {x : DV × Md} {r : List (DV × Md)} {ρ : Env} {D : PD} (h : ∀ W : PD, Hide (fun ρ => (loopF t b r ρ).to D) D W → (goOn (t x ρ) b).to W) : (loopF t b (x :: r) ρ).to D := by
  have z := (h _ (Hide.self _ _)).h
  refine ⟨?_⟩
  unfold loopF
  cases e : t x ρ with
  | none => rw [e] at z; exact z.elim
  | some ρ1 =>
    rw [e] at z
    simp only
    change (b ρ1).toP _ at z
    cases e2 : b ρ1 with
    | nx ρ2 => rw [e2] at z; exact z.h
    | ct ρ2 => rw [e2] at z; exact z.h
    | bk ρ2 => rw [e2] at z; exact z
    | rt d => rw [e2] at z; exact z
    | ex c p ρ2 => rw [e2] at z; exact z
    | bad => rw [e2] at z; exact z.elim
/-- over a map -/
theorem for_map {α : Type} {t : TF} {b : FS} {D : PD} (xs : List α) (it : α → DV × Md) (ρ : Env) (I : Nat → Env → Prop) (h0 : I 0 ρ)
    (hs : ∀ (k : Nat) (hk : k < xs.length) (W : PD) (_ : Hide (I (k + 1)) D W) ρ, I k ρ → (goOn (t (it xs[k]) ρ) b).to W) (he : ∀ ρ, I xs.length ρ → D.nx ρ) : (loopF t b (xs.map it) ρ).to D := by
  refine ⟨loop_ind I (xs.map it) 0 ρ h0 (fun k x ρ hk h => ?_) (fun ρ h => he ρ (by simpa using h))⟩
  rw [Nat.zero_add] at h ⊢
  rw [List.getElem?_map] at hk
  cases e : xs[k]? with
  | none => rw [e] at hk; cases hk
  | some a =>
    rw [e] at hk
    obtain ⟨hk', ea⟩ := List.getElem?_eq_some_iff.mp e
    have z := hs k hk' _ (Hide.self _ _) ρ h
    rw [ea] at z
    have q : it a = x := Option.some.inj hk
    rw [← q]
    exact z.h
/-- over plain items -/
theorem for_el {t : TF} {b : FS} {D : PD} {xs : List IV} {ρ : Env} (I : Nat → Env → Prop) (h0 : I 0 ρ)
    (hs : ∀ (k : Nat) (hk : k < xs.length) (W : PD) (_ : Hide (I (k + 1)) D W) ρ, I k ρ → (goOn (t (.i xs[k], .own) ρ) b).to W) (he : ∀ ρ, I xs.length ρ → D.nx ρ) : (loopF t b (elI xs) ρ).to D :=
  for_map xs _ ρ I h0 hs he
theorem for_iL {t : TF} {b : FS} {D : PD} {xs : List Int} {ρ : Env} (I : Nat → Env → Prop) (h0 : I 0 ρ)
    (hs : ∀ (k : Nat) (hk : k < xs.length) (W : PD) (_ : Hide (I (k + 1)) D W) ρ, I k ρ → (goOn (t (.i (.int xs[k]), .own) ρ) b).to W) (he : ∀ ρ, I xs.length ρ → D.nx ρ) : (loopF t b (elI (iL xs)) ρ).to D := by
  have e : elI (iL xs) = xs.map fun x => (.i (.int x), .own) := by
    unfold elI iL
    rw [List.map_map] <;> rfl
  rw [e]
  exact for_map xs _ ρ I h0 hs he
/-- over a range -/
theorem for_rg {t : TF} {b : FS} {D : PD} {lo : Int} {n : Nat} {ρ : Env} (I : Nat → Env → Prop) (h0 : I 0 ρ)
    (hs : ∀ (k : Nat), k < n → ∀ (W : PD) (_ : Hide (I (k + 1)) D W) ρ, I k ρ → (goOn (t (.i (.int (lo + (k : Int))), .own) ρ) b).to W) (he : ∀ ρ, I n ρ → D.nx ρ) : (loopF t b (rgL lo n) ρ).to D := by
  refine for_map (List.range n) (fun k : Nat => (.i (.int (lo + (k : Int))), .own)) ρ I h0 (fun k hk W hW ρ h => ?_) (fun ρ h => he ρ (by simpa using h))
  rw [List.getElem_range]
  exact hs k (by simpa using hk) W hW ρ h
/-- over a range downwards, or by steps -/
theorem for_rgC {t : TF} {b : FS} {D : PD} {lo c : Int} {n : Nat} {ρ : Env} (I : Nat → Env → Prop) (h0 : I 0 ρ)
    (hs : ∀ (k : Nat), k < n → ∀ (W : PD) (_ : Hide (I (k + 1)) D W) ρ, I k ρ → (goOn (t (.i (.int (lo + (k : Int) * c)), .own) ρ) b).to W) (he : ∀ ρ, I n ρ → D.nx ρ) : (loopF t b (rgC lo c n) ρ).to D := by
  refine for_map (List.range n) (fun k : Nat => (.i (.int (lo + (k : Int) * c)), .own)) ρ I h0 (fun k hk W hW ρ h => ?_) (fun ρ h => he ρ (by simpa using h))
  rw [List.getElem_range]
  exact hs k (by simpa using hk) W hW ρ h
def turnP (W : PD) (c : R Bool) (b : RS) (ρ : Env) : Prop := match c with
  | .ok true => b.toP W
  | .ok false => W.bk ρ
  | .ex x p => W.ex x p
  | .bad => False
structure turnW (W : PD) (c : R Bool) (b : RS) (ρ : Env) : Prop where
  h : turnP W c b ρ
@[simp] theorem turnW_t (W : PD) (b : RS) (ρ : Env) : turnW W (.ok true) b ρ = b.to W := propext ⟨fun z => ⟨z.h⟩, fun z => ⟨z.h⟩⟩
@[simp] theorem turnW_f (W : PD) (b : RS) (ρ : Env) : turnW W (.ok false) b ρ = W.bk ρ := propext ⟨fun z => z.h, fun z => ⟨z⟩⟩
theorem turnW_ite (W : PD) (c : Bool) (b : RS) (ρ : Env) : turnW W (.ok c) b ρ = if c then b.to W else W.bk ρ := by cases c <;> simp
theorem whileF_ind {c : FT} {b : FS} {D : PD} (I : Nat → Env → Prop) : ∀ (m n : Nat) (ρ : Env), n < m → I n ρ →
    (∀ n ρ, I n ρ → turnP ⟨fun ρ' => ∃ n', n' < n ∧ I n' ρ', D.nx, fun ρ' => ∃ n', n' < n ∧ I n' ρ', D.rt, D.ex⟩ (c ρ) (b ρ) ρ) → (whileF c b m ρ).toP D
  | 0, n, ρ, h, _, _ => absurd h (Nat.not_lt_zero n)
  | m + 1, n, ρ, h, h0, hs => by
    have z := hs n ρ h0
    have hr : ∀ ρ2, (∃ n', n' < n ∧ I n' ρ2) → (whileF c b m ρ2).toP D := fun ρ2 ⟨n', h1, h2⟩ => whileF_ind I m n' ρ2 (by omega) h2 hs
    unfold whileF
    rcases e : c ρ with (_ | _) | ⟨x, p⟩ | _
    · rw [e] at z; exact z
    · rw [e] at z
      simp only
      change (b ρ).toP _ at z
      cases e2 : b ρ with
      | nx ρ2 => rw [e2] at z; exact hr ρ2 z
      | ct ρ2 => rw [e2] at z; exact hr ρ2 z
      | bk ρ2 => rw [e2] at z; exact z
      | rt d => rw [e2] at z; exact z
      | ex c p ρ2 => rw [e2] at z; exact z
      | bad => rw [e2] at z; exact z.elim
    · rw [e] at z; exact z
    · rw [e] at z; exact z.elim
/-- while: I n holds, n (under 100000) falls; a stop is W.bk -/
theorem while_ind {c : FT} {b : FS} {D : PD} {ρ : Env} (I : Nat → Env → Prop) (n : Nat) (hn : n < 100000) (h0 : I n ρ)
    (hs : ∀ n (W : PD) (_ : Hide (fun ρ => ∃ n', n' < n ∧ I n' ρ) D W) ρ, I n ρ → turnW W (c ρ) (b ρ) ρ) : (sWhile c b ρ).to D := ⟨whileF_ind I 100000 n ρ hn h0 fun n ρ h => (hs n _ (Hide.self _ _) ρ h).h⟩
/-! ### comprehensions -/
def sel {α : Type} (p : α → Bool) (f : α → DV × Md) : List α → List (DV × Md)
  | [] => []
  | x :: r => if p x then ((f x).1, demM (f x).1 (f x).2) :: sel p f r else sel p f r
theorem compF_map {α : Type} {t : TF} {tt : FT} {el : FE} {ρw : Env} (it : α → DV × Md) (p : α → Bool) (f : α → DV × Md) : ∀ (xs : List α),
    (∀ x ∈ xs, ∃ ρ1, t (it x) ρw = some ρ1 ∧ tt ρ1 = .ok (p x) ∧ (p x = true → el ρ1 = .ok (f x) ∧ demM (f x).1 (f x).2 ≠ .tmp)) → compF t tt el ρw (xs.map it) = .ok (sel p f xs)
  | [], _ => rfl
  | x :: r, h => by
    obtain ⟨ρ1, h1, h2, h3⟩ := h x List.mem_cons_self
    have ih := compF_map it p f r fun y hy => h y (List.mem_cons_of_mem _ hy)
    simp only [List.map_cons, compF, h1, h2, bindB]
    cases e : p x with
    | true =>
      obtain ⟨h4, h5⟩ := h3 e
      simp only [h4, bindB, ih, if_neg h5, sel, e, if_true]
    | false =>
      simp only [ih, sel, e]
      rfl
theorem sel_all {α : Type} (f : α → IV) : ∀ xs : List α, sel (fun _ => true) (fun x => (.i (f x), .own)) xs = elI (xs.map f)
  | [] => rfl
  | x :: r => by
    have ih := sel_all f r
    simp only [sel, if_true, List.map_cons, elI, ih, demM] at ih ⊢
theorem sel_filter {α : Type} (p : α → Bool) (f : α → IV) : ∀ xs : List α, sel p (fun x => (.i (f x), .own)) xs = elI ((xs.filter p).map f)
  | [] => rfl
  | x :: r => by
    have ih := sel_filter p f r
    cases e : p x <;> simp only [sel, e, List.filter_cons, ih] <;> rfl
theorem allI_elI : ∀ xs : List IV, allI (elI xs) = some xs
  | [] => rfl
  | x :: r => by
    have ih := allI_elI r
    unfold elI at ih ⊢
    rw [List.map_cons]
    unfold allI
    rw [ih] <;> rfl
theorem finI_elI (xs : List IV) : finI (elI xs) = .ok (.l xs, .own) := by
  unfold finI
  rw [allI_elI]
/-- [e for x in ..]: each item plain -/
theorem comp_map {α : Type} {src : FI} {vs : List Nat} {t : TF} {tt : FT} {el : FE} {ρ : Env} {m : Md} {xs : List α} {it : α → DV × Md} (f : α → IV)
    (hs : src ρ = .ok (xs.map it, m)) (hl : xs.length ≤ 16777216) (h : ∀ x ∈ xs, ∃ ρ1, t (it x) (wipeE ρ vs) = some ρ1 ∧ tt ρ1 = .ok true ∧ el ρ1 = .ok (.i (f x), .own)) :
    eComp src vs t tt el finI ρ = .ok (.l (xs.map f), .own) := by
  unfold eComp
  rw [hs]
  simp only [R_ok, List.length_map, if_pos hl]
  rw [compF_map it (fun _ => true) (fun x => (.i (f x), .own)) xs fun x hx => by
    obtain ⟨ρ1, h1, h2, h3⟩ := h x hx
    exact ⟨ρ1, h1, h2, fun _ => ⟨h3, by simp [demM]⟩⟩]
  rw [R_ok, sel_all, finI_elI]
theorem comp_filter {α : Type} {src : FI} {vs : List Nat} {t : TF} {tt : FT} {el : FE} {ρ : Env} {m : Md} {xs : List α} {it : α → DV × Md} (p : α → Bool) (f : α → IV)
    (hs : src ρ = .ok (xs.map it, m)) (hl : xs.length ≤ 16777216) (h : ∀ x ∈ xs, ∃ ρ1, t (it x) (wipeE ρ vs) = some ρ1 ∧ tt ρ1 = .ok (p x) ∧ (p x = true → el ρ1 = .ok (.i (f x), .own))) :
    eComp src vs t tt el finI ρ = .ok (.l ((xs.filter p).map f), .own) := by
  unfold eComp
  rw [hs]
  simp only [R_ok, List.length_map, if_pos hl]
  rw [compF_map it p (fun x => (.i (f x), .own)) xs fun x hx => by
    obtain ⟨ρ1, h1, h2, h3⟩ := h x hx
    exact ⟨ρ1, h1, h2, fun e => ⟨h3 e, by simp [demM]⟩⟩]
  rw [R_ok, sel_filter, finI_elI]
theorem comp_rg {src : FI} {vs : List Nat} {t : TF} {tt : FT} {el : FE} {ρ : Env} {m : Md} {lo : Int} {n : Nat} (f : Nat → IV)
    (hs : src ρ = .ok (rgL lo n, m)) (hl : n ≤ 16777216) (h : ∀ k, k < n → ∃ ρ1, t (.i (.int (lo + (k : Int))), .own) (wipeE ρ vs) = some ρ1 ∧ tt ρ1 = .ok true ∧ el ρ1 = .ok (.i (f k), .own)) :
    eComp src vs t tt el finI ρ = .ok (.l ((List.range n).map f), .own) :=
  comp_map (m := m) (it := fun k : Nat => (.i (.int (lo + (k : Int))), .own)) f hs (by simpa using hl) fun k hk => h k (List.mem_range.mp hk)
theorem comp_iL {src : FI} {vs : List Nat} {t : TF} {tt : FT} {el : FE} {ρ : Env} {m : Md} {xs : List Int} (f : Int → IV)
    (hs : src ρ = .ok (elI (iL xs), m)) (hl : xs.length ≤ 16777216) (h : ∀ x ∈ xs, ∃ ρ1, t (.i (.int x), .own) (wipeE ρ vs) = some ρ1 ∧ tt ρ1 = .ok true ∧ el ρ1 = .ok (.i (f x), .own)) :
    eComp src vs t tt el finI ρ = .ok (.l (xs.map f), .own) := by
  refine comp_map (m := m) (it := fun x : Int => (.i (.int x), .own)) f ?_ hl h
  rw [hs]
  unfold elI iL
  rw [List.map_map] <;> rfl
theorem map_int {α : Type} (f : α → Int) (xs : List α) : xs.map (fun x => IV.int (f x)) = iL (xs.map f) := by
  unfold iL
  rw [List.map_map] <;> rfl
/-! ### operators -/
@[simp] theorem opAdd_int (a b : Int) (m m' : Md) : opAdd (.i (.int a), m) (.i (.int b), m') = .ok (.i (.int (a + b)), .own) := rfl
@[simp] theorem opAdd_tup (a b : List IV) (m m' : Md) : opAdd (.i (.tup a), m) (.i (.tup b), m') = if a.length + b.length ≤ 16777216 then .ok (.i (.tup (a ++ b)), .own) else .bad := rfl
@[simp] theorem opAdd_lst (a b : List IV) (m m' : Md) : opAdd (.l a, m) (.l b, m') = if a.length + b.length ≤ 16777216 then .ok (.l (a ++ b), .own) else .bad := rfl
@[simp] theorem opAdd_str (a b : Str) (m m' : Md) : opAdd (.i (.str a), m) (.i (.str b), m') = if a.length + b.length ≤ 16777216 then .ok (.i (.str (a ++ b)), .own) else .bad := rfl
@[simp] theorem opIAdd_int (a b : Int) (m m' : Md) : opIAdd (.i (.int a), m) (.i (.int b), m') = .ok (.i (.int (a + b)), .own) := rfl
@[simp] theorem opSub_int (a b : Int) (m m' : Md) : opSub (.i (.int a), m) (.i (.int b), m') = .ok (.i (.int (a - b)), .own) := rfl
@[simp] theorem opMul_int (a b : Int) (m m' : Md) : opMul (.i (.int a), m) (.i (.int b), m') = if a.natAbs < 2 ^ 64 ∨ b.natAbs < 2 ^ 64 then .ok (.i (.int (a * b)), .own) else .bad := rfl
@[simp] theorem opMod_int (a b : Int) (m m' : Md) : opMod (.i (.int a), m) (.i (.int b), m') = if 0 < b then .ok (.i (.int (a % b)), .own) else .bad := rfl
@[simp] theorem opDiv_int (a b : Int) (m m' : Md) : opDiv (.i (.int a), m) (.i (.int b), m') = if 0 < b ∧ b.natAbs < 1073741824 then .ok (.i (.int (a / b)), .own) else .bad := rfl
@[simp] theorem opPow_int (a b : Int) (m m' : Md) : opPow (.i (.int a), m) (.i (.int b), m') = if 0 ≤ b ∧ b.natAbs ≤ 1000000 ∧ a.natAbs < 2 ^ 64 then .ok (.i (.int (a ^ b.toNat)), .own) else .bad := rfl
@[simp] theorem opXor_int (a b : Int) (m m' : Md) : opXor (.i (.int a), m) (.i (.int b), m') = .ok (.i (.int (Builtin.bitXor a b)), .own) := rfl
@[simp] theorem opNeg_int (a : Int) (m : Md) : opNeg (.i (.int a), m) = .ok (.i (.int (-a)), .own) := rfl
@[simp] theorem opAbs_int (a : Int) (m : Md) : opAbs (.i (.int a), m) = .ok (.i (.int (if a < 0 then -a else a)), .own) := rfl
@[simp] theorem opInt_int (a : Int) (m : Md) : opInt (.i (.int a), m) = .ok (.i (.int a), .own) := rfl
@[simp] theorem opLen_l (x : List IV) (m : Md) : opLen (.l x, m) = .ok (.i (.int x.length), .own) := rfl
@[simp] theorem opLen_m (x : List DV) (m : Md) : opLen (.m x, m) = .ok (.i (.int x.length), .own) := rfl
@[simp] theorem opLen_f (x : List IV) (m : Md) : opLen (.f x, m) = .ok (.i (.int x.length), .own) := rfl
@[simp] theorem opLen_t (x : List IV) (m : Md) : opLen (.i (.tup x), m) = .ok (.i (.int x.length), .own) := rfl
@[simp] theorem opMin2_int (a b : Int) (m m' : Md) : opMin2 (.i (.int a), m) (.i (.int b), m') = .ok (.i (.int (min a b)), .own) := by
  unfold opMin2
  simp only [ok1]
  rw [show (if b < a then b else a) = min a b by rw [Int.min_def]; split <;> split <;> omega]
@[simp] theorem opMax2_int (a b : Int) (m m' : Md) : opMax2 (.i (.int a), m) (.i (.int b), m') = .ok (.i (.int (max a b)), .own) := by
  unfold opMax2
  simp only [ok1]
  rw [show (if b > a then b else a) = max a b by rw [Int.max_def]; split <;> split <;> omega]
@[simp] theorem opTuple_l (x : List IV) (m : Md) : opTuple (.l x, m) = .ok (.i (.tup x), .own) := rfl
@[simp] theorem opTuple_t (x : List IV) (m : Md) : opTuple (.i (.tup x), m) = .ok (.i (.tup x), .own) := rfl
@[simp] theorem opList_l (x : List IV) (m : Md) : opList (.l x, m) = .ok (.l x, .own) := rfl
@[simp] theorem opList_t (x : List IV) (m : Md) : opList (.i (.tup x), m) = .ok (.l x, .own) := rfl
@[simp] theorem opRev_l (x : List IV) (m : Md) : opRev (.l x, m) = .ok (.l x.reverse, .own) := rfl
@[simp] theorem opRev_t (x : List IV) (m : Md) : opRev (.i (.tup x), m) = .ok (.i (.tup x.reverse), .own) := rfl
@[simp] theorem opSl_l (lo hi : Option Int) (x : List IV) (m : Md) : opSl lo hi (.l x, m) = .ok (.l (cutL x lo hi), .own) := rfl
@[simp] theorem opSl_f (lo hi : Option Int) (x : List IV) (m : Md) : opSl lo hi (.f x, m) = .ok (.l (cutL x lo hi), .own) := rfl
@[simp] theorem opSl_t (lo hi : Option Int) (x : List IV) (m : Md) : opSl lo hi (.i (.tup x), m) = .ok (.i (.tup (cutL x lo hi)), .own) := rfl
@[simp] theorem opIsi_ap (u : String) (x : DV × Md) : opIsi u x = .ok (.i (.bl (isTy (tyN x.1) u)), .own) := rfl
@[simp] theorem cInt_int (p : Int → Int → Bool) (a b : Int) (m m' : Md) : cInt p (.i (.int a), m) (.i (.int b), m') = .ok (.i (.bl (p a b)), .own) := rfl
@[simp] theorem cIsN_ap (x : DV × Md) (m : Md) : cIsN x (.i .non, m) = .ok (.i (.bl (isN x.1)), .own) := rfl
@[simp] theorem cNotN_ap (x : DV × Md) (m : Md) : cNotN x (.i .non, m) = .ok (.i (.bl (!isN x.1)), .own) := rfl
@[simp] theorem itemsOf_l (x : List IV) (m : Md) : itemsOf (.l x, m) = .ok (elI x, m) := rfl
@[simp] theorem itemsOf_f (x : List IV) (m : Md) : itemsOf (.f x, m) = .ok (elI x, .own) := rfl
@[simp] theorem itemsOf_t (x : List IV) (m : Md) : itemsOf (.i (.tup x), m) = .ok (elI x, .own) := rfl
@[simp] theorem iRg1_ap (f : FE) (ρ : Env) : iRg1 f ρ = (f ρ).bind fun x => match x.1 with
  | .i (.int j) => if smI j then .ok (rgL 0 j.toNat, .own) else .bad
  | _ => .bad := rfl
@[simp] theorem iRg2_ap (f g : FE) (ρ : Env) : iRg2 f g ρ = (f ρ).bind fun x => (g ρ).bind fun y => match x.1, y.1 with
  | .i (.int i), .i (.int j) => if smI i && smI j then .ok (rgL i (j - i).toNat, .own) else .bad
  | _, _ => .bad := rfl
theorem smI_ok {i : Int} (h1 : -(2 ^ 62) < i) (h2 : i < 2 ^ 62) : smI i = true := decide_eq_true (by omega)
@[simp] theorem eq_int (a b : Int) (m m' : Md) : cEq (.i (.int a), m) (.i (.int b), m') = .ok (.i (.bl (decide (a = b))), .own) := rfl
@[simp] theorem ne_int (a b : Int) (m m' : Md) : cNe (.i (.int a), m) (.i (.int b), m') = .ok (.i (.bl (!decide (a = b))), .own) := rfl
@[simp] theorem eq_bl (a b : Bool) (m m' : Md) : cEq (.i (.bl a), m) (.i (.bl b), m') = .ok (.i (.bl (a == b)), .own) := by cases a <;> cases b <;> rfl
@[simp] theorem ne_bl (a b : Bool) (m m' : Md) : cNe (.i (.bl a), m) (.i (.bl b), m') = .ok (.i (.bl (a != b)), .own) := by cases a <;> cases b <;> rfl
/-! ### integers in a row -/
@[simp] theorem iL_len (xs : List Int) : (iL xs).length = xs.length := List.length_map _
@[simp] theorem iL_app (a b : List Int) : iL a ++ iL b = iL (a ++ b) := (List.map_append).symm
@[simp] theorem iL_snoc (a : List Int) (b : Int) : iL a ++ [.int b] = iL (a ++ [b]) := iL_app a [b]
@[simp] theorem iL_rev (a : List Int) : (iL a).reverse = iL a.reverse := (List.map_reverse).symm
@[simp] theorem iL_cut (a : List Int) (lo hi : Option Int) : cutL (iL a) lo hi = iL (cutL a lo hi) := by
  unfold cutL iL
  rw [List.length_map, List.map_take, List.map_drop]
@[simp] theorem iL_take (a : List Int) (n : Nat) : (iL a).take n = iL (a.take n) := (List.map_take).symm
@[simp] theorem iL_drop (a : List Int) (n : Nat) : (iL a).drop n = iL (a.drop n) := (List.map_drop).symm
@[simp] theorem iL_rep (n : Nat) (a : Int) : List.replicate n (IV.int a) = iL (List.replicate n a) := (List.map_replicate).symm
theorem iL_nil : ([] : List IV) = iL [] := rfl
@[simp] theorem iL_one (a : Int) : [IV.int a] = iL [a] := rfl
@[simp] theorem iL_cons (a : Int) (r : List Int) : IV.int a :: iL r = iL (a :: r) := rfl
@[simp] theorem ints?_ints (a : List Int) : ints? (iL a) = some a := ints?_map a
theorem elI_iL (a : List Int) : elI (iL a) = a.map fun x => (.i (.int x), .own) := by
  unfold elI iL
  rw [List.map_map] <;> rfl
theorem atI_ok {α : Type} {xs : List α} {k : Int} (h0 : 0 ≤ k) (h1 : k < xs.length) : atI xs k = some (xs[k.toNat]'(by omega)) := by
  unfold atI ixN
  rw [if_pos h0, if_pos h1]
  exact List.getElem?_eq_getElem _
theorem atI_iL {xs : List Int} {k : Int} (h0 : 0 ≤ k) (h1 : k < xs.length) : atI (iL xs) k = some (.int (xs.getD k.toNat 0)) := by
  rw [atI_ok h0 (by rw [iL_len]; exact h1)]
  unfold iL
  rw [List.getElem_map, List.getD_eq_getElem?_getD, List.getElem?_eq_getElem (by omega)] <;> rfl
theorem atI_neg {α : Type} {xs : List α} {k : Int} (h0 : k < 0) (h1 : -(xs.length : Int) ≤ k) : atI xs k = some (xs[(k + xs.length).toNat]'(by omega)) := by
  unfold atI ixN
  rw [if_neg (by omega), if_pos h1]
  exact List.getElem?_eq_getElem _
theorem ix_tup {xs : List Int} {k : Int} {m m' : Md} (h0 : 0 ≤ k) (h1 : k < xs.length) : opIx (.i (.tup (iL xs)), m) (.i (.int k), m') = .ok (.i (.int (xs.getD k.toNat 0)), .own) := by
  unfold opIx
  simp only [atI_iL h0 h1]
theorem ix_l {xs : List Int} {k : Int} {m m' : Md} (h0 : 0 ≤ k) (h1 : k < xs.length) : opIx (.l (iL xs), m) (.i (.int k), m') = .ok (.i (.int (xs.getD k.toNat 0)), .own) := by
  unfold opIx
  simp only [atI_iL h0 h1]
theorem ix_t {xs : List IV} {k : Int} {m m' : Md} (h0 : 0 ≤ k) (h1 : k < xs.length) : opIx (.i (.tup xs), m) (.i (.int k), m') = .ok (.i (xs.getD k.toNat .non), .own) := by
  unfold opIx
  simp only [atI_ok h0 h1]
  rw [List.getD_eq_getElem?_getD, List.getElem?_eq_getElem (by omega)] <;> rfl
@[simp] theorem cut_nn {α : Type} (xs : List α) : cutL xs none none = xs := by
  unfold cutL
  simp [HT.sIx]
theorem cut_hi {α : Type} (xs : List α) {k : Int} (h : 0 ≤ k) : cutL xs none (some k) = xs.take k.toNat := by
  unfold cutL
  simp only [HT.sIx, if_neg (show ¬ k < 0 by omega), List.drop_zero, Nat.sub_zero]
  by_cases e : k.toNat ≤ xs.length
  · rw [Nat.min_eq_left e]
  · rw [Nat.min_eq_right (by omega), List.take_length, List.take_of_length_le (by omega)]
theorem cut_lo {α : Type} (xs : List α) {k : Int} (h : 0 ≤ k) : cutL xs (some k) none = xs.drop k.toNat := by
  unfold cutL
  simp only [HT.sIx, if_neg (show ¬ k < 0 by omega)]
  by_cases e : k.toNat ≤ xs.length
  · rw [Nat.min_eq_left e, List.take_of_length_le (by simp)]
  · rw [Nat.min_eq_right (by omega), List.drop_eq_nil_of_le (by omega), List.drop_eq_nil_of_le (by omega)] <;> simp
theorem cut_lh {α : Type} (xs : List α) {i j : Int} (hi : 0 ≤ i) (hj : 0 ≤ j) : cutL xs (some i) (some j) = (xs.take j.toNat).drop i.toNat := by
  unfold cutL
  simp only [HT.sIx, if_neg (show ¬ i < 0 by omega), if_neg (show ¬ j < 0 by omega)]
  rw [List.drop_take]
  by_cases e : i.toNat ≤ xs.length
  · rw [Nat.min_eq_left e]
    by_cases e2 : j.toNat ≤ xs.length
    · rw [Nat.min_eq_left e2]
    · rw [Nat.min_eq_right (by omega), List.take_of_length_le (by simp), List.take_of_length_le (by simp; omega)]
  · rw [Nat.min_eq_right (by omega : xs.length ≤ i.toNat), List.drop_eq_nil_of_le (by omega), List.drop_eq_nil_of_le (by omega)] <;> simp
/-! shapes, == of tuples of integers -/
theorem canLayAll_iff (ds : List PyData) : PyData.canLayAll0 ds = ds.all PyData.canLay0 := by
  induction ds with
  | nil => rfl
  | cons x r ih => unfold PyData.canLayAll0; rw [ih]; rfl
theorem depthAll_le {n : Nat} : ∀ {ds : List PyData}, (∀ d ∈ ds, d.depth ≤ n) → PyData.depthAll ds ≤ n
  | [], _ => Nat.zero_le _
  | x :: r, h => by
    unfold PyData.depthAll
    exact Nat.max_le.mpr ⟨h x List.mem_cons_self, depthAll_le fun d hd => h d (List.mem_cons_of_mem _ hd)⟩
/-- may be compared; how deep -/
def Fit (n : Nat) (x : IV) : Prop := x.py.canLay0 = true ∧ x.py.depth ≤ n
theorem Fit.mono {n k : Nat} {x : IV} (h : Fit n x) (hk : n ≤ k) : Fit k x := ⟨h.1, Nat.le_trans h.2 hk⟩
theorem fit_int {n : Nat} (i : Int) : Fit n (.int i) := ⟨rfl, Nat.zero_le _⟩
theorem fit_bl {n : Nat} (i : Bool) : Fit n (.bl i) := ⟨rfl, Nat.zero_le _⟩
theorem fit_non {n : Nat} : Fit n .non := ⟨rfl, Nat.zero_le _⟩
theorem fit_all {n : Nat} {xs : List IV} (h : ∀ x ∈ xs, Fit n x) : PyData.canLayAll0 (IV.pys xs) = true ∧ PyData.depthAll (IV.pys xs) ≤ n := by
  rw [pys_map, canLayAll_iff]
  refine ⟨List.all_eq_true.mpr fun d hd => ?_, depthAll_le fun d hd => ?_⟩
  · obtain ⟨x, hx, rfl⟩ := List.mem_map.mp hd; exact (h x hx).1
  · obtain ⟨x, hx, rfl⟩ := List.mem_map.mp hd; exact (h x hx).2
theorem fit_tup {n : Nat} {xs : List IV} (h : ∀ x ∈ xs, Fit n x) : Fit (n + 1) (.tup xs) := by
  obtain ⟨h1, h2⟩ := fit_all h
  refine ⟨?_, ?_⟩
  · show PyData.canLay0 (.tuple (IV.pys xs)) = true
    unfold PyData.canLay0
    exact h1
  · show PyData.depth (.tuple (IV.pys xs)) ≤ n + 1
    unfold PyData.depth
    omega
theorem fit_iL (xs : List Int) : Fit 1 (.tup (iL xs)) := fit_tup (n := 0) fun x hx => by
  obtain ⟨i, _, rfl⟩ := List.mem_map.mp hx
  exact fit_int i
theorem shp_of {n : Nat} {x : IV} (h : Fit n x) (hn : n ≤ 64 := by decide) : shp (.i x) = true := by
  show (x.py.canLay0 && decide (x.py.depth ≤ 64)) = true
  rw [h.1, decide_eq_true (Nat.le_trans h.2 hn)] <;> rfl
theorem shp_l {n : Nat} {xs : List IV} (h : ∀ x ∈ xs, Fit n x) (hn : n ≤ 63 := by decide) : shp (.l xs) = true := by
  obtain ⟨h1, h2⟩ := fit_all h
  show (PyData.canLay0 (.list (IV.pys xs)) && decide (PyData.depth (.list (IV.pys xs)) ≤ 64)) = true
  have e1 : PyData.canLay0 (.list (IV.pys xs)) = true := by unfold PyData.canLay0; exact h1
  have e2 : PyData.depth (.list (IV.pys xs)) ≤ 64 := by unfold PyData.depth; omega
  rw [e1, decide_eq_true e2] <;> rfl
theorem eqvAll_iL : ∀ a b : List Int, PyData.eqvAll (IV.pys (iL a)) (IV.pys (iL b)) = decide (a = b)
  | [], [] => rfl
  | [], _ :: _ => rfl
  | _ :: _, [] => rfl
  | x :: a, y :: b => by
    have ih := eqvAll_iL a b
    show (PyData.eqv (.int x) (.int y) && PyData.eqvAll (IV.pys (iL a)) (IV.pys (iL b))) = _
    rw [ih]
    show ((x == y) && decide (a = b)) = _
    by_cases h1 : x = y <;> by_cases h2 : a = b <;> simp [h1, h2]
@[simp] theorem eq_tup (a b : List Int) (m m' : Md) : cEq (.i (.tup (iL a)), m) (.i (.tup (iL b)), m') = .ok (.i (.bl (decide (a = b))), .own) := by
  unfold cEq
  rw [show shp (.i (.tup (iL a))) = true from shp_of (fit_iL a), show shp (.i (.tup (iL b))) = true from shp_of (fit_iL b)]
  show ok1 (.bl (PyData.eqvAll (IV.pys (iL a)) (IV.pys (iL b)))) = _
  rw [eqvAll_iL]
@[simp] theorem ne_tup (a b : List Int) (m m' : Md) : cNe (.i (.tup (iL a)), m) (.i (.tup (iL b)), m') = .ok (.i (.bl (!decide (a = b))), .own) := by
  unfold cNe
  rw [show shp (.i (.tup (iL a))) = true from shp_of (fit_iL a), show shp (.i (.tup (iL b))) = true from shp_of (fit_iL b)]
  show ok1 (.bl (!PyData.eqvAll (IV.pys (iL a)) (IV.pys (iL b)))) = _
  rw [eqvAll_iL]
theorem opAll_map {α : Type} (p : α → Bool) (xs : List α) (m : Md) : opAll (.l (xs.map fun x => .bl (p x)), m) = .ok (.i (.bl (xs.all p)), .own) := by
  have e : (xs.map fun x => IV.bl (p x)) = (xs.map p).map .bl := by rw [List.map_map] <;> rfl
  unfold opAll opOver items?
  simp only [e, bls?_map, List.all_map]
  rfl
theorem opAny_map {α : Type} (p : α → Bool) (xs : List α) (m : Md) : opAny (.l (xs.map fun x => .bl (p x)), m) = .ok (.i (.bl (xs.any p)), .own) := by
  have e : (xs.map fun x => IV.bl (p x)) = (xs.map p).map .bl := by rw [List.map_map] <;> rfl
  unfold opAny opOver items?
  simp only [e, bls?_map, List.any_map]
  rfl
@[simp] theorem opSum_iL (xs : List Int) (m : Md) : opSum (.l (iL xs), m) = .ok (.i (.int xs.sum), .own) := by
  unfold opSum opOver items?
  simp only [ints?_ints]
/-! ### rows: tuples of tuples of integers; displays -/
def rL (xs : List (List Int)) : List IV := xs.map fun r => .tup (iL r)
@[simp] theorem rL_len (xs : List (List Int)) : (rL xs).length = xs.length := List.length_map _
theorem map_row {α : Type} (f : α → List Int) (xs : List α) : xs.map (fun x => IV.tup (iL (f x))) = rL (xs.map f) := by
  unfold rL
  rw [List.map_map] <;> rfl
@[simp] theorem rL_app (a b : List (List Int)) : rL a ++ rL b = rL (a ++ b) := (List.map_append).symm
@[simp] theorem rL_snoc (a : List (List Int)) (b : List Int) : rL a ++ [.tup (iL b)] = rL (a ++ [b]) := rL_app a [b]
@[simp] theorem rL_rev (a : List (List Int)) : (rL a).reverse = rL a.reverse := (List.map_reverse).symm
@[simp] theorem rL_cut (a : List (List Int)) (lo hi : Option Int) : cutL (rL a) lo hi = rL (cutL a lo hi) := by
  unfold cutL rL
  rw [List.length_map, List.map_take, List.map_drop]
@[simp] theorem rL_take (a : List (List Int)) (n : Nat) : (rL a).take n = rL (a.take n) := (List.map_take).symm
@[simp] theorem rL_drop (a : List (List Int)) (n : Nat) : (rL a).drop n = rL (a.drop n) := (List.map_drop).symm
theorem for_rL {t : TF} {b : FS} {D : PD} {xs : List (List Int)} {ρ : Env} (I : Nat → Env → Prop) (h0 : I 0 ρ)
    (hs : ∀ (k : Nat) (hk : k < xs.length) (W : PD) (_ : Hide (I (k + 1)) D W) ρ, I k ρ → (goOn (t (.i (.tup (iL xs[k])), .own) ρ) b).to W) (he : ∀ ρ, I xs.length ρ → D.nx ρ) : (loopF t b (elI (rL xs)) ρ).to D := by
  have e : elI (rL xs) = xs.map fun x => (.i (.tup (iL x)), .own) := by
    unfold elI rL
    rw [List.map_map] <;> rfl
  rw [e]
  exact for_map xs _ ρ I h0 hs he
@[simp] theorem allI_nil : allI [] = some [] := rfl
@[simp] theorem allI_i (x : IV) (m : Md) (r : List (DV × Md)) : allI ((.i x, m) :: r) = (allI r).map (x :: ·) := rfl
@[simp] theorem dLst_ap (xs : List (DV × Md)) : dLst xs = match allI xs with
  | some ys => if ys.length ≤ 16777216 then .ok (.l ys, .own) else .bad
  | none => if xs.length ≤ 16777216 then (match mdL xs with
    | .tmp => .bad
    | m => .ok (.m (xs.map (·.1)), m)) else .bad := rfl
@[simp] theorem dTup_ap (xs : List (DV × Md)) : dTup xs = match allI xs with
  | some ys => if ys.length ≤ 16777216 then ok1 (.tup ys) else .bad
  | none => .bad := rfl
@[simp] theorem ix_0 (x : IV) (r : List IV) (m m' : Md) : opIx (.i (.tup (x :: r)), m) (.i (.int 0), m') = .ok (.i x, .own) := by
  rw [ix_t (by decide) (by simp)] <;> rfl
@[simp] theorem ix_1 (x y : IV) (r : List IV) (m m' : Md) : opIx (.i (.tup (x :: y :: r)), m) (.i (.int 1), m') = .ok (.i y, .own) := by
  rw [ix_t (by decide) (by simp; omega)] <;> rfl
@[simp] theorem ix_2 (x y z : IV) (r : List IV) (m m' : Md) : opIx (.i (.tup (x :: y :: z :: r)), m) (.i (.int 2), m') = .ok (.i z, .own) := by
  rw [ix_t (by decide) (by simp; omega)] <;> rfl
theorem sort2 (x y : IV) : sortI [x, y] = if leI x y then [x, y] else [y, x] := by
  unfold sortI
  simp [List.mergeSort, List.MergeSort.Internal.splitInTwo, List.merge]
theorem inD_rows (a : List Int) (rows : List (List Int)) : inD (.i (.tup (iL a))) (IV.pys (rL rows)) = decide (a ∈ rows) := by
  unfold inD
  rw [pys_map]
  induction rows with
  | nil => rfl
  | cons r rows ih =>
    unfold rL at ih ⊢
    rw [List.map_cons, List.map_cons, List.any_cons, ih]
    show (PyData.eqvAll (IV.pys (iL r)) (IV.pys (iL a)) || _) = _
    rw [eqvAll_iL]
    by_cases h1 : r = a <;> by_cases h2 : a ∈ rows <;> simp [h1, h2, eq_comm]
    · intro h; exact absurd h.symm h1
theorem in_rows (a : List Int) (rows : List (List Int)) (m m' : Md) : cIn false (.i (.tup (iL a)), m) (.l (rL rows), m') = .ok (.i (.bl (decide (a ∈ rows))), .own) := by
  have e1 : shp (.i (.tup (iL a))) = true := shp_of (fit_iL a)
  have e2 : shp (.l (rL rows)) = true := shp_l (n := 1) fun x hx => by
    obtain ⟨r, _, rfl⟩ := List.mem_map.mp hx
    exact fit_iL r
  unfold cIn
  simp only [e1, e2, inD_rows]
  rfl
end L2.Pv

/-! the draws that every law makes of its script -/
namespace L2.Pv
open PySem PySem.Spec PyProof.Rows L2
def B_dr_1 : FS := (sIf (tB (eBin (cInt fun i j => decide (i < j)) (eUn opLen (eVar 2)) (eVar 1)))
  (sSeq (sAsg (eBin opMod (eUn opInt (eBin opAdd (eBin opAdd (eBin opMul (eVar 3) (eC (.int 69621))) (eVar 6)) (eC (.int 1)))) (eC (.int 2147483647))) (tName 3))
  (sApp 2 (eBin opMod (eBin opDiv (eUn opInt (eVar 3)) (eC (.int 7))) (eC (.int 65521)))))
  sNil)
def B_dr_2 : FS := (sIf (tB (eBin (cInt fun i j => decide (j < i)) (eVar 5) (eC (.int 0))))
  (sSeq (sApp 2 (eBin opMod (eUn opInt (eVar 5)) (eC (.int 1009))))
  (sAsg (eBin opDiv (eVar 5) (eC (.int 1009))) (tName 5)))
  sNil)
def B_dr_3 : FS := (sSeq (sAsg (eUn opAbs (eVar 4)) (tName 5))
  (sSeq (sAsg (eBin opMod (eUn opInt (eBin opAdd (eBin opAdd (eBin opMul (eVar 3) (eC (.int 48271))) (eVar 5)) (eC (.int 11)))) (eC (.int 2147483647))) (tName 3))
  (sIf (tB (eBin (cInt fun i j => decide (j ≤ i)) (eVar 5) (eBin opPow (eC (.int 10)) (eC (.int 18)))))
  (sFor [] (iRg1 (eC (.int 60))) (tName 6)
  B_dr_2)
  (sApp 2 (eBin opMod (eBin opDiv (eUn opInt (eBin opAdd (eBin opMul (eVar 3) (eC (.int 16807))) (eC (.int 5)))) (eC (.int 3))) (eC (.int 65521)))))))
def G_dr : FS := (sSeq (sAsg (eLst aNil) (tName 2))
  (sSeq (sAsg (eC (.int 7)) (tName 3))
  (sSeq (sFor [] (iAny (eSlice (eVar 0) oNone (oSome (eC (.int 63))))) (tName 4)
  B_dr_3)
  (sSeq (sFor [] (iRg1 (eVar 1)) (tName 6)
  B_dr_1)
  (sRet (eSlice (eVar 2) oNone (oSome (eVar 1))))))))
def F_dr : FF := runF 7 G_dr
def Dr (ds : List Int) : Prop := ∀ d ∈ ds, 0 ≤ d ∧ d < 65521
theorem Dr.snoc {ds : List Int} {d : Int} (h : Dr ds) (h0 : 0 ≤ d) (h1 : d < 65521) : Dr (ds ++ [d]) := fun x hx => by
  rcases List.mem_append.mp hx with q | q
  · exact h x q
  · rw [List.mem_singleton.mp q]; exact ⟨h0, h1⟩
abbrev oi (i : Int) : Option (DV × Md) := some (.i (.int i), .own)
abbrev ol (ds : List Int) : Option (DV × Md) := some (.l (iL ds), .own)
theorem draws_ok (ns : List Int) (hns : ns.length ≤ 63) (many : Int) (hm0 : 0 ≤ many) (hm1 : many ≤ 1000000) :
    ∃ ds : List Int, ds.length = many.toNat ∧ Dr ds ∧ F_dr [.f (iL ns), .i (.int many)] = .ok (.l (iL ds)) := by
  suffices h : ∃ d, F_dr [.f (iL ns), .i (.int many)] = .ok d ∧ ∃ ds : List Int, ds.length = many.toNat ∧ Dr ds ∧ d = .l (iL ds) by
    obtain ⟨d, h1, ds, h2, h3, rfl⟩ := h
    exact ⟨ds, h2, h3, h1⟩
  refine run_ok _ fun Z hZ => ?_
  have e0 : startE 7 [.f (iL ns), .i (.int many)] = [some (.f (iL ns), .bor), oi many, none, none, none, none, none] := rfl
  rw [e0]
  simp [G_dr, dLst, allI, cut_hi (k := 63) _ (by decide)]
  refine for_iL (fun i ρ => ∃ ds seed c nu k, Dr ds ∧ ds.length ≤ i * 60 ∧ ρ = [some (.f (iL ns), .bor), oi many, ol ds, oi seed, c, nu, k]) ⟨[], 7, none, none, none, fun d h => (nomatch h), by simp, rfl⟩ ?_ ?_
  · rintro i hi W hW ρ ⟨ds, seed, c, nu, k, h1, h2, rfl⟩
    have hi' : i < 63 := by rw [List.length_take] at hi; omega
    generalize (List.take 63 ns)[i] = cell
    simp [B_dr_3]
    generalize (if cell < 0 then -cell else cell) = nn
    by_cases hb : 1000000000000000000 ≤ nn
    · simp [hb, smI_ok]
      refine for_rg (fun j ρ => ∃ ds seed c nu k, Dr ds ∧ ds.length ≤ i * 60 + j ∧ ρ = [some (.f (iL ns), .bor), oi many, ol ds, oi seed, c, oi nu, k]) ⟨ds, _, _, _, _, h1, by omega, rfl⟩ ?_ ?_
      · rintro j hj W hW ρ ⟨ds, seed, c, nu, k, h1, h2, rfl⟩
        by_cases hz : 0 < nu
        · have h1009 : nu % 1009 < 1009 := Int.emod_lt_of_pos _ (by decide)
          have h1010 : 0 ≤ nu % 1009 := Int.emod_nonneg _ (by decide)
          simp [B_dr_2, hz, show ds.length < 16777216 by omega]
          exact hW.nx _ ⟨_, _, _, _, _, h1.snoc h1010 (by omega), by simp; omega, rfl⟩
        · simp [B_dr_2, hz]
          exact hW.nx _ ⟨ds, _, _, _, _, h1, by omega, rfl⟩
      · rintro ρ ⟨ds, seed, c, nu, k, h1, h2, rfl⟩
        exact hW.nx _ ⟨ds, _, _, _, _, h1, by omega, rfl⟩
    · simp [hb, show ds.length < 16777216 by omega]
      exact hW.nx _ ⟨_, _, _, _, _, h1.snoc (Int.emod_nonneg _ (by decide)) (Int.emod_lt_of_pos _ (by decide)), by simp; omega, rfl⟩
  · rintro ρ ⟨ds, seed, c, nu, k, h1, h2, rfl⟩
    have h2' : ds.length ≤ 63 * 60 := by
      rw [List.length_take] at h2
      have : min 63 ns.length ≤ 63 := by omega
      exact Nat.le_trans h2 (Nat.mul_le_mul_right _ this)
    simp [smI_ok (i := many) (by omega) (by omega)]
    refine for_rg (fun j ρ => ∃ ds seed c nu k, Dr ds ∧ ds.length ≤ 3780 + j ∧ (j ≤ ds.length ∨ many.toNat ≤ ds.length) ∧ ρ = [some (.f (iL ns), .bor), oi many, ol ds, oi seed, c, nu, k]) ⟨ds, _, _, _, _, h1, by omega, by simp, rfl⟩ ?_ ?_
    · rintro j hj W hW ρ ⟨ds, seed, c, nu, k, h1, h2, h3, rfl⟩
      by_cases hz : (ds.length : Int) < many
      · simp [B_dr_1, hz, show ds.length < 16777216 by omega]
        exact hW.nx _ ⟨_, _, _, _, _, h1.snoc (Int.emod_nonneg _ (by decide)) (Int.emod_lt_of_pos _ (by decide)), by simp; omega, by simp; omega, rfl⟩
      · simp [B_dr_1, hz]
        exact hW.nx _ ⟨ds, _, _, _, _, h1, by omega, by omega, rfl⟩
    · rintro ρ ⟨ds, seed, c, nu, k, h1, h2, h3, rfl⟩
      simp [cut_hi _ hm0]
      exact hZ _ ⟨ds.take many.toNat, by simp; omega, fun d hd => h1 d (List.mem_of_mem_take hd), rfl⟩
end L2.Pv

/-! more built-ins: len(set(..)) -/
namespace L2.Pv
open PySem PySem.Spec PyProof.Rows L2
def lenSetI (ns : List Int) : R (DV × Md) := if ns.Nodup ∧ ns.length ≤ 4000 then ok1 (.int ns.length) else .bad
def eLenSet (f : FE) : FE := fun ρ => (f ρ).bind (opOver ints? lenSetI)
theorem ints?_inv : ∀ {xs : List IV} {ns : List Int}, ints? xs = some ns → xs = ns.map .int
  | [], ns, h => by cases h; rfl
  | .int i :: r, ns, h => by
    unfold ints? at h
    obtain ⟨ms, h1, h2⟩ := Option.map_eq_some_iff.mp h
    rw [← h2, List.map_cons, ← ints?_inv h1]
  | .non :: r, ns, h => by cases h
  | .bl _ :: r, ns, h => by cases h
  | .str _ :: r, ns, h => by cases h
  | .tup _ :: r, ns, h => by cases h
theorem rps_ints {K : PySem.W.Frag} {H : Hp} : ∀ {vs : List V} {ns : List Int}, RpIs K H vs (ns.map .int) → vs = ns.map V.int
  | _, [], h => by cases h; rfl
  | _, n :: ns, h => by
    cases h with
    | cons a b => cases a; rw [rps_ints b]; rfl
section
variable {X : Cx} {a : Expr} {f : FE} {p p2 q pos : Pos}
theorem ev_lenSet (hc : X.calm = true) (hg : Gl X "len") (hm : X.mg "len" = none) (hg2 : Gl X "set") (hm2 : X.mg "set" = none) (ha : PEv X a f)
    (na : starEach [a] X.env = (false, eval a X.env) :: starEach [] X.env := by rfl) : PEv X (.Call (.Name "len" p) [.Call (.Name "set" p2) [a] [] q] [] pos) (eLenSet f) := fun W tk =>
  PE.imp (RZ.pe_lenSetI hg hm hg2 hm2 (ha W tk) hc na) fun σ H Q h => by
    obtain ⟨H0, Pz, T, ρ, Fs, E, h⟩ := h
    show tev X.K X.mg W f σ H _
    unfold eLenSet at h
    cases e1 : f ρ with
    | bad => simp only [e1, R.bind] at h
    | ex c p => simp only [e1, R.bind] at h; exact tev_ex E e1 h
    | ok x =>
      simp only [e1, R.bind] at h
      refine tev_ok E e1 fun v H1 F s1 E1 r1 o1 => ?_
      cases e2 : opOver ints? lenSetI x with
      | bad => rw [e2] at h; exact h.elim
      | ex c p =>
        exfalso
        obtain ⟨x, m⟩ := x
        unfold opOver at e2
        split at e2
        · split at e2
          · unfold lenSetI at e2
            split at e2 <;> cases e2
          · cases e2
        · cases e2
      | ok z =>
        rw [e2] at h
        obtain ⟨xs, ns, h1, h2, h3⟩ := opOver_ok e2
        obtain ⟨l, vs, rfl, s, t⟩ := items?_rp r1 h1
        unfold lenSetI at h3
        split at h3
        · rename_i hn
          cases h3
          rw [ints?_inv h2] at t
          have ev := rps_ints t
          subst ev
          exact ⟨l, ns, rfl, s, hn.1, hn.2, h _ H1 [] s1 (.i (.int _)) .nil⟩
        · cases h3
end
@[simp] theorem eLenSet_ap (f : FE) (ρ : Env) : eLenSet f ρ = (f ρ).bind (opOver ints? lenSetI) := rfl
theorem lenSet_ok {ns : List Int} {m : Md} (h : ns.Nodup) (hl : ns.length ≤ 4000) : opOver ints? lenSetI (.l (iL ns), m) = .ok (.i (.int ns.length), .own) := by
  unfold opOver items? lenSetI
  simp only [ints?_ints, if_pos (And.intro h hl)]
end L2.Pv

namespace L2.Pv.T
open PySem PySem.Spec PyProof.Rows L2 L2.Pv
def topS (i : Nat) : Stmt := PySem.Challenge.pw_archivewright_k25_products_of_octets.main.body.getD i (.Pass ⟨0, 0, 0, 0⟩)
def exs : List Str := ["ArchiveError", "BadContent"]
def exPairs : List (Str × Str) := [("ArchiveError", "ArchiveError"), ("BadContent", "ArchiveError"), ("BadContent", "BadContent")]
def exSub (a b : Str) : Bool := exPairs.contains (a, b)
/-! ### is_octet -/
abbrev s_is_octet : Stmt := topS 4
abbrev N_is_octet : List Str := ["value"]
theorem sc_is_octet : FnScope ["value"] ["value"] (defScope s_is_octet) := ⟨rfl, rfl, rfl, by decide +kernel, rfl, by decide +kernel, by decide +kernel⟩
def G_is_octet : FS := (sRet (eAndF (eUn (opIsi "int") (eVar 0)) (eAndF (eNotF (eUn (opIsi "bool") (eVar 0))) (eChain (cInt fun i j => decide (i ≤ j)) (cInt fun i j => decide (i ≤ j)) (eC (.int 0)) (eVar 0) (eC (.int 255))))))
def F_is_octet : FF := runF 1 G_is_octet
/-! ### multiplied -/
abbrev s_multiplied : Stmt := topS 8
abbrev N_multiplied : List Str := ["one", "other", "found"]
theorem sc_multiplied : FnScope ["one", "other", "found"] ["one", "other"] (defScope s_multiplied) := ⟨rfl, rfl, rfl, by decide +kernel, rfl, by decide +kernel, by decide +kernel⟩
def B_multiplied_1 : FS := (sSeq (sIf (tB (eBin cEq (eBin opMod (eVar 1) (eC (.int 2))) (eC (.int 1))))
  (sAsg (eBin opXor (eVar 2) (eVar 0)) (tName 2))
  sNil)
  (sSeq (sAsg (eBin opMul (eC (.int 2)) (eVar 0)) (tName 0))
  (sSeq (sIf (tB (eBin (cInt fun i j => decide (j ≤ i)) (eVar 0) (eC (.int 256))))
  (sAsg (eBin opXor (eVar 0) (eC (.int 285))) (tName 0))
  sNil)
  (sAsg (eBin opDiv (eVar 1) (eC (.int 2))) (tName 1)))))
def G_multiplied : FS := (sSeq (sAsg (eC (.int 0)) (tName 2))
  (sSeq (sWhile (tB (eBin (cInt fun i j => decide (j < i)) (eVar 1) (eC (.int 0))))
  B_multiplied_1)
  (sRetV 2)))
def F_multiplied : FF := runF 3 G_multiplied
/-! ### _inverse -/
abbrev s__inverse : Stmt := topS 9
abbrev N__inverse : List Str := ["octet", "found", "_turn"]
theorem sc__inverse : FnScope ["octet", "found", "_turn"] ["octet"] (defScope s__inverse) := ⟨rfl, rfl, rfl, by decide +kernel, rfl, by decide +kernel, by decide +kernel⟩
def B__inverse_1 : FS := (sAsg (eCall F_multiplied (aCons (eVar 1) (aCons (eVar 0) aNil))) (tName 1))
def G__inverse : FS := (sSeq (sAsg (eC (.int 1)) (tName 1))
  (sSeq (sFor [] (iRg1 (eBin opSub (eC (.int 256)) (eC (.int 2)))) (tName 2)
  B__inverse_1)
  (sRetV 1)))
def F__inverse : FF := runF 3 G__inverse
/-! ### product -/
abbrev s_product : Stmt := topS 10
abbrev N_product : List Str := ["one", "other"]
theorem sc_product : FnScope ["one", "other"] ["one", "other"] (defScope s_product) := ⟨rfl, rfl, rfl, by decide +kernel, rfl, by decide +kernel, by decide +kernel⟩
def G_product : FS := (sSeq (sIf (tOrF (tNotF (tB (eCall F_is_octet (aCons (eVar 0) aNil)))) (tNotF (tB (eCall F_is_octet (aCons (eVar 1) aNil)))))
  (sRaise "BadContent")
  sNil)
  (sRet (eCall F_multiplied (aCons (eVar 0) (aCons (eVar 1) aNil)))))
def F_product : FF := runF 2 G_product
/-! ### quotient -/
abbrev s_quotient : Stmt := topS 11
abbrev N_quotient : List Str := ["one", "other"]
theorem sc_quotient : FnScope ["one", "other"] ["one", "other"] (defScope s_quotient) := ⟨rfl, rfl, rfl, by decide +kernel, rfl, by decide +kernel, by decide +kernel⟩
def G_quotient : FS := (sSeq (sIf (tOrF (tNotF (tB (eCall F_is_octet (aCons (eVar 0) aNil)))) (tOrF (tNotF (tB (eCall F_is_octet (aCons (eVar 1) aNil)))) (tB (eBin cEq (eVar 1) (eC (.int 0))))))
  (sRaise "BadContent")
  sNil)
  (sRet (eCall F_multiplied (aCons (eVar 0) (aCons (eCall F__inverse (aCons (eVar 1) aNil)) aNil)))))
def F_quotient : FF := runF 2 G_quotient
/-! ### _law_draws -/
abbrev s__law_draws : Stmt := topS 13
abbrev N__law_draws : List Str := ["script", "many", "draws", "seed", "cell", "number", "k"]
theorem sc__law_draws : FnScope ["script", "many", "draws", "seed", "cell", "number", "k"] ["script", "many"] (defScope s__law_draws) := ⟨rfl, rfl, rfl, by decide +kernel, rfl, by decide +kernel, by decide +kernel⟩
def B__law_draws_1 : FS := (sIf (tB (eBin (cInt fun i j => decide (i < j)) (eUn opLen (eVar 2)) (eVar 1)))
  (sSeq (sAsg (eBin opMod (eUn opInt (eBin opAdd (eBin opAdd (eBin opMul (eVar 3) (eC (.int 69621))) (eVar 6)) (eC (.int 1)))) (eC (.int 2147483647))) (tName 3))
  (sApp 2 (eBin opMod (eBin opDiv (eUn opInt (eVar 3)) (eC (.int 7))) (eC (.int 65521)))))
  sNil)
def B__law_draws_2 : FS := (sIf (tB (eBin (cInt fun i j => decide (j < i)) (eVar 5) (eC (.int 0))))
  (sSeq (sApp 2 (eBin opMod (eUn opInt (eVar 5)) (eC (.int 1009))))
  (sAsg (eBin opDiv (eVar 5) (eC (.int 1009))) (tName 5)))
  sNil)
def B__law_draws_3 : FS := (sSeq (sAsg (eUn opAbs (eVar 4)) (tName 5))
  (sSeq (sAsg (eBin opMod (eUn opInt (eBin opAdd (eBin opAdd (eBin opMul (eVar 3) (eC (.int 48271))) (eVar 5)) (eC (.int 11)))) (eC (.int 2147483647))) (tName 3))
  (sIf (tB (eBin (cInt fun i j => decide (j ≤ i)) (eVar 5) (eBin opPow (eC (.int 10)) (eC (.int 18)))))
  (sFor [] (iRg1 (eC (.int 60))) (tName 6)
  B__law_draws_2)
  (sApp 2 (eBin opMod (eBin opDiv (eUn opInt (eBin opAdd (eBin opMul (eVar 3) (eC (.int 16807))) (eC (.int 5)))) (eC (.int 3))) (eC (.int 65521)))))))
def G__law_draws : FS := (sSeq (sAsg (eLst aNil) (tName 2))
  (sSeq (sAsg (eC (.int 7)) (tName 3))
  (sSeq (sFor [] (iAny (eSlice (eVar 0) oNone (oSome (eC (.int 63))))) (tName 4)
  B__law_draws_3)
  (sSeq (sFor [] (iRg1 (eVar 1)) (tName 6)
  B__law_draws_1)
  (sRet (eSlice (eVar 2) oNone (oSome (eVar 1))))))))
def F__law_draws : FF := runF 7 G__law_draws
/-! ### _law_product -/
abbrev s__law_product : Stmt := topS 14
abbrev N__law_product : List Str := ["one", "other", "bits", "k", "n"]
theorem sc__law_product : FnScope ["one", "other", "bits", "k", "n"] ["one", "other"] (defScope s__law_product) := ⟨rfl, rfl, rfl, by decide +kernel, rfl, by decide +kernel, by decide +kernel⟩
def C__law_product_1 : FE := (eComp (iRg1 (eC (.int 8))) [3] (tName 3) tYesF (eBin opMul (eBin opIx (eVar 2) (eVar 3)) (eBin opIx (eLst (aCons (eC (.int 1)) (aCons (eC (.int 2)) (aCons (eC (.int 4)) (aCons (eC (.int 8)) (aCons (eC (.int 16)) (aCons (eC (.int 32)) (aCons (eC (.int 64)) (aCons (eC (.int 128)) aNil))))))))) (eVar 3))) finI)
def B__law_product_2 : FS := (sPut 2 (eBin opAdd (eBin opSub (eVar 3) (eC (.int 8))) (eVar 4)) (eBin opSub (eC (.int 1)) (eBin opIx (eVar 2) (eBin opAdd (eBin opSub (eVar 3) (eC (.int 8))) (eVar 4)))))
def B__law_product_3 : FS := (sIf (tB (eBin cEq (eBin opIx (eVar 2) (eVar 3)) (eC (.int 1))))
  (sFor [] (iAny (eLst (aCons (eC (.int 0)) (aCons (eC (.int 2)) (aCons (eC (.int 3)) (aCons (eC (.int 4)) (aCons (eC (.int 8)) aNil))))))) (tName 4)
  B__law_product_2)
  sNil)
def B__law_product_4 : FS := (sIf (tAndF (tB (eBin cEq (eBin opMod (eBin opDiv (eVar 0) (eBin opIx (eLst (aCons (eC (.int 1)) (aCons (eC (.int 2)) (aCons (eC (.int 4)) (aCons (eC (.int 8)) (aCons (eC (.int 16)) (aCons (eC (.int 32)) (aCons (eC (.int 64)) (aCons (eC (.int 128)) aNil))))))))) (eVar 3))) (eC (.int 2))) (eC (.int 1)))) (tB (eBin cEq (eBin opMod (eBin opDiv (eVar 1) (eBin opIx (eLst (aCons (eC (.int 1)) (aCons (eC (.int 2)) (aCons (eC (.int 4)) (aCons (eC (.int 8)) (aCons (eC (.int 16)) (aCons (eC (.int 32)) (aCons (eC (.int 64)) (aCons (eC (.int 128)) aNil))))))))) (eVar 4))) (eC (.int 2))) (eC (.int 1)))))
  (sPut 2 (eBin opAdd (eVar 3) (eVar 4)) (eBin opSub (eC (.int 1)) (eBin opIx (eVar 2) (eBin opAdd (eVar 3) (eVar 4)))))
  sNil)
def B__law_product_5 : FS := (sFor [] (iRg1 (eC (.int 8))) (tName 4)
  B__law_product_4)
def G__law_product : FS := (sSeq (sAsg (eBin opMul (eLst (aCons (eC (.int 0)) aNil)) (eC (.int 16))) (tName 2))
  (sSeq (sFor [] (iRg1 (eC (.int 8))) (tName 3)
  B__law_product_5)
  (sSeq (sFor [] (iRg3 (eC (.int 15)) (eC (.int 7)) (-1)) (tName 3)
  B__law_product_3)
  (sRet (eUn opSum C__law_product_1)))))
def F__law_product : FF := runF 5 G__law_product
/-! ### _law_added -/
abbrev s__law_added : Stmt := topS 15
abbrev N__law_added : List Str := ["one", "other", "found", "weight"]
theorem sc__law_added : FnScope ["one", "other", "found", "weight"] ["one", "other"] (defScope s__law_added) := ⟨rfl, rfl, rfl, by decide +kernel, rfl, by decide +kernel, by decide +kernel⟩
def B__law_added_1 : FS := (sAsg (eBin opAdd (eVar 2) (eBin opMul (eVar 3) (eUn opInt (eBin cNe (eBin opMod (eBin opDiv (eVar 0) (eVar 3)) (eC (.int 2))) (eBin opMod (eBin opDiv (eVar 1) (eVar 3)) (eC (.int 2))))))) (tName 2))
def G__law_added : FS := (sSeq (sAsg (eC (.int 0)) (tName 2))
  (sSeq (sFor [] (iAny (eLst (aCons (eC (.int 128)) (aCons (eC (.int 64)) (aCons (eC (.int 32)) (aCons (eC (.int 16)) (aCons (eC (.int 8)) (aCons (eC (.int 4)) (aCons (eC (.int 2)) (aCons (eC (.int 1)) aNil)))))))))) (tName 3)
  B__law_added_1)
  (sRetV 2)))
def F__law_added : FF := runF 4 G__law_added
/-! ### _law_refused -/
abbrev s__law_refused : Stmt := topS 17
abbrev N__law_refused : List Str := ["way", "one", "other", "e"]
theorem sc__law_refused : FnScope ["way", "one", "other", "e"] ["way", "one", "other"] (defScope s__law_refused) := ⟨rfl, rfl, rfl, by decide +kernel, rfl, by decide +kernel, by decide +kernel⟩
def G__law_refused : FS := (sSeq (sTry exs exSub
  (sIf (tB (eBin cEq (eVar 0) (eC (.int 0))))
  (sExpr (eCall F_product (aCons (eVar 1) (aCons (eVar 2) aNil))))
  (sExpr (eCall F_quotient (aCons (eVar 1) (aCons (eVar 2) aNil)))))
  (⟨"ArchiveError", some 3, (fun c p ρ => if p.isNone then .rt (.i (.bl (exSub c "BadContent"))) else .bad)⟩ :: []))
  (sRet (eC (.bl false))))
def F__law_refused : FF := runF 4 G__law_refused
/-! ### law -/
abbrev s_law : Stmt := topS 18
abbrev N_law : List Str := ["script", "draws", "k", "octets", "one", "other", "told", "third", "own", "power", "n", "wrong"]
theorem sc_law : FnScope ["script", "draws", "k", "octets", "one", "other", "told", "third", "own", "power", "n", "wrong"] ["script"] (defScope s_law) := ⟨rfl, rfl, rfl, by decide +kernel, rfl, by decide +kernel, by decide +kernel⟩
def C_law_1 : FE := (eComp (iAny (eLst (aCons (eUn opNeg (eC (.int 1))) (aCons (eC (.int 256)) (aCons (eC (.bl true)) (aCons (eC (.str "1")) (aCons (eC (.str "x")) aNil))))))) [11] (tName 11) tYesF (eAndF (eCall F__law_refused (aCons (eC (.int 0)) (aCons (eVar 11) (aCons (eC (.int 1)) aNil)))) (eAndF (eCall F__law_refused (aCons (eC (.int 0)) (aCons (eC (.int 1)) (aCons (eVar 11) aNil)))) (eCall F__law_refused (aCons (eC (.int 1)) (aCons (eC (.int 1)) (aCons (eVar 11) aNil)))))) finI)
def B_law_2 : FS := (sSeq (sAsg (eCall F_product (aCons (eVar 9) (aCons (eC (.int 2)) aNil))) (tName 9))
  (sIf (tAndF (tB (eBin cEq (eVar 9) (eC (.int 1)))) (tB (eBin (cInt fun i j => decide (i < j)) (eVar 2) (eC (.int 254)))))
  (sRet (eC (.bl false)))
  sNil))
def C_law_3 : FE := (eComp (iAny (eVar 3)) [5] (tName 5) tYesF (eBin cNe (eCall F_product (aCons (eC (.int 0)) (aCons (eVar 5) aNil))) (eC (.int 0))) finI)
def C_law_4 : FE := (eComp (iRg1 (eC (.int 256))) [5] (tName 5) tYesF (eCall F_product (aCons (eVar 8) (aCons (eVar 5) aNil))) finI)
def C_law_5 : FE := (eComp (iRg1 (eC (.int 3))) [10] (tName 10) tYesF (eBin opMod (eUn opInt (eBin opIx (eVar 1) (eBin opAdd (eC (.int 10)) (eBin opMod (eBin opAdd (eBin opMul (eC (.int 3)) (eVar 2)) (eVar 10)) (eC (.int 30)))))) (eC (.int 256))) finI)
def B_law_6 : FS := (sSeq (sAsg C_law_5 (tTupT 3 (tsCons (tName 4) (tsCons (tName 5) (tsCons (tName 7) tsNil)))))
  (sIf (tOrF (tB (eBin cNe (eCall F_product (aCons (eCall F_product (aCons (eVar 4) (aCons (eVar 5) aNil))) (aCons (eVar 7) aNil))) (eCall F_product (aCons (eVar 4) (aCons (eCall F_product (aCons (eVar 5) (aCons (eVar 7) aNil))) aNil))))) (tB (eBin cNe (eCall F_product (aCons (eVar 4) (aCons (eCall F__law_added (aCons (eVar 5) (aCons (eVar 7) aNil))) aNil))) (eCall F__law_added (aCons (eCall F_product (aCons (eVar 4) (aCons (eVar 5) aNil))) (aCons (eCall F_product (aCons (eVar 4) (aCons (eVar 7) aNil))) aNil))))))
  (sRet (eC (.bl false)))
  sNil))
def B_law_7 : FS := (sSeq (sAsg (eCall F_product (aCons (eVar 4) (aCons (eVar 5) aNil))) (tName 6))
  (sSeq (sIf (tOrF (tB (eBin cNe (eVar 6) (eCall F__law_product (aCons (eVar 4) (aCons (eVar 5) aNil))))) (tOrF (tB (eBin cNe (eVar 6) (eCall F_product (aCons (eVar 5) (aCons (eVar 4) aNil))))) (tB (eUn (opIsi "bool") (eVar 6)))))
  (sRet (eC (.bl false)))
  sNil)
  (sIf (tAndF (tB (eBin (cInt fun i j => decide (j < i)) (eVar 5) (eC (.int 0)))) (tOrF (tB (eBin cNe (eCall F_product (aCons (eCall F_quotient (aCons (eVar 4) (aCons (eVar 5) aNil))) (aCons (eVar 5) aNil))) (eVar 4))) (tB (eBin cNe (eCall F_quotient (aCons (eVar 6) (aCons (eVar 5) aNil))) (eVar 4)))))
  (sRet (eC (.bl false)))
  sNil)))
def B_law_8 : FS := (sFor [3] (iAny (eVar 3)) (tName 5)
  B_law_7)
def C_law_9 : FE := (eComp (iRg1 (eC (.int 8))) [2] (tName 2) tYesF (eBin opMod (eUn opInt (eBin opIx (eVar 1) (eVar 2))) (eC (.int 256))) finI)
def G_law : FS := (sSeq (sAsg (eCall F__law_draws (aCons (eVar 0) (aCons (eC (.int 40)) aNil))) (tName 1))
  (sSeq (sAsg (eBin opAdd (eLst (aCons (eC (.int 0)) (aCons (eC (.int 1)) (aCons (eC (.int 2)) (aCons (eC (.int 128)) (aCons (eC (.int 255)) aNil)))))) C_law_9) (tName 3))
  (sSeq (sFor [3] (iAny (eVar 3)) (tName 4)
  B_law_8)
  (sSeq (sFor [] (iRg1 (eC (.int 10))) (tName 2)
  B_law_6)
  (sSeq (sAsg (eBin opAdd (eC (.int 1)) (eBin opMod (eUn opInt (eBin opIx (eVar 1) (eC (.int 8)))) (eC (.int 255)))) (tName 8))
  (sSeq (sIf (tOrF (tB (eBin cNe (eLenSet C_law_4) (eC (.int 256)))) (tB (eUn opAny C_law_3)))
  (sRet (eC (.bl false)))
  sNil)
  (sSeq (sAsg (eC (.int 1)) (tName 9))
  (sSeq (sFor [] (iRg1 (eC (.int 255))) (tName 2)
  B_law_2)
  (sSeq (sIf (tOrF (tNotF (tB (eCall F__law_refused (aCons (eC (.int 0)) (aCons (eC .non) (aCons (eC (.int 1)) aNil)))))) (tNotF (tB (eCall F__law_refused (aCons (eC (.int 1)) (aCons (eC .non) (aCons (eC (.int 1)) aNil)))))))
  (sRet (eC (.bl false)))
  sNil)
  (sRet (eAndF (eBin cEq (eVar 9) (eC (.int 1))) (eAndF (eCall F__law_refused (aCons (eC (.int 1)) (aCons (eC (.int 5)) (aCons (eC (.int 0)) aNil)))) (eUn opAll C_law_1)))))))))))))
def F_law : FF := runF 12 G_law
structure Base (K : PySem.W.Frag) (mg : MG) : Prop where
  n_abs : mg "abs" = none
  n_all : mg "all" = none
  n_any : mg "any" = none
  n_bool : mg "bool" = none
  n_int : mg "int" = none
  n_isinstance : mg "isinstance" = none
  n_len : mg "len" = none
  n_range : mg "range" = none
  n_set : mg "set" = none
  n_sum : mg "sum" = none
  c_FIELD : ∃ t, mg "FIELD" = some (.int 285 t)
  c_SIZE : ∃ t, mg "SIZE" = some (.int 256 t)
  e_ArchiveError : Exc K mg "ArchiveError"
  e_BadContent : Exc K mg "BadContent"
  ex : ExFacts K mg exs exSub
  d_is_octet : Def K mg "is_octet" s_is_octet
  d_multiplied : Def K mg "multiplied" s_multiplied
  d__inverse : Def K mg "_inverse" s__inverse
  d_product : Def K mg "product" s_product
  d_quotient : Def K mg "quotient" s_quotient
  d__law_draws : Def K mg "_law_draws" s__law_draws
  d__law_product : Def K mg "_law_product" s__law_product
  d__law_added : Def K mg "_law_added" s__law_added
  d__law_refused : Def K mg "_law_refused" s__law_refused
  d_law : Def K mg "law" s_law
theorem body_is_octet {P : Program} {w : World} {K : PySem.W.Frag} {mg : MG} {base : Heap} (B : Base K mg) (f : Addr) (cdv : Value) (A : Around) (outer : List PySem.Env) (s : Shared) (H : Hp) (E : XK) (hr : Room 0 (A.deeper (envOfC "is_octet" (defScope s_is_octet) s.heap.objs.size f cdv))) :
    PSsv (cxOf (L2.CX P w) P w K mg base ["value"] "is_octet" (defScope s_is_octet) f cdv A outer s H E) (defBody s_is_octet) G_is_octet :=
    (sv_one (sv_ret (ev_and (ev_isi kit_int (by rfl) B.n_isinstance (by decide +kernel) (by rfl) B.n_int (by decide +kernel) (ev_var 0)) (ev_and (ev_not (ev_isi kit_bool (by rfl) B.n_isinstance (by decide +kernel) (by rfl) B.n_bool (by decide +kernel) (ev_var 0))) (ev_one (ev_chain op_le bCInt cInt_nx op_le bCInt cInt_nx ev_int (ev_var 0) ev_int))))))
theorem ok_is_octet {P : Program} {w : World} {K : PySem.W.Frag} {mg : MG} {base : Heap} (B : Base K mg) : Has P w K mg base "is_octet" 1 1 F_is_octet :=
  has_of (N := ["value"]) (ps := ["value"]) (k := 0) (g := G_is_octet) B.d_is_octet sc_is_octet (fun _ _ _ _ _ _ us hl => match us, hl with | [_], _ => rfl) fun f cdv A outer s H E hr => body_is_octet B f cdv A outer s H E hr
theorem body_multiplied {P : Program} {w : World} {K : PySem.W.Frag} {mg : MG} {base : Heap} (B : Base K mg) (f : Addr) (cdv : Value) (A : Around) (outer : List PySem.Env) (s : Shared) (H : Hp) (E : XK) (hr : Room 0 (A.deeper (envOfC "multiplied" (defScope s_multiplied) s.heap.objs.size f cdv))) :
    PSsv (cxOf (L2.CX P w) P w K mg base ["one", "other", "found"] "multiplied" (defScope s_multiplied) f cdv A outer s H E) (defBody s_multiplied) G_multiplied :=
    (sv_cons (sv_set (i := 2) sc_multiplied.nd rfl (.inl rfl) ev_int)
    (sv_cons (sv_while (passes_of rfl) (tv_cmp op_gt bCInt cInt_nx (ev_var 1) ev_int (nomark _))
    (sv_cons (sv_if (tv_cmp (op_eqD hr.units) bEq cEq_nx (ev_bin op_mod bMod opMod_nx (ev_var 1) ev_int) ev_int (nomark _))
    (sv_one (sv_set (i := 2) sc_multiplied.nd rfl (.inl rfl) (ev_bin op_xor bXor opXor_nx (ev_var 2) (ev_var 0))))
    sv_nil)
    (sv_cons (sv_set (i := 0) sc_multiplied.nd rfl (.inl rfl) (ev_bin or_mulAll bMul opMul_nx ev_int (ev_var 0)))
    (sv_cons (sv_if (tv_cmp op_ge bCInt cInt_nx (ev_var 0) (ev_gint (by rfl) B.c_SIZE) (nomark _))
    (sv_one (sv_set (i := 0) sc_multiplied.nd rfl (.inl rfl) (ev_bin op_xor bXor opXor_nx (ev_var 0) (ev_gint (by rfl) B.c_FIELD))))
    sv_nil)
    (sv_one (sv_set (i := 1) sc_multiplied.nd rfl (.inl rfl) (ev_bin op_fdiv bDiv opDiv_nx (ev_var 1) ev_int)))))))
    (sv_one (sv_retV 2))))
theorem ok_multiplied {P : Program} {w : World} {K : PySem.W.Frag} {mg : MG} {base : Heap} (B : Base K mg) : Has P w K mg base "multiplied" 1 2 F_multiplied :=
  has_of (N := ["one", "other", "found"]) (ps := ["one", "other"]) (k := 0) (g := G_multiplied) B.d_multiplied sc_multiplied (fun _ _ _ _ _ _ us hl => match us, hl with | [_, _], _ => rfl) fun f cdv A outer s H E hr => body_multiplied B f cdv A outer s H E hr
theorem body__inverse {P : Program} {w : World} {K : PySem.W.Frag} {mg : MG} {base : Heap} (B : Base K mg) (f : Addr) (cdv : Value) (A : Around) (outer : List PySem.Env) (s : Shared) (H : Hp) (E : XK) (hr : Room 1 (A.deeper (envOfC "_inverse" (defScope s__inverse) s.heap.objs.size f cdv))) :
    PSsv (cxOf (L2.CX P w) P w K mg base ["octet", "found", "_turn"] "_inverse" (defScope s__inverse) f cdv A outer s H E) (defBody s__inverse) G__inverse :=
    (sv_cons (sv_set (i := 1) sc__inverse.nd rfl (.inl rfl) ev_int)
    (sv_cons (sv_for (vs := [2]) [] (passes_of rfl) rfl (iv_rg1 (by rfl) B.n_range (ev_bin op_sub bSub opSub_nx (ev_gint (by rfl) B.c_SIZE) ev_int)) (gv_name (i := 2) sc__inverse.nd rfl (.inl rfl) (by decide))
    (sv_one (sv_set (i := 1) sc__inverse.nd rfl (.inl rfl) (ev_callH (ok_multiplied B) (hr.mono (by decide)) (by rfl) rfl (av_cons (ev_var 1) (av_cons (ev_var 0) av_nil)) (aCons_len (aCons_len aNil_len))))))
    (sv_one (sv_retV 1))))
theorem ok__inverse {P : Program} {w : World} {K : PySem.W.Frag} {mg : MG} {base : Heap} (B : Base K mg) : Has P w K mg base "_inverse" 2 1 F__inverse :=
  has_of (N := ["octet", "found", "_turn"]) (ps := ["octet"]) (k := 1) (g := G__inverse) B.d__inverse sc__inverse (fun _ _ _ _ _ _ us hl => match us, hl with | [_], _ => rfl) fun f cdv A outer s H E hr => body__inverse B f cdv A outer s H E hr
theorem body_product {P : Program} {w : World} {K : PySem.W.Frag} {mg : MG} {base : Heap} (B : Base K mg) (f : Addr) (cdv : Value) (A : Around) (outer : List PySem.Env) (s : Shared) (H : Hp) (E : XK) (hr : Room 1 (A.deeper (envOfC "product" (defScope s_product) s.heap.objs.size f cdv))) :
    PSsv (cxOf (L2.CX P w) P w K mg base ["one", "other"] "product" (defScope s_product) f cdv A outer s H E) (defBody s_product) G_product :=
    (sv_cons (sv_if (wv_pt (wv_or (tv_not (tv_val (ev_callH (ok_is_octet B) (hr.mono (by decide)) (by rfl) rfl (av_cons (ev_var 0) av_nil) (aCons_len aNil_len)))) (wv_or1 (tv_not (tv_val (ev_callH (ok_is_octet B) (hr.mono (by decide)) (by rfl) rfl (av_cons (ev_var 1) av_nil) (aCons_len aNil_len)))))))
    (sv_one (sv_raiseH B.e_BadContent rfl (by rfl)))
    sv_nil)
    (sv_one (sv_ret (ev_callH (ok_multiplied B) (hr.mono (by decide)) (by rfl) rfl (av_cons (ev_var 0) (av_cons (ev_var 1) av_nil)) (aCons_len (aCons_len aNil_len))))))
theorem ok_product {P : Program} {w : World} {K : PySem.W.Frag} {mg : MG} {base : Heap} (B : Base K mg) : Has P w K mg base "product" 2 2 F_product :=
  has_of (N := ["one", "other"]) (ps := ["one", "other"]) (k := 1) (g := G_product) B.d_product sc_product (fun _ _ _ _ _ _ us hl => match us, hl with | [_, _], _ => rfl) fun f cdv A outer s H E hr => body_product B f cdv A outer s H E hr
theorem body_quotient {P : Program} {w : World} {K : PySem.W.Frag} {mg : MG} {base : Heap} (B : Base K mg) (f : Addr) (cdv : Value) (A : Around) (outer : List PySem.Env) (s : Shared) (H : Hp) (E : XK) (hr : Room 2 (A.deeper (envOfC "quotient" (defScope s_quotient) s.heap.objs.size f cdv))) :
    PSsv (cxOf (L2.CX P w) P w K mg base ["one", "other"] "quotient" (defScope s_quotient) f cdv A outer s H E) (defBody s_quotient) G_quotient :=
    (sv_cons (sv_if (wv_pt (wv_or (tv_not (tv_val (ev_callH (ok_is_octet B) (hr.mono (by decide)) (by rfl) rfl (av_cons (ev_var 0) av_nil) (aCons_len aNil_len)))) (wv_or (tv_not (tv_val (ev_callH (ok_is_octet B) (hr.mono (by decide)) (by rfl) rfl (av_cons (ev_var 1) av_nil) (aCons_len aNil_len)))) (wv_or1 (tv_cmp (op_eqD hr.units) bEq cEq_nx (ev_var 1) ev_int (nomark _))))))
    (sv_one (sv_raiseH B.e_BadContent rfl (by rfl)))
    sv_nil)
    (sv_one (sv_ret (ev_callH (ok_multiplied B) (hr.mono (by decide)) (by rfl) rfl (av_cons (ev_var 0) (av_cons (ev_callH (ok__inverse B) (hr.mono (by decide)) (by rfl) rfl (av_cons (ev_var 1) av_nil) (aCons_len aNil_len)) av_nil)) (aCons_len (aCons_len aNil_len))))))
theorem ok_quotient {P : Program} {w : World} {K : PySem.W.Frag} {mg : MG} {base : Heap} (B : Base K mg) : Has P w K mg base "quotient" 3 2 F_quotient :=
  has_of (N := ["one", "other"]) (ps := ["one", "other"]) (k := 2) (g := G_quotient) B.d_quotient sc_quotient (fun _ _ _ _ _ _ us hl => match us, hl with | [_, _], _ => rfl) fun f cdv A outer s H E hr => body_quotient B f cdv A outer s H E hr
theorem body__law_draws {P : Program} {w : World} {K : PySem.W.Frag} {mg : MG} {base : Heap} (B : Base K mg) (f : Addr) (cdv : Value) (A : Around) (outer : List PySem.Env) (s : Shared) (H : Hp) (E : XK) (hr : Room 0 (A.deeper (envOfC "_law_draws" (defScope s__law_draws) s.heap.objs.size f cdv))) :
    PSsv (cxOf (L2.CX P w) P w K mg base ["script", "many", "draws", "seed", "cell", "number", "k"] "_law_draws" (defScope s__law_draws) f cdv A outer s H E) (defBody s__law_draws) G__law_draws :=
    (sv_cons (sv_set (i := 2) sc__law_draws.nd rfl (.inl rfl) (ev_lst av_nil))
    (sv_cons (sv_set (i := 3) sc__law_draws.nd rfl (.inl rfl) ev_int)
    (sv_cons (sv_for (vs := [4]) [] (passes_of rfl) rfl (iv_any (ev_slice (ev_var 0) ov_none (ov_some ev_int))) (gv_name (i := 4) sc__law_draws.nd rfl (.inl rfl) (by decide))
    (sv_cons (sv_set (i := 5) sc__law_draws.nd rfl (.inl rfl) (ev_b1 call_abs uAbs opAbs_nx (by rfl) B.n_abs (by decide +kernel) (ev_var 4)))
    (sv_cons (sv_set (i := 3) sc__law_draws.nd rfl (.inl rfl) (ev_bin op_mod bMod opMod_nx (ev_t1 call_int1 uInt opInt_nx (by rfl) B.n_int (by decide +kernel) (ev_bin or_addAll bAdd opAdd_nx (ev_bin or_addAll bAdd opAdd_nx (ev_bin or_mulAll bMul opMul_nx (ev_var 3) ev_int) (ev_var 5)) ev_int)) ev_int))
    (sv_one (sv_if (tv_cmp op_ge bCInt cInt_nx (ev_var 5) (ev_bin op_pow bPow opPow_nx ev_int ev_int) (nomark _))
    (sv_one (sv_for (vs := [6]) [] (passes_of rfl) rfl (iv_rg1 (by rfl) B.n_range ev_int) (gv_name (i := 6) sc__law_draws.nd rfl (.inl rfl) (by decide))
    (sv_one (sv_if (tv_cmp op_gt bCInt cInt_nx (ev_var 5) ev_int (nomark _))
    (sv_cons (sv_app (i := 2) (ev_bin op_mod bMod opMod_nx (ev_t1 call_int1 uInt opInt_nx (by rfl) B.n_int (by decide +kernel) (ev_var 5)) ev_int))
    (sv_one (sv_set (i := 5) sc__law_draws.nd rfl (.inl rfl) (ev_bin op_fdiv bDiv opDiv_nx (ev_var 5) ev_int))))
    sv_nil))))
    (sv_one (sv_app (i := 2) (ev_bin op_mod bMod opMod_nx (ev_bin op_fdiv bDiv opDiv_nx (ev_t1 call_int1 uInt opInt_nx (by rfl) B.n_int (by decide +kernel) (ev_bin or_addAll bAdd opAdd_nx (ev_bin or_mulAll bMul opMul_nx (ev_var 3) ev_int) ev_int)) ev_int) ev_int))))))))
    (sv_cons (sv_for (vs := [6]) [] (passes_of rfl) rfl (iv_rg1 (by rfl) B.n_range (ev_var 1)) (gv_name (i := 6) sc__law_draws.nd rfl (.inl rfl) (by decide))
    (sv_one (sv_if (tv_cmp op_lt bCInt cInt_nx (ev_b1 call_len uLen opLen_nx (by rfl) B.n_len (by decide +kernel) (ev_var 2)) (ev_var 1) (nomark _))
    (sv_cons (sv_set (i := 3) sc__law_draws.nd rfl (.inl rfl) (ev_bin op_mod bMod opMod_nx (ev_t1 call_int1 uInt opInt_nx (by rfl) B.n_int (by decide +kernel) (ev_bin or_addAll bAdd opAdd_nx (ev_bin or_addAll bAdd opAdd_nx (ev_bin or_mulAll bMul opMul_nx (ev_var 3) ev_int) (ev_var 6)) ev_int)) ev_int))
    (sv_one (sv_app (i := 2) (ev_bin op_mod bMod opMod_nx (ev_bin op_fdiv bDiv opDiv_nx (ev_t1 call_int1 uInt opInt_nx (by rfl) B.n_int (by decide +kernel) (ev_var 3)) ev_int) ev_int))))
    sv_nil)))
    (sv_one (sv_ret (ev_slice (ev_var 2) ov_none (ov_some (ev_var 1)))))))))
theorem ok__law_draws {P : Program} {w : World} {K : PySem.W.Frag} {mg : MG} {base : Heap} (B : Base K mg) : Has P w K mg base "_law_draws" 1 2 F__law_draws :=
  has_of (N := ["script", "many", "draws", "seed", "cell", "number", "k"]) (ps := ["script", "many"]) (k := 0) (g := G__law_draws) B.d__law_draws sc__law_draws (fun _ _ _ _ _ _ us hl => match us, hl with | [_, _], _ => rfl) fun f cdv A outer s H E hr => body__law_draws B f cdv A outer s H E hr
theorem body__law_product {P : Program} {w : World} {K : PySem.W.Frag} {mg : MG} {base : Heap} (B : Base K mg) (f : Addr) (cdv : Value) (A : Around) (outer : List PySem.Env) (s : Shared) (H : Hp) (E : XK) (hr : Room 0 (A.deeper (envOfC "_law_product" (defScope s__law_product) s.heap.objs.size f cdv))) :
    PSsv (cxOf (L2.CX P w) P w K mg base ["one", "other", "bits", "k", "n"] "_law_product" (defScope s__law_product) f cdv A outer s H E) (defBody s__law_product) G__law_product :=
    (sv_cons (sv_set (i := 2) sc__law_product.nd rfl (.inr rfl) (ev_bin or_mulAll bMul opMul_nx (ev_lst (av_cons ev_int av_nil)) ev_int))
    (sv_cons (sv_for (vs := [3]) [] (passes_of rfl) rfl (iv_rg1 (by rfl) B.n_range ev_int) (gv_name (i := 3) sc__law_product.nd rfl (.inl rfl) (by decide))
    (sv_one (sv_for (vs := [4]) [] (passes_of rfl) rfl (iv_rg1 (by rfl) B.n_range ev_int) (gv_name (i := 4) sc__law_product.nd rfl (.inl rfl) (by decide))
    (sv_one (sv_if (wv_pt (wv_and (tv_cmp (op_eqD hr.units) bEq cEq_nx (ev_bin op_mod bMod opMod_nx (ev_bin op_fdiv bDiv opDiv_nx (ev_var 0) (ev_ix (ev_lst (av_cons ev_int (av_cons ev_int (av_cons ev_int (av_cons ev_int (av_cons ev_int (av_cons ev_int (av_cons ev_int (av_cons ev_int av_nil))))))))) (ev_var 3) (fun _ _ => rfl))) ev_int) ev_int (nomark _)) (wv_and1 (tv_cmp (op_eqD hr.units) bEq cEq_nx (ev_bin op_mod bMod opMod_nx (ev_bin op_fdiv bDiv opDiv_nx (ev_var 1) (ev_ix (ev_lst (av_cons ev_int (av_cons ev_int (av_cons ev_int (av_cons ev_int (av_cons ev_int (av_cons ev_int (av_cons ev_int (av_cons ev_int av_nil))))))))) (ev_var 4) (fun _ _ => rfl))) ev_int) ev_int (nomark _)))))
    (sv_one (sv_put (i := 2) (ev_bin op_sub bSub opSub_nx ev_int (ev_ix (ev_var 2) (ev_bin or_addAll bAdd opAdd_nx (ev_var 3) (ev_var 4)) (fun _ _ => rfl))) (ev_bin or_addAll bAdd opAdd_nx (ev_var 3) (ev_var 4))))
    sv_nil)))))
    (sv_cons (sv_for (vs := [3]) [] (passes_of rfl) rfl (iv_rg3 (by rfl) B.n_range ev_int ev_int (ev_un un_neg uNeg opNeg_nx ev_int)) (gv_name (i := 3) sc__law_product.nd rfl (.inl rfl) (by decide))
    (sv_one (sv_if (tv_cmp (op_eqD hr.units) bEq cEq_nx (ev_ix (ev_var 2) (ev_var 3) (fun _ _ => rfl)) ev_int (nomark _))
    (sv_one (sv_for (vs := [4]) [] (passes_of rfl) rfl (iv_any (ev_lst (av_cons ev_int (av_cons ev_int (av_cons ev_int (av_cons ev_int (av_cons ev_int av_nil))))))) (gv_name (i := 4) sc__law_product.nd rfl (.inl rfl) (by decide))
    (sv_one (sv_put (i := 2) (ev_bin op_sub bSub opSub_nx ev_int (ev_ix (ev_var 2) (ev_bin or_addAll bAdd opAdd_nx (ev_bin op_sub bSub opSub_nx (ev_var 3) ev_int) (ev_var 4)) (fun _ _ => rfl))) (ev_bin or_addAll bAdd opAdd_nx (ev_bin op_sub bSub opSub_nx (ev_var 3) ev_int) (ev_var 4))))))
    sv_nil)))
    (sv_one (sv_ret (ev_b1 (cr_sum rfl) uSum opSum_nx (by rfl) B.n_sum (by decide +kernel) (ev_comp (own := [("k", 3)]) finI_ok rfl sc__law_product.nd (iv_rg1 (by rfl) B.n_range ev_int) (blkOk_by (by show blkC N__law_product (defScope s__law_product) _ _ = true; decide +kernel)) (fun _ _ _ _ _ => (gv_name (i := 3) sc__law_product.nd rfl (by first | exact .inl rfl | exact .inr rfl) (by decide))) (fun _ _ _ _ _ => tsv_nil) (fun _ _ _ _ _ => (ev_bin or_mulAll bMul opMul_nx (ev_ix (ev_var 2) (ev_var 3) (fun _ _ => rfl)) (ev_ix (ev_lst (av_cons ev_int (av_cons ev_int (av_cons ev_int (av_cons ev_int (av_cons ev_int (av_cons ev_int (av_cons ev_int (av_cons ev_int av_nil))))))))) (ev_var 3) (fun _ _ => rfl)))))))))))
theorem ok__law_product {P : Program} {w : World} {K : PySem.W.Frag} {mg : MG} {base : Heap} (B : Base K mg) : Has P w K mg base "_law_product" 1 2 F__law_product :=
  has_of (N := ["one", "other", "bits", "k", "n"]) (ps := ["one", "other"]) (k := 0) (g := G__law_product) B.d__law_product sc__law_product (fun _ _ _ _ _ _ us hl => match us, hl with | [_, _], _ => rfl) fun f cdv A outer s H E hr => body__law_product B f cdv A outer s H E hr
theorem body__law_added {P : Program} {w : World} {K : PySem.W.Frag} {mg : MG} {base : Heap} (B : Base K mg) (f : Addr) (cdv : Value) (A : Around) (outer : List PySem.Env) (s : Shared) (H : Hp) (E : XK) (hr : Room 0 (A.deeper (envOfC "_law_added" (defScope s__law_added) s.heap.objs.size f cdv))) :
    PSsv (cxOf (L2.CX P w) P w K mg base ["one", "other", "found", "weight"] "_law_added" (defScope s__law_added) f cdv A outer s H E) (defBody s__law_added) G__law_added :=
    (sv_cons (sv_set (i := 2) sc__law_added.nd rfl (.inl rfl) ev_int)
    (sv_cons (sv_for (vs := [3]) [] (passes_of rfl) rfl (iv_any (ev_lst (av_cons ev_int (av_cons ev_int (av_cons ev_int (av_cons ev_int (av_cons ev_int (av_cons ev_int (av_cons ev_int (av_cons ev_int av_nil)))))))))) (gv_name (i := 3) sc__law_added.nd rfl (.inl rfl) (by decide))
    (sv_one (sv_set (i := 2) sc__law_added.nd rfl (.inl rfl) (ev_bin or_addAll bAdd opAdd_nx (ev_var 2) (ev_bin or_mulAll bMul opMul_nx (ev_var 3) (ev_t1 call_int1 uInt opInt_nx (by rfl) B.n_int (by decide +kernel) (ev_cmp (op_neD hr.units) bNe cNe_nx (ev_bin op_mod bMod opMod_nx (ev_bin op_fdiv bDiv opDiv_nx (ev_var 0) (ev_var 3)) ev_int) (ev_bin op_mod bMod opMod_nx (ev_bin op_fdiv bDiv opDiv_nx (ev_var 1) (ev_var 3)) ev_int) (nomark _))))))))
    (sv_one (sv_retV 2))))
theorem ok__law_added {P : Program} {w : World} {K : PySem.W.Frag} {mg : MG} {base : Heap} (B : Base K mg) : Has P w K mg base "_law_added" 1 2 F__law_added :=
  has_of (N := ["one", "other", "found", "weight"]) (ps := ["one", "other"]) (k := 0) (g := G__law_added) B.d__law_added sc__law_added (fun _ _ _ _ _ _ us hl => match us, hl with | [_, _], _ => rfl) fun f cdv A outer s H E hr => body__law_added B f cdv A outer s H E hr
theorem body__law_refused {P : Program} {w : World} {K : PySem.W.Frag} {mg : MG} {base : Heap} (B : Base K mg) (f : Addr) (cdv : Value) (A : Around) (outer : List PySem.Env) (s : Shared) (H : Hp) (E : XK) (hr : Room 3 (A.deeper (envOfC "_law_refused" (defScope s__law_refused) s.heap.objs.size f cdv))) :
    PSsv (cxOf (L2.CX P w) P w K mg base ["way", "one", "other", "e"] "_law_refused" (defScope s__law_refused) f cdv A outer s H E) (defBody s__law_refused) G__law_refused :=
    (sv_cons (sv_try B.ex rfl rfl (fun _ _ hp => (sv_one (sv_if (tv_cmp (op_eqD hr.units) bEq cEq_nx (ev_var 0) ev_int (nomark _))
    (sv_one (sv_expr (ev_callH (ok_product B) (hr.mono (by decide)) (by rfl) rfl (av_cons (ev_var 1) (av_cons (ev_var 2) av_nil)) (aCons_len (aCons_len aNil_len)))))
    (sv_one (sv_expr (ev_callH (ok_quotient B) (hr.mono (by decide)) (by rfl) rfl (av_cons (ev_var 1) (av_cons (ev_var 2) av_nil)) (aCons_len (aCons_len aNil_len))))))))
    (.as (by decide +kernel) (by rfl) (by decide) sc__law_refused.nd rfl rfl (su_is B.ex (by decide +kernel) B.n_isinstance (by rfl) (by rfl) (by decide) rfl (.inl rfl) (by decide) (by decide)) .nil))
    (sv_one (sv_ret ev_bl)))
theorem ok__law_refused {P : Program} {w : World} {K : PySem.W.Frag} {mg : MG} {base : Heap} (B : Base K mg) : Has P w K mg base "_law_refused" 4 3 F__law_refused :=
  has_of (N := ["way", "one", "other", "e"]) (ps := ["way", "one", "other"]) (k := 3) (g := G__law_refused) B.d__law_refused sc__law_refused (fun _ _ _ _ _ _ us hl => match us, hl with | [_, _, _], _ => rfl) fun f cdv A outer s H E hr => body__law_refused B f cdv A outer s H E hr
theorem body_law {P : Program} {w : World} {K : PySem.W.Frag} {mg : MG} {base : Heap} (B : Base K mg) (f : Addr) (cdv : Value) (A : Around) (outer : List PySem.Env) (s : Shared) (H : Hp) (E : XK) (hr : Room 4 (A.deeper (envOfC "law" (defScope s_law) s.heap.objs.size f cdv))) :
    PSsv (cxOf (L2.CX P w) P w K mg base ["script", "draws", "k", "octets", "one", "other", "told", "third", "own", "power", "n", "wrong"] "law" (defScope s_law) f cdv A outer s H E) (defBody s_law) G_law :=
    (sv_cons (sv_set (i := 1) sc_law.nd rfl (.inr rfl) (ev_callH (ok__law_draws B) (hr.mono (by decide)) (by rfl) rfl (av_cons (ev_var 0) (av_cons ev_int av_nil)) (aCons_len (aCons_len aNil_len))))
    (sv_cons (sv_set (i := 3) sc_law.nd rfl (.inl rfl) (ev_bin or_addAll bAdd opAdd_nx (ev_lst (av_cons ev_int (av_cons ev_int (av_cons ev_int (av_cons ev_int (av_cons ev_int av_nil)))))) (ev_comp (own := [("k", 2)]) finI_ok rfl sc_law.nd (iv_rg1 (by rfl) B.n_range ev_int) (blkOk_by (by show blkC N_law (defScope s_law) _ _ = true; decide +kernel)) (fun _ _ _ _ _ => (gv_name (i := 2) sc_law.nd rfl (by first | exact .inl rfl | exact .inr rfl) (by decide))) (fun _ _ _ _ _ => tsv_nil) (fun _ _ _ _ _ => (ev_bin op_mod bMod opMod_nx (ev_t1 call_int1 uInt opInt_nx (by rfl) B.n_int (by decide +kernel) (ev_ix (ev_var 1) (ev_var 2) (fun _ _ => rfl))) ev_int)))))
    (sv_cons (sv_for (vs := [4]) [3] (passes_of rfl) rfl (iv_any (ev_var 3)) (gv_name (i := 4) sc_law.nd rfl (.inl rfl) (by decide))
    (sv_one (sv_for (vs := [5]) [3] (passes_of rfl) rfl (iv_any (ev_var 3)) (gv_name (i := 5) sc_law.nd rfl (.inl rfl) (by decide))
    (sv_cons (sv_set (i := 6) sc_law.nd rfl (.inl rfl) (ev_callH (ok_product B) (hr.mono (by decide)) (by rfl) rfl (av_cons (ev_var 4) (av_cons (ev_var 5) av_nil)) (aCons_len (aCons_len aNil_len))))
    (sv_cons (sv_if (wv_pt (wv_or (tv_cmp (op_neD hr.units) bNe cNe_nx (ev_var 6) (ev_callH (ok__law_product B) (hr.mono (by decide)) (by rfl) rfl (av_cons (ev_var 4) (av_cons (ev_var 5) av_nil)) (aCons_len (aCons_len aNil_len))) (nomark _)) (wv_or (tv_cmp (op_neD hr.units) bNe cNe_nx (ev_var 6) (ev_callH (ok_product B) (hr.mono (by decide)) (by rfl) rfl (av_cons (ev_var 5) (av_cons (ev_var 4) av_nil)) (aCons_len (aCons_len aNil_len))) (nomark _)) (wv_or1 (tv_val (ev_isi kit_bool (by rfl) B.n_isinstance (by decide +kernel) (by rfl) B.n_bool (by decide +kernel) (ev_var 6)))))))
    (sv_one (sv_ret ev_bl))
    sv_nil)
    (sv_one (sv_if (wv_pt (wv_and (tv_cmp op_gt bCInt cInt_nx (ev_var 5) ev_int (nomark _)) (wv_and1 (wv_pt (wv_or (tv_cmp (op_neD hr.units) bNe cNe_nx (ev_callH (ok_product B) (hr.mono (by decide)) (by rfl) rfl (av_cons (ev_callH (ok_quotient B) (hr.mono (by decide)) (by rfl) rfl (av_cons (ev_var 4) (av_cons (ev_var 5) av_nil)) (aCons_len (aCons_len aNil_len))) (av_cons (ev_var 5) av_nil)) (aCons_len (aCons_len aNil_len))) (ev_var 4) (nomark _)) (wv_or1 (tv_cmp (op_neD hr.units) bNe cNe_nx (ev_callH (ok_quotient B) (hr.mono (by decide)) (by rfl) rfl (av_cons (ev_var 6) (av_cons (ev_var 5) av_nil)) (aCons_len (aCons_len aNil_len))) (ev_var 4) (nomark _))))))))
    (sv_one (sv_ret ev_bl))
    sv_nil)))))))
    (sv_cons (sv_for (vs := [2]) [] (passes_of rfl) rfl (iv_rg1 (by rfl) B.n_range ev_int) (gv_name (i := 2) sc_law.nd rfl (.inr rfl) (by decide))
    (sv_cons (sv_asg (vs := [4, 5, 7]) (ev_comp (own := [("n", 10)]) finI_ok rfl sc_law.nd (iv_rg1 (by rfl) B.n_range ev_int) (blkOk_by (by show blkC N_law (defScope s_law) _ _ = true; decide +kernel)) (fun _ _ _ _ _ => (gv_name (i := 10) sc_law.nd rfl (by first | exact .inl rfl | exact .inr rfl) (by decide))) (fun _ _ _ _ _ => tsv_nil) (fun _ _ _ _ _ => (ev_bin op_mod bMod opMod_nx (ev_t1 call_int1 uInt opInt_nx (by rfl) B.n_int (by decide +kernel) (ev_ix (ev_var 1) (ev_bin or_addAll bAdd opAdd_nx ev_int (ev_bin op_mod bMod opMod_nx (ev_bin or_addAll bAdd opAdd_nx (ev_bin or_mulAll bMul opMul_nx ev_int (ev_var 2)) (ev_var 10)) ev_int)) (fun _ _ => rfl))) ev_int))) (gv_tup rfl (gsv_cons (gv_name (i := 4) sc_law.nd rfl (.inl rfl) (by decide)) (gsv_cons (gv_name (i := 5) sc_law.nd rfl (.inl rfl) (by decide)) (gsv_cons (gv_name (i := 7) sc_law.nd rfl (.inl rfl) (by decide)) gsv_nil)))))
    (sv_one (sv_if (wv_pt (wv_or (tv_cmp (op_neD hr.units) bNe cNe_nx (ev_callH (ok_product B) (hr.mono (by decide)) (by rfl) rfl (av_cons (ev_callH (ok_product B) (hr.mono (by decide)) (by rfl) rfl (av_cons (ev_var 4) (av_cons (ev_var 5) av_nil)) (aCons_len (aCons_len aNil_len))) (av_cons (ev_var 7) av_nil)) (aCons_len (aCons_len aNil_len))) (ev_callH (ok_product B) (hr.mono (by decide)) (by rfl) rfl (av_cons (ev_var 4) (av_cons (ev_callH (ok_product B) (hr.mono (by decide)) (by rfl) rfl (av_cons (ev_var 5) (av_cons (ev_var 7) av_nil)) (aCons_len (aCons_len aNil_len))) av_nil)) (aCons_len (aCons_len aNil_len))) (nomark _)) (wv_or1 (tv_cmp (op_neD hr.units) bNe cNe_nx (ev_callH (ok_product B) (hr.mono (by decide)) (by rfl) rfl (av_cons (ev_var 4) (av_cons (ev_callH (ok__law_added B) (hr.mono (by decide)) (by rfl) rfl (av_cons (ev_var 5) (av_cons (ev_var 7) av_nil)) (aCons_len (aCons_len aNil_len))) av_nil)) (aCons_len (aCons_len aNil_len))) (ev_callH (ok__law_added B) (hr.mono (by decide)) (by rfl) rfl (av_cons (ev_callH (ok_product B) (hr.mono (by decide)) (by rfl) rfl (av_cons (ev_var 4) (av_cons (ev_var 5) av_nil)) (aCons_len (aCons_len aNil_len))) (av_cons (ev_callH (ok_product B) (hr.mono (by decide)) (by rfl) rfl (av_cons (ev_var 4) (av_cons (ev_var 7) av_nil)) (aCons_len (aCons_len aNil_len))) av_nil)) (aCons_len (aCons_len aNil_len))) (nomark _)))))
    (sv_one (sv_ret ev_bl))
    sv_nil))))
    (sv_cons (sv_set (i := 8) sc_law.nd rfl (.inr rfl) (ev_bin or_addAll bAdd opAdd_nx ev_int (ev_bin op_mod bMod opMod_nx (ev_t1 call_int1 uInt opInt_nx (by rfl) B.n_int (by decide +kernel) (ev_ix (ev_var 1) ev_int (fun _ _ => rfl))) ev_int)))
    (sv_cons (sv_if (wv_pt (wv_or (tv_cmp (op_neD hr.units) bNe cNe_nx (ev_lenSet rfl (by rfl) B.n_len (by rfl) B.n_set (ev_comp (own := [("other", 5)]) finI_ok rfl sc_law.nd (iv_rg1 (by rfl) B.n_range ev_int) (blkOk_by (by show blkC N_law (defScope s_law) _ _ = true; decide +kernel)) (fun _ _ _ _ _ => (gv_name (i := 5) sc_law.nd rfl (by first | exact .inl rfl | exact .inr rfl) (by decide))) (fun _ _ _ _ _ => tsv_nil) (fun _ _ _ _ _ => (ev_callH (ok_product B) (hr.mono (by decide)) (by rfl) rfl (av_cons (ev_var 8) (av_cons (ev_var 5) av_nil)) (aCons_len (aCons_len aNil_len)))))) ev_int (nomark _)) (wv_or1 (tv_val (ev_b1 (cr_any rfl) uAny opAny_nx (by rfl) B.n_any (by decide +kernel) (ev_comp (own := [("other", 5)]) finI_ok rfl sc_law.nd (iv_any (ev_var 3)) (blkOk_by (by show blkC N_law (defScope s_law) _ _ = true; decide +kernel)) (fun _ _ _ _ _ => (gv_name (i := 5) sc_law.nd rfl (by first | exact .inl rfl | exact .inr rfl) (by decide))) (fun _ _ _ _ _ => tsv_nil) (fun _ _ _ _ _ => (ev_cmp (op_neD hr.units) bNe cNe_nx (ev_callH (ok_product B) (hr.mono (by decide)) (by rfl) rfl (av_cons ev_int (av_cons (ev_var 5) av_nil)) (aCons_len (aCons_len aNil_len))) ev_int (nomark _)))))))))
    (sv_one (sv_ret ev_bl))
    sv_nil)
    (sv_cons (sv_set (i := 9) sc_law.nd rfl (.inl rfl) ev_int)
    (sv_cons (sv_for (vs := [2]) [] (passes_of rfl) rfl (iv_rg1 (by rfl) B.n_range ev_int) (gv_name (i := 2) sc_law.nd rfl (.inr rfl) (by decide))
    (sv_cons (sv_set (i := 9) sc_law.nd rfl (.inl rfl) (ev_callH (ok_product B) (hr.mono (by decide)) (by rfl) rfl (av_cons (ev_var 9) (av_cons ev_int av_nil)) (aCons_len (aCons_len aNil_len))))
    (sv_one (sv_if (wv_pt (wv_and (tv_cmp (op_eqD hr.units) bEq cEq_nx (ev_var 9) ev_int (nomark _)) (wv_and1 (tv_cmp op_lt bCInt cInt_nx (ev_var 2) ev_int (nomark _)))))
    (sv_one (sv_ret ev_bl))
    sv_nil))))
    (sv_cons (sv_if (wv_pt (wv_or (tv_not (tv_val (ev_callH (ok__law_refused B) (hr.mono (by decide)) (by rfl) rfl (av_cons ev_int (av_cons ev_non (av_cons ev_int av_nil))) (aCons_len (aCons_len (aCons_len aNil_len)))))) (wv_or1 (tv_not (tv_val (ev_callH (ok__law_refused B) (hr.mono (by decide)) (by rfl) rfl (av_cons ev_int (av_cons ev_non (av_cons ev_int av_nil))) (aCons_len (aCons_len (aCons_len aNil_len)))))))))
    (sv_one (sv_ret ev_bl))
    sv_nil)
    (sv_one (sv_ret (ev_and (ev_cmp (op_eqD hr.units) bEq cEq_nx (ev_var 9) ev_int (nomark _)) (ev_and (ev_callH (ok__law_refused B) (hr.mono (by decide)) (by rfl) rfl (av_cons ev_int (av_cons ev_int (av_cons ev_int av_nil))) (aCons_len (aCons_len (aCons_len aNil_len)))) (ev_one (ev_b1 (cr_all rfl) uAll opAll_nx (by rfl) B.n_all (by decide +kernel) (ev_comp (own := [("wrong", 11)]) finI_ok rfl sc_law.nd (iv_any (ev_lst (av_cons (ev_un un_neg uNeg opNeg_nx ev_int) (av_cons ev_int (av_cons ev_bl (av_cons ev_str (av_cons ev_str av_nil))))))) (blkOk_by (by show blkC N_law (defScope s_law) _ _ = true; decide +kernel)) (fun _ _ _ _ _ => (gv_name (i := 11) sc_law.nd rfl (by first | exact .inl rfl | exact .inr rfl) (by decide))) (fun _ _ _ _ _ => tsv_nil) (fun _ _ _ _ _ => (ev_and (ev_callH (ok__law_refused B) (hr.mono (by decide)) (by rfl) rfl (av_cons ev_int (av_cons (ev_var 11) (av_cons ev_int av_nil))) (aCons_len (aCons_len (aCons_len aNil_len)))) (ev_and (ev_callH (ok__law_refused B) (hr.mono (by decide)) (by rfl) rfl (av_cons ev_int (av_cons ev_int (av_cons (ev_var 11) av_nil))) (aCons_len (aCons_len (aCons_len aNil_len)))) (ev_one (ev_callH (ok__law_refused B) (hr.mono (by decide)) (by rfl) rfl (av_cons ev_int (av_cons ev_int (av_cons (ev_var 11) av_nil))) (aCons_len (aCons_len (aCons_len aNil_len))))))))))))))))))))))))
theorem ok_law {P : Program} {w : World} {K : PySem.W.Frag} {mg : MG} {base : Heap} (B : Base K mg) : Has P w K mg base "law" 5 1 F_law :=
  has_of (N := ["script", "draws", "k", "octets", "one", "other", "told", "third", "own", "power", "n", "wrong"]) (ps := ["script"]) (k := 4) (g := G_law) B.d_law sc_law (fun _ _ _ _ _ _ us hl => match us, hl with | [_], _ => rfl) fun f cdv A outer s H E hr => body_law B f cdv A outer s H E hr
def fa0 : List He.Fa := [.free "abs", .free "all", .free "any", .free "bool", .free "int", .free "isinstance", .free "len", .free "range", .free "set", .free "sum", .int "FIELD" 285, .int "SIZE" 256, .glo "ArchiveError", .exc "ArchiveError", .glo "BadContent", .exc "BadContent", .glo "is_octet", .glo "multiplied", .glo "_inverse", .glo "product", .glo "quotient", .glo "_law_draws", .glo "_law_product", .glo "_law_added", .glo "_law_refused", .glo "law"]
def fa : List He.Fa := fa0
def fn0 : List He.DefD := [⟨("is_octet", none), "is_octet", "is_octet", defArgs s_is_octet, defBody s_is_octet, defScope s_is_octet, [], []⟩, ⟨("multiplied", none), "multiplied", "multiplied", defArgs s_multiplied, defBody s_multiplied, defScope s_multiplied, [], []⟩, ⟨("_inverse", none), "_inverse", "_inverse", defArgs s__inverse, defBody s__inverse, defScope s__inverse, [], []⟩, ⟨("product", none), "product", "product", defArgs s_product, defBody s_product, defScope s_product, [], []⟩, ⟨("quotient", none), "quotient", "quotient", defArgs s_quotient, defBody s_quotient, defScope s_quotient, [], []⟩, ⟨("_law_draws", none), "_law_draws", "_law_draws", defArgs s__law_draws, defBody s__law_draws, defScope s__law_draws, [], []⟩, ⟨("_law_product", none), "_law_product", "_law_product", defArgs s__law_product, defBody s__law_product, defScope s__law_product, [], []⟩, ⟨("_law_added", none), "_law_added", "_law_added", defArgs s__law_added, defBody s__law_added, defScope s__law_added, [], []⟩, ⟨("_law_refused", none), "_law_refused", "_law_refused", defArgs s__law_refused, defBody s__law_refused, defScope s__law_refused, [], []⟩, ⟨("law", none), "law", "law", defArgs s_law, defBody s_law, defScope s_law, [], []⟩]
def fn : List He.DefD := fn0
def loose0 : List Str := ["ArchiveError", "BadContent", "is_octet", "FIELD", "SIZE", "multiplied", "_inverse", "product", "quotient", "_law_draws", "_law_product", "_law_added", "_law_is_guarded", "_law_refused"]
def loose : List Str := loose0
abbrev R : PySem.W.OpenRow := PySem.W.OpenLaw.row PySem.Challenge.rw_archivewright_k25_products_of_octets
abbrev hk : PySem.W.Hook := hookP 5 fa fn exs exSub
def ob (s : PySem.W.SharedT) : AlP := obsP 5 fa fn exs exSub (HandSHeadRun.getT s)
theorem ob_eq (s : PySem.W.SharedT) : ob s = hk.obs s.abs := obsP_eq (HandSHeadRun.getT_eq s)
theorem run (w : World) : HandSHeadRun.RunEq R (PySem.W.view R.prog [18]) hk ob 3000 loose w := by
  intro os
  kernel_rfl
theorem base_of {K : PySem.W.Frag} {mg : MG} {h : Heap} (X : K.In h) (G : h.Ns mainGlobals mg) (c : SaysP fa fn exs exSub K) : Base K mg where
  n_abs := c.free X G 0
  n_all := c.free X G 1
  n_any := c.free X G 2
  n_bool := c.free X G 3
  n_int := c.free X G 4
  n_isinstance := c.free X G 5
  n_len := c.free X G 6
  n_range := c.free X G 7
  n_set := c.free X G 8
  n_sum := c.free X G 9
  c_FIELD := c.int X G 10
  c_SIZE := c.int X G 11
  e_ArchiveError := c.exc X G 13 12
  e_BadContent := c.exc X G 15 14
  ex := c.exF X G
  d_is_octet := c.def_ X G 0 16
  d_multiplied := c.def_ X G 1 17
  d__inverse := c.def_ X G 2 18
  d_product := c.def_ X G 3 19
  d_quotient := c.def_ X G 4 20
  d__law_draws := c.def_ X G 5 21
  d__law_product := c.def_ X G 6 22
  d__law_added := c.def_ X G 7 23
  d__law_refused := c.def_ X G 8 24
  d_law := c.def_ X G 9 25
end L2.Pv.T

/-! the plain mathematics of products of octets: all is linear, so it is enough to look at the powers of two -/
namespace L2.Pv.T
def xt (a : Nat) : Nat := if 256 ≤ 2 * a then (2 * a) ^^^ 285 else 2 * a
def mu : Nat → Nat → Nat → Nat → Nat
  | 0, _, _, f => f
  | n + 1, a, b, f => mu n (xt a) (b / 2) (if b % 2 = 1 then f ^^^ a else f)
def mulN (a b : Nat) : Nat := mu 8 a b 0
/-- the law's own product: bits laid over one another, then taken down -/
def lay : Nat → Nat → Nat → Nat → Nat
  | 0, _, _, x => x
  | n + 1, a, b, x => lay n (a / 2) (2 * b) (if a % 2 = 1 then x ^^^ b else x)
def down : Nat → Nat → Nat
  | 0, x => x
  | n + 1, x => down n (if x.testBit (n + 8) then x ^^^ (285 * 2 ^ n) else x)
theorem two_xor (x y : Nat) : 2 * (x ^^^ y) = 2 * x ^^^ 2 * y := by
  have := Nat.shiftLeft_xor_distrib (i := 1) (a := x) (b := y)
  simpa [Nat.shiftLeft_eq, Nat.mul_comm] using this
theorem xor_div (x y : Nat) : (x ^^^ y) / 2 = x / 2 ^^^ y / 2 := Nat.xor_div_two
theorem xor_mod (x y : Nat) : (x ^^^ y) % 2 = (x % 2 + y % 2) % 2 := by
  have z : (x ^^^ y).testBit 0 = (x.testBit 0 ^^ y.testBit 0) := Nat.testBit_xor x y 0
  rw [Nat.testBit_zero, Nat.testBit_zero, Nat.testBit_zero] at z
  rcases Nat.mod_two_eq_zero_or_one x with h1 | h1 <;> rcases Nat.mod_two_eq_zero_or_one y with h2 | h2 <;> rcases Nat.mod_two_eq_zero_or_one (x ^^^ y) with h3 | h3 <;> simp [h1, h2, h3] at z ⊢
theorem xlc (x y z : Nat) : x ^^^ (y ^^^ z) = y ^^^ (x ^^^ z) := by rw [← Nat.xor_assoc, Nat.xor_comm x y, Nat.xor_assoc]
theorem xcan (x z : Nat) : x ^^^ (x ^^^ z) = z := by rw [← Nat.xor_assoc, Nat.xor_self, Nat.zero_xor]
theorem xor_lt {x y : Nat} (hx : x < 256) (hy : y < 256) : x ^^^ y < 256 := Nat.xor_lt_two_pow (n := 8) hx hy
theorem bit7 {x : Nat} (h : x < 256) : x.testBit 7 = decide (128 ≤ x) := by
  rw [Nat.testBit_eq_decide_div_mod_eq]
  refine decide_eq_decide.mpr ?_
  omega
theorem xt_eq {x : Nat} (h : x < 256) : xt x = 2 * x ^^^ (if x.testBit 7 then 285 else 0) := by
  unfold xt
  rw [bit7 h]
  by_cases e : 128 ≤ x
  · rw [if_pos (by omega), decide_eq_true e, if_pos rfl]
  · rw [if_neg (by omega), decide_eq_false e, if_neg (by decide), Nat.xor_zero]
theorem xt_lin {x y : Nat} (hx : x < 256) (hy : y < 256) : xt (x ^^^ y) = xt x ^^^ xt y := by
  rw [xt_eq hx, xt_eq hy, xt_eq (xor_lt hx hy), two_xor, Nat.testBit_xor]
  cases x.testBit 7 <;> cases y.testBit 7 <;> simp [Nat.xor_assoc, Nat.xor_comm, xlc, xcan]
theorem xt_lt {x : Nat} (h : x < 256) : xt x < 256 := by
  unfold xt
  by_cases e : 128 ≤ x
  · rw [if_pos (by omega)]
    have e1 : 2 * x ^^^ 285 = 2 * (x - 128) ^^^ 29 := by
      have e2 : 2 * x = 256 ^^^ 2 * (x - 128) := by
        have : x = 128 ^^^ (x - 128) := by
          have z := Nat.two_pow_add_eq_or_of_lt (i := 7) (b := x - 128) (by omega) 1
          have z2 : 2 ^ 7 * 1 ||| (x - 128) = 2 ^ 7 * 1 ^^^ (x - 128) := by
            refine Nat.eq_of_testBit_eq fun i => ?_
            rw [Nat.testBit_or, Nat.testBit_xor]
            by_cases hi : i = 7
            · subst hi
              rw [Nat.testBit_lt_two_pow (x := x - 128) (i := 7) (by omega)] <;> simp
            · have : (2 ^ 7 * 1).testBit i = false := by
                rw [Nat.mul_one, Nat.testBit_two_pow]
                simp; omega
              rw [this]; simp
          rw [← z2, ← z]
          omega
        calc 2 * x = 2 * (128 ^^^ (x - 128)) := by rw [← this]
          _ = _ := two_xor 128 (x - 128)
      rw [e2, Nat.xor_comm 256, Nat.xor_assoc] <;> rfl
    rw [e1]
    exact xor_lt (by omega) (by decide)
  · rw [if_neg (by omega)]; omega
theorem mu_acc : ∀ (n a b f : Nat), mu n a b f = f ^^^ mu n a b 0
  | 0, a, b, f => (Nat.xor_zero f).symm
  | n + 1, a, b, f => by
    unfold mu
    rw [mu_acc n (xt a) (b / 2) (if b % 2 = 1 then f ^^^ a else f), mu_acc n (xt a) (b / 2) (if b % 2 = 1 then 0 ^^^ a else 0)]
    by_cases h : b % 2 = 1
    · rw [if_pos h, if_pos h, Nat.zero_xor, Nat.xor_assoc]
    · rw [if_neg h, if_neg h, Nat.zero_xor]
theorem mu_linA : ∀ (n b : Nat) {x y : Nat}, x < 256 → y < 256 → mu n (x ^^^ y) b 0 = mu n x b 0 ^^^ mu n y b 0
  | 0, b, x, y, _, _ => (Nat.xor_self 0).symm
  | n + 1, b, x, y, hx, hy => by
    unfold mu
    rw [mu_acc n _ _ (if b % 2 = 1 then 0 ^^^ (x ^^^ y) else 0), mu_acc n _ _ (if b % 2 = 1 then 0 ^^^ x else 0), mu_acc n _ _ (if b % 2 = 1 then 0 ^^^ y else 0),
      xt_lin hx hy, mu_linA n (b / 2) (xt_lt hx) (xt_lt hy)]
    by_cases h : b % 2 = 1
    · simp [h, Nat.xor_assoc, Nat.xor_comm, xlc, xcan]
    · simp [h]
theorem mu_linB : ∀ (n a x y : Nat), mu n a (x ^^^ y) 0 = mu n a x 0 ^^^ mu n a y 0
  | 0, a, x, y => (Nat.xor_self 0).symm
  | n + 1, a, x, y => by
    unfold mu
    rw [mu_acc n _ _ (if (x ^^^ y) % 2 = 1 then 0 ^^^ a else 0), mu_acc n _ _ (if x % 2 = 1 then 0 ^^^ a else 0), mu_acc n _ _ (if y % 2 = 1 then 0 ^^^ a else 0), xor_div, mu_linB n (xt a), xor_mod]
    rcases Nat.mod_two_eq_zero_or_one x with h1 | h1 <;> rcases Nat.mod_two_eq_zero_or_one y with h2 | h2 <;> simp [h1, h2, Nat.xor_assoc, Nat.xor_comm, xlc, xcan]
theorem mu_lt : ∀ (n : Nat) {a : Nat} (b : Nat) {f : Nat}, a < 256 → f < 256 → mu n a b f < 256
  | 0, _, _, _, _, hf => hf
  | n + 1, a, b, f, ha, hf => by
    unfold mu
    refine mu_lt n _ (xt_lt ha) ?_
    split
    · exact xor_lt hf ha
    · exact hf
theorem lay_acc : ∀ (n a b f : Nat), lay n a b f = f ^^^ lay n a b 0
  | 0, a, b, f => (Nat.xor_zero f).symm
  | n + 1, a, b, f => by
    unfold lay
    rw [lay_acc n (a / 2) (2 * b) (if a % 2 = 1 then f ^^^ b else f), lay_acc n (a / 2) (2 * b) (if a % 2 = 1 then 0 ^^^ b else 0)]
    by_cases h : a % 2 = 1
    · rw [if_pos h, if_pos h, Nat.zero_xor, Nat.xor_assoc]
    · rw [if_neg h, if_neg h, Nat.zero_xor]
theorem lay_linB : ∀ (n a x y : Nat), lay n a (x ^^^ y) 0 = lay n a x 0 ^^^ lay n a y 0
  | 0, a, x, y => (Nat.xor_self 0).symm
  | n + 1, a, x, y => by
    unfold lay
    rw [lay_acc n _ _ (if a % 2 = 1 then 0 ^^^ (x ^^^ y) else 0), lay_acc n _ _ (if a % 2 = 1 then 0 ^^^ x else 0), lay_acc n _ _ (if a % 2 = 1 then 0 ^^^ y else 0), two_xor, lay_linB n (a / 2)]
    by_cases h : a % 2 = 1
    · simp [h, Nat.xor_assoc, Nat.xor_comm, xlc, xcan]
    · simp [h]
theorem lay_linA : ∀ (n b x y : Nat), lay n (x ^^^ y) b 0 = lay n x b 0 ^^^ lay n y b 0
  | 0, b, x, y => (Nat.xor_self 0).symm
  | n + 1, b, x, y => by
    unfold lay
    rw [lay_acc n _ _ (if (x ^^^ y) % 2 = 1 then 0 ^^^ b else 0), lay_acc n _ _ (if x % 2 = 1 then 0 ^^^ b else 0), lay_acc n _ _ (if y % 2 = 1 then 0 ^^^ b else 0), xor_div, lay_linA n (2 * b), xor_mod]
    rcases Nat.mod_two_eq_zero_or_one x with h1 | h1 <;> rcases Nat.mod_two_eq_zero_or_one y with h2 | h2 <;> simp [h1, h2, Nat.xor_assoc, Nat.xor_comm, xlc, xcan]
theorem down_lin : ∀ (n x y : Nat), down n (x ^^^ y) = down n x ^^^ down n y
  | 0, x, y => rfl
  | n + 1, x, y => by
    unfold down
    rw [Nat.testBit_xor]
    cases h1 : x.testBit (n + 8) <;> cases h2 : y.testBit (n + 8) <;> simp [down_lin n, Nat.xor_assoc, Nat.xor_comm, xlc, xcan]
    all_goals rw [← down_lin n] ; simp [down_lin n, Nat.xor_assoc, Nat.xor_comm, xlc, xcan]
/-- what is linear is told by the powers of two -/
theorem lin_ext {f g : Nat → Nat} (hf : ∀ x y, x < 256 → y < 256 → f (x ^^^ y) = f x ^^^ f y) (hg : ∀ x y, x < 256 → y < 256 → g (x ^^^ y) = g x ^^^ g y)
    (h : ∀ k, k < 8 → f (2 ^ k) = g (2 ^ k)) : ∀ b, b < 256 → f b = g b := by
  have h0 : f 0 = g 0 := by
    have e1 := hf 0 0 (by decide) (by decide)
    have e2 := hg 0 0 (by decide) (by decide)
    rw [Nat.xor_self, Nat.xor_self] at e1 e2
    rw [e1, e2]
  have key : ∀ n, n ≤ 8 → ∀ b, b < 2 ^ n → f b = g b := by
    intro n
    induction n with
    | zero =>
      intro _ b hb
      have : b = 0 := by omega
      rw [this, h0]
    | succ n ih =>
      intro hn b hb
      have p8 : 2 ^ (n + 1) ≤ 256 := Nat.pow_le_pow_right (n := 2) (by decide) hn
      have p : 2 ^ n < 2 ^ (n + 1) := Nat.pow_lt_pow_right (by decide) (by omega)
      have e : b = b % 2 ^ n ^^^ (if b.testBit n then 2 ^ n else 0) := by
        refine Nat.eq_of_testBit_eq fun i => ?_
        rw [Nat.testBit_xor, Nat.testBit_mod_two_pow]
        by_cases hi : i < n
        · rw [decide_eq_true hi, Bool.true_and]
          have : (if b.testBit n then 2 ^ n else 0).testBit i = false := by
            split
            · rw [Nat.testBit_two_pow]; simp; omega
            · exact Nat.zero_testBit i
          rw [this]; simp
        · rw [decide_eq_false hi, Bool.false_and, Bool.false_xor]
          by_cases hi2 : i = n
          · subst hi2
            cases q : b.testBit i
            · simp
            · simp
          · rw [Nat.testBit_lt_two_pow (Nat.lt_of_lt_of_le hb (Nat.pow_le_pow_right (by decide) (by omega)))]
            symm
            split
            · rw [Nat.testBit_two_pow]; simp; omega
            · exact Nat.zero_testBit i
      have hlt : b % 2 ^ n < 2 ^ n := Nat.mod_lt _ (Nat.two_pow_pos n)
      have h1 : (if b.testBit n then 2 ^ n else 0) < 256 := by
        split <;> omega
      rw [e, hf _ _ (by omega) h1, hg _ _ (by omega) h1, ih (by omega) _ hlt]
      congr 1
      split
      · exact h n (by omega)
      · exact h0
  exact key 8 (Nat.le_refl _)
theorem mul_lt {a : Nat} (b : Nat) (ha : a < 256) : mulN a b < 256 := mu_lt 8 b ha (by decide)
theorem mul_comm {a b : Nat} (ha : a < 256) (hb : b < 256) : mulN a b = mulN b a := by
  refine lin_ext (f := fun b => mulN a b) (g := fun b => mulN b a) (fun x y _ _ => mu_linB 8 a x y) (fun x y hx hy => mu_linA 8 a hx hy) (fun k hk => ?_) b hb
  refine lin_ext (f := fun a => mulN a (2 ^ k)) (g := fun a => mulN (2 ^ k) a) (fun x y hx hy => mu_linA 8 _ hx hy) (fun x y _ _ => mu_linB 8 _ x y) (fun j hj => ?_) a ha
  have : ∀ j k : Fin 8, mulN (2 ^ j.val) (2 ^ k.val) = mulN (2 ^ k.val) (2 ^ j.val) := by decide +kernel
  exact this ⟨j, hj⟩ ⟨k, hk⟩
theorem mul_xt {a b : Nat} (ha : a < 256) (hb : b < 256) : mulN a (xt b) = xt (mulN a b) := by
  refine lin_ext (f := fun b => mulN a (xt b)) (g := fun b => xt (mulN a b)) (fun x y hx hy => ?_) (fun x y hx hy => ?_) (fun k hk => ?_) b hb
  · show mulN a (xt (x ^^^ y)) = _
    rw [xt_lin hx hy]; exact mu_linB 8 _ _ _
  · show xt (mulN a (x ^^^ y)) = _
    rw [show mulN a (x ^^^ y) = mulN a x ^^^ mulN a y from mu_linB 8 a x y]; exact xt_lin (mul_lt x ha) (mul_lt y ha)
  refine lin_ext (f := fun a => mulN a (xt (2 ^ k))) (g := fun a => xt (mulN a (2 ^ k))) (fun x y hx hy => mu_linA 8 _ hx hy) (fun x y hx hy => ?_) (fun j hj => ?_) a ha
  · show xt (mulN (x ^^^ y) (2 ^ k)) = _
    rw [show mulN (x ^^^ y) (2 ^ k) = mulN x (2 ^ k) ^^^ mulN y (2 ^ k) from mu_linA 8 _ hx hy]; exact xt_lin (mul_lt _ hx) (mul_lt _ hy)
  have : ∀ j k : Fin 8, mulN (2 ^ j.val) (xt (2 ^ k.val)) = xt (mulN (2 ^ j.val) (2 ^ k.val)) := by decide +kernel
  exact this ⟨j, hj⟩ ⟨k, hk⟩
theorem lay_mul {a b : Nat} (ha : a < 256) (hb : b < 256) : down 8 (lay 8 a b 0) = mulN a b := by
  refine lin_ext (f := fun b => down 8 (lay 8 a b 0)) (g := fun b => mulN a b) (fun x y hx hy => ?_) (fun x y _ _ => mu_linB 8 a x y) (fun k hk => ?_) b hb
  · show down 8 (lay 8 a (x ^^^ y) 0) = _
    rw [lay_linB, down_lin]
  refine lin_ext (f := fun a => down 8 (lay 8 a (2 ^ k) 0)) (g := fun a => mulN a (2 ^ k)) (fun x y hx hy => ?_) (fun x y hx hy => mu_linA 8 _ hx hy) (fun j hj => ?_) a ha
  · show down 8 (lay 8 (x ^^^ y) (2 ^ k) 0) = _
    rw [lay_linA, down_lin]
  have : ∀ j k : Fin 8, down 8 (lay 8 (2 ^ j.val) (2 ^ k.val) 0) = mulN (2 ^ j.val) (2 ^ k.val) := by decide +kernel
  exact this ⟨j, hj⟩ ⟨k, hk⟩
/-! powers -/
def xts : Nat → Nat → Nat
  | 0, a => a
  | n + 1, a => xts n (xt a)
theorem xts_lt : ∀ (n : Nat) {a : Nat}, a < 256 → xts n a < 256
  | 0, _, h => h
  | n + 1, _, h => xts_lt n (xt_lt h)
theorem xts_add : ∀ (m n a : Nat), xts (m + n) a = xts n (xts m a)
  | 0, n, a => by rw [Nat.zero_add]; rfl
  | m + 1, n, a => by rw [show m + 1 + n = (m + n) + 1 by omega]; exact xts_add m n (xt a)
theorem mul_xts {a : Nat} (ha : a < 256) : ∀ (n : Nat) {b : Nat}, b < 256 → mulN a (xts n b) = xts n (mulN a b)
  | 0, _, _ => rfl
  | n + 1, b, hb => by
    show mulN a (xts n (xt b)) = xts n (xt (mulN a b))
    rw [mul_xts ha n (xt_lt hb), mul_xt ha hb]
theorem mul_one {a : Nat} (ha : a < 256) : mulN a 1 = a := by
  rw [mul_comm ha (by decide)]
  refine lin_ext (f := fun a => mulN 1 a) (g := fun a => a) (fun x y _ _ => mu_linB 8 1 x y) (fun _ _ _ _ => rfl) (fun k hk => ?_) a ha
  have : ∀ k : Fin 8, mulN 1 (2 ^ k.val) = 2 ^ k.val := by decide +kernel
  exact this ⟨k, hk⟩
theorem mul_pow {a : Nat} (ha : a < 256) (n : Nat) : mulN a (xts n 1) = xts n a := by rw [mul_xts ha n (by decide), mul_one ha]
theorem mul_zero (a : Nat) : mulN a 0 = 0 := by
  have := mu_linB 8 a 0 0
  rw [Nat.xor_self, Nat.xor_self] at this
  exact this
/-- the row of all powers -/
def pows : Nat → Nat → List Nat
  | 0, _ => []
  | n + 1, a => a :: pows n (xt a)
theorem pows_mem : ∀ (n a b : Nat), b ∈ pows n a → ∃ k, k < n ∧ b = xts k a
  | n + 1, a, b, h => by
    rcases List.mem_cons.mp h with h | h
    · exact ⟨0, by omega, h⟩
    · obtain ⟨k, h1, h2⟩ := pows_mem n (xt a) b h
      exact ⟨k + 1, by omega, h2⟩
theorem all_pows : ((List.range 255).all fun k => (pows 255 1).contains (k + 1)) = true := by decide +kernel
theorem log {b : Nat} (hb : b < 256) (h0 : b ≠ 0) : ∃ k, b = xts k 1 := by
  have z := List.all_eq_true.mp all_pows (b - 1) (List.mem_range.mpr (by omega))
  obtain ⟨k, _, h⟩ := pows_mem 255 1 b (by
    have := List.contains_iff_mem.mp z
    rwa [show b - 1 + 1 = b by omega] at this)
  exact ⟨k, h⟩
theorem xts_255 : xts 255 1 = 1 := by decide +kernel
theorem xts_id {a : Nat} (ha : a < 256) : xts 255 a = a := by
  rw [← mul_pow ha, xts_255, mul_one ha]
theorem xts_rep {a : Nat} (ha : a < 256) : ∀ n, xts (255 * n) a = a
  | 0 => rfl
  | n + 1 => by rw [show 255 * (n + 1) = 255 * n + 255 by omega, xts_add, xts_rep ha n, xts_id ha]
theorem mul_assoc {a b c : Nat} (ha : a < 256) (hb : b < 256) (hc : c < 256) : mulN (mulN a b) c = mulN a (mulN b c) := by
  by_cases h : c = 0
  · rw [h, mul_zero, mul_zero, mul_zero]
  · obtain ⟨k, rfl⟩ := log hc h
    rw [mul_pow (mul_lt b ha), mul_pow hb, mul_xts ha k hb]
theorem mul_lin {a b c : Nat} : mulN a (b ^^^ c) = mulN a b ^^^ mulN a c := mu_linB 8 a b c
def powN : Nat → Nat → Nat → Nat
  | 0, _, f => f
  | n + 1, b, f => powN n b (mulN f b)
theorem powN_lt : ∀ (n b : Nat) {f : Nat}, f < 256 → powN n b f < 256
  | 0, _, _, h => h
  | n + 1, b, f, h => powN_lt n b (mul_lt b h)
theorem powN_eq (k : Nat) : ∀ (n : Nat) {f : Nat}, f < 256 → powN n (xts k 1) f = xts (k * n) f
  | 0, _, _ => rfl
  | n + 1, f, h => by
    show powN n (xts k 1) (mulN f (xts k 1)) = _
    rw [mul_pow h, powN_eq k n (xts_lt k h), ← xts_add, show k * (n + 1) = k + k * n by rw [Nat.mul_succ]; omega]
def invN (b : Nat) : Nat := powN 254 b 1
theorem inv_lt (b : Nat) : invN b < 256 := powN_lt 254 b (by decide)
theorem mul_inv {b : Nat} (hb : b < 256) (h0 : b ≠ 0) : mulN (invN b) b = 1 := by
  obtain ⟨k, rfl⟩ := log hb h0
  unfold invN
  rw [powN_eq k 254 (by decide), mul_pow (xts_lt _ (by decide)), ← xts_add, show k * 254 + k = 255 * k by omega, xts_rep (by decide)]
theorem div_mul {a b : Nat} (ha : a < 256) (hb : b < 256) (h0 : b ≠ 0) : mulN (mulN a (invN b)) b = a := by
  rw [mul_assoc ha (inv_lt b) hb, mul_inv hb h0, mul_one ha]
theorem mul_div {a b : Nat} (ha : a < 256) (hb : b < 256) (h0 : b ≠ 0) : mulN (mulN a b) (invN b) = a := by
  rw [mul_assoc ha hb (inv_lt b), mul_comm hb (inv_lt b), mul_inv hb h0, mul_one ha]
theorem mul_inj {a x y : Nat} (ha : a < 256) (h0 : a ≠ 0) (hx : x < 256) (hy : y < 256) (h : mulN a x = mulN a y) : x = y := by
  rw [mul_comm ha hx, mul_comm ha hy] at h
  rw [← mul_div hx ha h0, ← mul_div hy ha h0, h]
end L2.Pv.T

namespace L2.Pv.T
open PySem PySem.Spec PyProof.Rows L2 L2.Pv
@[simp] theorem opInt_bl (b : Bool) (m : Md) : opInt (.i (.bl b), m) = .ok (.i (.int (if b then 1 else 0)), .own) := rfl
@[simp] theorem tsCons_iL (t : TF) (ts : TFs) (x : Int) (r : List Int) (ρ : Env) : tsCons t ts (iL (x :: r)) ρ = (t (.i (.int x), .own) ρ).bind (ts (iL r)) := rfl
@[simp] theorem tsNil_iL (ρ : Env) : tsNil (iL []) ρ = some ρ := rfl
theorem nxor (a b : Nat) : (a ^^^ b) + 2 * (a &&& b) = a + b := by
  induction a using Nat.strongRecOn generalizing b with
  | _ a ih =>
    by_cases h : a = 0
    · subst h; simp
    · have z := ih (a / 2) (by omega) (b / 2)
      have e1 := Nat.and_div_two (a := a) (b := b)
      have e2 := xor_div a b
      have m1 := xor_mod a b
      have m2 : (a &&& b) % 2 = (a % 2) * (b % 2) := by
        have w : (a &&& b).testBit 0 = (a.testBit 0 && b.testBit 0) := Nat.testBit_and a b 0
        rw [Nat.testBit_zero, Nat.testBit_zero, Nat.testBit_zero] at w
        rcases Nat.mod_two_eq_zero_or_one a with h1 | h1 <;> rcases Nat.mod_two_eq_zero_or_one b with h2 | h2 <;> rcases Nat.mod_two_eq_zero_or_one (a &&& b) with h3 | h3 <;> simp [h1, h2, h3] at w ⊢
      rcases Nat.mod_two_eq_zero_or_one a with h1 | h1 <;> rcases Nat.mod_two_eq_zero_or_one b with h2 | h2 <;> simp only [h1, h2] at m1 m2 <;> omega
theorem bx (a b : Nat) : Builtin.bitXor (a : Int) (b : Int) = ((a ^^^ b : Nat) : Int) := by
  rw [bitXor_and, bitAnd_pp (by omega) (by omega), Int.toNat_natCast, Int.toNat_natCast]
  have := nxor a b
  omega
theorem mu_zero : ∀ (n a f : Nat), mu n a 0 f = f
  | 0, _, _ => rfl
  | n + 1, a, f => by
    unfold mu
    exact mu_zero n (xt a) f
theorem mul_eq (a b : Nat) (ha : a < 256) (hb : b < 256) : F_multiplied [.i (.int a), .i (.int b)] = .ok (.i (.int (mulN a b))) := by
  refine run_eq ?_
  have e0 : startE 3 [.i (.int a), .i (.int b)] = [oi a, oi b, none] := rfl
  rw [e0]
  simp [G_multiplied]
  refine while_ind (fun n ρ => ∃ m x f, n < 2 ^ m ∧ x < 256 ∧ f < 256 ∧ mu m x n f = mulN a b ∧ ρ = [oi (x : Nat), oi (n : Nat), oi (f : Nat)]) b (by omega) ⟨8, a, 0, hb, ha, by decide, rfl, rfl⟩ ?_
  rintro n W hW ρ ⟨m, x, f, hm, hx, hf, e, rfl⟩
  by_cases h0 : n = 0
  · subst h0
    rw [mu_zero] at e
    simp
    exact hW.bk _ (by simp [e])
  · cases m with
    | zero => omega
    | succ m =>
      unfold mu at e
      have h2 : n / 2 < 2 ^ m := by rw [Nat.pow_succ] at hm; omega
      have xt_i : (if (256 : Int) ≤ 2 * x then Builtin.bitXor (2 * x) 285 else 2 * x) = ((xt x : Nat) : Int) := by
        unfold xt
        by_cases q : 256 ≤ 2 * x
        · rw [if_pos q, if_pos (by omega), show (2 : Int) * x = ((2 * x : Nat) : Int) by omega, show (285 : Int) = ((285 : Nat) : Int) from rfl, bx]
        · rw [if_neg q, if_neg (by omega)]; omega
      by_cases h1 : n % 2 = 1
      · rw [if_pos h1] at e
        by_cases q : 256 ≤ 2 * x
        · rw [if_pos (by omega)] at xt_i
          simp [B_multiplied_1, show 0 < n by omega, show (n : Int) % 2 = 1 by omega, show (256 : Int) ≤ 2 * x by omega, xt_i, bx]
          exact hW.nx _ ⟨n / 2, by omega, m, xt x, f ^^^ x, h2, xt_lt hx, xor_lt hf hx, e, rfl⟩
        · rw [if_neg (by omega)] at xt_i
          simp [B_multiplied_1, show 0 < n by omega, show (n : Int) % 2 = 1 by omega, show ¬ (256 : Int) ≤ ((xt x : Nat) : Int) by have := xt_lt hx; omega, xt_i, bx]
          exact hW.nx _ ⟨n / 2, by omega, m, xt x, f ^^^ x, h2, xt_lt hx, xor_lt hf hx, e, rfl⟩
      · rw [if_neg h1] at e
        by_cases q : 256 ≤ 2 * x
        · rw [if_pos (by omega)] at xt_i
          simp [B_multiplied_1, show 0 < n by omega, show ¬ (n : Int) % 2 = 1 by omega, show (256 : Int) ≤ 2 * x by omega, xt_i, bx]
          exact hW.nx _ ⟨n / 2, by omega, m, xt x, f, h2, xt_lt hx, hf, e, rfl⟩
        · rw [if_neg (by omega)] at xt_i
          simp [B_multiplied_1, show 0 < n by omega, show ¬ (n : Int) % 2 = 1 by omega, show ¬ (256 : Int) ≤ ((xt x : Nat) : Int) by have := xt_lt hx; omega, xt_i, bx]
          exact hW.nx _ ⟨n / 2, by omega, m, xt x, f, h2, xt_lt hx, hf, e, rfl⟩
def oct (i : Int) : Bool := decide (0 ≤ i) && decide (i ≤ 255)
theorem octet_eq (i : Int) : F_is_octet [.i (.int i)] = .ok (.i (.bl (oct i))) := by
  refine run_eq ?_
  have e0 : startE 1 [.i (.int i)] = [oi i] := rfl
  rw [e0]
  by_cases h : 0 ≤ i <;> simp [G_is_octet, tyN, isTy, oct, h]
theorem octet_n (a : Nat) (ha : a < 256) : F_is_octet [.i (.int a)] = .ok (.i (.bl true)) := by
  rw [octet_eq]
  unfold oct
  rw [decide_eq_true (by omega), decide_eq_true (by omega)] <;> rfl
theorem product_eq (a b : Nat) (ha : a < 256) (hb : b < 256) : F_product [.i (.int a), .i (.int b)] = .ok (.i (.int (mulN a b))) := by
  refine run_eq ?_
  have e0 : startE 2 [.i (.int a), .i (.int b)] = [oi a, oi b] := rfl
  rw [e0]
  simp [G_product, octet_n a ha, octet_n b hb, mul_eq a b ha hb]
theorem inverse_eq (b : Nat) (hb : b < 256) : F__inverse [.i (.int b)] = .ok (.i (.int (invN b))) := by
  refine run_eq ?_
  have e0 : startE 3 [.i (.int b)] = [oi b, none, none] := rfl
  rw [e0]
  simp [G__inverse, smI]
  refine for_rg (fun k ρ => ∃ f j, f < 256 ∧ powN (254 - k) b f = invN b ∧ ρ = [oi b, oi (f : Nat), j]) ⟨1, none, by decide, rfl, rfl⟩ ?_ ?_
  · rintro k hk W hW ρ ⟨f, j, hf, e, rfl⟩
    rw [show 254 - k = (254 - (k + 1)) + 1 by omega] at e
    simp [B__inverse_1, mul_eq f b hf hb]
    exact hW.nx _ ⟨mulN f b, _, mul_lt b hf, e, rfl⟩
  · rintro ρ ⟨f, j, hf, e, rfl⟩
    have e' : f = invN b := e
    simp [e']
theorem quotient_eq (a b : Nat) (ha : a < 256) (hb : b < 256) (h0 : b ≠ 0) : F_quotient [.i (.int a), .i (.int b)] = .ok (.i (.int (mulN a (invN b)))) := by
  refine run_eq ?_
  have e0 : startE 2 [.i (.int a), .i (.int b)] = [oi a, oi b] := rfl
  rw [e0]
  simp [G_quotient, octet_n a ha, octet_n b hb, inverse_eq b hb, mul_eq a (invN b) ha (inv_lt b), h0]
theorem xor_bit (a b : Nat) (k : Nat) : (a ^^^ b) / 2 ^ k % 2 = (if a / 2 ^ k % 2 = b / 2 ^ k % 2 then 0 else 1) := by
  have z : (a ^^^ b).testBit k = (a.testBit k ^^ b.testBit k) := Nat.testBit_xor a b k
  rw [Nat.testBit_eq_decide_div_mod_eq, Nat.testBit_eq_decide_div_mod_eq, Nat.testBit_eq_decide_div_mod_eq] at z
  generalize a / 2 ^ k = p at z ⊢
  generalize b / 2 ^ k = q at z ⊢
  generalize (a ^^^ b) / 2 ^ k = r at z ⊢
  rcases Nat.mod_two_eq_zero_or_one p with h1 | h1 <;> rcases Nat.mod_two_eq_zero_or_one q with h2 | h2 <;> rcases Nat.mod_two_eq_zero_or_one r with h3 | h3 <;> simp [h1, h2, h3] at z ⊢
theorem added_step (a b : Nat) (f : Int) (w : Nat) (hw : 0 < w) (hw2 : w < 1000) :
    B__law_added_1 [oi a, oi b, oi f, oi w] = .nx [oi a, oi b, oi (f + (w : Int) * ((if a / w % 2 = b / w % 2 then 0 else 1 : Nat) : Int)), oi w] := by
  have c : ((a : Int) / w % 2 = (b : Int) / w % 2) ↔ (a / w % 2 = b / w % 2) := by
    rw [← Int.natCast_ediv, ← Int.natCast_ediv]
    omega
  by_cases q : a / w % 2 = b / w % 2
  · simp [B__law_added_1, c.mpr q, q, hw, show w < 1073741824 by omega, show w < 18446744073709551616 by omega]
  · have n : ¬ ((a : Int) / w % 2 = (b : Int) / w % 2) := fun z => q (c.mp z)
    simp [B__law_added_1, n, q, hw, show w < 1073741824 by omega, show w < 18446744073709551616 by omega]
theorem added_eq (a b : Nat) (ha : a < 256) (hb : b < 256) : F__law_added [.i (.int a), .i (.int b)] = .ok (.i (.int ((a ^^^ b : Nat) : Int))) := by
  refine run_eq ?_
  have e0 : startE 4 [.i (.int a), .i (.int b)] = [oi a, oi b, none, none] := rfl
  rw [e0]
  simp [G__law_added]
  have hc := xor_lt ha hb
  refine for_iL (fun k ρ => ∃ j f, f = (a ^^^ b) / 2 ^ (8 - k) * 2 ^ (8 - k) ∧ ρ = [oi a, oi b, oi (f : Nat), j]) ⟨none, 0, by omega, rfl⟩ ?_ ?_
  · rintro k hk W hW ρ ⟨j, f, hf, rfl⟩
    have hk8 : k < 8 := hk
    have hwk : ([128, 64, 32, 16, 8, 4, 2, 1] : List Int)[k] = ((2 ^ (7 - k) : Nat) : Int) := by
      rcases (show k = 0 ∨ k = 1 ∨ k = 2 ∨ k = 3 ∨ k = 4 ∨ k = 5 ∨ k = 6 ∨ k = 7 by omega) with h | h | h | h | h | h | h | h <;> subst h <;> rfl
    have xb := xor_bit a b (7 - k)
    rw [hwk]
    have w0 : 0 < 2 ^ (7 - k) := Nat.two_pow_pos _
    have w1 : 2 ^ (7 - k) ≤ 2 ^ 7 := Nat.pow_le_pow_right (n := 2) (by decide) (show 7 - k ≤ 7 by omega)
    have st := added_step a b f (2 ^ (7 - k)) w0 (by omega)
    rw [← xb] at st
    have e2 : (f : Int) + ((2 ^ (7 - k) : Nat) : Int) * (((a ^^^ b) / 2 ^ (7 - k) % 2 : Nat) : Int) = (((a ^^^ b) / 2 ^ (8 - (k + 1)) * 2 ^ (8 - (k + 1)) : Nat) : Int) := by
      rw [hf, show 8 - (k + 1) = 7 - k by omega, show 8 - k = (7 - k) + 1 by omega, Nat.pow_succ]
      generalize (a ^^^ b) = c
      generalize 2 ^ (7 - k) = w at w0
      have d1 : c / (w * 2) = c / w / 2 := (Nat.div_div_eq_div_mul c w 2).symm
      rw [d1, ← Int.natCast_mul, ← Int.natCast_add]
      congr 1
      have := Nat.div_add_mod (c / w) 2
      generalize c / w / 2 = p at this ⊢
      generalize c / w % 2 = r at this ⊢
      rw [← this, Nat.add_mul, Nat.mul_comm w 2, ← Nat.mul_assoc, Nat.mul_comm p 2, Nat.mul_comm w r]
    rw [e2] at st
    obtain ⟨f2, hf2⟩ : ∃ f2, f2 = (a ^^^ b) / 2 ^ (8 - (k + 1)) * 2 ^ (8 - (k + 1)) := ⟨_, rfl⟩
    rw [← hf2] at st
    generalize ((2 ^ (7 - k) : Nat) : Int) = w at st ⊢
    simp [st]
    exact hW.nx _ ⟨_, f2, hf2, rfl⟩
  · rintro ρ ⟨j, f, hf, rfl⟩
    have : f = a ^^^ b := by
      have hf' : f = (a ^^^ b) / 2 ^ 0 * 2 ^ 0 := hf
      rw [hf', Nat.pow_zero, Nat.div_one, Nat.mul_one]
    simp [this]
/-! the law's own product -/
def bl (x : Nat) : List Int := (List.range 16).map fun i => ((x.testBit i).toNat : Int)
theorem bl_len (x : Nat) : (bl x).length = 16 := by simp [bl]
theorem bl_get (x j : Nat) (h : j < 16) : (bl x).getD j 0 = ((x.testBit j).toNat : Int) := by
  unfold bl
  rw [List.getD_eq_getElem?_getD, List.getElem?_map, List.getElem?_range h] <;> rfl
theorem bl_tog (x j : Nat) (h : j < 16) : (bl x).set j (1 - ((x.testBit j).toNat : Int)) = bl (x ^^^ 2 ^ j) := by
  refine List.ext_getElem? fun i => ?_
  by_cases hi : i < 16
  · rw [List.getElem?_set]
    unfold bl
    rw [List.getElem?_map, List.getElem?_map, List.getElem?_range hi]
    simp only [Option.map_some, Nat.testBit_xor, Nat.testBit_two_pow, List.length_map, List.length_range]
    by_cases e : j = i
    · subst e
      rw [if_pos rfl, if_pos h]
      cases x.testBit j <;> simp
    · rw [if_neg e, decide_eq_false e]
      simp
  · rw [List.getElem?_eq_none (by rw [List.length_set, bl_len]; omega), List.getElem?_eq_none (by rw [bl_len]; omega)]
theorem iL_set (xs : List Int) (j : Nat) (y : Int) : (iL xs).set j (.int y) = iL (xs.set j y) := by
  unfold iL
  rw [List.map_set]
theorem set_l {xs : List Int} {k y : Int} {m : Md} (h0 : 0 ≤ k) (h1 : k < xs.length) : setD (.l (iL xs)) k (.i (.int y), m) = some (.l (iL (xs.set k.toNat y))) := by
  show (ixN (iL xs).length k).map (fun j => DV.l ((iL xs).set j (.int y))) = _
  unfold ixN
  rw [iL_len, if_pos h0, if_pos h1, Option.map_some, iL_set]
/-- bits[j] = 1 - bits[j] -/
theorem tog {ρ : Env} {e1 e2 : FE} {x j : Nat} (hj : j < 16) (h0 : ρ[2]? = some (ol (bl x))) (h1 : e1 ρ = .ok (.i (.int j), .own)) (h2 : e2 ρ = .ok (.i (.int j), .own)) :
    sPut 2 e1 (eBin opSub (eC (.int 1)) (eBin opIx (eVar 2) e2)) ρ = .nx (ρ.set 2 (ol (bl (x ^^^ 2 ^ j)))) := by
  have i1 := fun m m' : Md => ix_l (m := m) (m' := m') (xs := bl x) (k := (j : Int)) (by omega) (by rw [bl_len]; omega)
  rw [Int.toNat_natCast, bl_get x j hj] at i1
  simp [h0, h1, h2, i1, set_l (xs := bl x) (k := (j : Int)) (by omega) (by rw [bl_len]; omega), bl_tog x j hj]
theorem pw_get (k : Nat) (hk : k < 8) : ([1, 2, 4, 8, 16, 32, 64, 128] : List Int).getD k 0 = ((2 ^ k : Nat) : Int) := by
  rcases (show k = 0 ∨ k = 1 ∨ k = 2 ∨ k = 3 ∨ k = 4 ∨ k = 5 ∨ k = 6 ∨ k = 7 by omega) with h | h | h | h | h | h | h | h <;> subst h <;> rfl
theorem split_bit (b n : Nat) : b % 2 ^ (n + 1) = b % 2 ^ n ^^^ (if b / 2 ^ n % 2 = 1 then 2 ^ n else 0) := by
  refine Nat.eq_of_testBit_eq fun i => ?_
  have tb : b.testBit n = decide (b / 2 ^ n % 2 = 1) := Nat.testBit_eq_decide_div_mod_eq
  rw [Nat.testBit_xor, Nat.testBit_mod_two_pow, Nat.testBit_mod_two_pow]
  by_cases hi : i = n
  · subst hi
    rw [decide_eq_true (by omega), decide_eq_false (by omega), tb]
    by_cases q : b / 2 ^ i % 2 = 1
    · rw [if_pos q, Nat.testBit_two_pow]; simp [q]
    · rw [if_neg q]; simp [q]
  · have : (if b / 2 ^ n % 2 = 1 then 2 ^ n else 0).testBit i = false := by
      split
      · rw [Nat.testBit_two_pow]; simp; omega
      · exact Nat.zero_testBit i
    rw [this]
    by_cases h2 : i < n
    · rw [decide_eq_true h2, decide_eq_true (by omega)]; simp
    · rw [decide_eq_false h2, decide_eq_false (by omega)]; simp
theorem pow_xor (k x y : Nat) : 2 ^ k * (x ^^^ y) = 2 ^ k * x ^^^ 2 ^ k * y := by
  have := Nat.shiftLeft_xor_distrib (i := k) (a := x) (b := y)
  simpa [Nat.shiftLeft_eq, Nat.mul_comm] using this
theorem lay_snoc : ∀ (n a b x : Nat), lay (n + 1) a b x = (if a / 2 ^ n % 2 = 1 then lay n a b x ^^^ 2 ^ n * b else lay n a b x)
  | 0, a, b, x => by
    show (if a % 2 = 1 then x ^^^ b else x) = _
    rw [Nat.pow_zero, Nat.div_one, Nat.one_mul] <;> rfl
  | n + 1, a, b, x => by
    show lay (n + 1) (a / 2) (2 * b) _ = _
    rw [lay_snoc n (a / 2) (2 * b), Nat.div_div_eq_div_mul, show 2 * 2 ^ n = 2 ^ (n + 1) by rw [Nat.pow_succ]; omega, show 2 ^ n * (2 * b) = 2 ^ (n + 1) * b by rw [Nat.pow_succ, Nat.mul_assoc]]
    rfl
theorem lproduct_eq (a b : Nat) (ha : a < 256) (hb : b < 256) : F__law_product [.i (.int a), .i (.int b)] = .ok (.i (.int (mulN a b))) := by
  refine run_eq ?_
  have e0 : startE 5 [.i (.int a), .i (.int b)] = [oi a, oi b, none, none, none] := rfl
  rw [e0]
  have m16 : ∀ m m' : Md, opMul (.l (iL [0]), m) (.i (.int 16), m') = .ok (.l (iL (bl 0)), .own) := fun _ _ => rfl
  simp [G__law_product, m16, smI]
  have px := fun (k : Nat) (hk : k < 8) (m m' : Md) => by
    have z := ix_l (m := m) (m' := m') (xs := [1, 2, 4, 8, 16, 32, 64, 128]) (k := (k : Int)) (by omega) (by simp; omega)
    rw [Int.toNat_natCast, pw_get k hk] at z
    exact z
  have p0 : ∀ k : Nat, 0 < 2 ^ k := fun k => Nat.two_pow_pos k
  have p1 : ∀ k : Nat, k < 8 → 2 ^ k ≤ 128 := fun k hk => Nat.pow_le_pow_right (n := 2) (by decide) (show k ≤ 7 by omega)
  refine for_rg (fun k ρ => ∃ v w, ρ = [oi a, oi b, ol (bl (lay k a b 0)), v, w]) ⟨none, none, rfl⟩ ?_ ?_
  · rintro k hk W hW ρ ⟨v, w, rfl⟩
    simp [B__law_product_5, smI]
    refine for_rg (fun n ρ => ∃ w, ρ = [oi a, oi b, ol (bl (lay k a b 0 ^^^ (if a / 2 ^ k % 2 = 1 then 2 ^ k * (b % 2 ^ n) else 0))), oi k, w]) ⟨w, ?_⟩ ?_ ?_
    · rw [Nat.pow_zero, Nat.mod_one, Nat.mul_zero]; simp
    · rintro n hn W2 hW2 ρ ⟨w, rfl⟩
      have qk := px k hk
      have qn := px n hn
      generalize hx : lay k a b 0 ^^^ (if a / 2 ^ k % 2 = 1 then 2 ^ k * (b % 2 ^ n) else 0) = x
      have nx : lay k a b 0 ^^^ (if a / 2 ^ k % 2 = 1 then 2 ^ k * (b % 2 ^ (n + 1)) else 0) = (if a / 2 ^ k % 2 = 1 ∧ b / 2 ^ n % 2 = 1 then x ^^^ 2 ^ (k + n) else x) := by
        rw [← hx, split_bit, pow_xor]
        by_cases q1 : a / 2 ^ k % 2 = 1
        · by_cases q2 : b / 2 ^ n % 2 = 1
          · simp [q1, q2, Nat.xor_assoc, Nat.pow_add]
          · simp [q1, q2]
        · simp [q1]
      generalize (lay k a b 0 ^^^ (if a / 2 ^ k % 2 = 1 then 2 ^ k * (b % 2 ^ (n + 1)) else 0)) = y at nx hW2
      have c1 : ((a : Int) / ((2 ^ k : Nat) : Int) % 2 = 1) ↔ (a / 2 ^ k % 2 = 1) := by rw [← Int.natCast_ediv]; omega
      have c2 : ((b : Int) / ((2 ^ n : Nat) : Int) % 2 = 1) ↔ (b / 2 ^ n % 2 = 1) := by rw [← Int.natCast_ediv]; omega
      have s1 := p0 k
      have s2 := p0 n
      have s3 := p1 k hk
      have s4 := p1 n hn
      generalize hpk : 2 ^ k = pk at *
      generalize hpn : 2 ^ n = pn at *
      have tg := fun (e1 e2 : FE) h1 h2 => tog (ρ := [oi a, oi b, ol (bl x), oi k, oi n]) (e1 := e1) (e2 := e2) (x := x) (j := k + n) (by omega) rfl h1 h2
      by_cases q1 : a / pk % 2 = 1
      · by_cases q2 : b / pn % 2 = 1
        · rw [if_pos ⟨q1, q2⟩] at nx
          simp [B__law_product_4, qk, qn, c1.mpr q1, c2.mpr q2, s1, s2, show pk < 1073741824 by omega, show pn < 1073741824 by omega, -sPut_ap]
          rw [tg _ _ (by simp) (by simp)]
          simp
          exact hW2.nx _ ⟨_, by rw [nx]⟩
        · have q2' : ¬ ((b : Int) / (pn : Int) % 2 = 1) := fun z => q2 (c2.mp z)
          rw [if_neg fun z : a / pk % 2 = 1 ∧ b / pn % 2 = 1 => q2 z.2] at nx
          simp [B__law_product_4, qk, qn, c1.mpr q1, q2', s1, s2, show pk < 1073741824 by omega, show pn < 1073741824 by omega, -sPut_ap]
          exact hW2.nx _ ⟨_, by rw [nx]⟩
      · have q1' : ¬ ((a : Int) / (pk : Int) % 2 = 1) := fun z => q1 (c1.mp z)
        rw [if_neg fun z : a / pk % 2 = 1 ∧ b / pn % 2 = 1 => q1 z.1] at nx
        simp [B__law_product_4, qk, qn, q1', s1, s2, show pk < 1073741824 by omega, show pn < 1073741824 by omega, -sPut_ap]
        exact hW2.nx _ ⟨_, by rw [nx]⟩
    · rintro ρ ⟨w, rfl⟩
      refine hW.nx _ ⟨oi k, w, ?_⟩
      have hb8 : b % 2 ^ 8 = b := Nat.mod_eq_of_lt hb
      rw [lay_snoc, hb8]
      by_cases q1 : a / 2 ^ k % 2 = 1
      · simp only [if_pos q1]
      · simp only [if_neg q1, Nat.xor_zero]
  · rintro ρ ⟨v, w, rfl⟩
    have r3 : ∀ ρ, iRg3 (eC (.int 15)) (eC (.int 7)) (-1) ρ = .ok (rgC 15 (-1) 8, .own) := fun _ => rfl
    simp [r3]
    refine for_rgC (fun j ρ => ∃ y v w, down (8 - j) y = mulN a b ∧ ρ = [oi a, oi b, ol (bl y), v, w]) ⟨_, v, w, lay_mul ha hb, rfl⟩ ?_ ?_
    · rintro j hj W hW ρ ⟨y, v, w, hy, rfl⟩
      obtain ⟨n, hn⟩ : ∃ n, n = 7 - j := ⟨_, rfl⟩
      have hn8 : n < 8 := by omega
      rw [show (15 : Int) + (j : Int) * (-1) = ((n + 8 : Nat) : Int) by omega]
      rw [show 8 - j = n + 1 by omega] at hy
      have hI : 8 - (j + 1) = n := by omega
      have i1 := fun m m' : Md => ix_l (m := m) (m' := m') (xs := bl y) (k := ((n + 8 : Nat) : Int)) (by omega) (by rw [bl_len]; omega)
      rw [Int.toNat_natCast, bl_get y (n + 8) (by omega)] at i1
      obtain ⟨i, hi⟩ : ∃ i, i = n + 8 := ⟨_, rfl⟩
      rw [← hi] at i1 ⊢
      unfold down at hy
      rw [← hi] at hy
      cases q : y.testBit i with
      | false =>
        rw [q] at hy i1
        simp [B__law_product_3, i1]
        exact hW.nx _ ⟨y, _, _, by rw [hI]; exact hy, rfl⟩
      | true =>
        rw [q, if_pos rfl] at hy
        rw [q] at i1
        simp [B__law_product_3, i1]
        refine for_iL (fun m ρ => ∃ w, ρ = [oi a, oi b, ol (bl (([0, 2, 3, 4, 8].take m).foldl (fun z o => z ^^^ 2 ^ (n + o)) y)), oi i, w]) ⟨w, rfl⟩ ?_ ?_
        · rintro m hm W2 hW2 ρ ⟨w, rfl⟩
          have hm5 : m < 5 := hm
          obtain ⟨o, ho, ho2, ho3⟩ : ∃ o : Nat, ([0, 2, 3, 4, 8] : List Int)[m] = (o : Int) ∧ o ≤ 8 ∧ ([0, 2, 3, 4, 8].take (m + 1)).foldl (fun z o => z ^^^ 2 ^ (n + o)) y = ([0, 2, 3, 4, 8].take m).foldl (fun z o => z ^^^ 2 ^ (n + o)) y ^^^ 2 ^ (n + o) := by
            rcases (show m = 0 ∨ m = 1 ∨ m = 2 ∨ m = 3 ∨ m = 4 by omega) with h | h | h | h | h <;> subst h
            · exact ⟨0, rfl, by decide, rfl⟩
            · exact ⟨2, rfl, by decide, rfl⟩
            · exact ⟨3, rfl, by decide, rfl⟩
            · exact ⟨4, rfl, by decide, rfl⟩
            · exact ⟨8, rfl, by decide, rfl⟩
          rw [ho]
          generalize ([0, 2, 3, 4, 8].take m).foldl (fun z o => z ^^^ 2 ^ (n + o)) y = z at ho3 ⊢
          have tg := fun (e1 e2 : FE) h1 h2 => tog (ρ := [oi a, oi b, ol (bl z), oi i, oi o]) (e1 := e1) (e2 := e2) (x := z) (j := n + o) (by omega) rfl h1 h2
          simp [B__law_product_2, -sPut_ap]
          rw [tg _ _ (by simp; omega) (by simp; omega)]
          simp
          exact hW2.nx _ ⟨_, by rw [ho3]⟩
        · rintro ρ ⟨w, rfl⟩
          refine hW.nx _ ⟨_, _, _, ?_, rfl⟩
          rw [hI, ← hy]
          congr 1
          show ((((y ^^^ 2 ^ (n + 0)) ^^^ 2 ^ (n + 2)) ^^^ 2 ^ (n + 3)) ^^^ 2 ^ (n + 4)) ^^^ 2 ^ (n + 8) = _
          rw [show (285 : Nat) = 1 ^^^ (4 ^^^ (8 ^^^ (16 ^^^ 256))) from rfl, Nat.mul_comm, pow_xor, pow_xor, pow_xor, pow_xor]
          simp only [Nat.xor_assoc, Nat.pow_add]
    · rintro ρ ⟨y, v, w, hy, rfl⟩
      have hy' : y = mulN a b := hy
      have hlt := mul_lt b ha
      rw [← hy'] at hlt ⊢
      have e1 : C__law_product_1 [oi a, oi b, ol (bl y), v, w] = .ok (.l (iL ((List.range 8).map fun k : Nat => ((y.testBit k).toNat : Int) * ((2 ^ k : Nat) : Int))), .own) := by
        rw [← map_int]
        refine comp_rg (m := .own) (lo := 0) _ (by simp [smI]) (by decide) fun k hk => ?_
        refine ⟨[oi a, oi b, ol (bl y), oi (0 + (k : Int)), w], rfl, rfl, ?_⟩
        have i1 := fun m m' : Md => ix_l (m := m) (m' := m') (xs := bl y) (k := (k : Int)) (by omega) (by rw [bl_len]; omega)
        rw [Int.toNat_natCast, bl_get y k (by omega)] at i1
        have qk := px k hk
        have t : (y.testBit k).toNat < 18446744073709551616 := by cases y.testBit k <;> decide
        generalize 2 ^ k = p at qk ⊢
        generalize (y.testBit k).toNat = t' at i1 t ⊢
        simp [i1, qk, t]
      have tb : ∀ k, (y.testBit k).toNat = y / 2 ^ k % 2 := fun k => by
        rw [Nat.testBit_eq_decide_div_mod_eq]
        rcases Nat.mod_two_eq_zero_or_one (y / 2 ^ k) with h | h <;> simp [h]
      have sm : ((List.range 8).map fun k : Nat => ((y.testBit k).toNat : Int) * ((2 ^ k : Nat) : Int)).sum = y := by
        simp only [tb]
        simp [List.range_succ]
        omega
      generalize ((List.range 8).map fun k : Nat => ((y.testBit k).toNat : Int) * ((2 ^ k : Nat) : Int)) = L at e1 sm
      rw [thn_nx, sRet_ap, eUn_ap, e1]
      simp [sm]
/-! the law -/
/-- octets in a row -/
def Oc (xs : List Int) : Prop := ∀ x ∈ xs, ∃ n : Nat, n < 256 ∧ x = (n : Int)
theorem pair_ok (W : PD) (s0 s1 s2 s3 s6 s7 s8 s9 s10 s11 : Option (DV × Md)) (a b : Nat) (ha : a < 256) (hb : b < 256)
    (hW : ∀ s6, W.nx [s0, s1, s2, s3, oi a, oi b, s6, s7, s8, s9, s10, s11]) : (B_law_7 [s0, s1, s2, s3, oi a, oi b, s6, s7, s8, s9, s10, s11]).to W := by
  have p1 := product_eq a b ha hb
  have p2 := product_eq b a hb ha
  have p3 := lproduct_eq a b ha hb
  rw [mul_comm hb ha] at p2
  by_cases h0 : b = 0
  · subst h0
    simp at p1 p2 p3
    simp [B_law_7, p1, p2, p3, isTy, tyN]
    exact hW _
  · have q1 := quotient_eq a b ha hb h0
    have q2 := product_eq (mulN a (invN b)) b (mul_lt _ ha) hb
    have q3 := quotient_eq (mulN a b) b (mul_lt _ ha) hb h0
    rw [div_mul ha hb h0] at q2
    rw [mul_div ha hb h0] at q3
    simp [B_law_7, p1, p2, p3, isTy, tyN, show 0 < b by omega, q1, q2, q3]
    exact hW _
theorem three_ok (W : PD) (s0 s2 s3 s4 s5 s6 s7 s8 s9 s10 s11 : Option (DV × Md)) (ds : List Int) (hd : Dr ds) (hl : ds.length = 40) (k : Nat)
    (hW : ∀ s4 s5 s7 s10, W.nx [s0, some (.l (iL ds), .own), oi k, s3, s4, s5, s6, s7, s8, s9, s10, s11]) : (B_law_6 [s0, some (.l (iL ds), .own), oi k, s3, s4, s5, s6, s7, s8, s9, s10, s11]).to W := by
  obtain ⟨f, hf, hf2⟩ : ∃ f : Nat → Nat, (∀ n, f n < 256) ∧ C_law_5 [s0, some (.l (iL ds), .own), oi k, s3, s4, s5, s6, s7, s8, s9, s10, s11] = .ok (.l ((List.range 3).map fun n => .int (f n)), .own) := by
    refine ⟨fun n => (ds.getD (10 + (3 * (k : Int) + (0 + (n : Int))) % 30).toNat 0 % 256).toNat, fun n => ?_, ?_⟩
    · have := Int.emod_lt_of_pos (ds.getD (10 + (3 * (k : Int) + (0 + (n : Int))) % 30).toNat 0) (show (0 : Int) < 256 by decide)
      dsimp only
      omega
    · refine comp_rg (m := .own) (lo := 0) _ (by simp [smI]) (by decide) fun n hn => ?_
      refine ⟨[s0, some (.l (iL ds), .own), oi k, s3, s4, s5, s6, s7, s8, s9, oi (0 + (n : Int)), s11], rfl, rfl, ?_⟩
      dsimp only
      have r1 := Int.emod_nonneg (3 * (k : Int) + (0 + (n : Int))) (show (30 : Int) ≠ 0 by decide)
      have r2 := Int.emod_lt_of_pos (3 * (k : Int) + (0 + (n : Int))) (show (0 : Int) < 30 by decide)
      generalize hj : (3 * (k : Int) + (0 + (n : Int))) % 30 = j at r1 r2 ⊢
      have i1 := fun m m' : Md => ix_l (m := m) (m' := m') (xs := ds) (k := 10 + j) (by omega) (by omega)
      generalize ds.getD (10 + j).toNat 0 = x at i1 ⊢
      have x0 := Int.emod_nonneg x (show (256 : Int) ≠ 0 by decide)
      rw [Int.toNat_of_nonneg x0]
      rw [Int.zero_add] at hj
      simp [hj, i1]
  have ha := hf 0
  have hb := hf 1
  have hc := hf 2
  have fl : ((List.range 3).map fun n => IV.int (f n)) = [.int (f 0), .int (f 1), .int (f 2)] := rfl
  rw [fl] at hf2
  generalize f 0 = a at *
  generalize f 1 = b at *
  generalize f 2 = c at *
  have q1 := product_eq a b ha hb
  have q2 := product_eq (mulN a b) c (mul_lt _ ha) hc
  have q3 := product_eq b c hb hc
  have q4 := product_eq a (mulN b c) ha (mul_lt _ hb)
  have q5 := added_eq b c hb hc
  have q6 := product_eq a (b ^^^ c) ha (xor_lt hb hc)
  have q7 := product_eq a c ha hc
  have q8 := added_eq (mulN a b) (mulN a c) (mul_lt _ ha) (mul_lt _ ha)
  rw [mul_assoc ha hb hc] at q2
  rw [mul_lin] at q6
  simp [B_law_6, hf2]
  simp [q1, q2, q3, q4, q5, q6, q7, q8]
  exact hW _ _ _ _
theorem dr_eq : F__law_draws = F_dr := rfl
theorem law_true (ns : List Int) (h : ns.length ≤ 63) : F_law [.f (ns.map IV.int)] = .ok (.i (.bl true)) := by
  refine run_eq ?_
  have e0 : startE 12 [.f (ns.map IV.int)] = [some (.f (iL ns), .bor), none, none, none, none, none, none, none, none, none, none, none] := rfl
  rw [e0]
  obtain ⟨ds, hl, hd, e1⟩ := draws_ok ns h 40 (by decide) (by decide)
  have hl : ds.length = 40 := hl
  obtain ⟨os, hos, hol, e9⟩ : ∃ os : List Int, Oc os ∧ os.length = 8 ∧ C_law_9 [some (.f (iL ns), .bor), some (.l (iL ds), .own), none, none, none, none, none, none, none, none, none, none] = .ok (.l (iL os), .own) := by
    refine ⟨(List.range 8).map fun n : Nat => ds.getD n 0 % 256, fun x hx => ?_, by simp, ?_⟩
    · obtain ⟨n, _, rfl⟩ := List.mem_map.mp hx
      have x0 := Int.emod_nonneg (ds.getD n 0) (show (256 : Int) ≠ 0 by decide)
      have x1 := Int.emod_lt_of_pos (ds.getD n 0) (show (0 : Int) < 256 by decide)
      exact ⟨(ds.getD n 0 % 256).toNat, by omega, (Int.toNat_of_nonneg x0).symm⟩
    · rw [← map_int]
      refine comp_rg (m := .own) (lo := 0) _ (by simp [smI]) (by decide) fun n hn => ?_
      refine ⟨[some (.f (iL ns), .bor), some (.l (iL ds), .own), oi (0 + (n : Int)), none, none, none, none, none, none, none, none, none], rfl, rfl, ?_⟩
      have i1 := fun m m' : Md => ix_l (m := m) (m' := m') (xs := ds) (k := (n : Int)) (by omega) (by omega)
      rw [Int.toNat_natCast] at i1
      generalize ds.getD n 0 = x at i1 ⊢
      simp [i1]
  simp [G_law, dr_eq, e1, e9, hol]
  have ho : Oc ([0, 1, 2, 128, 255] ++ os) := fun x hx => by
    rcases List.mem_append.mp hx with q | q
    · simp only [List.mem_cons, List.not_mem_nil, or_false] at q
      rcases q with rfl | rfl | rfl | rfl | rfl
      · exact ⟨0, by decide, rfl⟩
      · exact ⟨1, by decide, rfl⟩
      · exact ⟨2, by decide, rfl⟩
      · exact ⟨128, by decide, rfl⟩
      · exact ⟨255, by decide, rfl⟩
    · exact hos x q
  have hlen : ([0, 1, 2, 128, 255] ++ os).length = 13 := by simp [hol]
  simp only [List.cons_append, List.nil_append] at ho hlen
  generalize 0 :: 1 :: 2 :: 128 :: 255 :: os = xs at ho hlen ⊢
  refine for_iL (fun k ρ => ∃ v4 v5 v6, ρ = [some (.f (iL ns), .bor), some (.l (iL ds), .own), none, some (.l (iL xs), .loc), v4, v5, v6, none, none, none, none, none]) ⟨_, _, _, rfl⟩ ?_ ?_
  · rintro k hk W hW ρ ⟨v4, v5, v6, rfl⟩
    obtain ⟨a, ha, hx⟩ := ho _ (List.getElem_mem hk)
    rw [hx]
    simp [B_law_8]
    refine for_iL (fun k ρ => ∃ v5 v6, ρ = [some (.f (iL ns), .bor), some (.l (iL ds), .own), none, some (.l (iL xs), .loc), oi a, v5, v6, none, none, none, none, none]) ⟨_, _, rfl⟩ ?_ ?_
    · rintro k2 hk2 W2 hW2 ρ ⟨v5, v6, rfl⟩
      obtain ⟨b, hb, hx⟩ := ho _ (List.getElem_mem hk2)
      rw [hx]
      simp
      exact pair_ok W2 _ _ _ _ _ _ _ _ _ _ a b ha hb fun s6 => hW2.nx _ ⟨_, _, rfl⟩
    · rintro ρ ⟨v5, v6, rfl⟩
      exact hW.nx _ ⟨_, _, _, rfl⟩
  · rintro ρ ⟨v4, v5, v6, rfl⟩
    simp [smI]
    refine for_rg (fun k ρ => ∃ v2 v4 v5 v7 v10, ρ = [some (.f (iL ns), .bor), some (.l (iL ds), .own), v2, some (.l (iL xs), .loc), v4, v5, v6, v7, none, none, v10, none]) ⟨_, _, _, _, _, rfl⟩ ?_ ?_
    · rintro k hk W hW ρ ⟨v2, v4, v5, v7, v10, rfl⟩
      simp
      exact three_ok W _ none _ _ _ _ _ _ _ _ _ ds hd hl k fun s4 s5 s7 s10 => hW.nx _ ⟨_, _, _, _, _, rfl⟩
    · rintro ρ ⟨v2, v4, v5, v7, v10, rfl⟩
      have i8 := fun m m' : Md => ix_l (m := m) (m' := m') (xs := ds) (k := (8 : Int)) (by omega) (by omega)
      generalize ds.getD (8 : Int).toNat 0 = d8 at i8
      have x0 := Int.emod_nonneg d8 (show (255 : Int) ≠ 0 by decide)
      have x1 := Int.emod_lt_of_pos d8 (show (0 : Int) < 255 by decide)
      obtain ⟨o, ho1, ho2, ho3⟩ : ∃ o : Nat, o < 256 ∧ o ≠ 0 ∧ 1 + d8 % 255 = (o : Int) := ⟨(1 + d8 % 255).toNat, by omega, by omega, by omega⟩
      simp [i8, ho3]
      have c4 : C_law_4 [some (.f (iL ns), .bor), some (.l (iL ds), .own), v2, some (.l (iL xs), .loc), v4, v5, v6, v7, oi o, none, v10, none] = .ok (.l (iL ((List.range 256).map fun n : Nat => (mulN o n : Int))), .own) := by
        rw [← map_int]
        refine comp_rg (m := .own) (lo := 0) _ (by simp [smI]) (by decide) fun n hn => ?_
        refine ⟨[some (.f (iL ns), .bor), some (.l (iL ds), .own), v2, some (.l (iL xs), .loc), v4, oi (0 + (n : Int)), v6, v7, oi o, none, v10, none], rfl, rfl, ?_⟩
        rw [Int.zero_add]
        simp [product_eq o n ho1 hn]
      have nd : ((List.range 256).map fun n : Nat => (mulN o n : Int)).Nodup := by
        refine List.Pairwise.map _ (R := fun x y => x < 256 ∧ y < 256 ∧ x ≠ y) (fun x y hxy e => hxy.2.2 (mul_inj ho1 ho2 hxy.1 hxy.2.1 (by omega))) ?_
        refine List.Pairwise.imp_of_mem (R := fun x y => x ≠ y) (fun {x y} hx hy hn => ⟨List.mem_range.mp hx, List.mem_range.mp hy, hn⟩) List.nodup_range
      have c3 : C_law_3 [some (.f (iL ns), .bor), some (.l (iL ds), .own), v2, some (.l (iL xs), .loc), v4, v5, v6, v7, oi o, none, v10, none] = .ok (.l (xs.map fun _ => .bl false), .own) := by
        refine comp_iL (m := .loc) _ (by simp) (by omega) fun x hx => ?_
        obtain ⟨n, hn, rfl⟩ := ho x hx
        refine ⟨[some (.f (iL ns), .bor), some (.l (iL ds), .own), v2, some (.l (iL xs), .loc), v4, oi n, v6, v7, oi o, none, v10, none], rfl, rfl, ?_⟩
        have z := product_eq 0 n (by decide) hn
        rw [mul_comm (by decide) hn, mul_zero] at z
        have z' : F_product [.i (.int 0), .i (.int n)] = .ok (.i (.int 0)) := z
        simp [z']
      have c3' : ∀ m, opAny (.l (xs.map fun _ => .bl false), m) = .ok (.i (.bl false), .own) := fun m => by
        rw [opAny_map (fun _ => false) xs m]
        simp
      have pl : ∀ x8 x2, loopF (tName 2) B_law_2 (rgL 0 255) [some (.f (iL ns), .bor), some (.l (iL ds), .own), x2, some (.l (iL xs), .loc), v4, v5, v6, v7, x8, oi 1, v10, none] = .nx [some (.f (iL ns), .bor), some (.l (iL ds), .own), oi 254, some (.l (iL xs), .loc), v4, v5, v6, v7, x8, oi 1, v10, none] := by
        intro x8 x2
        kernel_rfl
      have r1 : F__law_refused [.i (.int 0), .i .non, .i (.int 1)] = .ok (.i (.bl true)) := by kernel_rfl
      have r2 : F__law_refused [.i (.int 1), .i .non, .i (.int 1)] = .ok (.i (.bl true)) := by kernel_rfl
      have r3 : F__law_refused [.i (.int 1), .i (.int 5), .i (.int 0)] = .ok (.i (.bl true)) := by kernel_rfl
      have c1 : ∀ x2 x8, eUn opAll C_law_1 [some (.f (iL ns), .bor), some (.l (iL ds), .own), x2, some (.l (iL xs), .loc), v4, v5, v6, v7, x8, oi 1, v10, none] = .ok (.i (.bl true), .own) := by
        intro x2 x8
        kernel_rfl
      simp only [eUn_ap] at c1
      simp [c4, c3, c3', lenSet_ok nd, smI, pl, r1, r2, r3, c1]
end L2.Pv.T

open PySem PySem.W PySem.Calls PyProof.Rows
theorem PySem.Challenge.cw_archivewright_k25_products_of_octets_holds : PySem.Challenge.rw_archivewright_k25_products_of_octets.Holds := by
  w_on; o_law
  refine HandSHeadRun.head_any (r := PySem.W.OpenLaw.row PySem.Challenge.rw_archivewright_k25_products_of_octets) (q := PySem.W.view (PySem.W.OpenLaw.row PySem.Challenge.rw_archivewright_k25_products_of_octets).prog [18]) (H := L2.Pv.T.hk) (ob := L2.Pv.T.ob) (M := 3000) (loose := L2.Pv.T.loose) (d := HandSHeadRun.topDef (PySem.W.OpenLaw.row PySem.Challenge.rw_archivewright_k25_products_of_octets).prog 18) (kwd := []) L2.Pv.T.ob_eq
    (by kernel_rfl) (fun s => by kernel_rfl) L2.Pv.T.run (by kernel_rfl) (by kernel_rfl) (by kernel_rfl) (by rfl) (by first | assumption | decide +kernel) (by decide +kernel) ⟨rfl, rfl, rfl, rfl, rfl, by decide +kernel⟩ ?hw ?hc
  case hw => w_witness2
  case hc =>
    exact L2.Pv.law_end (l := PySem.Challenge.rw_archivewright_k25_products_of_octets) (k := 5) (st := L2.Pv.T.s_law) (Fn := L2.Pv.T.F_law) (jd := 9) (jg := 25) rfl rfl (by kernel_rfl) ⟨rfl, by decide, by decide⟩ rfl rfl (fun _ _ _ _ _ _ us hl => match us, hl with | [_], _ => rfl)
      (fun w K mg h X G c f fd F0 base h1 h2 => L2.Pv.fn_ok F0 L2.Pv.T.sc_law fun cdv A outer s H E hr => L2.Pv.T.body_law (L2.Pv.T.base_of X G c) f cdv A outer s H E hr) L2.Pv.T.law_true
