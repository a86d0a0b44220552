import PyProof.Rows.All
import Wide.All
import OpenK.AllK
import Wide.FinOn
import KE.KStateDown
import HandS.ForMost
import HandS.Exc
import HandS.ExcOwn
import HandS.TryMany
import HandS.ExcInit
import HandS.ExcField
import HandS.Flow
import HandS.Style
import HandS.Wide
import HandS.WideBits
import HandS.Gcd
import HandS.IsInst
import HandS.DeepEq
import HandS.Deep
import HandS.Zip
import HandS.TupAny
import HandS.TupLe
import HandS.Conv
import HandS.NestedK
import HandS.Defaults
import HandS.CallRecv
import HandS.EndTab
import HandS.Head0
import HandS.Head1
import HandS.Head2
import HandS.HeadEnd
import HandS.HeadHook1
import HandS.HeadHook2
import HandS.HeadHook3
import HandS.HeadHook4
import HandS.HeadWalk
import HandS.Head3
import PySem.Challenge.RW_cutmoves_k12_turns_and_straight_ways
set_option Elab.async false
set_option linter.all false
set_option maxRecDepth 100000
set_option maxHeartbeats 0
/-! A language of my own over the hand layer: values, store, results, and how they stand for the layer's. -/
namespace Cv
open L2 PySem PySem.Spec PyProof.Rows

inductive PV where
  | non | bl (b : Bool) | int (i : Int) | str (x : Str) | ty (n : String)
  | tup (xs : List PV) | fls (xs : List PV) | loc (n : Nat) | gl (x : Str) | clo (n : Nat)
  deriving Inhabited

/-- what is fixed through a run: the written part, the module's names, the closures' addresses -/
structure Gc where
  K : PySem.W.Frag
  mg : Str → Option Value
  cl : List Addr
  cells : List (Str × Addr) := []
  cap : List (Str × PV × V) := []
  tabs : List (Addr × Str) := []

/-- a list that is read alone -/
def Fz (K : PySem.W.Frag) (H : Hp) (a : Addr) (vs : List V) : Prop :=
  (∃ o, H a = some (.frz o (.lst vs))) ∨ ∃ (o : Obj) (its : Array Value) (n : Nat),
    K.lookup a = some o ∧ o.cls = .type "list" ∧ o.dict = none ∧ o.data = .seq its n ∧ its.size ≤ sizeLine ∧ Vals vs its.toList
theorem Fz.sq {K : PySem.W.Frag} {H : Hp} {a : Addr} {vs : List V} (h : Fz K H a vs) : SqL K H a vs := by
  rcases h with ⟨o, h⟩ | h
  · exact .inl (.inr ⟨o, h⟩)
  · exact .inr h
/-- a tuple -/
def Tp (K : PySem.W.Frag) (H : Hp) (a : Addr) (vs : List V) : Prop :=
  H a = some (.tup vs) ∨ ∃ (o : Obj) (its : Array Value) (n : Nat), K.lookup a = some o ∧ o.cls = .type "tuple" ∧ o.data = .seq its n ∧ its.size ≤ sizeLine ∧ Vals vs its.toList
theorem Tp.sq {K : PySem.W.Frag} {H : Hp} {a : Addr} {vs : List V} (h : Tp K H a vs) : SqT K H a vs := by
  rcases h with h | h
  · exact .inl (.inl h)
  · exact .inr h
mutual
inductive RV (G : Gc) (ρ : List Addr) (H : Hp) : PV → V → Prop
  | non : RV G ρ H .non .non
  | bl (b : Bool) : RV G ρ H (.bl b) (.bl b)
  | int (i : Int) : RV G ρ H (.int i) (.int i)
  | str (x : Str) : RV G ρ H (.str x) (.str x)
  | ty (n : String) : RV G ρ H (.ty n) (.ty n)
  | tup {a : Addr} {xs : List PV} {vs : List V} : Tp G.K H a vs → RVs G ρ H xs vs → RV G ρ H (.tup xs) (.ref a)
  | fls {a : Addr} {xs : List PV} {vs : List V} : Fz G.K H a vs → RVs G ρ H xs vs → RV G ρ H (.fls xs) (.ref a)
  | loc {n : Nat} {a : Addr} : ρ[n]? = some a → RV G ρ H (.loc n) (.ref a)
  | gl {x : Str} {a : Addr} : G.mg x = some (.ref a) → RV G ρ H (.gl x) (.ref a)
  | clo {n : Nat} {a : Addr} : G.cl[n]? = some a → RV G ρ H (.clo n) (.ref a)
inductive RVs (G : Gc) (ρ : List Addr) (H : Hp) : List PV → List V → Prop
  | nil : RVs G ρ H [] []
  | cons {p : PV} {v : V} {ps : List PV} {vs : List V} : RV G ρ H p v → RVs G ρ H ps vs → RVs G ρ H (p :: ps) (v :: vs)
end

/-- what stands in the store -/
inductive SO where
  | lst (xs : List PV) | dct (ks : List (Key × PV)) | ins (c : Str) (fs : List (Str × PV)) | clo (q : Str) (pr : Arguments) (e : Expr) (sc : Scope)
  deriving Inhabited
abbrev Sto := List SO
abbrev Env' := List (Option PV)

/-- a function of a lambda at a, its code object at c' -/
def LamO (a c' : Addr) (q : Str) (pr : Arguments) (e : Expr) (sc : Scope) (clo : List (Str × Addr)) : HO := .ext fun h => ∃ pm ctv : Value, h.get? a = some (PySem.W.kla_obj "<lambda>" q pr e sc clo pm c' ctv)
section
variable (G : Gc) (ρ : List Addr) (H : Hp)
abbrev RKs : List (Key × PV) → List (Key × V) → Prop := Paired fun p q => p.1 = q.1 ∧ RV G ρ H p.2 q.2
abbrev RFs : List (Str × PV) → List (Str × V) → Prop := Paired fun p q => p.1 = q.1 ∧ RV G ρ H p.2 q.2
def SOk (a : Addr) : SO → Prop
  | .lst xs => ∃ vs, H a = some (.lst vs) ∧ RVs G ρ H xs vs
  | .dct ks => ∃ vs, H a = some (.dK vs) ∧ RKs G ρ H ks vs
  | .ins c fs => ∃ C dx gs, G.mg c = some (.ref C) ∧ H a = some (.ins C dx gs) ∧ RFs G ρ H fs gs
  | .clo q pr e sc => ∃ c', H a = some (LamO a c' q pr e sc (cloFrom G.cells sc.names [])) ∧ H c' = some (LamX.CodeO c' q) ∧ c' ∉ ρ
structure StOk (st : Sto) : Prop where
  len : ρ.length = st.length
  nd : ρ.Nodup
  at_ : ∀ (n : Nat) (o : SO) (a : Addr), st[n]? = some o → ρ[n]? = some a → SOk G ρ H a o
  cap : ∀ z ∈ G.cap, RV G ρ H z.2.1 z.2.2
  tbs : ∀ z ∈ G.tabs, LamX.TabS H z.1 z.2
end
/-- how the abstract heap may go on -/
structure Step (ρ : List Addr) (H : Hp) (ρ' : List Addr) (H' : Hp) : Prop where
  pre : ρ <+: ρ'
  keep : ∀ a o, H a = some o → a ∉ ρ → (∀ ps, o ≠ .tbl ps) → H' a = some o
  tup : ∀ a vs, H a = some (.tup vs) → H' a = some (.tup vs)
  frz : ∀ a o u, H a = some (.frz o u) → H' a = some (.frz o u)
  tbl : ∀ a ps, H a = some (.tbl ps) → ∃ more, H' a = some (.tbl (ps ++ more))
  fresh : ∀ a, a ∈ ρ' → a ∉ ρ → H a = none

section
variable {G : Gc} {ρ ρ' ρ₂ : List Addr} {H H' H₂ : Hp}
theorem Step.refl : Step ρ H ρ H :=
  ⟨List.prefix_refl _, fun _ _ h _ _ => h, fun _ _ h => h, fun _ _ _ h => h, fun _ ps h => ⟨#[], by simpa using h⟩, fun _ h n => absurd h n⟩
theorem Step.none_of (s : Step ρ H ρ' H') {a : Addr} (n : a ∉ ρ) (h : H' a = none) : H a = none := by
  cases e : H a with
  | none => rfl
  | some o =>
    exfalso
    by_cases z : ∃ ps, o = .tbl ps
    · obtain ⟨ps, rfl⟩ := z
      obtain ⟨m, q⟩ := s.tbl a ps e
      rw [h] at q; cases q
    · have := s.keep a o e n (fun ps q => z ⟨ps, q⟩)
      rw [h] at this; cases this
theorem Step.trans (s : Step ρ H ρ' H') (t : Step ρ' H' ρ₂ H₂) : Step ρ H ρ₂ H₂ := by
  refine ⟨s.pre.trans t.pre, fun a o h n nt => ?_, fun a vs h => t.tup _ _ (s.tup _ _ h), fun a o u h => t.frz _ _ _ (s.frz _ _ _ h), fun a ps h => ?_, fun a m n => ?_⟩
  · refine t.keep a o (s.keep a o h n nt) (fun m => ?_) nt
    have := s.fresh a m n
    rw [h] at this; cases this
  · obtain ⟨m, h1⟩ := s.tbl _ _ h
    obtain ⟨m', h2⟩ := t.tbl _ _ h1
    exact ⟨m ++ m', by rw [h2, Array.append_assoc]⟩
  · by_cases m' : a ∈ ρ'
    · exact s.fresh a m' n
    · exact s.none_of n (t.fresh a m m')
theorem Step.tp (s : Step ρ H ρ' H') {K : PySem.W.Frag} {a : Addr} {vs : List V} (h : Tp K H a vs) : Tp K H' a vs := by
  rcases h with h | h
  · exact .inl (s.tup _ _ h)
  · exact .inr h
theorem Step.fz (s : Step ρ H ρ' H') {K : PySem.W.Frag} {a : Addr} {vs : List V} (h : Fz K H a vs) : Fz K H' a vs := by
  rcases h with ⟨o, h⟩ | h
  · exact .inl ⟨o, s.frz _ _ _ h⟩
  · exact .inr h
theorem Step.at_ (s : Step ρ H ρ' H') {n : Nat} {a : Addr} (h : ρ[n]? = some a) : ρ'[n]? = some a := by
  obtain ⟨t, rfl⟩ := s.pre
  rw [List.getElem?_append_left (List.getElem?_eq_some_iff.mp h).1]
  exact h
mutual
theorem RV.step (s : Step ρ H ρ' H') : ∀ {p : PV} {v : V}, RV G ρ H p v → RV G ρ' H' p v
  | _, _, .non => .non
  | _, _, .bl b => .bl b
  | _, _, .int b => .int b
  | _, _, .str b => .str b
  | _, _, .ty b => .ty b
  | _, _, .tup h r => .tup (s.tp h) (RVs.step s r)
  | _, _, .fls h r => .fls (s.fz h) (RVs.step s r)
  | _, _, .loc h => .loc (s.at_ h)
  | _, _, .gl h => .gl h
  | _, _, .clo h => .clo h
theorem RVs.step (s : Step ρ H ρ' H') : ∀ {p : List PV} {v : List V}, RVs G ρ H p v → RVs G ρ' H' p v
  | _, _, .nil => .nil
  | _, _, .cons h r => .cons (RV.step s h) (RVs.step s r)
end
theorem RVs.length : ∀ {p : List PV} {v : List V}, RVs G ρ H p v → p.length = v.length
  | _, _, .nil => rfl
  | _, _, .cons _ r => by simp [RVs.length r]
theorem RVs.get : ∀ {p : List PV} {v : List V} {i : Nat} {x : PV}, RVs G ρ H p v → p[i]? = some x → ∃ y, v[i]? = some y ∧ RV G ρ H x y
  | _, _, _, _, .nil, e =>
        by simp at e
  | _, _, 0, _, .cons h _, e => by simp at e; subst e; exact ⟨_, rfl, h⟩
  | _, _, i + 1, x, .cons _ t, e =>
        by
    obtain ⟨u, h1, h2⟩ := RVs.get (i := i) (x := x) t (by simpa using e)
    exact ⟨u,
          by simpa using h1, h2⟩
theorem RVs.get' : ∀ {p : List PV} {v : List V} {i : Nat} {y : V}, RVs G ρ H p v → v[i]? = some y → ∃ x, p[i]? = some x ∧ RV G ρ H x y
  | _, _, _, _, .nil, e =>
        by simp at e
  | _, _, 0, _, .cons h _, e => by simp at e; subst e; exact ⟨_, rfl, h⟩
  | _, _, i + 1, x, .cons _ t, e =>
        by
    obtain ⟨u, h1, h2⟩ := RVs.get' (i := i) (y := x) t (by simpa using e)
    exact ⟨u,
          by simpa using h1, h2⟩
theorem RVs.append : ∀ {p p' : List PV} {v v' : List V}, RVs G ρ H p v → RVs G ρ H p' v' → RVs G ρ H (p ++ p') (v ++ v')
  | _, _, _, _, .nil, s => s
  | _, _, _, _, .cons r t, s => .cons r (RVs.append t s)
theorem RVs.drop : ∀ {p : List PV} {v : List V} (n : Nat), RVs G ρ H p v → RVs G ρ H (p.drop n) (v.drop n)
  | _, _, 0, r => r
  | _, _, _ + 1, .nil => .nil
  | _, _, n + 1, .cons _ t => RVs.drop n t
theorem RVs.take : ∀ {p : List PV} {v : List V} (n : Nat), RVs G ρ H p v → RVs G ρ H (p.take n) (v.take n)
  | _, _, 0, _ => .nil
  | _, _, _ + 1, .nil => .nil
  | _, _, n + 1, .cons r t => .cons r (RVs.take n t)
theorem RKs.step (s : Step ρ H ρ' H') {p : List (Key × PV)} {v : List (Key × V)} (h : RKs G ρ H p v) : RKs G ρ' H' p v :=
  Paired.mapP h fun _ _ z => ⟨z.1, z.2.step s⟩
theorem RFs.step (s : Step ρ H ρ' H') {p : List (Str × PV)} {v : List (Str × V)} (h : RFs G ρ H p v) : RFs G ρ' H' p v :=
  Paired.mapP h fun _ _ z => ⟨z.1, z.2.step s⟩
end

/-! ### results -/
inductive Res (α : Type) where
  | ok (a : α) (st : Sto) | exn (c : Str) (fs : List (Str × PV)) (st : Sto) | stuck
def Res.bind {α β : Type} (r : Res α) (f : α → Sto → Res β) : Res β := match r with
  | .ok a st => f a st
  | .exn c fs st => .exn c fs st
  | .stuck => .stuck
@[simp] theorem Res.ok_bind {α β : Type} (a : α) (st : Sto) (f : α → Sto → Res β) : (Res.ok a st).bind f = f a st := rfl
@[simp] theorem Res.exn_bind {α β : Type} (c fs) (st : Sto) (f : α → Sto → Res β) : (Res.exn c fs st).bind f = .exn c fs st := rfl
@[simp] theorem Res.stuck_bind {α β : Type} (f : α → Sto → Res β) : Res.bind .stuck f = .stuck := rfl

/-- the end of a run: from ρ, H on -/
def Out {α : Type} (G : Gc) (r : Res α) (ρ : List Addr) (H : Hp) (P : α → List Addr → Hp → Prop) (E : Str → List (Str × PV) → List Addr → Hp → Prop) : Prop := match r with
  | .ok a st => ∀ ρ' H', Step ρ H ρ' H' → StOk G ρ' H' st → P a ρ' H'
  | .exn c fs st => ∀ ρ' H', Step ρ H ρ' H' → StOk G ρ' H' st → E c fs ρ' H'
  | .stuck => False
section
variable {α β : Type} {G : Gc} {ρ ρ' : List Addr} {H H' : Hp} {P : α → List Addr → Hp → Prop} {Q : β → List Addr → Hp → Prop} {E E' : Str → List (Str × PV) → List Addr → Hp → Prop} {r : Res α}
theorem Out.later (h : Out G r ρ H P E) (s : Step ρ H ρ' H') : Out G r ρ' H' P E := by
  cases r with
  | ok a st => exact fun ρ2 H2 t o => h ρ2 H2 (s.trans t) o
  | exn c fs st => exact fun ρ2 H2 t o => h ρ2 H2 (s.trans t) o
  | stuck => exact h
theorem Out.bind {f : α → Sto → Res β} (h : Out G (r.bind f) ρ H Q E)
    (k : ∀ a st ρ' H', r = .ok a st → Step ρ H ρ' H' → StOk G ρ' H' st → Out G (f a st) ρ' H' Q E → P a ρ' H') : Out G r ρ H P E := by
  cases r with
  | ok a st => exact fun ρ2 H2 t o => k a st ρ2 H2 rfl t o (Out.later (r := f a st) h t)
  | exn c fs st => exact h
  | stuck => exact h
theorem Out.mono (h : Out G r ρ H P E) (hP : ∀ a ρ' H', P a ρ' H' → (P' : α → List Addr → Hp → Prop) a ρ' H') (hE : ∀ c fs ρ' H', E c fs ρ' H' → E' c fs ρ' H') : Out G r ρ H P' E' := by
  cases r with
  | ok a st => exact fun ρ2 H2 t o => hP _ _ _ (h ρ2 H2 t o)
  | exn c fs st => exact fun ρ2 H2 t o => hE _ _ _ _ (h ρ2 H2 t o)
  | stuck => exact h
end
/-- slots -/
structure REn (G : Gc) (ρ : List Addr) (H : Hp) (η : Env') (σ : L2.St) : Prop where
  len : η.length = σ.length
  at_ : ∀ (i : Nat) (p : PV), η[i]? = some (some p) → ∃ v, σ[i]? = some (some v) ∧ RV G ρ H p v
theorem REn.step {G : Gc} {ρ ρ' : List Addr} {H H' : Hp} {η : Env'} {σ : L2.St} (r : REn G ρ H η σ) (s : Step ρ H ρ' H') : REn G ρ' H' η σ :=
  ⟨r.len, fun i p e => let ⟨v, h1, h2⟩ := r.at_ i p e; ⟨v, h1, h2.step s⟩⟩
theorem REn.set {G : Gc} {ρ : List Addr} {H : Hp} {η : Env'} {σ : L2.St} (r : REn G ρ H η σ) (i : Nat) {p : PV} {v : V} (h : RV G ρ H p v) : REn G ρ H (η.set i (some p)) (σ.set i (some v)) := by
  refine ⟨by simpa using r.len, fun j q e => ?_⟩
  by_cases hj : i = j
  · subst hj
    rw [List.getElem?_set] at e ⊢
    simp only [if_true] at e ⊢
    by_cases hl : i < η.length
    · rw [if_pos hl] at e
      cases e
      rw [if_pos (by rw [← r.len]; exact hl)]
      exact ⟨v, rfl, h⟩
    · rw [if_neg hl] at e; cases e
  · rw [List.getElem?_set_ne hj] at e ⊢
    exact r.at_ j q e

/-- what is wanted of an exception -/
def XW (G : Gc) (W : WX) (σ : L2.St) : Str → List (Str × PV) → List Addr → Hp → Prop := fun c fs ρ H =>
  ∀ (C d : Addr) (gs : List (Str × V)), G.mg c = some (.ref C) → H d = some (.xd gs) → RFs G ρ H fs gs → W (.ref C) (some d) σ H
abbrev Ev (α : Type) := Env' → Sto → Res α
/-- the readings that runs of mine give -/
def tE (G : Gc) (m : Ev PV) (W : WX) : TE := fun σ H Q => ∃ ρ η st, StOk G ρ H st ∧ REn G ρ H η σ ∧ Out G (m η st) ρ H (fun p ρ' H' => ∀ v, RV G ρ' H' p v → Q v H') (XW G W σ)
def tEs (G : Gc) (m : Ev (List PV)) (W : WX) : TA := fun σ H Q => ∃ ρ η st, StOk G ρ H st ∧ REn G ρ H η σ ∧ Out G (m η st) ρ H (fun p ρ' H' => ∀ v, RVs G ρ' H' p v → Q v H') (XW G W σ)
def tT (G : Gc) (m : Ev Bool) (W : WX) : TT := fun σ H Q => ∃ ρ η st, StOk G ρ H st ∧ REn G ρ H η σ ∧ Out G (m η st) ρ H (fun b _ H' => Q b H') (XW G W σ)

/-- weaker readings -/
theorem pe_weak {X : Cx} {e : Expr} {t t' : TE} (h : PE X e t') (w : ∀ σ H Q, t σ H Q → t' σ H Q) : PE X e t := ⟨fun pins s σ H Q I q => h.run pins s σ H Q I (w _ _ _ q)⟩
theorem pt_weak {X : Cx} {e : Expr} {t t' : TT} (h : PT X e t') (w : ∀ σ H Q, t σ H Q → t' σ H Q) : PT X e t := ⟨fun pins s σ H Q I q => h.run pins s σ H Q I (w _ _ _ q)⟩
theorem pa_weak {X : Cx} {e : List Expr} {t t' : TA} (h : PA X e t') (w : ∀ σ H Q, t σ H Q → t' σ H Q) : PA X e t := ⟨fun pos pins s σ H Q I q => h.run pos pins s σ H Q I (w _ _ _ q)⟩
theorem ps_weak {X : Cx} {e : Stmt} {t t' : TS} (h : PS X e t') (w : ∀ D σ H, t D σ H → t' D σ H) : PS X e t := ⟨fun pins s σ H D I q => h.run pins s σ H D I (w _ _ _ q)⟩
theorem pss_weak {X : Cx} {e : List Stmt} {t t' : TS} (h : PSs X e t') (w : ∀ D σ H, t D σ H → t' D σ H) : PSs X e t := ⟨fun pins s σ H D I q => h.run pins s σ H D I (w _ _ _ q)⟩
end Cv
namespace Cv
open L2 PySem PySem.Spec PyProof.Rows

/-- the greatest length of a row that runs of mine make -/
def LIM : Nat := 1000000
theorem lim_line {n : Nat} (h : n ≤ LIM) : n ≤ sizeLine := by
  rw [sizeLine_eq]
  exact Nat.le_trans h (by decide)
theorem lim_line' {n : Nat} (h : n < LIM) : n < sizeLine := by
  rw [sizeLine_eq]
  exact Nat.lt_of_lt_of_le h (by decide)

section
variable {G : Gc} {ρ ρ' : List Addr} {H H' : Hp} {st : Sto}
/-- all that holds of a store holds later, where its own objects stay as they are -/
theorem SOk.step {a : Addr} {o : SO} (s : Step ρ H ρ' H') (e : H' a = H a ∨ ∀ x, H a = some x → H' a = some x) (h : SOk G ρ H a o) : SOk G ρ' H' a o := by
  have k : ∀ x, H a = some x → H' a = some x := fun x q => e.elim (fun z => z.trans q) fun z => z x q
  cases o with
  | lst xs => obtain ⟨vs, h1, h2⟩ := h; exact ⟨vs, k _ h1, h2.step s⟩
  | dct ks => obtain ⟨vs, h1, h2⟩ := h; exact ⟨vs, k _ h1, h2.step s⟩
  | ins c fs => obtain ⟨C, dx, gs, h0, h1, h2⟩ := h; exact ⟨C, dx, gs, h0, k _ h1, h2.step s⟩
  | clo q pr e sc =>
    obtain ⟨c', h1, h2, h3⟩ := h
    refine ⟨c', k _ h1, s.keep c' _ h2 h3 fun ps => LamX.codeO_ne ps, fun m => ?_⟩
    have := s.fresh c' m h3
    rw [h2] at this; cases this
theorem StOk.get (o : StOk G ρ H st) {n : Nat} {x : SO} (e : st[n]? = some x) : ∃ a, ρ[n]? = some a ∧ SOk G ρ H a x := by
  have h1 := (List.getElem?_eq_some_iff.mp e).1
  have h2 : n < ρ.length := by rw [o.len]; exact h1
  exact ⟨ρ[n], List.getElem?_eq_getElem h2, o.at_ n x _ e (List.getElem?_eq_getElem h2)⟩
/-- a new thing that is no store object of mine: a tuple -/
theorem step_new {p : Addr} {o : HO} (hp : H p = none) (ot : ∀ b ps, b ≠ p → H b = some (.tbl ps) → upd H p o b = some (.tbl ps) := fun _ _ hb h => by rw [upd_ne hb]; exact h) : Step ρ H ρ (upd H p o) := by
  have ne : ∀ {b : Addr} {x : HO}, H b = some x → b ≠ p := fun h => ne_of_none h hp
  exact ⟨List.prefix_refl _, fun a x h _ _ => by rw [upd_ne (ne h)]; exact h, fun a vs h => by rw [upd_ne (ne h)]; exact h, fun a x u h => by rw [upd_ne (ne h)]; exact h,
    fun a ps h => ⟨#[], by rw [upd_ne (ne h)]; simpa using h⟩, fun a m n => absurd m n⟩
theorem StOk.new_other (o : StOk G ρ H st) {p : Addr} {x : HO} (hp : H p = none) : StOk G ρ (upd H p x) st := by
  have s : Step ρ H ρ (upd H p x) := step_new hp
  refine ⟨o.len, o.nd, fun n y a e1 e2 => ?_, fun z hz => (o.cap z hz).step s, fun z hz => (o.tbs z hz).ext fun b x h => by rw [upd_ne (ne_of_none h hp)]; exact h⟩
  exact (o.at_ n y a e1 e2).step s (.inr fun z q => by rw [upd_ne (ne_of_none q hp)]; exact q)
/-- a new object of mine -/
theorem step_push {p : Addr} {o : HO} (hp : H p = none) : Step ρ H (ρ ++ [p]) (upd H p o) := by
  have ne : ∀ {b : Addr} {x : HO}, H b = some x → b ≠ p := fun h => ne_of_none h hp
  refine ⟨List.prefix_append _ _, fun a x h _ _ => by rw [upd_ne (ne h)]; exact h, fun a vs h => by rw [upd_ne (ne h)]; exact h, fun a x u h => by rw [upd_ne (ne h)]; exact h,
    fun a ps h => ⟨#[], by rw [upd_ne (ne h)]; simpa using h⟩, fun a m n => ?_⟩
  rcases List.mem_append.mp m with m | m
  · exact absurd m n
  · rw [List.mem_singleton.mp m]; exact hp
theorem SOk.there {a : Addr} {o : SO} (h : SOk G ρ H a o) : ∃ x, H a = some x := by
  cases o with
  | lst xs => obtain ⟨vs, h1, _⟩ := h; exact ⟨_, h1⟩
  | dct xs => obtain ⟨vs, h1, _⟩ := h; exact ⟨_, h1⟩
  | ins c fs => obtain ⟨_, _, _, _, h1, _⟩ := h; exact ⟨_, h1⟩
  | clo q pr e sc => obtain ⟨_, h1, _⟩ := h; exact ⟨_, h1⟩
theorem StOk.notIn (o : StOk G ρ H st) {p : Addr} (hp : H p = none) : p ∉ ρ := fun m => by
  obtain ⟨n, hn, e⟩ := List.getElem_of_mem m
  have h2 : n < st.length := by rw [← o.len]; exact hn
  obtain ⟨x, q⟩ := (o.at_ n st[n] p (List.getElem?_eq_getElem h2) (by rw [List.getElem?_eq_getElem hn, e])).there
  rw [hp] at q; cases q
theorem StOk.push (o : StOk G ρ H st) {p : Addr} {x : HO} {y : SO} (hp : H p = none) (h : SOk G (ρ ++ [p]) (upd H p x) p y) : StOk G (ρ ++ [p]) (upd H p x) (st ++ [y]) := by
  have s : Step ρ H (ρ ++ [p]) (upd H p x) := step_push hp
  refine ⟨by simp [o.len], List.nodup_append.mpr ⟨o.nd, by simp, fun a ha b hb => ?_⟩, fun n z a e1 e2 => ?_, fun z hz => (o.cap z hz).step s, fun z hz => (o.tbs z hz).ext fun b x h => by rw [upd_ne (ne_of_none h hp)]; exact h⟩
  · rw [List.mem_singleton.mp hb]; rintro rfl; exact o.notIn hp ha
  · by_cases hlt : n < st.length
    · rw [List.getElem?_append_left hlt] at e1
      rw [List.getElem?_append_left (by rw [o.len]; exact hlt)] at e2
      exact (o.at_ n z a e1 e2).step s (.inr fun w q => by rw [upd_ne (ne_of_none q hp)]; exact q)
    · have hn' : n = st.length := by
        have := (List.getElem?_eq_some_iff.mp e1).1
        simp at this; omega
      subst hn'
      simp at e1
      rw [← o.len] at e2
      simp at e2
      subst e1 e2
      exact h
end

/-! ### operations on values -/
inductive Bop where | add | sub | mul | fdiv | mod | pow
  deriving DecidableEq
def Bop.op : Bop → Operator
  | .add => .Add | .sub => .Sub | .mul => .Mult | .fdiv => .FloorDiv | .mod => .Mod | .pow => .Pow
def ckMul (i j : Int) : Bool := decide (i.natAbs.log2 + j.natAbs.log2 < 1000000)
def ckDiv (j : Int) : Bool := decide (0 < j ∧ j.natAbs.log2 < 9000)
def ckDivN (j : Int) : Bool := decide (j ≠ 0 ∧ j.natAbs < 1073741824)
def ckPow (i j : Int) : Bool := decide (0 ≤ j ∧ j ≤ 1000000 ∧ i.natAbs < 2 ^ 64)
def binOp : Bop → PV → PV → Sto → Res PV
  | .add, .int i, .int j, st => .ok (.int (i + j)) st
  | .add, .tup xs, .tup ys, st => if xs.length + ys.length ≤ LIM then .ok (.tup (xs ++ ys)) st else .stuck
  | .add, .str x, .str y, st => if x.length + y.length ≤ LIM then .ok (.str (x ++ y)) st else .stuck
  | .add, .loc m, .loc n, st => match st[m]?, st[n]? with
    | some (.lst xs), some (.lst ys) => if xs.length + ys.length ≤ LIM then .ok (.loc st.length) (st ++ [.lst (xs ++ ys)]) else .stuck
    | _, _ => .stuck
  | .sub, .int i, .int j, st => .ok (.int (i - j)) st
  | .sub, .bl i, .bl j, st => .ok (.int (b2i i - b2i j)) st
  | .mul, .int i, .int j, st => if ckMul i j then .ok (.int (i * j)) st else .stuck
  | .fdiv, .int i, .int j, st => if ckDiv j then .ok (.int (i / j)) st else if ckDivN j then .ok (.int (i.fdiv j)) st else .stuck
  | .mod, .int i, .int j, st => if 0 < j then .ok (.int (i % j)) st else .stuck
  | .pow, .int i, .int j, st => if ckPow i j then .ok (.int (i ^ j.toNat)) st else .stuck
  | _, _, _, _ => .stuck

/-- two parts, one behind the other, then f -/
def two (ma mb : Ev PV) (f : PV → PV → Sto → Res PV) : Ev PV := fun η st => (ma η st).bind fun x st => (mb η st).bind fun y st => f x y st
def one (ma : Ev PV) (f : PV → Sto → Res PV) : Ev PV := fun η st => (ma η st).bind fun x st => f x st
section
variable {X : Cx} {G : Gc} {W : WX} {a b : Expr} {ma mb : Ev PV} {pos : Pos}
abbrev VP (G : Gc) (Q : VK) : PV → List Addr → Hp → Prop := fun p ρ H => ∀ v, RV G ρ H p v → Q v H
/-- r, by values, does what f does -/
def RunsBy (G : Gc) (r : R2) (f : PV → PV → Sto → Res PV) : Prop :=
  ∀ (ρ : List Addr) (H : Hp) (st : Sto) (x y : PV) (v u : V) (Q : VK) (E : Str → List (Str × PV) → List Addr → Hp → Prop), StOk G ρ H st → RV G ρ H x v → RV G ρ H y u → Out G (f x y st) ρ H (VP G Q) E → r v u H Q
theorem two_of {r : R2} {f : PV → PV → Sto → Res PV} (hr : RunsBy G r f) : ∀ σ H Q, tE G (two ma mb f) W σ H Q → tOp r (tE G ma W) (tE G mb W) σ H Q := by
  rintro σ H Q ⟨ρ, η, st, so, re, h⟩
  refine ⟨ρ, η, st, so, re, Out.bind h fun x st1 ρ1 H1 _ s1 o1 h1 => fun v rv => ⟨ρ1, η, st1, o1, re.step s1, Out.bind h1 fun y st2 ρ2 H2 _ s2 o2 h2 => fun u ru => ?_⟩⟩
  exact hr ρ2 H2 st2 x y v u Q _ o2 (rv.step s2) ru h2
theorem me_two {op : Operator} {r : R2} {f : PV → PV → Sto → Res PV} (ho : OpR X (binaryOp op) r) (hr : RunsBy G r f) (ha : PE X a (tE G ma W)) (hb : PE X b (tE G mb W)) : PE X (.BinOp a op b pos) (tE G (two ma mb f) W) :=
  pe_weak (pe_op ho ha hb) (two_of hr)

/-- several rules for one operator -/
def anyR (rs : List R2) : R2 := fun x y H Q => ∃ r ∈ rs, r x y H Q
theorem op_any {f : Value → Value → Sem Value} : ∀ {rs : List R2}, (∀ r ∈ rs, OpR X f r) → OpR X f (anyR rs)
  | rs, h => fun pins s σ H x y v u Q I rx ry ⟨r, m, q⟩ => h r m pins s σ H x y v u Q I rx ry q

def rAdd (K : PySem.W.Frag) : R2 := anyR [rI0 fun i j => .int (i + j), rCatA K, fun x y H Q => ∃ i j, x = .str i ∧ y = .str j ∧ i.length + j.length ≤ sizeLine ∧ Q (.str (i ++ j)) H, rCat]
theorem opr_add : OpR X (binaryOp .Add) (rAdd X.K) := op_any fun r m => by
  simp only [List.mem_cons, List.not_mem_nil, or_false] at m
  rcases m with rfl | rfl | rfl | rfl
  · exact op_add
  · exact op_catA
  · exact op_add_str
  · exact op_cat
theorem fin_ok {ρ : List Addr} {H : Hp} {st : Sto} {p : PV} {v : V} {Q : VK} {E : Str → List (Str × PV) → List Addr → Hp → Prop} (so : StOk G ρ H st) (h : Out G (.ok p st) ρ H (VP G Q) E) (r : RV G ρ H p v) : Q v H := h ρ H .refl so v r
theorem RV.ref {ρ : List Addr} {H : Hp} {n : Nat} {v : V} (h : RV G ρ H (.loc n) v) : ∃ a, v = .ref a ∧ ρ[n]? = some a := by cases h with | loc h => exact ⟨_, rfl, h⟩
/-- the object of a name in the store -/
theorem StOk.loc {ρ : List Addr} {H : Hp} {st : Sto} {n : Nat} {v : V} {o : SO} (so : StOk G ρ H st) (h : RV G ρ H (.loc n) v) (e : st[n]? = some o) : ∃ a, v = .ref a ∧ ρ[n]? = some a ∧ SOk G ρ H a o := by
  obtain ⟨a, rfl, h1⟩ := h.ref
  exact ⟨a, rfl, h1, so.at_ n o a e h1⟩
end
end Cv
namespace Cv
open L2 PySem PySem.Spec PyProof.Rows

section
variable {X : Cx} {G : Gc} {W : WX} {a b : Expr} {ma mb : Ev PV} {pos : Pos}
theorem ite_stuck {α : Type} {G : Gc} {c : Prop} [Decidable c] {r : Res α} {ρ : List Addr} {H : Hp} {P : α → List Addr → Hp → Prop} {E : Str → List (Str × PV) → List Addr → Hp → Prop} (h : Out G (if c then r else .stuck) ρ H P E) : c ∧ Out G r ρ H P E := by
  by_cases q : c
  · rw [if_pos q] at h; exact ⟨q, h⟩
  · rw [if_neg q] at h; exact h.elim
theorem ck_mul {i j : Int} (h : ckMul i j = true) : CMulW i j := @of_decide_eq_true (i.natAbs.log2 + j.natAbs.log2 < 1000000) _ h
theorem ck_div {i j : Int} (h : ckDiv j = true) : CDivW i j := @of_decide_eq_true (0 < j ∧ j.natAbs.log2 < 9000) _ h
theorem ck_divN {i j : Int} (h : ckDivN j = true) : CDivN i j := @of_decide_eq_true (j ≠ 0 ∧ j.natAbs < 1073741824) _ h
theorem ck_pow {i j : Int} (h : ckPow i j = true) : CPow i j := @of_decide_eq_true (0 ≤ j ∧ j ≤ 1000000 ∧ i.natAbs < 2 ^ 64) _ h
theorem runs_add : RunsBy G (rAdd G.K) (binOp .add) := by
  intro ρ H st x y v u Q E so rx ry h
  cases x with
  | int i => cases y with
    | int j =>
      cases rx; cases ry
      exact ⟨_, List.mem_cons_self, i, j, rfl, rfl, fin_ok so h (.int _)⟩
    | _ => exact h.elim
  | str i => cases y with
    | str j =>
      cases rx; cases ry
      obtain ⟨hz, h⟩ := ite_stuck h
      exact ⟨_, List.mem_cons_of_mem _ (List.mem_cons_of_mem _ List.mem_cons_self), i, j, rfl, rfl, lim_line hz, fin_ok so h (.str _)⟩
    | _ => exact h.elim
  | tup xs => cases y with
    | tup ys =>
      cases rx with
      | tup h1 r1 =>
      cases ry with
      | tup h2 r2 =>
      obtain ⟨hz, h⟩ := ite_stuck h
      refine ⟨_, List.mem_cons_of_mem _ List.mem_cons_self, _, _, _, _, rfl, rfl, h1.sq, h2.sq, by rw [← r1.length, ← r2.length]; exact lim_line hz, fun e => ?_, fun _ e => ?_, fun _ _ p hp => ?_⟩
      · subst e; cases r1; exact fin_ok so h (.tup h2 r2)
      · subst e; cases r2; rw [List.append_nil] at h; exact fin_ok so h (.tup h1 r1)
      · exact h ρ _ (step_new hp) (so.new_other hp) _ (.tup (.inl upd_same) ((r1.append r2).step (step_new hp)))
    | _ => exact h.elim
  | loc m => cases y with
    | loc n =>
      have h : Out G (match st[m]?, st[n]? with | some (.lst xs), some (.lst ys) => if xs.length + ys.length ≤ LIM then .ok (.loc st.length) (st ++ [.lst (xs ++ ys)]) else .stuck | _, _ => .stuck) ρ H (VP G Q) E := h
      split at h
      · rename_i xs ys e1 e2
        obtain ⟨hz, h⟩ := ite_stuck h
        obtain ⟨a, rfl, _, vs, ha, r1⟩ := so.loc rx e1
        obtain ⟨b, rfl, _, us, hb, r2⟩ := so.loc ry e2
        refine ⟨_, List.mem_cons_of_mem _ (List.mem_cons_of_mem _ (List.mem_cons_of_mem _ List.mem_cons_self)), _, _, _, _, rfl, rfl, ha, hb, by rw [← r1.length, ← r2.length]; exact lim_line hz, fun p hp => ?_⟩
        refine h _ _ (step_push hp) (so.push hp ⟨_, upd_same, (r1.append r2).step (step_push hp)⟩) _ (.loc ?_)
        rw [← so.len]; simp
      · exact h.elim
    | _ => exact h.elim
  | _ => cases y <;> exact h.elim
/-- a Bool less a Bool -/
def rSubB : R2 := fun x y H Q => ∃ i k, x = .bl i ∧ y = .bl k ∧ Q (.int (b2i i - b2i k)) H
theorem op_subB : OpR X (binaryOp .Sub) rSubB := by
  intro pins s σ H x
        y v u Q I rx ry h
  obtain ⟨i, k, rfl, rfl, q⟩ :=
        h
  cases (show v = Value.bool i from rx)
  cases (show u = Value.bool k from ry)
  exact sub_bool ⟨.int (b2i i - b2i k), H, I.tok _, ⟨_, rfl⟩, q⟩
def rSub : R2 := anyR [rI0 fun i j => .int (i - j), rSubB]
theorem opr_sub : OpR X (binaryOp .Sub) rSub := op_any fun r m => by
  simp only [List.mem_cons, List.not_mem_nil, or_false] at m
  rcases m with rfl | rfl
  · exact op_sub
  · exact op_subB
theorem runs_sub : RunsBy G rSub (binOp .sub) := by
  intro ρ H st x y v u Q E so rx ry h
  cases x with
  | int i => cases y with
    | int j => cases rx; cases ry; exact ⟨_, List.mem_cons_self, i, j, rfl, rfl, fin_ok so h (.int _)⟩
    | _ => exact h.elim
  | bl i => cases y with
    | bl j => cases rx; cases ry; exact ⟨_, List.mem_cons_of_mem _ List.mem_cons_self, i, j, rfl, rfl, fin_ok so h (.int _)⟩
    | _ => exact h.elim
  | _ => cases y <;> exact h.elim
theorem runs_mul : RunsBy G (rI CMulW fun i j => .int (i * j)) (binOp .mul) := by
  intro ρ H st x y v u Q E so rx ry h
  cases x with
  | int i => cases y with
    | int j =>
      cases rx; cases ry
      obtain ⟨c, h⟩ := ite_stuck h
      exact ⟨i, j, rfl, rfl, ck_mul c, fin_ok so h (.int _)⟩
    | _ => exact h.elim
  | _ => cases y <;> exact h.elim
theorem runs_mod : RunsBy G (rI (fun _ j => 0 < j) fun i j => .int (i % j)) (binOp .mod) := by
  intro ρ H st x y v u Q E so rx ry h
  cases x with
  | int i => cases y with
    | int j =>
      cases rx; cases ry
      obtain ⟨c, h⟩ := ite_stuck h
      exact ⟨i, j, rfl, rfl, c, fin_ok so h (.int _)⟩
    | _ => exact h.elim
  | _ => cases y <;> exact h.elim
theorem runs_pow : RunsBy G (rI CPow fun i j => .int (i ^ j.toNat)) (binOp .pow) := by
  intro ρ H st x y v u Q E so rx ry h
  cases x with
  | int i => cases y with
    | int j =>
      cases rx; cases ry
      obtain ⟨c, h⟩ := ite_stuck h
      exact ⟨i, j, rfl, rfl, ck_pow c, fin_ok so h (.int _)⟩
    | _ => exact h.elim
  | _ => cases y <;> exact h.elim
def rDiv : R2 := anyR [rI CDivW fun i j => .int (i / j), rI CDivN fun i j => .int (i.fdiv j)]
theorem opr_div : OpR X (binaryOp .FloorDiv) rDiv := op_any fun r m => by
  simp only [List.mem_cons, List.not_mem_nil, or_false] at m
  rcases m with rfl | rfl
  · exact op_fdivW
  · exact op_fdivN
theorem runs_div : RunsBy G rDiv (binOp .fdiv) := by
  intro ρ H st x y v u Q E so rx ry h
  cases x with
  | int i => cases y with
    | int j =>
      cases rx; cases ry
      have h : Out G (if ckDiv j then .ok (.int (i / j)) st else if ckDivN j then .ok (.int (i.fdiv j)) st else .stuck) ρ H (VP G Q) E := h
      by_cases c : ckDiv j = true
      · rw [if_pos c] at h
        exact ⟨_, List.mem_cons_self, i, j, rfl, rfl, ck_div c, fin_ok so h (.int _)⟩
      · rw [if_neg c] at h
        obtain ⟨c, h⟩ := ite_stuck h
        exact ⟨_, List.mem_cons_of_mem _ List.mem_cons_self, i, j, rfl, rfl, ck_divN c, fin_ok so h (.int _)⟩
    | _ => exact h.elim
  | _ => cases y <;> exact h.elim
/-- a op b -/
theorem me_bin {o : Bop} {op : Operator} (e : op = o.op) (hK : X.K = G.K) (ha : PE X a (tE G ma W)) (hb : PE X b (tE G mb W)) : PE X (.BinOp a op b pos) (tE G (two ma mb (binOp o)) W) := by
  subst e
  cases o with
  | add => exact me_two (op := .Add) (by have := opr_add (X := X); rw [hK] at this; exact this) runs_add ha hb
  | sub => exact me_two (op := .Sub) opr_sub runs_sub ha hb
  | mul => exact me_two (op := .Mult) op_mulW runs_mul ha hb
  | fdiv => exact me_two (op := .FloorDiv) opr_div runs_div ha hb
  | mod => exact me_two (op := .Mod) op_mod runs_mod ha hb
  | pow => exact me_two (op := .Pow) op_pow runs_pow ha hb

/-! ### names, constants -/
def eVar (i : Nat) : Ev PV := fun η st => match η[i]? with
  | some (some p) => .ok p st
  | _ => .stuck
theorem me_var {i : Nat} {x : Str} (hN : X.N[i]? = some x) (hv : Vis X.env.scope x) (hd : (x == ("__debug__" : Str)) = false) (hc : (x == ("__classdict__" : Str)) = false) : PE X (.Name x pos) (tE G (eVar i) W) := by
  refine pe_weak (pe_var hN hv hd hc) ?_
  rintro σ H Q ⟨ρ, η, st, so, re, h⟩
  unfold eVar at h
  split at h
  · rename_i p e
    obtain ⟨v, h1, h2⟩ := re.at_ i p e
    exact ⟨v, h1, fin_ok so h h2⟩
  · exact h.elim
def eCon (p : PV) : Ev PV := fun _ st => .ok p st
theorem me_con {e : Expr} {p : PV} {v : V} (h : PE X e (tC v)) (r : ∀ ρ H, RV G ρ H p v) : PE X e (tE G (eCon p) W) := by
  refine pe_weak h ?_
  rintro σ H Q ⟨ρ, η, st, so, re, h⟩
  exact fin_ok so h (r ρ H)

/-! ### one part -/
def RunsBy1 (G : Gc) (r : V → Hp → VK → Prop) (f : PV → Sto → Res PV) : Prop :=
  ∀ (ρ : List Addr) (H : Hp) (st : Sto) (x : PV) (v : V) (Q : VK) (E : Str → List (Str × PV) → List Addr → Hp → Prop), StOk G ρ H st → RV G ρ H x v → Out G (f x st) ρ H (VP G Q) E → r v H Q
theorem one_of {r : V → Hp → VK → Prop} {f : PV → Sto → Res PV} (hr : RunsBy1 G r f) : ∀ σ H Q, tE G (one ma f) W σ H Q → tUn r (tE G ma W) σ H Q := by
  rintro σ H Q ⟨ρ, η, st, so, re, h⟩
  exact ⟨ρ, η, st, so, re, Out.bind h fun x st1 ρ1 H1 _ s1 o1 h1 => fun v rv => hr ρ1 H1 st1 x v Q _ o1 rv h1⟩
def negOp : PV → Sto → Res PV
  | .int i, st => .ok (.int (-i)) st
  | _, _ => .stuck
theorem me_neg (ha : PE X a (tE G ma W)) : PE X (.UnaryOp .USub a pos) (tE G (one ma negOp) W) := by
  refine pe_weak (pe_un un_neg ha) (one_of ?_)
  intro ρ H st x v Q E so rx h
  cases x with
  | int i => cases rx; exact ⟨i, rfl, fin_ok so h (.int _)⟩
  | _ => exact h.elim

/-! ### truth -/
def truth : PV → Sto → Option Bool
  | .non, _ => some false
  | .bl b, _ => some b
  | .int i, _ => some (i != 0)
  | .str x, _ => if x.length ≤ LIM then some ((x.length : Int) != 0) else none
  | .tup xs, _ => some (!xs.isEmpty)
  | .fls xs, _ => some (!xs.isEmpty)
  | .loc n, st => match st[n]? with
    | some (.lst xs) => some (!xs.isEmpty)
    | some (.dct xs) => some (!xs.isEmpty)
    | _ => none
  | _, _ => none
theorem RVs.emp {ρ : List Addr} {H : Hp} {xs : List PV} {vs : List V} (r : RVs G ρ H xs vs) : xs.isEmpty = vs.isEmpty := by cases r <;> rfl
theorem truth_ok {ρ : List Addr} {H : Hp} {st : Sto} {x : PV} {v : V} {k : Bool} (so : StOk G ρ H st) (rx : RV G ρ H x v) (e : truth x st = some k) : TruV G.K v H k := by
  cases rx with
  | non => cases e; rfl
  | bl b => cases e; rfl
  | int i => cases e; rfl
  | str y =>
    have e : (if y.length ≤ LIM then some ((y.length : Int) != 0) else none) = some k := e
    by_cases q : y.length ≤ LIM
    · rw [if_pos q] at e; cases e; exact ⟨lim_line q, rfl⟩
    · rw [if_neg q] at e; cases e
  | ty n => cases e
  | tup h r => cases e; exact .inr (.inl ⟨_, h.sq, by rw [r.emp]⟩)
  | fls h r => cases e; exact .inl ⟨_, h.sq, by rw [r.emp]⟩
  | @loc n a h =>
    unfold truth at e
    dsimp only at e
    split at e
    · rename_i xs q
      cases e
      obtain ⟨vs, h1, r⟩ := so.at_ n _ a q h
      exact .inl ⟨vs, .of h1, by rw [r.emp]⟩
    · rename_i xs q
      cases e
      obtain ⟨vs, h1, r⟩ := so.at_ n _ a q h
      refine .inr (.inr ⟨vs, h1, ?_⟩)
      cases r <;> rfl
    · cases e
  | gl h => cases e
  | clo h => cases e
def truR (x : PV) (st : Sto) : Res Bool := match truth x st with
  | some b => .ok b st
  | none => .stuck
/-- a test -/
def eT (m : Ev PV) : Ev Bool := fun η st => (m η st).bind truR
theorem truR_out {ρ : List Addr} {H : Hp} {st : Sto} {x : PV} {P : Bool → List Addr → Hp → Prop} {E : Str → List (Str × PV) → List Addr → Hp → Prop} (h : Out G (truR x st) ρ H P E) : ∃ b, truth x st = some b ∧ Out G (.ok b st) ρ H P E := by
  unfold truR at h
  split at h
  · rename_i b e; exact ⟨b, e, h⟩
  · exact h.elim
/-- a test by its value's truth -/
theorem mt_truth (hK : X.K = G.K) (ha : PE X a (tE G ma W)) (he : ∀ whole, isTrue a X.env whole = (do let v ← whole; standAt a.pos; holding [v] (truthy v))) : PT X a (tT G (eT ma) W) := by
  refine pt_weak (pt_truth ha he) ?_
  rintro σ H Q ⟨ρ, η, st, so, re, h⟩
  refine ⟨ρ, η, st, so, re, Out.bind h fun x st1 ρ1 H1 _ s1 o1 h1 => fun v rv => ?_⟩
  obtain ⟨k, e, h1⟩ := truR_out h1
  rw [hK]
  exact ⟨k, truth_ok o1 rv e, h1 ρ1 H1 .refl o1⟩
/-- not -/
def notOp (x : PV) (st : Sto) : Res PV := (truR x st).bind fun b st => .ok (.bl (!b)) st
theorem me_not (hK : X.K = G.K) (ha : PE X a (tE G ma W)) : PE X (.UnaryOp .Not a pos) (tE G (one ma notOp) W) := by
  refine pe_weak (pe_notT ha) ?_
  rintro σ H Q ⟨ρ, η, st, so, re, h⟩
  refine ⟨ρ, η, st, so, re, Out.bind h fun x st1 ρ1 H1 _ s1 o1 h1 => fun v rv => ?_⟩
  rw [hK]
  unfold notOp truR at h1
  cases e : truth x st1 with
  | none => rw [e] at h1; exact h1.elim
  | some k => rw [e] at h1; exact ⟨k, truth_ok o1 rv e, fin_ok o1 h1 (.bl _)⟩
theorem mt_not (hK : X.K = G.K) (ha : PT X a (tT G (eT ma) W)) : PT X (.UnaryOp .Not a pos) (tT G (eT (one ma notOp)) W) := by
  refine pt_weak (pt_not ha) ?_
  rintro σ H Q ⟨ρ, η, st, so, re, h⟩
  refine ⟨ρ, η, st, so, re, ?_⟩
  have e : eT (one ma notOp) η st = (eT ma η st).bind fun b st => .ok (!b) st := by
    unfold eT one notOp
    cases ma η st with
    | ok x st1 =>
      simp only [Res.ok_bind, truR]
      cases truth x st1 <;> rfl
    | exn c fs st1 => rfl
    | stuck => rfl
  rw [e] at h
  exact Out.bind h fun b st1 ρ1 H1 _ s1 o1 h1 => h1 ρ1 H1 .refl o1
/-- and, or -/
def eAnd (ma mb : Ev PV) : Ev PV := fun η st => (ma η st).bind fun x st => (truR x st).bind fun k st => if k then mb η st else .ok x st
def eOr (ma mb : Ev PV) : Ev PV := fun η st => (ma η st).bind fun x st => (truR x st).bind fun k st => if k then .ok x st else mb η st
variable {rest : List Expr}
theorem me_and (hK : X.K = G.K) (ha : PE X a (tE G ma W)) (hb : PE X (.BoolOp .And (b :: rest) pos) (tE G mb W)) : PE X (.BoolOp .And (a :: b :: rest) pos) (tE G (eAnd ma mb) W) := by
  refine pe_weak (pe_andT ha hb) ?_
  rintro σ H Q ⟨ρ, η, st, so, re, h⟩
  refine ⟨ρ, η, st, so, re, Out.bind h fun x st1 ρ1 H1 _ s1 o1 h1 => fun v rv => ?_⟩
  rw [hK]
  unfold truR at h1
  cases e : truth x st1 with
  | none => rw [e] at h1; exact h1.elim
  | some k =>
    rw [e] at h1
    refine ⟨k, truth_ok o1 rv e, ?_⟩
    cases k with
    | true => exact ⟨ρ1, η, st1, o1, re.step s1, h1⟩
    | false => exact fin_ok o1 h1 rv
theorem me_or (hK : X.K = G.K) (ha : PE X a (tE G ma W)) (hb : PE X (.BoolOp .Or (b :: rest) pos) (tE G mb W)) : PE X (.BoolOp .Or (a :: b :: rest) pos) (tE G (eOr ma mb) W) := by
  refine pe_weak (pe_orT ha hb) ?_
  rintro σ H Q ⟨ρ, η, st, so, re, h⟩
  refine ⟨ρ, η, st, so, re, Out.bind h fun x st1 ρ1 H1 _ s1 o1 h1 => fun v rv => ?_⟩
  rw [hK]
  unfold truR at h1
  cases e : truth x st1 with
  | none => rw [e] at h1; exact h1.elim
  | some k =>
    rw [e] at h1
    refine ⟨k, truth_ok o1 rv e, ?_⟩
    cases k with
    | false => exact ⟨ρ1, η, st1, o1, re.step s1, h1⟩
    | true => exact fin_ok o1 h1 rv
theorem eT_and {η : Env'} {st : Sto} : eT (eAnd ma mb) η st = (eT ma η st).bind fun k st => if k then eT mb η st else .ok false st := by
  unfold eT eAnd
  cases ma η st with
  | ok x st1 =>
    simp only [Res.ok_bind, truR]
    cases e : truth x st1 with
    | none => rfl
    | some k =>
      cases k with
      | true => rfl
      | false =>
        show (match truth x st1 with | some b => Res.ok b st1 | none => .stuck) = _
        rw [e]; rfl
  | exn c fs st1 => rfl
  | stuck => rfl
theorem eT_or {η : Env'} {st : Sto} : eT (eOr ma mb) η st = (eT ma η st).bind fun k st => if k then .ok true st else eT mb η st := by
  unfold eT eOr
  cases ma η st with
  | ok x st1 =>
    simp only [Res.ok_bind, truR]
    cases e : truth x st1 with
    | none => rfl
    | some k =>
      cases k with
      | false => rfl
      | true =>
        show (match truth x st1 with | some b => Res.ok b st1 | none => .stuck) = _
        rw [e]; rfl
  | exn c fs st1 => rfl
  | stuck => rfl
theorem mw_and (ha : PT X a (tT G (eT ma) W)) (hb : PW X (.BoolOp .And (b :: rest) pos) (tT G (eT mb) W)) : PW X (.BoolOp .And (a :: b :: rest) pos) (tT G (eT (eAnd ma mb)) W) := by
  have k := pw_and ha hb
  refine ⟨fun wh pins s σ H Q I q => k.run wh pins s σ H Q I ?_⟩
  obtain ⟨ρ, η, st, so, re, h⟩ := q
  rw [eT_and] at h
  refine ⟨ρ, η, st, so, re, Out.bind h fun c st1 ρ1 H1 _ s1 o1 h1 => ?_⟩
  cases c with
  | true => exact ⟨ρ1, η, st1, o1, re.step s1, h1⟩
  | false => exact h1 ρ1 H1 .refl o1
theorem mw_or (ha : PT X a (tT G (eT ma) W)) (hb : PW X (.BoolOp .Or (b :: rest) pos) (tT G (eT mb) W)) : PW X (.BoolOp .Or (a :: b :: rest) pos) (tT G (eT (eOr ma mb)) W) := by
  have k := pw_or ha hb
  refine ⟨fun wh pins s σ H Q I q => k.run wh pins s σ H Q I ?_⟩
  obtain ⟨ρ, η, st, so, re, h⟩ := q
  rw [eT_or] at h
  refine ⟨ρ, η, st, so, re, Out.bind h fun c st1 ρ1 H1 _ s1 o1 h1 => ?_⟩
  cases c with
  | false => exact ⟨ρ1, η, st1, o1, re.step s1, h1⟩
  | true => exact h1 ρ1 H1 .refl o1
/-- a if c else b -/
def eIte (mc ma mb : Ev PV) : Ev PV := fun η st => (eT mc η st).bind fun k st => if k then ma η st else mb η st
theorem me_ite {c : Expr} {mc : Ev PV} (hc : PT X c (tT G (eT mc) W)) (ha : PE X a (tE G ma W)) (hb : PE X b (tE G mb W)) : PE X (.IfExp c a b pos) (tE G (eIte mc ma mb) W) := by
  refine pe_weak (pe_ifExp hc ha hb) ?_
  rintro σ H Q ⟨ρ, η, st, so, re, h⟩
  refine ⟨ρ, η, st, so, re, Out.bind h fun k st1 ρ1 H1 _ s1 o1 h1 => ?_⟩
  cases k with
  | true => exact ⟨ρ1, η, st1, o1, re.step s1, h1⟩
  | false => exact ⟨ρ1, η, st1, o1, re.step s1, h1⟩
/-! ### rows -/
def eNil : Ev (List PV) := fun _ st => .ok [] st
def eCons (m : Ev PV) (r : Ev (List PV)) : Ev (List PV) := fun η st => (m η st).bind fun x st => (r η st).bind fun xs st => .ok (x :: xs) st
theorem ma_nil : PA X [] (tEs G eNil W) := by
  refine pa_weak pa_nil ?_
  rintro σ H Q ⟨ρ, η, st, so, re, h⟩
  exact h ρ H .refl so [] .nil
theorem ma_cons {es : List Expr} {mr : Ev (List PV)} (ha : PE X a (tE G ma W)) (hr : PA X es (tEs G mr W)) (hs : starEach (a :: es) X.env = (false, eval a X.env) :: starEach es X.env) : PA X (a :: es) (tEs G (eCons ma mr) W) := by
  refine pa_weak (pa_cons ha hr hs) ?_
  rintro σ H Q ⟨ρ, η, st, so, re, h⟩
  refine ⟨ρ, η, st, so, re, Out.bind h fun x st1 ρ1 H1 _ s1 o1 h1 => fun v rv => ⟨ρ1, η, st1, o1, re.step s1, Out.bind h1 fun xs st2 ρ2 H2 _ s2 o2 h2 => fun vs rvs => ?_⟩⟩
  exact h2 ρ2 H2 .refl o2 (v :: vs) (.cons (rv.step s2) rvs)
def eRow (r : Ev (List PV)) (f : List PV → Sto → Res PV) : Ev PV := fun η st => (r η st).bind f
def mkTup (xs : List PV) (st : Sto) : Res PV := if xs.length ≤ LIM then .ok (.tup xs) st else .stuck
def mkLst (xs : List PV) (st : Sto) : Res PV := if xs.length ≤ LIM then .ok (.loc st.length) (st ++ [.lst xs]) else .stuck
theorem me_tup {es : List Expr} {mr : Ev (List PV)} {k : Nat} (hr : PA X es (tEs G mr W)) : PE X (.Tuple es k pos) (tE G (eRow mr mkTup) W) := by
  refine pe_weak (pe_tup hr) ?_
  rintro σ H Q ⟨ρ, η, st, so, re, h⟩
  refine ⟨ρ, η, st, so, re, Out.bind h fun xs st1 ρ1 H1 _ s1 o1 h1 => fun vs rvs => ?_⟩
  obtain ⟨hz, h1⟩ := ite_stuck h1
  exact ⟨by rw [← rvs.length]; exact lim_line hz, fun p hp => h1 ρ1 _ (step_new hp) (o1.new_other hp) _ (.tup (.inl upd_same) (rvs.step (step_new hp)))⟩
theorem me_lst {es : List Expr} {mr : Ev (List PV)} (hr : PA X es (tEs G mr W)) : PE X (.List es pos) (tE G (eRow mr mkLst) W) := by
  refine pe_weak (pe_lst hr) ?_
  rintro σ H Q ⟨ρ, η, st, so, re, h⟩
  refine ⟨ρ, η, st, so, re, Out.bind h fun xs st1 ρ1 H1 _ s1 o1 h1 => fun vs rvs => ?_⟩
  obtain ⟨hz, h1⟩ := ite_stuck h1
  refine ⟨by rw [← rvs.length]; exact lim_line hz, fun p hp => h1 _ _ (step_push hp) (o1.push hp ⟨_, upd_same, rvs.step (step_push hp)⟩) _ (.loc ?_)⟩
  rw [← o1.len]; simp
end
end Cv
namespace Cv
open L2 PySem PySem.Spec PyProof.Rows

/-! ### data -/
def omap {α β : Type} (f : α → Option β) : List α → Option (List β)
  | [] => some []
  | x :: xs => match f x, omap f xs with
    | some y, some ys => some (y :: ys)
    | _, _ => none
def toD : Nat → Sto → PV → Option PyData
  | 0, _, _ => none
  | n + 1, st, p => match p with
    | .non => some .none
    | .bl b => some (.bool b)
    | .int i => some (.int i)
    | .str x => some (.str x)
    | .tup xs => (omap (toD n st) xs).map .tuple
    | .fls xs => (omap (toD n st) xs).map .list
    | .loc m => match st[m]? with
      | some (.lst xs) => (omap (toD n st) xs).map .list
      | _ => none
    | _ => none
section
variable {G : Gc} {ρ : List Addr} {H : Hp} {st : Sto}
theorem dpAll_of {n : Nat} (ih : ∀ {p : PV} {v : V} {d : PyData}, RV G ρ H p v → toD n st p = some d → Dp G.K H v d) :
    ∀ {ps : List PV} {vs : List V} {ds : List PyData}, RVs G ρ H ps vs → omap (toD n st) ps = some ds → DpAll G.K H vs ds
  | _, _, _, .nil, e => by cases e; exact .nil
  | _, _, _, .cons h r, e => by
    unfold omap at e
    split at e
    · rename_i y ys e1 e2
      cases e
      exact .cons (ih h e1) (dpAll_of ih r e2)
    · cases e
theorem dp_of (so : StOk G ρ H st) : ∀ (n : Nat) {p : PV} {v : V} {d : PyData}, RV G ρ H p v → toD n st p = some d → Dp G.K H v d
  | 0, _, _, _, _, e => by cases e
  | n + 1, _, _, _, .non, e => by cases e; exact .non
  | n + 1, _, _, _, .bl b, e => by cases e; exact .bl b
  | n + 1, _, _, _, .int b, e => by cases e; exact .int b
  | n + 1, _, _, _, .str b, e => by cases e; exact .str b
  | n + 1, _, _, _, .ty b, e => by cases e
  | n + 1, _, _, _, .gl b, e => by cases e
  | n + 1, _, _, _, .clo b, e => by cases e
  | n + 1, .tup xs, _, _, .tup h r, e => by
    obtain ⟨ds, e1, e2⟩ := Option.map_eq_some_iff.mp (show (omap (toD n st) xs).map PyData.tuple = _ from e)
    subst e2
    exact .tup h.sq (dpAll_of (fun a b => dp_of so n a b) r e1)
  | n + 1, .fls xs, _, _, .fls h r, e => by
    obtain ⟨ds, e1, e2⟩ := Option.map_eq_some_iff.mp (show (omap (toD n st) xs).map PyData.list = _ from e)
    subst e2
    exact .lst h.sq (dpAll_of (fun a b => dp_of so n a b) r e1)
  | n + 1, .loc m, _, _, .loc h, e => by
    have e : (match st[m]? with | some (.lst xs) => (omap (toD n st) xs).map PyData.list | _ => none) = _ := e
    split at e
    · rename_i xs q
      obtain ⟨ds, e1, e2⟩ := Option.map_eq_some_iff.mp e
      subst e2
      obtain ⟨vs, h1, r⟩ := so.at_ m _ _ q h
      exact .lst (.of h1) (dpAll_of (fun a b => dp_of so n a b) r e1)
    · cases e
end
def dat (st : Sto) (p : PV) : Option PyData := match toD 70 st p with
  | some d => if SeqAt.shaped d then some d else none
  | none => none
theorem dat_ok {G : Gc} {ρ : List Addr} {H : Hp} {st : Sto} {p : PV} {v : V} {d : PyData} (so : StOk G ρ H st) (r : RV G ρ H p v) (e : dat st p = some d) : Dp G.K H v d ∧ SeqAt.shaped d = true := by
  unfold dat at e
  split at e
  · rename_i d' q
    by_cases c : SeqAt.shaped d' = true
    · rw [if_pos c] at e; cases e; exact ⟨dp_of so 70 r q, c⟩
    · rw [if_neg c] at e; cases e
  · cases e

/-! ### comparisons -/
inductive Cop where | eq | ne | lt | le | gt | ge | is | isnot | in_ | notin
  deriving DecidableEq
def Cop.op : Cop → CmpOp
  | .eq => .Eq | .ne => .NotEq | .lt => .Lt | .le => .LtE | .gt => .Gt | .ge => .GtE | .is => .Is | .isnot => .IsNot | .in_ => .In | .notin => .NotIn
def keyOf : PV → Option Key
  | .int i => some (.inl i)
  | .str x => some (.inr x)
  | _ => none
def findK (ks : List (Key × PV)) (k : Key) : Option PV := (ks.find? fun kv => decide (kv.1 = k)).map (·.2)
def isOp (x y : PV) (st : Sto) : Option Bool := match y with
  | .non => match x with
    | .non => some true
    | _ => some false
  | .bl b => match x with
    | .bl a => some (decide (a = b))
    | _ => none
  | _ => none
def inOp (x y : PV) (st : Sto) : Option Bool := match y with
  | .loc n => match st[n]? with
    | some (.dct ks) => match keyOf x with
      | some k => some (findK ks k).isSome
      | none => none
    | _ => match dat st x, dat st y with
      | some d, some (.list ds) => some (ds.any fun z => PyData.eqv z d)
      | _, _ => none
  | _ => match dat st x, dat st y with
    | some d, some (.list ds) => some (ds.any fun z => PyData.eqv z d)
    | some d, some (.tuple ds) => some (ds.any fun z => PyData.eqv z d)
    | _, _ => none
def strEq : PV → PV → Option Bool
  | .str a, .str b => some (decide (a = b))
  | _, _ => none
def datEq (x y : PV) (st : Sto) : Option Bool := match dat st x, dat st y with
  | some d, some e => some (PyData.eqv d e)
  | _, _ => none
def eqOp (x y : PV) (st : Sto) : Option Bool := match strEq x y with
  | some b => some b
  | none => datEq x y st
def intOp (f : Int → Int → Bool) (x y : PV) : Option Bool := match x, y with
  | .int i, .int j => some (f i j)
  | _, _ => none
def cmpB : Cop → PV → PV → Sto → Option Bool
  | .eq, x, y, st => eqOp x y st
  | .ne, x, y, st => (eqOp x y st).map not
  | .lt, x, y, _ => intOp (fun i j => decide (i < j)) x y
  | .le, x, y, _ => intOp (fun i j => decide (i ≤ j)) x y
  | .gt, x, y, _ => intOp (fun i j => decide (j < i)) x y
  | .ge, x, y, _ => intOp (fun i j => decide (j ≤ i)) x y
  | .is, x, y, st => isOp x y st
  | .isnot, x, y, st => (isOp x y st).map not
  | .in_, x, y, st => inOp x y st
  | .notin, x, y, st => (inOp x y st).map not
def cmpOp (o : Cop) (x y : PV) (st : Sto) : Res PV := match cmpB o x y st with
  | some b => .ok (.bl b) st
  | none => .stuck
/-- the layer's rule: r holds whenever a Bool b is told by f, and what is wanted holds of b -/
def TellsB (G : Gc) (r : R2) (f : PV → PV → Sto → Option Bool) : Prop :=
  ∀ (ρ : List Addr) (H : Hp) (st : Sto) (x y : PV) (v u : V) (b : Bool) (Q : VK), StOk G ρ H st → RV G ρ H x v → RV G ρ H y u → f x y st = some b → Q (.bl b) H → r v u H Q
section
variable {X : Cx} {G : Gc} {W : WX} {a b c : Expr} {ma mb mc : Ev PV} {pos : Pos}
theorem runs_tells {r : R2} {o : Cop} (h : TellsB G r (cmpB o)) : RunsBy G r (cmpOp o) := by
  intro ρ H st x y v u Q E so rx ry q
  unfold cmpOp at q
  split at q
  · rename_i b e; exact h ρ H st x y v u b Q so rx ry e (fin_ok so q (.bl _))
  · exact q.elim
theorem tells_int {f : Int → Int → Bool} : TellsB G (rI0 fun i j => .bl (f i j)) (fun x y _ => intOp f x y) := by
  intro ρ H st x y v u b Q so rx ry e q
  have e : intOp f x y = some b := e
  unfold intOp at e
  split at e
  · cases rx; cases ry; cases e; exact ⟨_, _, rfl, rfl, q⟩
  · cases e
theorem strEq_ok {ρ : List Addr} {H : Hp} {x y : PV} {v u : V} {b : Bool} (rx : RV G ρ H x v) (ry : RV G ρ H y u) (e : strEq x y = some b) : scal v u = true ∧ b = decide (v = u) := by
  unfold strEq at e
  split at e
  · cases rx
    cases ry
    cases e
    refine ⟨rfl, ?_⟩
    rename_i a b
    by_cases h : a = b
    · subst h; simp
    · rw [decide_eq_false h, decide_eq_false (fun z => h (by cases z; rfl))]
  · cases e
theorem tells_eq : TellsB G (anyR [rEq, rEqD G.K]) eqOp := by
  intro ρ H st x y v u b Q so rx ry e q
  unfold eqOp at e
  split at e
  · rename_i c e0
    cases e
    obtain ⟨h1, h2⟩ := strEq_ok rx ry e0
    exact ⟨_, List.mem_cons_self, h1, by rw [← h2]; exact q⟩
  · unfold datEq at e
    split at e
    · rename_i d e' q1 q2
      cases e
      have h1 := dat_ok so rx q1
      have h2 := dat_ok so ry q2
      exact ⟨_, List.mem_cons_of_mem _ List.mem_cons_self, d, e', h1.1, h2.1, h1.2, h2.2, q⟩
    · cases e
theorem tells_ne : TellsB G (anyR [rNe, rNeD G.K]) (fun x y st => (eqOp x y st).map not) := by
  intro ρ H st x y v u b Q so rx ry e q
  obtain ⟨b', e0, e2⟩ := Option.map_eq_some_iff.mp e
  subst e2
  clear e
  have e := e0
  unfold eqOp at e
  split at e
  · rename_i c e0
    cases e
    obtain ⟨h1, h2⟩ := strEq_ok rx ry e0
    exact ⟨_, List.mem_cons_self, h1, by rw [← h2]; exact q⟩
  · unfold datEq at e
    split at e
    · rename_i d e' q1 q2
      cases e
      have h1 := dat_ok so rx q1
      have h2 := dat_ok so ry q2
      exact ⟨_, List.mem_cons_of_mem _ List.mem_cons_self, d, e', h1.1, h2.1, h1.2, h2.2, q⟩
    · cases e
def rIs : R2 := anyR [fun x y H Q => y = .non ∧ Q (.bl (decide (x = .non))) H, rIsB]
def rIsN : R2 := anyR [fun x y H Q => y = .non ∧ Q (.bl (!decide (x = .non))) H, rNotB]
theorem opr_is : OpR X (compareOp .Is) rIs := op_any fun r m => by
  simp only [List.mem_cons, List.not_mem_nil, or_false] at m
  rcases m with rfl | rfl
  · exact op_isN
  · exact op_isBl
theorem opr_isN : OpR X (compareOp .IsNot) rIsN := op_any fun r m => by
  simp only [List.mem_cons, List.not_mem_nil, or_false] at m
  rcases m with rfl | rfl
  · exact op_notN
  · exact op_notBl
theorem is_none {ρ : List Addr} {H : Hp} {x : PV} {v : V} (rx : RV G ρ H x v) : (match x with | .non => true | _ => false) = decide (v = .non) := by
  cases rx <;> first | rfl | exact (decide_eq_false (fun z => nomatch z)).symm
theorem isOp_cases {ρ : List Addr} {H : Hp} {st : Sto} {x y : PV} {v u : V} {b : Bool} (rx : RV G ρ H x v) (ry : RV G ρ H y u) (e : isOp x y st = some b) :
    (u = .non ∧ b = decide (v = .non)) ∨ ∃ c d : Bool, v = .bl c ∧ u = .bl d ∧ b = decide (c = d) := by
  cases ry with
  | non =>
    refine .inl ⟨rfl, ?_⟩
    rw [← is_none rx]
    cases rx <;> (cases e; rfl)
  | bl d => cases rx <;> first | (cases e; exact .inr ⟨_, _, rfl, rfl, rfl⟩) | cases e
  | _ => cases e
theorem tells_is : TellsB G rIs isOp := by
  intro ρ H st x y v u b Q so rx ry e q
  rcases isOp_cases rx ry e with ⟨h1, rfl⟩ | ⟨c, d, rfl, rfl, rfl⟩
  · exact ⟨_, List.mem_cons_self, h1, q⟩
  · exact ⟨_, List.mem_cons_of_mem _ List.mem_cons_self, c, d, rfl, rfl, q⟩
theorem tells_isN : TellsB G rIsN (fun x y st => (isOp x y st).map not) := by
  intro ρ H st x y v u b Q so rx ry e q
  obtain ⟨b', e0, e2⟩ := Option.map_eq_some_iff.mp e
  subst e2
  clear e
  have e := e0
  rcases isOp_cases rx ry e with ⟨h1, rfl⟩ | ⟨c, d, rfl, rfl, rfl⟩
  · exact ⟨_, List.mem_cons_self, h1, q⟩
  · exact ⟨_, List.mem_cons_of_mem _ List.mem_cons_self, c, d, rfl, rfl, q⟩
/-- in, not in: rows, dicts -/
def rInT (K : PySem.W.Frag) (neg : Bool) : R2 := fun x y H Q => ∃ d ds, Dp K H x d ∧ (Dp K H y (.list ds) ∨ Dp K H y (.tuple ds)) ∧ SeqAt.shaped d = true ∧ (SeqAt.shaped (.list ds) = true ∨ SeqAt.shaped (.tuple ds) = true) ∧ Q (.bl (xor neg (ds.any fun z => PyData.eqv z d))) H
def rInDc (neg : Bool) : R2 := fun x y H Q => ∃ a o, y = .ref a ∧ DGet H a x o ∧ Q (.bl (xor neg o.isSome)) H
theorem lay_list {ds : List PyData} (h : SeqAt.shaped (.list ds) = true ∨ SeqAt.shaped (.tuple ds) = true) : PyData.canLayAll0 ds = true := by
  rcases h with h | h
  · exact SeqAt.canLay_of_shaped h
  · have := SeqAt.canLay_of_shaped h
    simpa only [PyData.canLay0] using this
theorem op_inT (hu : X.A.units + 65 < cLine) : OpR X (compareOp .In) (rInT X.K false) := by
  intro pins s σ H x
        y v u Q I rx ry h
  obtain ⟨d, ds, hd, he, sd, se, q⟩ :=
        h
  obtain ⟨as, r1⟩ :=
        Dp.reads I d x v hd rx
  rw [Bool.false_xor] at q
  rcases he with he | he
  · obtain ⟨bs, r2⟩ := Dp.reads I _ y u he ry
    exact SeqAt.in_list_reads r2 r1 (lay_list se) (SeqAt.canLay_of_shaped sd) (room_in_shaped sd hu) ⟨.bl _, H, I, rfl, q⟩
  · obtain ⟨bs, r2⟩ := Dp.reads I _ y u he ry
    exact SeqAt.in_tuple_reads r2 r1 (lay_list se) (SeqAt.canLay_of_shaped sd) (room_in_shaped sd hu) ⟨.bl _, H, I, rfl, q⟩
theorem op_notInT (hu : X.A.units + 65 < cLine) : OpR X (compareOp .NotIn) (rInT X.K true) := by
  intro pins s σ H x
        y v u Q I rx ry h
  obtain ⟨d, ds, hd, he, sd, se, q⟩ :=
        h
  obtain ⟨as, r1⟩ :=
        Dp.reads I d x v hd rx
  rw [Bool.true_xor] at q
  rcases he with he | he
  · obtain ⟨bs, r2⟩ := Dp.reads I _ y u he ry
    exact SeqAt.notIn_list_reads r2 r1 (lay_list se) (SeqAt.canLay_of_shaped sd) (room_in_shaped sd hu) ⟨.bl _, H, I, rfl, q⟩
  · obtain ⟨bs, r2⟩ := Dp.reads I _ y u he ry
    exact SeqAt.notIn_tuple_reads r2 r1 (lay_list se) (SeqAt.canLay_of_shaped sd) (room_in_shaped sd hu) ⟨.bl _, H, I, rfl, q⟩
theorem op_inDc (hu : X.A.units + 1 < cLine) : OpR X (compareOp .In) (rInDc false) := by
  intro pins s σ H x y v u Q I rx ry ⟨a, o, ey, g, q⟩
  subst ey
  obtain rfl : u = Value.ref a :=
        ry
  exact d_in hu I g rx fun s3 I3 => ⟨.bl o.isSome, H, I3, rfl, by simpa using q⟩
theorem op_notInDc (hu : X.A.units + 1 < cLine) : OpR X (compareOp .NotIn) (rInDc true) := by
  intro pins s σ H x y v u Q I rx ry ⟨a, o, ey, g, q⟩
  subst ey
  obtain rfl : u = Value.ref a :=
        ry
  exact d_notIn hu I g rx fun s3 I3 => ⟨.bl (!o.isSome), H, I3, rfl, by simpa using q⟩
def rInAll (K : PySem.W.Frag) (neg : Bool) : R2 := anyR [rInT K neg, rInDc neg]
theorem opr_in (hu : X.A.units + 65 < cLine) : OpR X (compareOp .In) (rInAll X.K false) := op_any fun r m => by
  simp only [List.mem_cons, List.not_mem_nil, or_false] at m
  rcases m with rfl | rfl
  · exact op_inT hu
  · exact op_inDc (by omega)
theorem opr_notin (hu : X.A.units + 65 < cLine) : OpR X (compareOp .NotIn) (rInAll X.K true) := op_any fun r m => by
  simp only [List.mem_cons, List.not_mem_nil, or_false] at m
  rcases m with rfl | rfl
  · exact op_notInT hu
  · exact op_notInDc (by omega)
theorem find_rel {ρ : List Addr} {H : Hp} {ks : List (Key × PV)} {vs : List (Key × V)} (r : RKs G ρ H ks vs) (k : Key) : (findK ks k = none ∧ valV vs k = none) ∨ ∃ p v, findK ks k = some p ∧ valV vs k = some v ∧ RV G ρ H p v := by
  induction r with
  | nil =>
        exact .inl ⟨rfl, rfl⟩
  | @cons a b l1 l2 h t ih =>
    unfold findK valV at *
    by_cases e : a.1 = k
    · refine .inr ⟨a.2, b.2, by simp [e], by simp [← h.1, e], h.2⟩
    · have e2 : ¬ b.1 = k := by rw [← h.1]; exact e
      simp only [List.find?_cons, decide_eq_false e, decide_eq_false e2]
      exact ih
theorem key_ok {ρ : List Addr} {H : Hp} {x : PV} {v : V} {k : Key} (rx : RV G ρ H x v) (e : keyOf x = some k) : v = kV k := by
  cases rx <;> first | (cases e; rfl) | cases e
theorem inOp_cases {ρ : List Addr} {H : Hp} {st : Sto} {x y : PV} {v u : V} {b : Bool} (so : StOk G ρ H st) (rx : RV G ρ H x v) (ry : RV G ρ H y u) (e : inOp x y st = some b) :
    (∃ d ds, Dp G.K H v d ∧ (Dp G.K H u (.list ds) ∨ Dp G.K H u (.tuple ds)) ∧ SeqAt.shaped d = true ∧ (SeqAt.shaped (.list ds) = true ∨ SeqAt.shaped (.tuple ds) = true) ∧ b = (ds.any fun z => PyData.eqv z d)) ∨
    ∃ a o, u = .ref a ∧ DGet H a v o ∧ b = o.isSome := by
  have lst : ∀ {ds : List PyData} {d : PyData}, dat st x = some d → dat st y = some (.list ds) → b = (ds.any fun z => PyData.eqv z d) →
      (∃ d ds, Dp G.K H v d ∧ (Dp G.K H u (.list ds) ∨ Dp G.K H u (.tuple ds)) ∧ SeqAt.shaped d = true ∧ (SeqAt.shaped (.list ds) = true ∨ SeqAt.shaped (.tuple ds) = true) ∧ b = (ds.any fun z => PyData.eqv z d)) := fun {ds d} e1 e2 e3 =>
    have h1 := dat_ok so rx e1
    have h2 := dat_ok so ry e2
    ⟨d, ds, h1.1, .inl h2.1, h1.2, .inl h2.2, e3⟩
  unfold inOp at e
  split at e
  · rename_i n
    split at e
    · rename_i ks q
      split at e
      · rename_i k q2
        cases e
        obtain ⟨a, rfl, _, vs, h1, r⟩ := so.loc ry q
        refine .inr ⟨a, valV vs k, rfl, ?_, ?_⟩
        · rw [key_ok rx q2]; exact .k h1
        · rcases find_rel r k with ⟨z1, z2⟩ | ⟨p, w, z1, z2, _⟩ <;> rw [z1, z2]
          all_goals rfl
      · cases e
    · split at e
      · rename_i d ds e1 e2
        cases e
        exact .inl (lst e1 e2 rfl)
      · cases e
  · split at e
    · rename_i d ds e1 e2
      cases e
      exact .inl (lst e1 e2 rfl)
    · rename_i d ds e1 e2
      cases e
      have h1 := dat_ok so rx e1
      have h2 := dat_ok so ry e2
      exact .inl ⟨d, ds, h1.1, .inr h2.1, h1.2, .inr h2.2, rfl⟩
    · cases e
theorem tells_in : TellsB G (rInAll G.K false) inOp := by
  intro ρ H st x y v u b Q so rx ry e q
  rcases inOp_cases so rx ry e with ⟨d, ds, h1, h2, h3, h4, rfl⟩ | ⟨a, o, rfl, g, rfl⟩
  · exact ⟨_, List.mem_cons_self, d, ds, h1, h2, h3, h4, by simpa using q⟩
  · exact ⟨_, List.mem_cons_of_mem _ List.mem_cons_self, a, o, rfl, g, by simpa using q⟩
theorem tells_notin : TellsB G (rInAll G.K true) (fun x y st => (inOp x y st).map not) := by
  intro ρ H st x y v u b Q so rx ry e q
  obtain ⟨b', e0, e2⟩ := Option.map_eq_some_iff.mp e
  subst e2
  clear e
  have e := e0
  rcases inOp_cases so rx ry e with ⟨d, ds, h1, h2, h3, h4, rfl⟩ | ⟨a, o, rfl, g, rfl⟩
  · exact ⟨_, List.mem_cons_self, d, ds, h1, h2, h3, h4, by simpa using q⟩
  · exact ⟨_, List.mem_cons_of_mem _ List.mem_cons_self, a, o, rfl, g, by simpa using q⟩
/-- every comparison has a rule -/
theorem cmp_rule (hK : X.K = G.K) (hu : X.A.units + 65 < cLine) (o : Cop) : ∃ r, OpR X (compareOp o.op) r ∧ TellsB G r (cmpB o) := by
  cases o with
  | eq =>
    refine ⟨_, op_any fun r m => ?_, tells_eq⟩
    have h2 := op_eqD (X := X) (by omega)
    rw [hK] at h2
    simp only [List.mem_cons, List.not_mem_nil, or_false] at m
    rcases m with rfl | rfl
    · exact op_eq
    · exact h2
  | ne =>
    refine ⟨_, op_any fun r m => ?_, tells_ne⟩
    have h2 := op_neD (X := X) (by omega)
    rw [hK] at h2
    simp only [List.mem_cons, List.not_mem_nil, or_false] at m
    rcases m with rfl | rfl
    · exact op_ne
    · exact h2
  | lt => exact ⟨_, op_lt, tells_int⟩
  | le => exact ⟨_, op_le, tells_int⟩
  | gt => exact ⟨_, op_gt, tells_int⟩
  | ge => exact ⟨_, op_ge, tells_int⟩
  | is => exact ⟨_, opr_is, tells_is⟩
  | isnot => exact ⟨_, opr_isN, tells_isN⟩
  | in_ => exact ⟨_, by have := opr_in (X := X) hu; rw [hK] at this; exact this, tells_in⟩
  | notin => exact ⟨_, by have := opr_notin (X := X) hu; rw [hK] at this; exact this, tells_notin⟩
theorem me_cmp {o : Cop} {op : CmpOp} (e : op = o.op) (hK : X.K = G.K) (hu : X.A.units + 65 < cLine) (ha : PE X a (tE G ma W)) (hb : PE X b (tE G mb W)) (hm : behindInMarks op b = false) : PE X (.Compare a [op] [b] pos) (tE G (two ma mb (cmpOp o)) W) := by
  subst e
  obtain ⟨r, h1, h2⟩ := cmp_rule hK hu o
  exact pe_weak (pe_cmpR h1 ha hb hm) (two_of (runs_tells h2))
theorem mt_cmp {o : Cop} {op : CmpOp} (e : op = o.op) (hK : X.K = G.K) (hu : X.A.units + 65 < cLine) (ha : PE X a (tE G ma W)) (hb : PE X b (tE G mb W)) (hm : behindInMarks op b = false) : PT X (.Compare a [op] [b] pos) (tT G (eT (two ma mb (cmpOp o))) W) := by
  subst e
  obtain ⟨r, h1, h2⟩ := cmp_rule hK hu o
  refine pt_weak (pt_cmpR h1 ha hb hm) ?_
  rintro σ H Q ⟨ρ, η, st, so, re, h⟩
  have e : eT (two ma mb (cmpOp o)) η st = (ma η st).bind fun x st => (mb η st).bind fun y st => (cmpOp o x y st).bind truR := by
    unfold eT two
    cases ma η st with
    | ok x st1 => simp only [Res.ok_bind]; cases mb η st1 <;> rfl
    | _ => rfl
  rw [e] at h
  refine ⟨ρ, η, st, so, re, Out.bind h fun x st1 ρ1 H1 _ s1 o1 h1' => fun v rv => ⟨ρ1, η, st1, o1, re.step s1, Out.bind h1' fun y st2 ρ2 H2 _ s2 o2 h2' => fun u ru => ?_⟩⟩
  unfold cmpOp at h2'
  cases q : cmpB o x y st2 with
  | none => rw [q] at h2'; exact h2'.elim
  | some k =>
    rw [q] at h2'
    exact h2 ρ2 H2 st2 x y v u k _ o2 (rv.step s2) ru q ⟨k, rfl, h2' ρ2 H2 .refl o2⟩
/-- a o b p c -/
def eChain (o p : Cop) (ma mb mc : Ev PV) : Ev PV := fun η st => (ma η st).bind fun x st => (mb η st).bind fun y st => match cmpB o x y st with
  | some true => (mc η st).bind fun z st => cmpOp p y z st
  | some false => .ok (.bl false) st
  | none => .stuck
theorem chain_of {r r' : R2} {o p : Cop} (h1 : TellsB G r (cmpB o)) (h2 : RunsBy G r' (cmpOp p)) : ∀ σ H Q, tE G (eChain o p ma mb mc) W σ H Q → tChain r r' (tE G ma W) (tE G mb W) (tE G mc W) σ H Q := by
  rintro σ H Q ⟨ρ, η, st, so, re, h⟩
  refine ⟨ρ, η, st, so, re, Out.bind h fun x st1 ρ1 H1 _ s1 o1 h1' => fun v rv => ⟨ρ1, η, st1, o1, re.step s1, Out.bind h1' fun y st2 ρ2 H2 _ s2 o2 h2' => fun u ru => ?_⟩⟩
  cases q : cmpB o x y st2 with
  | none => rw [q] at h2'; exact h2'.elim
  | some k =>
    rw [q] at h2'
    refine h1 ρ2 H2 st2 x y v u k _ o2 (rv.step s2) ru q ⟨k, rfl, ?_⟩
    cases k with
    | false => exact fin_ok o2 h2' (.bl _)
    | true => exact ⟨ρ2, η, st2, o2, (re.step s1).step s2, Out.bind h2' fun z st3 ρ3 H3 _ s3 o3 h3 => fun w rw' => h2 ρ3 H3 st3 y z u w Q _ o3 (ru.step s3) rw' h3⟩
theorem me_chain {o p : Cop} {op op' : CmpOp} (e : op = o.op) (e' : op' = p.op) (hK : X.K = G.K) (hu : X.A.units + 65 < cLine) (ha : PE X a (tE G ma W)) (hb : PE X b (tE G mb W)) (hc : PE X c (tE G mc W)) (hm : lastMarks [op, op'] [b, c] = false) :
    PE X (.Compare a [op, op'] [b, c] pos) (tE G (eChain o p ma mb mc) W) := by
  subst e e'
  obtain ⟨r, h1, h2⟩ := cmp_rule hK hu o
  obtain ⟨r', h1', h2'⟩ := cmp_rule hK hu p
  exact pe_weak (pe_chain h1 h1' ha hb hc hm) (chain_of h2 (runs_tells h2'))
theorem mt_chain {o p : Cop} {op op' : CmpOp} (e : op = o.op) (e' : op' = p.op) (hK : X.K = G.K) (hu : X.A.units + 65 < cLine) (ha : PE X a (tE G ma W)) (hb : PE X b (tE G mb W)) (hc : PE X c (tE G mc W)) (hm : lastMarks [op, op'] [b, c] = false) :
    PT X (.Compare a [op, op'] [b, c] pos) (tT G (eT (eChain o p ma mb mc)) W) := by
  subst e e'
  obtain ⟨r, h1, h2⟩ := cmp_rule hK hu o
  obtain ⟨r', h1', h2''⟩ := cmp_rule hK hu p
  refine pt_weak (pt_chain h1 h1' ha hb hc hm) ?_
  rintro σ H Q ⟨ρ, η, st, so, re, h⟩
  have e : eT (eChain o p ma mb mc) η st = (ma η st).bind fun x st => (mb η st).bind fun y st => match cmpB o x y st with
      | some true => (mc η st).bind fun z st => (cmpOp p y z st).bind truR
      | some false => .ok false st
      | none => .stuck := by
    unfold eT eChain
    cases ma η st with
    | ok x st1 =>
      simp only [Res.ok_bind]
      cases mb η st1 with
      | ok y st2 =>
        simp only [Res.ok_bind]
        cases cmpB o x y st2 with
        | none => rfl
        | some k =>
          cases k with
          | false => rfl
          | true => cases mc η st2 <;> rfl
      | _ => rfl
    | _ => rfl
  rw [e] at h
  refine ⟨ρ, η, st, so, re, Out.bind h fun x st1 ρ1 H1 _ s1 o1 h1' => fun v rv => ⟨ρ1, η, st1, o1, re.step s1, Out.bind h1' fun y st2 ρ2 H2 _ s2 o2 h2' => fun u ru => ?_⟩⟩
  cases q : cmpB o x y st2 with
  | none => rw [q] at h2'; exact h2'.elim
  | some k =>
    rw [q] at h2'
    refine h2 ρ2 H2 st2 x y v u k _ o2 (rv.step s2) ru q ⟨k, rfl, ?_⟩
    cases k with
    | false => exact ⟨false, rfl, h2' ρ2 H2 .refl o2⟩
    | true =>
      refine ⟨ρ2, η, st2, o2, (re.step s1).step s2, Out.bind h2' fun z st3 ρ3 H3 _ s3 o3 h3 => fun w rw' => ?_⟩
      unfold cmpOp at h3
      cases q3 : cmpB p y z st3 with
      | none => rw [q3] at h3; exact h3.elim
      | some k =>
        rw [q3] at h3
        exact h2'' ρ3 H3 st3 y z u w k _ o3 (ru.step s3) rw' q3 ⟨k, rfl, h3 ρ3 H3 .refl o3⟩
end
end Cv
namespace Cv
open L2 PySem PySem.Spec PyProof.Rows

/-! ### built-ins by values -/
def RunsByL (G : Gc) (r : List V → Hp → VK → Prop) (f : List PV → Sto → Res PV) : Prop :=
  ∀ (ρ : List Addr) (H : Hp) (st : Sto) (xs : List PV) (vs : List V) (Q : VK) (E : Str → List (Str × PV) → List Addr → Hp → Prop), StOk G ρ H st → RVs G ρ H xs vs → Out G (f xs st) ρ H (VP G Q) E → r vs H Q
inductive BI where | len | abs | int | repr | isi | tuple | list | all | any | gcd
  deriving DecidableEq
def BI.val : BI → Value
  | .len => .builtin "len" | .abs => .builtin "abs" | .int => .type "int" | .repr => .builtin "repr" | .isi => .builtin "isinstance" | .tuple => .type "tuple" | .list => .type "list"
  | .all => .builtin "all" | .any => .builtin "any" | .gcd => .builtin "math.gcd"
/-- a value's items, where it is a row -/
def items (st : Sto) : PV → Option (List PV)
  | .tup xs => some xs
  | .fls xs => some xs
  | .loc n => match st[n]? with
    | some (.lst xs) => some xs
    | _ => none
  | _ => none
def isList (st : Sto) : PV → Bool
  | .fls _ => true
  | .loc n => match st[n]? with
    | some (.lst _) => true
    | _ => false
  | _ => false
def lenOp (st : Sto) : PV → Option Nat
  | .str x => if x.length ≤ LIM then some x.length else none
  | .loc n => match st[n]? with
    | some (.lst xs) => some xs.length
    | some (.dct xs) => some xs.length
    | _ => none
  | .tup xs => some xs.length
  | .fls xs => some xs.length
  | _ => none
/-- data of tuples and empty dicts, for repr -/
def toD2 : Nat → Sto → PV → Option PyData
  | 0, _, _ => none
  | n + 1, st, p => match p with
    | .non => some .none
    | .bl b => some (.bool b)
    | .int i => some (.int i)
    | .str x => some (.str x)
    | .tup xs => (omap (toD2 n st) xs).map .tuple
    | .loc m => match st[m]? with
      | some (.dct []) => some (.dict [])
      | _ => none
    | _ => none
def isRefP : PV → Bool
  | .tup _ => true
  | .loc _ => true
  | _ => false
def reprOp2 (st : Sto) (p : PV) : Option Str := match toD2 70 st p with
  | some d => if (d.showable && decide (d.shown.length ≤ LIM)) && (decide (d.depth ≤ 64) && isRefP p) then some d.shown else none
  | none => none
def reprOp (st : Sto) (p : PV) : Option Str := match dat st p with
  | some d => if d.showable && decide (d.shown.length ≤ LIM) then some d.shown else none
  | none => reprOp2 st p
/-- a value's built-in class -/
def tyName (st : Sto) : PV → Option String
  | .non => some "NoneType"
  | .bl _ => some "bool"
  | .int _ => some "int"
  | .str _ => some "str"
  | .tup _ => some "tuple"
  | .fls _ => some "list"
  | .loc n => match st[n]? with
    | some (.lst _) =>
          some "list"
    | some (.dct _) => some "dict"
    | _ => none
  | _ => none
def isiOne (st : Sto) (x c : PV) : Option Bool := match tyName st x, c with
  | some t, .ty n => kitB t n
  | _, _ => none
def isCls : PV → Bool
  | .ty _ => true
  | .gl _ => true
  | _ => false
def isiAny (st : Sto) (x : PV) : List PV → Option Bool
  | [] => some false
  | c :: cs => match isiOne st x c with
    | some true => if cs.all isCls then some true else none
    | some false => isiAny st x cs
    | none => none
def blsOf : List PV → Option (List Bool)
  | [] => some []
  | .bl b :: r => (blsOf r).map (b :: ·)
  | _ :: _ => none
def rb (o : Option PV) (st : Sto) : Res PV := match o with
  | some p => .ok p st
  | none => .stuck
def bltOp : BI → List PV → Sto → Res PV
  | .len, [x], st => rb ((lenOp st x).map fun n : Nat => PV.int (n : Int)) st
  | .abs, [x], st => match x with
    | .int i => .ok (.int (if i < 0 then -i else i)) st
    | _ => .stuck
  | .int, [x], st => match x with
    | .int i => .ok (.int i) st
    | .bl b => .ok (.int (if b then 1 else 0)) st
    | _ => .stuck
  | .repr, [x], st => rb ((reprOp st x).map .str) st
  | .isi, [x, c], st => match c with
    | .tup cs => if cs.isEmpty then .stuck else rb ((isiAny st x cs).map .bl) st
    | c => rb ((isiOne st x c).map .bl) st
  | .tuple, [x], st => rb ((items st x).map .tup) st
  | .list, [x], st => match items st x with
    | some xs => .ok (.loc st.length) (st ++ [.lst xs])
    | none => .stuck
  | .all, [x], st => if isList st x then rb (((items st x).bind blsOf).map fun bs => .bl (bs.all id)) st else .stuck
  | .any, [x], st => if isList st x then rb (((items st x).bind blsOf).map fun bs => .bl (bs.any id)) st else .stuck
  | .gcd, [x, y], st => match x, y with
    | .int i, .int j => .ok (.int ((Nat.gcd i.natAbs j.natAbs : Nat) : Int)) st
    | _, _ => .stuck
  | _, _, _ => .stuck
section
variable {X : Cx} {G : Gc} {ρ : List Addr} {H : Hp} {st : Sto} {E : Str → List (Str × PV) → List Addr → Hp → Prop} {Q : VK}
theorem rb_out {o : Option PV} (h : Out G (rb o st) ρ H (VP G Q) E) : ∃ p, o = some p ∧ Out G (.ok p st) ρ H (VP G Q) E := by
  unfold rb at h
  split at h
  · exact ⟨_, rfl, h⟩
  · exact False.elim h
theorem RVs.one_inv {p : PV} {vs : List V} (h : RVs G ρ H [p] vs) : ∃ v, vs = [v] ∧ RV G ρ H p v := by
  cases h with
  | cons a b => cases b; exact ⟨_, rfl, a⟩
theorem RVs.two_inv {p q : PV} {vs : List V} (h : RVs G ρ H [p, q] vs) : ∃ v u, vs = [v, u] ∧ RV G ρ H p v ∧ RV G ρ H q u := by
  cases h with
  | cons a b => obtain ⟨u, rfl, r⟩ := b.one_inv; exact ⟨_, _, rfl, a, r⟩
theorem items_ok {x : PV} {v : V} {xs : List PV} (so : StOk G ρ H st) (rx : RV G ρ H x v) (e : items st x = some xs) : ∃ a vs, v = .ref a ∧ RVs G ρ H xs vs ∧ ((isList st x = true ∧ SqL G.K H a vs) ∨ ((∃ ys, x = .tup ys) ∧ Tp G.K H a vs)) := by
  cases rx with
  | tup h r => cases e; exact ⟨_, _, rfl, r, .inr ⟨⟨_, rfl⟩, h⟩⟩
  | fls h r => cases e; exact ⟨_, _, rfl, r, .inl ⟨rfl, h.sq⟩⟩
  | @loc n a h =>
    have e : (match st[n]? with | some (.lst xs) => some xs | _ => none) = some xs := e
    split at e
    · rename_i ys q
      cases e
      obtain ⟨vs, h1, r⟩ := so.at_ n _ a q h
      refine ⟨a, vs, rfl, r, .inl ⟨?_, .of h1⟩⟩
      show (match st[n]? with | some (.lst _) => true | _ => false) = true
      rw [q]
    · cases e
  | _ => cases e
theorem bls_ok : ∀ {xs : List PV} {vs : List V} {bs : List Bool}, RVs G ρ H xs vs → blsOf xs = some bs → vs = bs.map V.bl
  | _, _, _, .nil, e => by cases e; rfl
  | p :: ps, _, _, .cons h r, e => by
    cases h with
    | bl b =>
      obtain ⟨bs, e1, e2⟩ := Option.map_eq_some_iff.mp (show (blsOf ps).map (b :: ·) = _ from e)
      subst e2
      rw [bls_ok r e1]; rfl
    | _ => cases e
theorem tyName_ok {x : PV} {v : V} {t : String} (so : StOk G ρ H st) (rx : RV G ρ H x v) (e : tyName st x = some t) : TyX G.K H v (.type t) := by
  cases rx with
  | non => cases e; exact .base .non
  | bl b => cases e; exact .base (.bl b)
  | int b => cases e; exact .base (.int b)
  | str b => cases e; exact .base (.str b)
  | tup h r =>
    cases e
    rcases h with h | ⟨o, its, n, h1, h2, _⟩
    · exact .base (.tup h)
    · exact .kTuple h1 h2
  | fls h r =>
    cases e
    rcases h with ⟨o, h⟩ | ⟨o, its, n, h1, h2, _⟩
    · exact .base (.frz h)
    · exact .kList h1 h2
  | @loc n a h =>
    have e : (match st[n]? with | some (.lst _) => some "list" | some (.dct _) => some "dict" | _ => none) = some t := e
    split at e
    · rename_i ys q
      cases e
      obtain ⟨vs, h1, r⟩ := so.at_ n _ a q h
      exact .base (.lst h1)
    · rename_i ys q
      cases e
      obtain ⟨vs, h1, r⟩ := so.at_ n _ a q h
      exact .base (.dK h1)
    · cases e
  | _ => cases e
theorem isiOne_ok {x c : PV} {v u : V} {b : Bool} (so : StOk G ρ H st) (rx : RV G ρ H x v) (rc : RV G ρ H c u) (e : isiOne st x c = some b) : ∃ (t w : Value), ClsV u w ∧ TyX G.K H v t ∧ PySem.W.kitOne G.K t w = some b := by
  unfold isiOne at e
  split at e
  · rename_i t n q
    cases rc
    exact ⟨_, _, .ty _, tyName_ok so rx q, kit_ty e⟩
  · cases e
theorem TyX.same {x : PV} {v : V} {t : String} (so : StOk G ρ H st) (rx : RV G ρ H x v) (e : tyName st x = some t) {c : PV} {u : V} {b : Bool} (rc : RV G ρ H c u) (e2 : isiOne st x c = some b) : ∃ w, ClsV u w ∧ PySem.W.kitOne G.K (.type t) w = some b := by
  unfold isiOne at e2
  rw [e] at e2
  split at e2
  · rename_i t' n q
    cases q
    cases rc
    exact ⟨_, .ty _, kit_ty e2⟩
  · cases e2
theorem cls_all : ∀ {cs : List PV} {us : List V}, RVs G ρ H cs us → cs.all isCls = true → ∃ ws, Paired ClsV us ws
  | _, _, .nil, _ => ⟨[], .nil⟩
  | c :: cs, _, .cons h r, e => by
    rw [List.all_cons, Bool.and_eq_true] at e
    obtain ⟨ws, k⟩ := cls_all r e.2
    cases h with
    | ty n => exact ⟨_, .cons (.ty n) k⟩
    | gl q => exact ⟨_, .cons (.own _) k⟩
    | _ => cases e.1
theorem isiAny_ok {x : PV} {v : V} {t : String} (so : StOk G ρ H st) (rx : RV G ρ H x v) (et : tyName st x = some t) : ∀ {cs : List PV} {us : List V} {b : Bool}, RVs G ρ H cs us → isiAny st x cs = some b → ∃ ws, Paired ClsV us ws ∧ PySem.W.kitAny G.K (.type t) ws = some b
  | _, _, _, .nil, e => by cases e; exact ⟨[], .nil, rfl⟩
  | _, _, b, .cons h r, e => by
    unfold isiAny at e
    split at e
    · rename_i q
      obtain ⟨w, h1, h2⟩ := TyX.same so rx et h q
      split at e
      · rename_i c
        cases e
        obtain ⟨ws, k⟩ := cls_all r c
        exact ⟨w :: ws, .cons h1 k, kitAny_cons h2 (fun z => by cases z) (fun _ => rfl)⟩
      · cases e
    · rename_i q
      obtain ⟨w, h1, h2⟩ := TyX.same so rx et h q
      obtain ⟨ws, h3, h4⟩ := isiAny_ok so rx et r e
      exact ⟨w :: ws, .cons h1 h3, kitAny_cons h2 (fun _ => h4) (fun z => by cases z)⟩
    · cases e
/-- the layer's rule for each -/
def anyL (rs : List (List V → Hp → VK → Prop)) : List V → Hp → VK → Prop := fun x H Q => ∃ r ∈ rs, r x H Q
theorem call_any {f : Value} {rs : List (List V → Hp → VK → Prop)} (h : ∀ r ∈ rs, CallR X f r) : CallR X f (anyL rs) := fun pins s σ H xs us Q I rx ⟨r, m, q⟩ => h r m pins s σ H xs us Q I rx q
def rLenD : List V → Hp → VK → Prop := fun xs H Q => ∃ a kvs, xs = [V.ref a] ∧ H a = some (.dK kvs) ∧ Q (.int kvs.length) H
def rLenX (K : PySem.W.Frag) : List V → Hp → VK → Prop := fun xs H Q => ∃ x n, xs = [x] ∧ LenV K x H n ∧ Q (.int n) H
theorem rule_len : CallR X (.builtin "len") (anyL [rLenX X.K, rLenD]) := call_any fun r m => by
  simp only [List.mem_cons, List.not_mem_nil, or_false] at m
  rcases m with rfl | rfl
  · exact call_len
  · exact call_lenD
theorem runs_len : RunsByL G (anyL [rLenX G.K, rLenD]) (bltOp .len) := by
  intro ρ H st xs vs Q E so rx h
  match xs, rx with
  | [x], rx =>
    obtain ⟨v, rfl, r⟩ := rx.one_inv
    obtain ⟨p, e, h⟩ := rb_out (show Out G (rb ((lenOp st x).map fun n : Nat => PV.int (n : Int)) st) ρ H (VP G Q) E from h)
    obtain ⟨n, e1, rfl⟩ := Option.map_eq_some_iff.mp e
    have fin : Q (.int n) H := fin_ok so h (.int _)
    cases r with
    | str y =>
      have e1 : (if y.length ≤ LIM then some y.length else none) = some n := e1
      split at e1
      · rename_i c; cases e1; exact ⟨_, List.mem_cons_self, _, _, rfl, ⟨lim_line c, rfl⟩, fin⟩
      · cases e1
    | tup k r => cases e1; exact ⟨_, List.mem_cons_self, _, _, rfl, .inr ⟨_, k.sq, r.length⟩, fin⟩
    | fls k r => cases e1; exact ⟨_, List.mem_cons_self, _, _, rfl, .inl ⟨_, k.sq, r.length⟩, fin⟩
    | @loc m a k =>
      have e1 : (match st[m]? with | some (.lst xs) => some xs.length | some (.dct xs) => some xs.length | _ => none) = some n := e1
      split at e1
      · rename_i ys q
        cases e1
        obtain ⟨vs, h1, r⟩ := so.at_ m _ a q k
        exact ⟨_, List.mem_cons_self, _, _, rfl, .inl ⟨_, .of h1, r.length⟩, fin⟩
      · rename_i ys q
        cases e1
        obtain ⟨vs, h1, r⟩ := so.at_ m _ a q k
        exact ⟨_, List.mem_cons_of_mem _ List.mem_cons_self, a, vs, rfl, h1, by rw [← Paired.length r]; exact fin⟩
      · cases e1
    | _ => cases e1
  | [], _ => exact False.elim h
  | _ :: _ :: _, _ => exact False.elim h
theorem runs_abs : RunsByL G (fun xs H Q => ∃ i, xs = [.int i] ∧ Q (.int (if i < 0 then -i else i)) H) (bltOp .abs) := by
  intro ρ H st xs vs Q E so rx h
  match xs, rx with
  | [x], rx =>
    obtain ⟨v, rfl, r⟩ := rx.one_inv
    cases r with
    | int i => exact ⟨i, rfl, fin_ok so h (.int _)⟩
    | _ => exact False.elim h
  | [], _ => exact False.elim h
  | _ :: _ :: _, _ => exact False.elim h
theorem runs_int : RunsByL G (fun xs H Q => (∃ i, xs = [.int i] ∧ Q (.int i) H) ∨ ∃ k, xs = [.bl k] ∧ Q (.int (if k then 1 else 0)) H) (bltOp .int) := by
  intro ρ H st xs vs Q E so rx h
  match xs, rx with
  | [x], rx =>
    obtain ⟨v, rfl, r⟩ := rx.one_inv
    cases r with
    | int i => exact .inl ⟨i, rfl, fin_ok so h (.int _)⟩
    | bl i => exact .inr ⟨i, rfl, fin_ok so h (.int _)⟩
    | _ => exact False.elim h
  | [], _ => exact False.elim h
  | _ :: _ :: _, _ => exact False.elim h
theorem runs_gcd : RunsByL G rGcd (bltOp .gcd) := by
  intro ρ H st xs vs Q E so rx h
  match xs, rx with
  | [x, y], rx =>
    obtain ⟨v, u, rfl, r1, r2⟩ := rx.two_inv
    cases x with
    | int i => cases y with
      | int j => cases r1; cases r2; exact ⟨i, j, rfl, fin_ok so h (.int _)⟩
      | _ => exact False.elim h
    | _ => cases y <;> exact False.elim h
  | [], _ => exact False.elim h
  | [_], _ => exact False.elim h
  | _ :: _ :: _ :: _, _ => exact False.elim h
theorem runs_all : RunsByL G (rAll G.K) (bltOp .all) := by
  intro ρ H st xs vs Q E so rx h
  match xs, rx with
  | [x], rx =>
    obtain ⟨v, rfl, r⟩ := rx.one_inv
    obtain ⟨il, h⟩ := ite_stuck (show Out G (if isList st x = true then rb (((items st x).bind blsOf).map fun bs => PV.bl (bs.all id)) st else .stuck) ρ H (VP G Q) E from h)
    obtain ⟨p, e, h⟩ := rb_out h
    obtain ⟨bs, e1, rfl⟩ := Option.map_eq_some_iff.mp e
    obtain ⟨ps, e2, e3⟩ := Option.bind_eq_some_iff.mp e1
    obtain ⟨a, ws, rfl, rr, k⟩ := items_ok so r e2
    have eb := bls_ok rr e3
    subst eb
    rcases k with ⟨_, k⟩ | ⟨⟨ys, rfl⟩, _⟩
    · exact ⟨a, bs, rfl, k, fin_ok so h (.bl _)⟩
    · cases il
  | [], _ => exact False.elim h
  | _ :: _ :: _, _ => exact False.elim h
theorem runs_any : RunsByL G (rAny G.K) (bltOp .any) := by
  intro ρ H st xs vs Q E so rx h
  match xs, rx with
  | [x], rx =>
    obtain ⟨v, rfl, r⟩ := rx.one_inv
    obtain ⟨il, h⟩ := ite_stuck (show Out G (if isList st x = true then rb (((items st x).bind blsOf).map fun bs => PV.bl (bs.any id)) st else .stuck) ρ H (VP G Q) E from h)
    obtain ⟨p, e, h⟩ := rb_out h
    obtain ⟨bs, e1, rfl⟩ := Option.map_eq_some_iff.mp e
    obtain ⟨ps, e2, e3⟩ := Option.bind_eq_some_iff.mp e1
    obtain ⟨a, ws, rfl, rr, k⟩ := items_ok so r e2
    have eb := bls_ok rr e3
    subst eb
    rcases k with ⟨_, k⟩ | ⟨⟨ys, rfl⟩, _⟩
    · exact ⟨a, bs, rfl, k, fin_ok so h (.bl _)⟩
    · cases il
  | [], _ => exact False.elim h
  | _ :: _ :: _, _ => exact False.elim h
def rTupOf (K : PySem.W.Frag) : List V → Hp → VK → Prop := fun xs H Q => ∃ p ys, xs = [.ref p] ∧ ((SqL K H p ys ∧ ∀ l, H l = none → Q (.ref l) (upd H l (.tup ys))) ∨ (SqT K H p ys ∧ Q (.ref p) H))
def rLstOf (K : PySem.W.Frag) : List V → Hp → VK → Prop := fun xs H Q => ∃ p ys, xs = [.ref p] ∧ (SqL K H p ys ∨ SqT K H p ys) ∧ ∀ l, H l = none → Q (.ref l) (upd H l (.lst ys))
theorem runs_tuple : RunsByL G (rTupOf G.K) (bltOp .tuple) := by
  intro ρ H st xs vs Q E so rx h
  match xs, rx with
  | [x], rx =>
    obtain ⟨v, rfl, r⟩ := rx.one_inv
    obtain ⟨p, e, h⟩ := rb_out (show Out G (rb ((items st x).map .tup) st) ρ H (VP G Q) E from h)
    obtain ⟨ps, e2, rfl⟩ := Option.map_eq_some_iff.mp e
    obtain ⟨a, ws, rfl, rr, k⟩ := items_ok so r e2
    rcases k with ⟨_, k⟩ | ⟨_, k⟩
    · exact ⟨a, ws, rfl, .inl ⟨k, fun l hl => h ρ _ (step_new hl) (so.new_other hl) _ (.tup (.inl upd_same) (rr.step (step_new hl)))⟩⟩
    · exact ⟨a, ws, rfl, .inr ⟨k.sq, fin_ok so h (.tup k rr)⟩⟩
  | [], _ => exact False.elim h
  | _ :: _ :: _, _ => exact False.elim h
theorem runs_list : RunsByL G (rLstOf G.K) (bltOp .list) := by
  intro ρ H st xs vs Q E so rx h
  match xs, rx with
  | [x], rx =>
    obtain ⟨v, rfl, r⟩ := rx.one_inv
    have h : Out G (match items st x with | some xs => .ok (.loc st.length) (st ++ [.lst xs]) | none => .stuck) ρ H (VP G Q) E := h
    split at h
    · rename_i ps e2
      obtain ⟨a, ws, rfl, rr, k⟩ := items_ok so r e2
      refine ⟨a, ws, rfl, k.imp (·.2) (·.2.sq), fun l hl => h _ _ (step_push hl) (so.push hl ⟨_, upd_same, rr.step (step_push hl)⟩) _ (.loc ?_)⟩
      rw [← so.len]; simp
    · exact False.elim h
  | [], _ => exact False.elim h
  | _ :: _ :: _, _ => exact False.elim h
theorem rule_isi : CallR X (.builtin "isinstance") (anyL [rIsi X.K, rIsiT X.K, rIsiK X.K]) := call_any fun r m => by
  simp only [List.mem_cons, List.not_mem_nil, or_false] at m
  rcases m with rfl | rfl | rfl
  · exact call_isi
  · exact call_isiT
  · exact call_isiK
theorem isiAny_name {x : PV} {b : Bool} : ∀ {cs : List PV}, isiAny st x cs = some b → cs ≠ [] → ∃ t, tyName st x = some t
  | [], _, n => absurd rfl n
  | c :: cs, e, _ => by
    cases q : tyName st x with
    | some t => exact ⟨t, rfl⟩
    | none =>
      have z : isiOne st x c = none := by unfold isiOne; rw [q]
      unfold isiAny at e
      rw [z] at e
      cases e
theorem runs_isi : RunsByL G (anyL [rIsi G.K, rIsiT G.K, rIsiK G.K]) (bltOp .isi) := by
  intro ρ H st xs vs Q E so rx h
  match xs, rx with
  | [x, c], rx =>
    obtain ⟨v, u, rfl, r1, r2⟩ := rx.two_inv
    have one : ∀ b, isiOne st x c = some b → Out G (.ok (.bl b) st) ρ H (VP G Q) E → anyL [rIsi G.K, rIsiT G.K, rIsiK G.K] [v, u] H Q := fun b e h => by
      obtain ⟨t, w, k1, k2, k3⟩ := isiOne_ok so r1 r2 e
      exact ⟨_, List.mem_cons_self, v, u, t, w, b, rfl, k1, k2, k3, fin_ok so h (.bl _)⟩
    cases r2 with
    | @tup a cs us k r =>
      have h : Out G (if cs.isEmpty = true then .stuck else rb ((isiAny st x cs).map .bl) st) ρ H (VP G Q) E := h
      have ne : cs ≠ [] := fun z => by subst z; exact False.elim h
      rw [if_neg (by simpa using ne)] at h
      obtain ⟨p, e, h⟩ := rb_out h
      obtain ⟨b, e1, rfl⟩ := Option.map_eq_some_iff.mp e
      have fin : Q (.bl b) H := fin_ok so h (.bl _)
      · obtain ⟨t, et⟩ := isiAny_name e1 ne
        obtain ⟨ws, h3, h4⟩ := isiAny_ok so r1 et r e1
        have ty := tyName_ok so r1 et
        rcases k with k | ⟨o, its, n, k1, k2, k3, k4, k5⟩
        · exact ⟨_, List.mem_cons_of_mem _ List.mem_cons_self, v, a, us, _, ws, b, rfl, k, h3, ty, h4, fin⟩
        · have e5 : its.toList = ws := ClsV.all h3 k5
          obtain ⟨oc, od, dt, osl⟩ := o
          simp only at k2 k3
          subst k2 k3
          exact ⟨_, List.mem_cons_of_mem _ (List.mem_cons_of_mem _ List.mem_cons_self), v, a, od, its.toList, n, osl, _, b, rfl, by rw [Array.toArray_toList]; exact k1, ty, by rw [e5]; exact h4, fin⟩
    | _ =>
      obtain ⟨p, e, h⟩ := rb_out h
      obtain ⟨b, e1, rfl⟩ := Option.map_eq_some_iff.mp e
      exact one b e1 h
  | [], _ => exact False.elim h
  | [_], _ => exact False.elim h
  | _ :: _ :: _ :: _, _ => exact False.elim h
/-- repr of data -/
def rRepr (K : PySem.W.Frag) : List V → Hp → VK → Prop := fun xs H Q => ∃ v d, xs = [v] ∧ Dp K H v d ∧ SeqAt.shaped d = true ∧ d.showable = true ∧ d.shown.length ≤ sizeLine ∧ Q (.str d.shown) H
theorem call_reprD (hg : X.A.guards = some []) (hu : X.A.units + 66 < cLine) : CallR X (.builtin "repr") (rRepr X.K) := by
  intro pins s σ
        H xs us Q I r h
  obtain ⟨v, d, rfl, hd, sd, hs, hz, q⟩ := h
  obtain ⟨u, rfl, rv⟩ := vals1 r
  have dep : d.depth ≤ 64 := SeqAt.depth_of_shaped sd
  have lay := SeqAt.canLay_of_shaped sd
  have nod := PyData.hasDict_of_canLay d lay
  cases hd with
  | non => cases rv; exact PySem.P.repr_of_none ⟨.str _, H, I.tok _, ⟨_, rfl⟩, by simpa only [PyData.shown] using q⟩
  | bl b => cases rv; exact PySem.P.repr_of_bool ⟨.str _, H, I.tok _, ⟨_, rfl⟩, by simpa only [PyData.shown] using q⟩
  | int i =>
    obtain ⟨t, rfl⟩ := rv
    exact PySem.P.repr_of_int (of_decide_eq_true (by simpa only [PyData.showable] using hs)) ⟨.str _, H, I.tok _, ⟨_, rfl⟩, by simpa only [PyData.shown] using q⟩
  | str x =>
    obtain ⟨t, rfl⟩ := rv
    exact PySem.P.repr_of_str ⟨.str _, H, I.tok _, ⟨_, rfl⟩, by simpa only [PyData.shown] using q⟩ (by simpa only [PyData.shown] using hz)
  | lst k1 k2 =>
    cases rv
    obtain ⟨as, rd⟩ := Dp.reads I _ _ _ (.lst k1 k2) rfl
    exact PySem.repr_of_reads' (h₀ := s.heap) rd hs (fun z => by rw [nod] at z; cases z) hg (by omega) (fun _ _ e => e) (fun h' u tk k => ⟨.str _, H, I.kept k, ⟨_, rfl⟩, q⟩) hz
  | tup k1 k2 =>
    cases rv
    obtain ⟨as, rd⟩ := Dp.reads I _ _ _ (.tup k1 k2) rfl
    exact PySem.repr_of_reads' (h₀ := s.heap) rd hs (fun z => by rw [nod] at z; cases z) hg (by omega) (fun _ _ e => e) (fun h' u tk k => ⟨.str _, H, I.kept k, ⟨_, rfl⟩, q⟩) hz
mutual
inductive Dq (K : PySem.W.Frag) (H : Hp) : V → PyData → Prop
  | non : Dq K H .non .none
  | bl (b : Bool) : Dq K H (.bl b) (.bool b)
  | int (i : Int) : Dq K H (.int i) (.int i)
  | str (x : Str) : Dq K H (.str x) (.str x)
  | tup {a : Addr} {xs : List V} {ds : List PyData} : SqT K H a xs → DqAll K H xs ds → Dq K H (.ref a) (.tuple ds)
  | emp {a : Addr} : H a = some (.dK []) → Dq K H (.ref a) (.dict [])
inductive DqAll (K : PySem.W.Frag) (H : Hp) : List V → List PyData → Prop
  | nil : DqAll K H [] []
  | cons {v : V} {vs : List V} {d : PyData} {ds : List PyData} : Dq K H v d → DqAll K H vs ds → DqAll K H (v :: vs) (d :: ds)
end
section
variable {pins : List (Addr × Obj)} {σ : L2.St} {s : Shared}
mutual
theorem Dq.reads (I : L2.Inv X pins σ H s) : ∀ {v : V} {d : PyData} {u : Value}, Dq X.K H v d → RelV v u → ∃ as, Reads s.heap u d as ∧ sysModules ∉ as
  | _, _, _, .non, r => by cases r; exact ⟨_, .none, by simp⟩
  | _, _, _, .bl b, r => by cases r; exact ⟨_, .bool b, by simp⟩
  | _, _, _, .int i, r => by obtain ⟨t, rfl⟩ := r; exact ⟨_, .int i t, by simp⟩
  | _, _, _, .str x, r => by obtain ⟨t, rfl⟩ := r; exact ⟨_, .str x t, by simp⟩
  | _, _, _, .tup k1 k2, r => by
    cases r
    obtain ⟨its, rv, ⟨o, ho, hc, n, hd⟩, _⟩ := I.tuple k1
    obtain ⟨as, h1, h2⟩ := DqAll.reads I k2 rv
    exact ⟨_, .tuple ho hc hd h1, h2⟩
  | _, _, _, .emp k, r => by
    cases r
    obtain ⟨_, low, vs, kv, o, es, ep, ho, ex, hd, _, pr, _⟩ := dk_of I.hok k
    cases kv
    have ee : es.toList = [] := by
      cases q : es.toList with
      | nil => rfl
      | cons a l => rw [q] at pr; cases pr
    refine ⟨_, .dict (kvs := []) ho ex.1 hd (by rw [ee]; exact .nil) (by rw [ee]; exact .nil), ?_⟩
    simp only [List.append_nil, List.mem_singleton]
    exact fun z => by rw [z] at low; simp at low
theorem DqAll.reads (I : L2.Inv X pins σ H s) : ∀ {vs : List V} {ds : List PyData} {us : List Value}, DqAll X.K H vs ds → Vals vs us → ∃ as, ReadsAll s.heap us ds as ∧ sysModules ∉ as
  | _, _, _, .nil, r => by cases r; exact ⟨_, .nil, by simp⟩
  | _, _, _, .cons h t, r => by
    cases r with
    | cons r1 r2 =>
      obtain ⟨as, h1, h2⟩ := Dq.reads I h r1
      obtain ⟨bs, h3, h4⟩ := DqAll.reads I t r2
      exact ⟨_, .cons h1 h3, by rw [List.mem_append]; exact fun z => z.elim h2 h4⟩
end
end
def rRepr2 (K : PySem.W.Frag) : List V → Hp → VK → Prop := fun xs H Q => ∃ a d, xs = [.ref a] ∧ Dq K H (.ref a) d ∧ d.depth ≤ 64 ∧ d.showable = true ∧ d.shown.length ≤ sizeLine ∧ Q (.str d.shown) H
theorem call_reprQ (hg : X.A.guards = some []) (hu : X.A.units + 66 < cLine) : CallR X (.builtin "repr") (rRepr2 X.K) := by
  intro pins s σ
        H xs us Q I r h
  obtain ⟨a, d, rfl, hd, dep, hs, hz, q⟩ := h
  obtain ⟨u, rfl, rv⟩ := vals1 r
  cases rv
  obtain ⟨as, rd, no⟩ := Dq.reads I hd rfl
  exact PySem.repr_of_reads' (h₀ := s.heap) rd hs (fun _ => no) hg (by omega) (fun _ _ e => e) (fun h' u tk k => ⟨.str _, H, I.kept k, ⟨_, rfl⟩, q⟩) hz
theorem dqAll_of {n : Nat} (ih : ∀ {p : PV} {v : V} {d : PyData}, RV G ρ H p v → toD2 n st p = some d → Dq G.K H v d) : ∀ {ps : List PV} {vs : List V} {ds : List PyData}, RVs G ρ H ps vs → omap (toD2 n st) ps = some ds → DqAll G.K H vs ds
  | _, _, _, .nil, e => by cases e; exact .nil
  | _, _, _, .cons h r, e => by
    unfold omap at e
    split at e
    · rename_i y ys e1 e2
      cases e
      exact .cons (ih h e1) (dqAll_of ih r e2)
    · cases e
theorem dq_of (so : StOk G ρ H st) : ∀ (n : Nat) {p : PV} {v : V} {d : PyData}, RV G ρ H p v → toD2 n st p = some d → Dq G.K H v d
  | 0, _, _, _, _, e => by cases e
  | n + 1, _, _, _, .non, e => by cases e; exact .non
  | n + 1, _, _, _, .bl b, e => by cases e; exact .bl b
  | n + 1, _, _, _, .int b, e => by cases e; exact .int b
  | n + 1, _, _, _, .str b, e => by cases e; exact .str b
  | n + 1, _, _, _, .ty b, e => by cases e
  | n + 1, _, _, _, .gl b, e => by cases e
  | n + 1, _, _, _, .clo b, e => by cases e
  | n + 1, .tup xs, _, _, .tup h r, e => by
    obtain ⟨ds, e1, e2⟩ := Option.map_eq_some_iff.mp (show (omap (toD2 n st) xs).map PyData.tuple = _ from e)
    subst e2
    exact .tup h.sq (dqAll_of (fun a b => dq_of so n a b) r e1)
  | n + 1, .fls xs, _, _, .fls h r, e => by cases e
  | n + 1, .loc m, _, _, .loc h, e => by
    replace e : (match st[m]? with | some (.dct []) => some (PyData.dict []) | _ => none) = _ := e
    split at e
    · rename_i q
      cases e
      obtain ⟨vs, k1, r⟩ := so.at_ _ _ _ q h
      cases r
      exact .emp k1
    · cases e
theorem runs_repr : RunsByL G (anyL [rRepr G.K, rRepr2 G.K]) (bltOp .repr) := by
  intro ρ H st xs vs Q E so rx h
  match xs, rx with
  | [x], rx =>
    obtain ⟨v, rfl, r⟩ := rx.one_inv
    obtain ⟨p, e, h⟩ := rb_out (show Out G (rb ((reprOp st x).map .str) st) ρ H (VP G Q) E from h)
    obtain ⟨z, e1, rfl⟩ := Option.map_eq_some_iff.mp e
    unfold reprOp at e1
    split at e1
    · rename_i d q
      split at e1
      · rename_i c
        cases e1
        rw [Bool.and_eq_true] at c
        have k := dat_ok so r q
        exact ⟨_, List.mem_cons_self, v, d, rfl, k.1, k.2, c.1, lim_line (of_decide_eq_true c.2), fin_ok so h (.str _)⟩
      · cases e1
    · unfold reprOp2 at e1
      split at e1
      · rename_i d q
        split at e1
        · rename_i c
          cases e1
          simp only [Bool.and_eq_true, decide_eq_true_eq] at c
          obtain ⟨⟨c1, c2⟩, c3, c4⟩ := c
          have k := dq_of so 70 r q
          obtain ⟨a, rfl⟩ : ∃ a, v = .ref a := by
            cases r <;> first | exact ⟨_, rfl⟩ | cases c4
          exact ⟨_, List.mem_cons_of_mem _ List.mem_cons_self, a, d, rfl, k, c3, c1, lim_line c2, fin_ok so h (.str _)⟩
        · cases e1
      · cases e1
  | [], _ => exact False.elim h
  | _ :: _ :: _, _ => exact False.elim h
/-- every built-in has its rule -/
theorem blt_rule (hK : X.K = G.K) (hc : X.calm = true) (hg : X.A.guards = some []) (hu : X.A.units + 66 < cLine) (b : BI) : ∃ r, CallR X b.val r ∧ RunsByL G r (bltOp b) := by
  cases b with
  | len => exact ⟨_, by have := rule_len (X := X); rw [hK] at this; exact this, runs_len⟩
  | abs => exact ⟨_, call_abs, runs_abs⟩
  | int => exact ⟨_, call_int1, runs_int⟩
  | repr =>
    refine ⟨_, ?_, runs_repr⟩
    have h1 := call_reprD (X := X) hg hu
    have h2 := call_reprQ (X := X) hg hu
    rw [hK] at h1 h2
    refine call_any fun r m => ?_
    simp only [List.mem_cons, List.not_mem_nil, or_false] at m
    rcases m with rfl | rfl
    · exact h1
    · exact h2
  | isi => exact ⟨_, by have := rule_isi (X := X); rw [hK] at this; exact this, runs_isi⟩
  | tuple => exact ⟨_, by have := call_tuple_of (X := X); rw [hK] at this; exact this, runs_tuple⟩
  | list => exact ⟨_, by have := call_list_of (X := X); rw [hK] at this; exact this, runs_list⟩
  | all => exact ⟨_, by have := cr_all (X := X) hc; rw [hK] at this; exact this, runs_all⟩
  | any => exact ⟨_, by have := cr_any (X := X) hc; rw [hK] at this; exact this, runs_any⟩
  | gcd => exact ⟨_, cr_gcd, runs_gcd⟩
end
end Cv
namespace Cv
open L2 PySem PySem.Spec PyProof.Rows

/-! ### writes -/
section
variable {G : Gc} {ρ : List Addr} {H : Hp} {st : Sto}
def Wr : HO → Prop
  | .lst _ => True
  | .dK _ => True
  | .ins _ _ _ => True
  | _ => False
theorem step_write {a : Addr} {o o' : HO} (h : H a = some o) (w : Wr o) (m : a ∈ ρ) : Step ρ H ρ (upd H a o') := by
  refine ⟨List.prefix_refl _, fun b x q n _ => ?_, fun b vs q => ?_, fun b x u q => ?_, fun b ps q => ⟨#[], ?_⟩, fun b z n => absurd z n⟩
  · rw [upd_ne (fun e => n (by rw [e]; exact m))]; exact q
  · rw [upd_ne (ne_of q h (fun z => by subst z; exact w))]; exact q
  · rw [upd_ne (ne_of q h (fun z => by subst z; exact w))]; exact q
  · rw [upd_ne (ne_of q h (fun z => by subst z; exact w))]; simpa using q
theorem tab_write {a : Addr} {o o' : HO} (h : H a = some o) (w : Wr o) {P : Addr} {q : Str} (t : LamX.TabS H P q) : LamX.TabS (upd H a o') P q := by
  obtain ⟨ps, h1, h2, h3⟩ := t
  refine ⟨ps, by rw [upd_ne (ne_of h1 h (fun z => by subst z; exact w))]; exact h1, h2, fun pos cv hc => ?_⟩
  obtain ⟨c, e, hh⟩ := h3 pos cv hc
  have nz : LamX.CodeO c q ≠ o := fun z => by
    have z' : o = HO.ext _ := z.symm
    rw [z'] at w
    exact w
  exact ⟨c, e, by rw [upd_ne (ne_of hh h nz)]; exact hh⟩
theorem mem_of_at {n : Nat} {a : Addr} (h : ρ[n]? = some a) : a ∈ ρ := List.mem_of_getElem? h
theorem StOk.set (so : StOk G ρ H st) {n : Nat} {a : Addr} {o o' : HO} {x : SO} (ha : ρ[n]? = some a) (h : H a = some o) (w : Wr o) (k : SOk G ρ (upd H a o') a x) : StOk G ρ (upd H a o') (st.set n x) := by
  refine ⟨by simp [so.len], so.nd, fun m y b e1 e2 => ?_, fun z hz => (so.cap z hz).step (step_write h w (mem_of_at ha)), fun z hz => tab_write h w (so.tbs z hz)⟩
  by_cases hm : n = m
  · subst hm
    rw [ha] at e2; cases e2
    rw [List.getElem?_set_self' ] at e1
    cases q : st[n]? with
    | none => rw [q] at e1; cases e1
    | some z => rw [q] at e1; cases e1; exact k
  · rw [List.getElem?_set_ne hm] at e1
    have nb : b ≠ a := fun z => by
      subst z
      have h1 := List.getElem?_eq_some_iff.mp ha
      have h2 := List.getElem?_eq_some_iff.mp e2
      obtain ⟨l1, g1⟩ := h1
      obtain ⟨l2, g2⟩ := h2
      exact hm ((List.getElem_inj so.nd).mp (g1.trans g2.symm))
    exact (so.at_ m y b e1 e2).step (step_write h w (mem_of_at ha)) (.inl (upd_ne nb))
end

/-! ### subscripts -/
def dIdx (x : PV) (k : Key) (st : Sto) : Res PV := match x with
  | .loc n => match st[n]? with
    | some (.dct ks) => rb (findK ks k) st
    | _ => .stuck
  | _ => .stuck
def lIdx (x : PV) (i : Int) (st : Sto) : Res PV := match items st x with
  | some xs => rb (atI xs i) st
  | none => dIdx x (.inl i) st
def idxOp (x y : PV) (st : Sto) : Res PV := match y with
  | .int i => lIdx x i st
  | .str z => dIdx x (.inr z) st
  | _ => .stuck
def rIxD : R2 := fun x y H Q => ∃ a v, x = .ref a ∧ DGet H a y (some v) ∧ Q v H
def rIx (K : PySem.W.Frag) : R2 := fun x y H Q => rIxL K x y H Q ∨ rIxT K x y H Q ∨ rIxD x y H Q
section
variable {X : Cx} {G : Gc} {W : WX} {a b c : Expr} {ma mb mc : Ev PV} {pos : Pos}
theorem ix_dict (hu : X.A.units + 1 < cLine) : IxR X rIxD := by
  intro value slice pins s
        σ H x y v u Q I rx ry h hs
  obtain ⟨a, z, rfl, g, q⟩ := h
  cases rx
  exact tail_any (dict_typeIs I g) PySem.F.slot_dict_getitem.lookup (d_getItem hu I g ry fun w' s3 I3 rw' => ⟨z, H, I3, rw', q⟩) hs
theorem ix_all (hu : X.A.units + 1 < cLine) : IxR X (rIx X.K) := fun value slice pins s σ H x y v u Q I rx ry h hs => by
  rcases h with h | h | h
  · exact ix_list value slice pins s σ H x y v u Q I rx ry h hs
  · exact ix_tup value slice pins s σ H x y v u Q I rx ry h hs
  · exact ix_dict hu value slice pins s σ H x y v u Q I rx ry h hs
theorem atI_rel {ρ : List Addr} {H : Hp} {xs : List PV} {vs : List V} {i : Int} {p : PV} (r : RVs G ρ H xs vs) (e : atI xs i = some p) : ∃ v, atI vs i = some v ∧ RV G ρ H p v := by
  unfold atI at *
  rw [← r.length]
  obtain ⟨j, h1, h2⟩ := Option.bind_eq_some_iff.mp e
  obtain ⟨v, h3, h4⟩ := r.get h2
  exact ⟨v, by rw [h1]; exact h3, h4⟩
theorem dict_get {ρ : List Addr} {H : Hp} {st : Sto} {n : Nat} {a : Addr} {ks : List (Key × PV)} {k : Key} {p : PV} (so : StOk G ρ H st) (ha : ρ[n]? = some a) (q : st[n]? = some (.dct ks)) (e : findK ks k = some p) : ∃ v, DGet H a (kV k) (some v) ∧ RV G ρ H p v := by
  obtain ⟨vs, h1, r⟩ := so.at_ n _ a q ha
  rcases find_rel r k with ⟨z1, _⟩ | ⟨p', w, z1, z2, z3⟩
  · rw [e] at z1; cases z1
  · rw [e] at z1; cases z1
    exact ⟨w, by rw [← z2]; exact .k h1, z3⟩
theorem dIdx_ok {ρ : List Addr} {H : Hp} {st : Sto} {x : PV} {v : V} {k : Key} {Q : VK} {E : Str → List (Str × PV) → List Addr → Hp → Prop} (so : StOk G ρ H st) (rx : RV G ρ H x v) (h : Out G (dIdx x k st) ρ H (VP G Q) E) : rIxD v (kV k) H Q := by
  cases rx with
  | @loc n a hl =>
    have h : Out G (match st[n]? with | some (.dct ks) => rb (findK ks k) st | _ => .stuck) ρ H (VP G Q) E := h
    split at h
    · rename_i ks q2
      obtain ⟨p, e, h⟩ := rb_out h
      obtain ⟨w, g, rw'⟩ := dict_get so hl q2 e
      exact ⟨a, w, rfl, g, fin_ok so h rw'⟩
    · exact False.elim h
  | _ => exact False.elim h
theorem runs_idx : RunsBy G (rIx G.K) idxOp := by
  intro ρ H st x y v u Q E so rx ry h
  cases ry with
  | int i =>
    have h : Out G (lIdx x i st) ρ H (VP G Q) E := h
    unfold lIdx at h
    split at h
    · rename_i xs q
      obtain ⟨p, e, h⟩ := rb_out h
      obtain ⟨a, vs, rfl, r, k⟩ := items_ok so rx q
      obtain ⟨w, e1, e2⟩ := atI_rel r e
      rcases k with ⟨_, k⟩ | ⟨_, k⟩
      · exact .inl ⟨a, vs, i, w, rfl, rfl, k, e1, fin_ok so h e2⟩
      · exact .inr (.inl ⟨a, vs, i, w, rfl, rfl, k.sq, e1, fin_ok so h e2⟩)
    · exact .inr (.inr (dIdx_ok so rx h))
  | str z => exact .inr (.inr (dIdx_ok so rx h))
  | _ => exact False.elim h
def noSlice : Expr → Bool
  | .Slice _ _ _ _ => false
  | _ => true
theorem plain_of {b : Expr} (h : noSlice b = true) : PlainIx b := fun o i => by
  cases b <;> first | rfl | cases h
theorem me_idx (hK : X.K = G.K) (hu : X.A.units + 65 < cLine) (hs : noSlice b = true) (ha : PE X a (tE G ma W)) (hb : PE X b (tE G mb W)) : PE X (.Subscript a b pos) (tE G (two ma mb idxOp) W) :=
  pe_weak (pe_ix (by have := ix_all (X := X) (by omega); rw [hK] at this; exact this) ha hb (plain_of hs)) (two_of runs_idx)

/-! ### slices -/
def cutP (xs : List PV) (lo hi : Option Int) : List PV := (xs.drop (HT.sIx xs.length 0 lo)).take (HT.sIx xs.length xs.length hi - HT.sIx xs.length 0 lo)
theorem cutP_rel {ρ : List Addr} {H : Hp} {xs : List PV} {vs : List V} (r : RVs G ρ H xs vs) (lo hi : Option Int) : RVs G ρ H (cutP xs lo hi) (cutV vs lo hi) := by
  unfold cutP cutV
  rw [r.length]
  exact (r.drop _).take _
def slcOp (x : PV) (lo hi : Option Int) (st : Sto) : Res PV := match x with
  | .tup xs => .ok (.tup (cutP xs lo hi)) st
  | x => match items st x with
    | some xs => .ok (.loc st.length) (st ++ [.lst (cutP xs lo hi)])
    | none => .stuck
def eNoPart : Env' → Sto → Res (Option Int) := fun _ st => .ok none st
def ePart (m : Ev PV) : Env' → Sto → Res (Option Int) := fun η st => (m η st).bind fun x st => match x with
  | .int i => .ok (some i) st
  | _ => .stuck
def eSlc (m : Ev PV) (l h : Env' → Sto → Res (Option Int)) : Ev PV := fun η st => (m η st).bind fun x st => (l η st).bind fun lo st => (h η st).bind fun hi st => slcOp x lo hi st
def tO (G : Gc) (m : Ev (Option Int)) (W : WX) : TO := fun σ H Q => ∃ ρ η st, StOk G ρ H st ∧ REn G ρ H η σ ∧ Out G (m η st) ρ H (fun b _ H' => Q b H') (XW G W σ)
theorem mo_none : PO X none (tO G eNoPart W) := by
  refine ⟨fun pins s σ H Q I q => (po_none (X := X)).run pins s σ H Q I ?_⟩
  obtain ⟨ρ, η, st, so, re, h⟩ := q
  exact h ρ H .refl so
theorem mo_some (ha : PE X a (tE G ma W)) : PO X (some a) (tO G (ePart ma) W) := by
  refine ⟨fun pins s σ H Q I q => (po_some ha).run pins s σ H Q I ?_⟩
  obtain ⟨ρ, η, st, so, re, h⟩ := q
  refine ⟨ρ, η, st, so, re, Out.bind h fun x st1 ρ1 H1 _ s1 o1 h1 => fun v rv => ?_⟩
  cases rv with
  | int i => exact ⟨i, rfl, h1 ρ1 H1 .refl o1⟩
  | _ => exact False.elim h1
def rSl (K : PySem.W.Frag) : V → Option Int → Option Int → Hp → VK → Prop := fun x lo hi H Q => rSlL K x lo hi H Q ∨ rSlA K x lo hi H Q
theorem sIx_whole {ρ : List Addr} {H : Hp} {xs : List PV} {vs : List V} {lo hi : Option Int} (r : RVs G ρ H xs vs) (h : HT.sIx vs.length 0 lo = 0 ∧ HT.sIx vs.length vs.length hi = vs.length) : cutP xs lo hi = xs := by
  unfold cutP
  rw [r.length, h.1, h.2, ← r.length]
  simp
theorem me_slc {lo hi : Option Expr} {ml mh : Ev (Option Int)} {p2 : Pos} (hK : X.K = G.K) (ha : PE X a (tE G ma W)) (hl : PO X lo (tO G ml W)) (hh : PO X hi (tO G mh W)) : PE X (.Subscript a (.Slice lo hi none p2) pos) (tE G (eSlc ma ml mh) W) := by
  have rule : SlR X (rSl G.K) := by rw [← hK]; exact SlR.or sl_list sl_tupA
  refine pe_weak (pe_slice rule ha hl hh) ?_
  rintro σ H Q ⟨ρ, η, st, so, re, h⟩
  refine ⟨ρ, η, st, so, re, Out.bind h fun x st1 ρ1 H1 _ s1 o1 h1 => fun v rv => ⟨ρ1, η, st1, o1, re.step s1, Out.bind h1 fun lo st2 ρ2 H2 _ s2 o2 h2 => ⟨ρ2, η, st2, o2, (re.step s1).step s2, Out.bind h2 fun hi st3 ρ3 H3 _ s3 o3 h3 => ?_⟩⟩⟩
  have rv := (rv.step s2).step s3
  have lst : ∀ xs, items st3 x = some xs → (∀ ys, x ≠ .tup ys) → Out G (.ok (.loc st3.length) (st3 ++ [.lst (cutP xs lo hi)])) ρ3 H3 (VP G Q) (XW G W σ) → rSl G.K v lo hi H3 Q := fun xs e nt h3 => by
    obtain ⟨a, vs, rfl, r, k⟩ := items_ok o3 rv e
    rcases k with ⟨_, k⟩ | ⟨⟨ys, z⟩, _⟩
    · refine .inl ⟨a, vs, rfl, k, fun p hp => h3 _ _ (step_push hp) (o3.push hp ⟨_, upd_same, (cutP_rel r lo hi).step (step_push hp)⟩) _ (.loc ?_)⟩
      rw [← o3.len]; simp
    · exact absurd z (nt ys)
  cases rv with
  | tup k r =>
    refine .inr ⟨_, _, rfl, k.sq, fun c => ?_, fun c p hp => ?_⟩
    · have h3 : Out G (.ok (.tup (cutP _ lo hi)) st3) ρ3 H3 (VP G Q) (XW G W σ) := h3
      rw [sIx_whole r c] at h3
      exact fin_ok o3 h3 (.tup k r)
    · exact h3 ρ3 _ (step_new hp) (o3.new_other hp) _ (.tup (.inl upd_same) ((cutP_rel r lo hi).step (step_new hp)))
  | fls k r => exact lst _ rfl (fun _ z => by cases z) h3
  | @loc n a k =>
    have h3 : Out G (match items st3 (.loc n) with | some xs => .ok (.loc st3.length) (st3 ++ [.lst (cutP xs lo hi)]) | none => .stuck) ρ3 H3 (VP G Q) (XW G W σ) := h3
    cases q : items st3 (.loc n) with
    | some xs => rw [q] at h3; exact lst xs q (fun _ z => by cases z) h3
    | none => rw [q] at h3; exact False.elim h3
  | _ => exact False.elim h3

/-! ### calls of built-ins by their names -/
theorem me_blt {x : Str} {bi : BI} {e : Expr} {es : List Expr} {mr : Ev (List PV)} {p : Pos} (hK : X.K = G.K) (hc : X.calm = true) (hg : X.A.guards = some []) (hu : X.A.units + 66 < cLine)
    (gl : Gl X x) (hm : (X.mg x = none ∧ bootBuiltins x = some bi.val ∧ x ≠ "__name__") ∨ (X.mg x = some bi.val)) (ha : PA X (e :: es) (tEs G mr W)) (hdb : (x == ("__debug__" : Str)) = false)
    (he : starEach (e :: es) X.env = (false, eval e X.env) :: starEach es X.env) (hpl : (backTo pos (starEach es X.env)).any (·.1) = false) : PE X (.Call (.Name x p) (e :: es) [] pos) (tE G (eRow mr (bltOp bi)) W) := by
  obtain ⟨r, h1, h2⟩ := blt_rule hK hc hg hu bi
  have red : ∀ σ H Q, tE G (eRow mr (bltOp bi)) W σ H Q → tCB r (tEs G mr W) σ H Q := by
    rintro σ H Q ⟨ρ, η, st, so, re, h⟩
    exact ⟨ρ, η, st, so, re, Out.bind h fun xs st1 ρ1 H1 _ s1 o1 h1' => fun vs rvs => h2 ρ1 H1 st1 xs vs Q _ o1 rvs h1'⟩
  refine pe_weak ?_ red
  refine ⟨fun pins s σ H Q I h =>
        ?_⟩
  have go : ∀ {f : Value}, f = bi.val → wpAny (model X.prog X.w) X.A (callWith pos f [] (backTo pos (starEach (e :: es) X.env)) []) (EP X pins σ Q) X.xe s := by
    rintro f rfl
    cases bi with
    | int => exact PyProof.Rows.callWith_type1 (thn (ha.run pos pins s σ H _ I h) fun us s1 ⟨vs, H1, I1, r1, q1⟩ => h1 pins s1 σ H1 vs us Q I1 r1 q1) he hpl
    | tuple => exact PyProof.Rows.callWith_type1 (thn (ha.run pos pins s σ H _ I h) fun us s1 ⟨vs, H1, I1, r1, q1⟩ => h1 pins s1 σ H1 vs us Q I1 r1 q1) he hpl
    | list => exact PyProof.Rows.callWith_type1 (thn (ha.run pos pins s σ H _ I h) fun us s1 ⟨vs, H1, I1, r1, q1⟩ => h1 pins s1 σ H1 vs us Q I1 r1 q1) he hpl
    | _ => exact PyProof.Rows.callWith_builtin1 (thn (ha.run pos pins s σ H _ I h) fun us s1 ⟨vs, H1, I1, r1, q1⟩ => h1 pins s1 σ H1 vs us Q I1 r1 q1) he hpl
  rcases hm with ⟨h1, h2, h3⟩ | h1
  · exact wpAny_Call_Name_kw (ld_blt I gl h1 h2 (go rfl) h3 hdb)
  · exact wpAny_Call_Name_kw (ld_glob I gl h1 (go rfl) hdb)
end
end Cv
namespace Cv
open L2 PySem PySem.Spec PyProof.Rows

/-! ### statements -/
inductive Fl where | nx | rt (p : PV) | bk | ct
inductive SR where
  | ok (f : Fl) (η : Env') (st : Sto) | exn (c : Str) (fs : List (Str × PV)) (η : Env') (st : Sto) | stuck
abbrev Sv := Env' → Sto → SR
/-- from an expression's end into a statement's -/
def SR.of {α : Type} (r : Res α) (η : Env') (f : α → Sto → SR) : SR := match r with
  | .ok a st => f a st
  | .exn c fs st => .exn c fs η st
  | .stuck => .stuck
def SR.then (r : SR) (f : Sv) : SR := match r with
  | .ok .nx η st => f η st
  | r => r
def FlP (G : Gc) (D : Ends) (f : Fl) (ρ : List Addr) (σ : L2.St) (H : Hp) : Prop := match f with
  | .nx => D.nx σ H
  | .rt p => ∀ v, RV G ρ H p v → D.rt v H
  | .bk => D.bk σ H
  | .ct => D.ct σ H
def OutB (G : Gc) (r : SR) (ρ : List Addr) (H : Hp) (D : Ends) (W : WX) : Prop := match r with
  | .ok f η st => ∀ ρ' H' σ', Step ρ H ρ' H' → StOk G ρ' H' st → REn G ρ' H' η σ' → FlP G D f ρ' σ' H'
  | .exn c fs η st => ∀ ρ' H' σ', Step ρ H ρ' H' → StOk G ρ' H' st → REn G ρ' H' η σ' → XW G W σ' c fs ρ' H'
  | .stuck => False
def tB (G : Gc) (m : Sv) (W : WX) : TS := fun D σ H => ∃ ρ η st, StOk G ρ H st ∧ REn G ρ H η σ ∧ OutB G (m η st) ρ H D W
section
variable {X : Cx} {G : Gc} {W : WX} {a b c : Expr} {ma mb mc : Ev PV} {pos : Pos}
theorem OutB.later {r : SR} {ρ ρ' : List Addr} {H H' : Hp} {D : Ends} (h : OutB G r ρ H D W) (s : Step ρ H ρ' H') : OutB G r ρ' H' D W := by
  cases r with
  | ok f η st => exact fun ρ2 H2 σ t o e => h ρ2 H2 σ (s.trans t) o e
  | exn c fs η st => exact fun ρ2 H2 σ t o e => h ρ2 H2 σ (s.trans t) o e
  | stuck => exact h
/-- an expression ahead of what follows -/
theorem OutB.of {α : Type} {r : Res α} {η : Env'} {f : α → Sto → SR} {ρ : List Addr} {H : Hp} {D : Ends} {σ : L2.St} {P : α → List Addr → Hp → Prop} (re : REn G ρ H η σ) (h : OutB G (SR.of r η f) ρ H D W)
    (k : ∀ a st ρ' H', r = .ok a st → Step ρ H ρ' H' → StOk G ρ' H' st → OutB G (f a st) ρ' H' D W → P a ρ' H') : Out G r ρ H P (XW G W σ) := by
  cases r with
  | ok a st => exact fun ρ2 H2 t o => k a st ρ2 H2 rfl t o (OutB.later (r := f a st) h t)
  | exn c fs st => exact fun ρ2 H2 t o => h ρ2 H2 σ t o (re.step t)
  | stuck => exact h
def sNx : Sv := fun η st => .ok .nx η st
def sSeq (m n : Sv) : Sv := fun η st => (m η st).then n
theorem mb_nil : PSs X [] (tB G sNx W) := by
  refine pss_weak pss_nil ?_
  rintro D σ H ⟨ρ, η, st, so, re, h⟩
  exact h ρ H σ .refl so re
theorem then_out {m n : Sv} {η : Env'} {st : Sto} {ρ : List Addr} {H : Hp} {D : Ends} (h : OutB G ((m η st).then n) ρ H D W) : OutB G (m η st) ρ H { D with nx := tB G n W D } W := by
  cases e : m η st with
  | ok f η' st' =>
    rw [e] at h
    intro ρ' H' σ' s o re
    cases f with
    | nx => exact ⟨ρ', η', st', o, re, OutB.later (r := n η' st') h s⟩
    | rt p => exact h ρ' H' σ' s o re
    | bk => exact h ρ' H' σ' s o re
    | ct => exact h ρ' H' σ' s o re
  | exn c fs η' st' => rw [e] at h; exact h
  | stuck => rw [e] at h; exact h
theorem mb_cons {s : Stmt} {r : List Stmt} {m n : Sv} (h1 : PS X s (tB G m W)) (h2 : PSs X r (tB G n W)) : PSs X (s :: r) (tB G (sSeq m n) W) := by
  refine pss_weak (pss_cons h1 h2) ?_
  rintro D σ H ⟨ρ, η, st, so, re, h⟩
  exact ⟨ρ, η, st, so, re, then_out h⟩
theorem mb_one {s : Stmt} {m : Sv} (h1 : PS X s (tB G m W)) : PSs X [s] (tB G (sSeq m sNx) W) := mb_cons h1 mb_nil
theorem ms_pass : PS X (.Pass pos) (tB G sNx W) := by
  refine ps_weak ps_pass ?_
  rintro D σ H ⟨ρ, η, st, so, re, h⟩
  exact h ρ H σ .refl so re
def sFl (f : Fl) : Sv := fun η st => .ok f η st
theorem ms_break : PS X (.Break pos) (tB G (sFl .bk) W) := by
  refine ps_weak ps_break ?_
  rintro D σ H ⟨ρ, η, st, so, re, h⟩
  exact h ρ H σ .refl so re
theorem ms_cont : PS X (.Continue pos) (tB G (sFl .ct) W) := by
  refine ps_weak ps_continue ?_
  rintro D σ H ⟨ρ, η, st, so, re, h⟩
  exact h ρ H σ .refl so re
def sExp (m : Ev PV) : Sv := fun η st => SR.of (m η st) η fun _ st => .ok .nx η st
theorem ms_exp (ha : PE X a (tE G ma W)) (hs : swapsWith a none pos.line X.env = pure false) : PS X (.Expr a pos) (tB G (sExp ma) W) := by
  refine ps_weak (ps_expr ha hs) ?_
  rintro D σ H ⟨ρ, η, st, so, re, h⟩
  exact ⟨ρ, η, st, so, re, OutB.of re h fun x st1 ρ1 H1 _ s1 o1 h1 => fun v rv => h1 ρ1 H1 σ .refl o1 (re.step s1)⟩
def sRet (m : Ev PV) : Sv := fun η st => SR.of (m η st) η fun p st => .ok (.rt p) η st
theorem ms_ret (ha : PE X a (tE G ma W)) : PS X (.Return (some a) pos) (tB G (sRet ma) W) := by
  refine ps_weak (ps_ret ha) ?_
  rintro D σ H ⟨ρ, η, st, so, re, h⟩
  exact ⟨ρ, η, st, so, re, OutB.of re h fun x st1 ρ1 H1 _ s1 o1 h1 => fun v rv => h1 ρ1 H1 σ .refl o1 (re.step s1) v rv⟩
theorem ms_retN : PS X (.Return none pos) (tB G (sFl (.rt .non)) W) := by
  refine ps_weak ps_retN ?_
  rintro D σ H ⟨ρ, η, st, so, re, h⟩
  exact h ρ H σ .refl so re _ .non
def sIf (m : Ev PV) (s t : Sv) : Sv := fun η st => SR.of (eT m η st) η fun k st => if k then s η st else t η st
theorem ms_if {s t : List Stmt} {n l : Sv} (hc : PT X a (tT G (eT ma) W)) (h1 : PSs X s (tB G n W)) (h2 : PSs X t (tB G l W)) : PS X (.If a s t pos) (tB G (sIf ma n l) W) := by
  refine ps_weak (ps_if hc h1 h2) ?_
  rintro D σ H ⟨ρ, η, st, so, re, h⟩
  refine ⟨ρ, η, st, so, re, OutB.of re h fun k st1 ρ1 H1 _ s1 o1 h1 => ?_⟩
  cases k with
  | true => exact ⟨ρ1, η, st1, o1, re.step s1, h1⟩
  | false => exact ⟨ρ1, η, st1, o1, re.step s1, h1⟩
/-- .. the greatest number of turns of a loop -/
def FU : Nat := 1000000
def whileLoop (m : Ev PV) (s : Sv) : Nat → Sv
  | 0 => fun _ _ => .stuck
  | n + 1 => fun η st => SR.of (eT m η st) η fun k st => if k then (match s η st with
      | .ok .nx η st => whileLoop m s n η st
      | .ok .ct η st => whileLoop m s n η st
      | .ok .bk η st => .ok .nx η st
      | r => r) else .ok .nx η st
theorem ms_while {s : List Stmt} {n : Sv} (hp : PassesOwn (model X.prog X.w) X.A X.env X.xe) (hc : PT X a (tT G (eT ma) W)) (h1 : PSs X s (tB G n W)) : PS X (.While a s [] pos) (tB G (whileLoop ma n FU) W) := by
  refine ps_weak (ps_while hp hc h1) ?_
  rintro D σ H ⟨ρ, η, st, so, re, h⟩
  refine ⟨fun m σ H => ∃ ρ η st, StOk G ρ H st ∧ REn G ρ H η σ ∧ OutB G (whileLoop ma n m η st) ρ H D W, ⟨FU, ρ, η, st, so, re, h⟩, ?_⟩
  rintro m σ H ⟨ρ, η, st, so, re, h⟩
  cases m with
  | zero => exact False.elim h
  | succ m =>
    refine ⟨ρ, η, st, so, re, OutB.of re h fun k st1 ρ1 H1 _ s1 o1 h1 => ?_⟩
    cases k with
    | false => exact h1 ρ1 H1 σ .refl o1 (re.step s1)
    | true =>
      refine ⟨fun σ' H' => ∃ ρ η st, StOk G ρ H' st ∧ REn G ρ H' η σ' ∧ OutB G (whileLoop ma n m η st) ρ H' D W, fun σ' H' q => ⟨m, Nat.lt_succ_self m, q⟩, ρ1, η, st1, o1, re.step s1, ?_⟩
      have h1 : OutB G (match n η st1 with
        | .ok .nx η st => whileLoop ma n m η st
        | .ok .ct η st => whileLoop ma n m η st
        | .ok .bk η st => .ok .nx η st
        | r => r) ρ1 H1 D W := h1
      cases e : n η st1 with
      | ok f η' st' =>
        rw [e] at h1
        intro ρ' H' σ' s o re
        cases f with
        | nx => exact ⟨ρ', η', st', o, re, OutB.later h1 s⟩
        | ct => exact ⟨ρ', η', st', o, re, OutB.later h1 s⟩
        | rt p => exact h1 ρ' H' σ' s o re
        | bk => exact h1 ρ' H' σ' s o re
      | exn c fs η' st' => rw [e] at h1; exact h1
      | stuck => rw [e] at h1; exact h1

/-! ### targets -/
inductive CT where | nm (i : Nat) | tup (ts : List CT)
  deriving Inhabited
mutual
def CT.slots : CT → List Nat
  | .nm i => [i]
  | .tup ts => slotsL ts
def slotsL : List CT → List Nat
  | [] => []
  | t :: ts => t.slots ++ slotsL ts
end
mutual
def asg (st : Sto) : CT → PV → Env' → Option Env'
  | .nm i, p, η => some (η.set i (some p))
  | .tup ts, p, η => match items st p with
    | some xs => if xs.length = ts.length then asgL st ts xs η else none
    | none => none
def asgL (st : Sto) : List CT → List PV → Env' → Option Env'
  | [], [], η => some η
  | t :: ts, p :: ps, η => match asg st t p η with
    | some η' => asgL st ts ps η'
    | none => none
  | _, _, _ => none
end
/-- the slots that stay -/
def Agree (l : List Nat) (σ σ' : L2.St) : Prop := σ'.length = σ.length ∧ ∀ j, j ∉ l → σ'[j]? = σ[j]?
theorem Agree.refl {l : List Nat} {σ : L2.St} : Agree l σ σ := ⟨rfl, fun _ _ => rfl⟩
theorem Agree.trans {l l' : List Nat} {σ σ' σ2 : L2.St} (a : Agree l σ σ') (b : Agree l' σ' σ2) : Agree (l ++ l') σ σ2 :=
  ⟨b.1.trans a.1, fun j hj => by
    rw [List.mem_append, not_or] at hj
    exact (b.2 j hj.2).trans (a.2 j hj.1)⟩
def tA (G : Gc) (t : CT) : TG := fun v σ H Q => ∃ ρ η st p η', StOk G ρ H st ∧ REn G ρ H η σ ∧ RV G ρ H p v ∧ asg st t p η = some η' ∧ ∀ σ', REn G ρ H η' σ' → Agree t.slots σ σ' → Q σ' H
def tAL (G : Gc) (t : List CT) : TGs := fun vs σ H Q => ∃ ρ η st ps η', StOk G ρ H st ∧ REn G ρ H η σ ∧ RVs G ρ H ps vs ∧ asgL st t ps η = some η' ∧ ∀ σ', REn G ρ H η' σ' → Agree (slotsL t) σ σ' → Q σ' H
theorem pg_weak {t t' : TG} (h : PG X a t') (w : ∀ v σ H Q, t v σ H Q → t' v σ H Q) : PG X a t := ⟨fun pins s σ H v u Q I r q => h.run pins s σ H v u Q I r (w _ _ _ _ q)⟩
theorem pgs_weak {es : List Expr} {t t' : TGs} (h : PGs X es t') (w : ∀ v σ H Q, t v σ H Q → t' v σ H Q) : PGs X es t := ⟨fun pins s σ H v u Q I r q => h.run pins s σ H v u Q I r (w _ _ _ _ q)⟩
theorem mg_name {i : Nat} {x : Str} (hN : X.N.Nodup) (hi : X.N[i]? = some x) (hx : Loc X.env.scope x) (hf : X.fn x = true ∨ X.env.scope.names.lookup x = some .local) : PG X (.Name x pos) (tA G (.nm i)) := by
  refine pg_weak (pg_name hN hi hx hf) ?_
  rintro v σ H Q ⟨ρ, η, st, p, η', so, re, rv, e, h⟩
  cases e
  refine h _ (re.set i rv) ⟨by simp, fun j hj => ?_⟩
  rw [List.getElem?_set_ne]
  intro z
  exact hj (by rw [z]; exact List.mem_singleton_self _)
theorem mgs_nil : PGs X [] (tAL G []) := by
  refine pgs_weak pgs_nil ?_
  rintro vs σ H Q ⟨ρ, η, st, ps, η', so, re, rv, e, h⟩
  cases rv with
  | nil => cases e; exact ⟨rfl, h σ re .refl⟩
  | cons _ _ => cases e
theorem mgs_cons {e : Expr} {es : List Expr} {t : CT} {ts : List CT} (h1 : PG X e (tA G t)) (h2 : PGs X es (tAL G ts))
    (hs : (assignEach (e :: es) X.env).map (·.2) = assign e X.env :: (assignEach es X.env).map (·.2)) : PGs X (e :: es) (tAL G (t :: ts)) := by
  refine pgs_weak (pgs_cons h1 h2 hs) ?_
  rintro vs σ H Q ⟨ρ, η, st, ps, η', so, re, rv, e, h⟩
  cases rv with
  | nil => cases e
  | @cons p v ps vs r rs =>
    have e : (match asg st t p η with | some η' => asgL st ts ps η' | none => none) = some η' := e
    cases q : asg st t p η with
    | none =>
          rw [q] at e; cases e
    | some η1 =>
      rw [q] at e
      refine ⟨v, vs, rfl, ρ, η, st, p, η1, so, re, r, q, fun σ1 re1 ag1 => ⟨ρ, η1, st, ps, η', so, re1, rs, e, fun σ2 re2 ag2 => h σ2 re2 ?_⟩⟩
      exact ag1.trans ag2
theorem PG.or {t u : TG} (h : PG X a t) (h' : PG X a u) : PG X a (fun v σ H Q => t v σ H Q ∨ u v σ H Q) := ⟨fun pins s σ H v w Q I r q => q.elim (h.run pins s σ H v w Q I r) (h'.run pins s σ H v w Q I r)⟩
theorem mg_tup {es : List Expr} {k : Nat} {ts : List CT} (hK : X.K = G.K) (hc : X.calm = true) (h : PGs X es (tAL G ts)) (hn : (assignEach es X.env).length = ts.length) (hst : (assignEach es X.env).findIdx? (·.1) = none) : PG X (.Tuple es k pos) (tA G (.tup ts)) := by
  refine pg_weak (PG.or (pg_tup hc h hn hst) (pg_lst hc h hn hst)) ?_
  rintro v σ H Q ⟨ρ, η, st, p, η', so, re, rv, e, hq⟩
  have e : (match items st p with | some xs => if xs.length = ts.length then asgL st ts xs η else none | none => none) = some η' := e
  cases q : items st p with
  | none =>
        rw [q] at e; cases e
  | some xs =>
    rw [q] at e
    by_cases l : xs.length = ts.length
    · have e : (if xs.length = ts.length then asgL st ts xs η else none) = some η' := e
      rw [if_pos l] at e
      obtain ⟨a, vs, rfl, r, k⟩ := items_ok so rv q
      have fin : tAL G ts vs σ H Q := ⟨ρ, η, st, xs, η', so, re, r, e, hq⟩
      rw [hK]
      rcases k with ⟨_, k⟩ | ⟨_, k⟩
      · exact .inr ⟨a, vs, rfl, k, by rw [← r.length]; exact l, fin⟩
      · exact .inl ⟨a, vs, rfl, k.sq, by rw [← r.length]; exact l, fin⟩
    · have e : (if xs.length = ts.length then asgL st ts xs η else none) = some η' := e
      rw [if_neg l] at e; cases e
/-- target = value -/
def sAsg (m : Ev PV) (t : CT) : Sv := fun η st => SR.of (m η st) η fun p st => match asg st t p η with
  | some η' => .ok .nx η' st
  | none => .stuck
theorem asg_out {t : CT} {p : PV} {η : Env'} {st : Sto} {ρ : List Addr} {H : Hp} {D : Ends} {v : V} {σ : L2.St} (so : StOk G ρ H st) (re : REn G ρ H η σ) (rv : RV G ρ H p v) (h : OutB G (match asg st t p η with | some η' => .ok .nx η' st | none => .stuck) ρ H D W) : tA G t v σ H D.nx := by
  cases q : asg st t p η with
  | none => rw [q] at h; exact False.elim h
  | some η' => rw [q] at h; exact ⟨ρ, η, st, p, η', so, re, rv, q, fun σ' re' _ => h ρ H σ' .refl so re'⟩
theorem ms_asg {tg : Expr} {t : CT} (ha : PE X a (tE G ma W)) (hg : PG X tg (tA G t)) (hs : swapsWithSole [tg] a pos.line X.env = pure false) (hw : swappedStores [tg] a X.env = pure none) (h1 : (assignEach [tg] X.env).map (·.2) = [assign tg X.env]) :
    PS X (.Assign [tg] a pos) (tB G (sAsg ma t) W) := by
  refine ps_weak (ps_asg ha hg hs hw h1) ?_
  rintro D σ H ⟨ρ, η, st, so, re, h⟩
  exact ⟨ρ, η, st, so, re, OutB.of re h fun x st1 ρ1 H1 _ s1 o1 h1 => fun v rv => asg_out o1 (re.step s1) rv h1⟩
theorem ms_set {i : Nat} {x : Str} {pos' : Pos} (hN : X.N.Nodup) (hi : X.N[i]? = some x) (hx : Loc X.env.scope x) (hf : X.fn x = true ∨ X.env.scope.names.lookup x = some .local) (ha : PE X a (tE G ma W)) (hs : swapsWith a (some (.Name x pos')) pos.line X.env = pure false) :
    PS X (.Assign [.Name x pos'] a pos) (tB G (sAsg ma (.nm i)) W) := by
  refine ps_weak (ps_set hN hi hx ha hs hf) ?_
  rintro D σ H ⟨ρ, η, st, so, re, h⟩
  exact ⟨ρ, η, st, so, re, OutB.of re h fun x st1 ρ1 H1 _ s1 o1 h1 => fun v rv => h1 ρ1 H1 _ .refl o1 ((re.step s1).set i rv)⟩
/-- a, b = x, y of plain local names -/
def sPar (i j : Nat) (m : Ev (List PV)) : Sv := fun η st => SR.of (m η st) η fun ps st => match ps with
  | [p, q] => .ok .nx ((η.set i (some p)).set j (some q)) st
  | _ => .stuck
theorem ms_par {i j : Nat} {x y : Str} {px py pt : Pos} {kt k2 pt2} {m : Ev (List PV)} (hc : X.calm = true) (hN : X.N.Nodup) (hi : X.N[i]? = some x) (hj : X.N[j]? = some y) (hij : i ≠ j)
    (hx : X.env.scope.names.lookup x = some .local) (hy : X.env.scope.names.lookup y = some .local) (ha : PA X [a, b] (tEs G m W))
    (hw :
          swappedStores [.Tuple [.Name x px, .Name y py] kt pt] (.Tuple [a, b] k2 pt2) X.env = pure (some [x, y]))
    (hs : swapsWithSole [.Tuple [.Name x px, .Name y py] kt pt] (.Tuple [a, b] k2 pt2) pos.line X.env = pure false) :
    PS X (.Assign [.Tuple [.Name x px, .Name y py] kt pt] (.Tuple [a, b] k2 pt2) pos) (tB G (sPar i j m) W) := by
  refine ps_weak (ps_par hc hN hi hj hij hx hy ha hw hs) ?_
  rintro D σ H ⟨ρ, η, st, so, re, h⟩
  refine ⟨ρ, η, st, so, re, OutB.of re h fun ps st1 ρ1 H1 _ s1 o1 h1 => fun vs rv => ?_⟩
  match ps, rv with
  | [p, q], rv =>
    obtain ⟨v, u, rfl, r1, r2⟩ := rv.two_inv
    exact ⟨v, u, rfl, h1 ρ1 H1 _ .refl o1 (((re.step s1).set i r1).set j r2)⟩
  | [], _ => exact False.elim h1
  | [_], _ => exact False.elim h1
  | _ :: _ :: _ :: _, _ => exact False.elim h1
def sPar3 (i j l : Nat) (m : Ev (List PV)) : Sv := fun η st => SR.of (m η st) η fun ps st => match ps with
  | [p, q, r] => .ok .nx (((η.set i (some p)).set j (some q)).set l (some r)) st
  | _ => .stuck
theorem ms_par3 {i j l : Nat} {x y z : Str} {px py pz pt : Pos} {kt k2 pt2} {m : Ev (List PV)} (hc : X.calm = true) (hN : X.N.Nodup) (hi : X.N[i]? = some x) (hj : X.N[j]? = some y) (hl : X.N[l]? = some z) (hij : i ≠ j) (hil : i ≠ l) (hjl : j ≠ l)
    (hx : X.env.scope.names.lookup x = some .local) (hy : X.env.scope.names.lookup y = some .local) (hz : X.env.scope.names.lookup z = some .local) (ha : PA X [a, b, c] (tEs G m W))
    (hw :
          swappedStores [.Tuple [.Name x px, .Name y py, .Name z pz] kt pt] (.Tuple [a, b, c] k2 pt2) X.env = pure (some [x, y, z]))
    (hs : swapsWithSole [.Tuple [.Name x px, .Name y py, .Name z pz] kt pt] (.Tuple [a, b, c] k2 pt2) pos.line X.env = pure false) :
    PS X (.Assign [.Tuple [.Name x px, .Name y py, .Name z pz] kt pt] (.Tuple [a, b, c] k2 pt2) pos) (tB G (sPar3 i j l m) W) := by
  refine ps_weak (ps_par3 hc hN hi hj hl hij hil hjl hx hy hz ha hw hs) ?_
  rintro D σ H ⟨ρ, η, st, so, re, h⟩
  refine ⟨ρ, η, st, so, re, OutB.of re h fun ps st1 ρ1 H1 _ s1 o1 h1 => fun vs rv => ?_⟩
  match ps, rv with
  | [p, q, r], rv =>
    cases rv with
    | cons r1 rv' =>
      obtain ⟨v, u, rfl, r2, r3⟩ := RVs.two_inv rv'
      exact ⟨_, v, u, rfl, h1 ρ1 H1 _ .refl o1 ((((re.step s1).set i r1).set j r2).set l r3)⟩
  | [], _ => exact False.elim h1
  | [_], _ => exact False.elim h1
  | [_, _], _ => exact False.elim h1
  | _ :: _ :: _ :: _ :: _, _ => exact False.elim h1
/-- d[k] = v -/
def putP (ks : List (Key × PV)) (k : Key) (v : PV) : List (Key × PV) :=
  if (ks.any fun kv => decide (kv.1 = k)) = true then ks.map (fun kv => if kv.1 = k then (kv.1, v) else kv) else ks ++ [(k, v)]
theorem putP_map {ρ : List Addr} {H : Hp} {k : Key} {p : PV} {v : V} (rv : RV G ρ H p v) : ∀ {ks : List (Key × PV)} {vs : List (Key × V)}, RKs G ρ H ks vs →
    RKs G ρ H (ks.map fun kv => if kv.1 = k then (kv.1, p) else kv) (vs.map fun kv => if kv.1 = k then (kv.1, v) else kv)
  | _, _, .nil => .nil
  | a :: l1, b :: l2, .cons h t => by
    rw [List.map_cons,
          List.map_cons]
    refine .cons ?_ (putP_map rv t)
    by_cases c : a.1 = k
    · rw [if_pos c, if_pos (by rw [← h.1]; exact c)]; exact ⟨h.1, rv⟩
    · rw [if_neg c, if_neg (by rw [← h.1]; exact c)]; exact h
theorem putP_rel {ρ : List Addr} {H : Hp} {ks : List (Key × PV)} {vs : List (Key × V)} {k : Key} {p : PV} {v : V} (r : RKs G ρ H ks vs) (rv : RV G ρ H p v) : RKs G ρ H (putP ks k p) (putK vs k v) := by
  have e : (ks.any fun kv => decide (kv.1 = k)) = (vs.any fun kv => decide (kv.1 = k)) := by
    induction r with
    | nil => rfl
    | cons h t ih =>
          rw [List.any_cons, List.any_cons, ih, h.1]
  unfold putP putK
  rw [e]
  split
  · exact putP_map rv r
  · exact Paired.snoc r ⟨rfl, rv⟩
def putIn (n : Nat) (k : Key) (p : PV) (st : Sto) : Option Sto := match st[n]? with
  | some (.dct ks) => if ks.length < LIM then some (st.set n (.dct (putP ks k p))) else none
  | _ => none
def putOp (d k p : PV) (st : Sto) : Option Sto := match d with
  | .loc n => match keyOf k with
    | some k => putIn n k p st
    | none => none
  | _ => none
theorem putOp_inv {d k p : PV} {st st' : Sto} (h : putOp d k p st = some st') : ∃ n k' ks, d = .loc n ∧ keyOf k = some k' ∧ st[n]? = some (.dct ks) ∧ ks.length < LIM ∧ st' = st.set n (.dct (putP ks k' p)) := by
  unfold putOp at h
  split at h
  · rename_i n
    split at h
    · rename_i k' q
      unfold putIn at h
      split at h
      · rename_i ks q2
        split at h
        · rename_i c
          cases h
          exact ⟨n, k', ks, rfl, q, q2, c, rfl⟩
        · cases h
      · cases h
    · cases h
  · cases h
/-- the value, the dict, the key -/
def sPut (mv md mk : Ev PV) : Sv := fun η st => SR.of (mv η st) η fun v st => SR.of (md η st) η fun d st => SR.of (mk η st) η fun k st => match putOp d k v st with
  | some st => .ok .nx η st
  | none => .stuck
theorem ms_put {o i v : Expr} {mo mi mv : Ev PV} {pos' : Pos} (hu : X.A.units + 1 < cLine) (ho : PE X o (tE G mo W)) (hi : PE X i (tE G mi W)) (hv : PE X v (tE G mv W)) (hs : swapsWith v (some (.Subscript o i pos')) pos.line X.env = pure false) :
    PS X (.Assign [.Subscript o i pos'] v pos) (tB G (sPut mv mo mi) W) := by
  refine ps_weak (ps_dput hu ho hi hv hs) ?_
  rintro D σ H ⟨ρ, η, st, so, re, h⟩
  refine ⟨ρ, η, st, so, re, OutB.of re h fun p st1 ρ1 H1 _ s1 o1 h1 => fun v rv => ⟨ρ1, η, st1, o1, re.step s1, OutB.of (re.step s1) h1 fun d st2 ρ2 H2 _ s2 o2 h2 => fun u ru => ⟨ρ2, η, st2, o2, (re.step s1).step s2, OutB.of ((re.step s1).step s2) h2 fun k st3 ρ3 H3 _ s3 o3 h3 => fun w rw' => ?_⟩⟩⟩
  have ru := ru.step s3
  have rv := (rv.step s2).step s3
  have re := ((re.step s1).step s2).step s3
  cases q0 : putOp d k p st3 with
  | none => rw [q0] at h3; exact False.elim h3
  | some st4 =>
    rw [q0] at h3
    obtain ⟨n, k', ks, rfl, q, q2, c, rfl⟩ := putOp_inv q0
    obtain ⟨a, rfl, hl, vs, k1, r⟩ := o3.loc ru q2
    refine ⟨a, _, rfl, by rw [key_ok rw' q]; exact .k k1 (by rw [← Paired.length r]; exact lim_line' c), ?_⟩
    have s4 : Step ρ3 H3 ρ3 (upd H3 a (.dK (putK vs k' v))) := step_write k1 trivial (mem_of_at hl)
    exact h3 ρ3 _ σ s4 (o3.set hl k1 trivial ⟨_, upd_same, (putP_rel r rv).step s4⟩) (re.step s4)
end
end Cv
namespace Cv
open L2 PySem PySem.Spec PyProof.Rows

/-! ### what is walked -/
inductive Src where | seq (p : PV) | rng (lo : Int) (n : Nat) | zip (p q : PV) | enum (p : PV)
def notTup : PV → Bool
  | .tup _ => false
  | _ => true
def srcAt (st : Sto) : Src → Nat → Option (Option PV)
  | .seq p, i => (items st p).map fun xs => xs[i]?
  | .rng lo n, i => some (if i < n then some (.int (lo + i)) else none)
  | .zip p q, i => match items st p, items st q with
    | some xs, some ys => some (match xs[i]?, ys[i]? with
      | some x, some y => some (.tup [x, y])
      | _, _ => none)
    | _, _ => none
  | .enum p, i => (items st p).map fun xs => (xs[i]?).map fun x => .tup [.int (i : Nat), x]
inductive SrcRel (G : Gc) (ρ : List Addr) (H : Hp) : Src → It → Prop
  | lst {p : PV} {a : Addr} : RV G ρ H p (.ref a) → notTup p = true → SrcRel G ρ H (.seq p) (Itl G.K a)
  | tup {xs : List PV} {a : Addr} : RV G ρ H (.tup xs) (.ref a) → SrcRel G ρ H (.seq (.tup xs)) (Itt G.K a)
  | rng (lo : Int) (n : Nat) : SrcRel G ρ H (.rng lo n) (Itr lo n)
  | zipL {p q : PV} {a b : Addr} : RV G ρ H p (.ref a) → RV G ρ H q (.ref b) → notTup p = true → notTup q = true → SrcRel G ρ H (.zip p q) (Itz G.K a b)
  | zipT {xs ys : List PV} {a b : Addr} : RV G ρ H (.tup xs) (.ref a) → RV G ρ H (.tup ys) (.ref b) → SrcRel G ρ H (.zip (.tup xs) (.tup ys)) (RZ.ItzT G.K a b)
  | enum {p : PV} {a : Addr} : RV G ρ H p (.ref a) → notTup p = true → SrcRel G ρ H (.enum p) (Ite G.K a)
section
variable {X : Cx} {G : Gc} {W : WX} {a b c : Expr} {ma mb mc : Ev PV} {pos : Pos} {ρ ρ' : List Addr} {H H' : Hp} {st : Sto}
theorem SrcRel.step {s : Src} {J : It} (h : SrcRel G ρ H s J) (t : Step ρ H ρ' H') : SrcRel G ρ' H' s J := by
  cases h with
  | lst h n => exact .lst (h.step t) n
  | tup h => exact .tup (h.step t)
  | rng lo n => exact .rng lo n
  | zipL h k m n => exact .zipL (h.step t) (k.step t) m n
  | zipT h k => exact .zipT (h.step t) (k.step t)
  | enum h n => exact .enum (h.step t) n
theorem list_at {p : PV} {a : Addr} {xs : List PV} (so : StOk G ρ H st) (r : RV G ρ H p (.ref a)) (n : notTup p = true) (e : items st p = some xs) : ∃ vs, SqL G.K H a vs ∧ RVs G ρ H xs vs := by
  obtain ⟨b, vs, e1, r1, k⟩ := items_ok so r e
  cases e1
  rcases k with ⟨_, k⟩ | ⟨⟨ys, rfl⟩, _⟩
  · exact ⟨vs, k, r1⟩
  · cases n
theorem tup_at {a : Addr} {xs : List PV} (r : RV G ρ H (.tup xs) (.ref a)) : ∃ vs, SqT G.K H a vs ∧ RVs G ρ H xs vs := by
  cases r with
  | tup k r => exact ⟨_, k.sq, r⟩
theorem RVs.none_of {xs : List PV} {vs : List V} {i : Nat} (r : RVs G ρ H xs vs) (e : xs[i]? = none) : vs.length ≤ i := by
  rw [← r.length]; exact List.getElem?_eq_none_iff.mp e
theorem pair_new {p q : PV} {v u : V} {T : Addr} (hT : H T = none) (so : StOk G ρ H st) (r1 : RV G ρ H p v) (r2 : RV G ρ H q u) :
    Step ρ H ρ (upd H T (.tup [v, u])) ∧ StOk G ρ (upd H T (.tup [v, u])) st ∧ RV G ρ (upd H T (.tup [v, u])) (.tup [p, q]) (.ref T) :=
  have s := step_new (ρ := ρ) (o := .tup [v, u]) hT
  ⟨s, so.new_other hT, .tup (.inl upd_same) (.cons (r1.step s) (.cons (r2.step s) .nil))⟩
theorem src_turn {s : Src} {J : It} {i : Nat} {r : Option PV} (so : StOk G ρ H st) (h : SrcRel G ρ H s J) (e : srcAt st s i = some r) :
    (r = none → J.stop i H) ∧ ∀ x, r = some x → J.go i H ∧ ∀ v H', J.yld i H v H' → Step ρ H ρ H' ∧ StOk G ρ H' st ∧ RV G ρ H' x v := by
  cases h with
  | @lst p a h n =>
    obtain ⟨xs, e1, e2⟩ := Option.map_eq_some_iff.mp (show (items st p).map (fun xs => xs[i]?) = some r from e)
    obtain ⟨vs, k, rr⟩ := list_at so h n e1
    subst e2
    refine ⟨fun z => ⟨vs, k, rr.none_of z⟩, fun x z => ?_⟩
    obtain ⟨w, h1, h2⟩ := rr.get z
    refine ⟨⟨vs, w, k, h1⟩, fun v H' y => ?_⟩
    obtain ⟨rfl, y⟩ := y
    have := y vs k
    rw [h1] at this; cases this
    exact ⟨.refl, so, h2⟩
  | @tup ys a h =>
    have e2 : ys[i]? = r := Option.some.inj (show some (ys[i]?) = some r from e)
    obtain ⟨vs, k, rr⟩ := tup_at h
    subst e2
    refine ⟨fun z => ⟨vs, k, rr.none_of z⟩, fun x z => ?_⟩
    obtain ⟨w, h1, h2⟩ := rr.get z
    refine ⟨⟨vs, w, k, h1⟩, fun v H' y => ?_⟩
    obtain ⟨rfl, y⟩ := y
    have := y vs k
    rw [h1] at this; cases this
    exact ⟨.refl, so, h2⟩
  | rng lo n =>
    have e2 : (if i < n then some (PV.int (lo + i)) else none) = r := Option.some.inj (show some (if i < n then some (PV.int (lo + i)) else none) = some r from e)
    by_cases c : i < n
    · rw [if_pos c] at e2; subst e2
      refine ⟨fun z => by (cases z), fun x z => ?_⟩
      cases z
      refine ⟨c, fun v H' y => ?_⟩
      obtain ⟨rfl, rfl⟩ := y
      exact ⟨.refl, so, .int _⟩
    · rw [if_neg c] at e2; subst e2
      exact ⟨fun _ => Nat.le_of_not_lt c, fun x z => by cases z⟩
  | @zipL p q a b h k m n =>
    have e : (match items st p, items st q with | some xs, some ys => some (match xs[i]?, ys[i]? with | some x, some y => some (PV.tup [x, y]) | _, _ => none) | _, _ => none) = some r := e
    split at e
    · rename_i xs ys e1 e2
      have e := Option.some.inj e
      obtain ⟨vs, k1, r1⟩ := list_at so h m e1
      obtain ⟨us, k2, r2⟩ := list_at so k n e2
      split at e
      · rename_i x y q1 q2
        subst e
        obtain ⟨v, a1, a2⟩ := r1.get q1
        obtain ⟨u, b1, b2⟩ := r2.get q2
        refine ⟨fun z => by (cases z), fun x' z => ?_⟩
        cases z
        refine ⟨⟨vs, us, v, u, k1, k2, a1, b1⟩, fun w H' yy => ?_⟩
        obtain ⟨T, x1, y1, rfl, hT, rfl, c1, c2⟩ := yy
        have d1 := c1 vs k1
        have d2 := c2 us k2
        rw [a1] at d1; cases d1
        rw [b1] at d2; cases d2
        exact pair_new hT so a2 b2
      · rename_i no
        subst e
        refine ⟨fun _ => ⟨vs, us, k1, k2, ?_⟩, fun x z => by cases z⟩
        cases q1 : xs[i]? with
        | none => exact .inl (r1.none_of q1)
        | some x =>
          cases q2 : ys[i]? with
          | none => exact .inr (r2.none_of q2)
          | some y => exact (no x y q1 q2).elim
    · cases e
  | @zipT xs ys a b h k =>
    have e := Option.some.inj (show some (match xs[i]?, ys[i]? with | some x, some y => some (PV.tup [x, y]) | _, _ => none) = some r from e)
    obtain ⟨vs, k1, r1⟩ := tup_at h
    obtain ⟨us, k2, r2⟩ := tup_at k
    split at e
    · rename_i x y q1 q2
      subst e
      obtain ⟨v, a1, a2⟩ := r1.get q1
      obtain ⟨u, b1, b2⟩ := r2.get q2
      refine ⟨fun z => by (cases z), fun x' z => ?_⟩
      cases z
      refine ⟨⟨vs, us, v, u, k1, k2, a1, b1⟩, fun w H' yy => ?_⟩
      obtain ⟨T, x1, y1, rfl, hT, rfl, c1, c2⟩ := yy
      have d1 := c1 vs k1
      have d2 := c2 us k2
      rw [a1] at d1; cases d1
      rw [b1] at d2; cases d2
      exact pair_new hT so a2 b2
    · rename_i no
      subst e
      refine ⟨fun _ => ⟨vs, us, k1, k2, ?_⟩, fun x z => by cases z⟩
      cases q1 : xs[i]? with
      | none => exact .inl (r1.none_of q1)
      | some x =>
        cases q2 : ys[i]? with
        | none => exact .inr (r2.none_of q2)
        | some y => exact (no x y q1 q2).elim
  | @enum p a h n =>
    obtain ⟨xs, e1, e2⟩ := Option.map_eq_some_iff.mp (show (items st p).map (fun xs => (xs[i]?).map fun x => PV.tup [.int (i : Nat), x]) = some r from e)
    obtain ⟨vs, k, rr⟩ := list_at so h n e1
    subst e2
    refine ⟨fun z => ⟨vs, k, rr.none_of (by simpa using z)⟩, fun x z => ?_⟩
    obtain ⟨x0, z1, rfl⟩ := Option.map_eq_some_iff.mp z
    obtain ⟨w, h1, h2⟩ := rr.get z1
    refine ⟨⟨vs, w, k, h1⟩, fun v H' y => ?_⟩
    obtain ⟨T, x1, rfl, hT, rfl, c1⟩ := y
    have d1 := c1 vs k
    rw [h1] at d1; cases d1
    exact pair_new hT so (.int _) h2

/-! ### iterables -/
def tI (G : Gc) (m : Ev Src) (W : WX) : TI := fun σ H R => ∃ ρ η st, StOk G ρ H st ∧ REn G ρ H η σ ∧ Out G (m η st) ρ H (fun s ρ' H' => ∀ J, SrcRel G ρ' H' s J → R J H') (XW G W σ)
theorem pi_weak {tg it : Expr} {t t' : TI} (h : PI X tg it t') (w : ∀ σ H R, t σ H R → t' σ H R) : PI X tg it t := ⟨fun pins s σ H R I q => h.run pins s σ H R I (w _ _ _ q)⟩
theorem PI.or {tg it : Expr} {t u : TI} (h : PI X tg it t) (h' : PI X tg it u) : PI X tg it (fun σ H R => t σ H R ∨ u σ H R) := ⟨fun pins s σ H R I q => q.elim (h.run pins s σ H R I) (h'.run pins s σ H R I)⟩
def iSeq (m : Ev PV) : Ev Src := fun η st => (m η st).bind fun p st => match items st p with
  | some _ => .ok (.seq p) st
  | none => .stuck
/-- a list, a tuple: one rule by the value -/
theorem pi_seq {tg l : Expr} {tl : TE} (hl : PE X l tl) : PI X tg l (fun σ H R => tl σ H fun x H1 => ∃ a, x = .ref a ∧ (((∃ xs, SqL X.K H1 a xs) ∧ R (Itl X.K a) H1) ∨ ((∃ xs, SqT X.K H1 a xs) ∧ R (Itt X.K a) H1))) := by
  refine ⟨fun pins s σ H R I h =>
        ?_⟩
  refine thn (hl.run pins s σ H _ I h) fun v s1 ⟨x, H1, I1, r1, q1⟩ =>
        ?_
  obtain ⟨a, e, q⟩ := q1
  subst e
  cases r1
  have fresh := I1.fpOk (Nat.le_refl _) (I1.hok.fresh (Nat.le_refl _))
  rcases q with ⟨⟨xs, hq⟩, q⟩ | ⟨⟨xs, hq⟩, q⟩
  · obtain ⟨its, rv, p, hz⟩ := I1.list hq
    refine wpAny_pyIter_list p.isList ⟨s1.heap.objs.size, [s1.heap.objs.size], _, _, H1, rfl, I1.kept (t' := s1.toks) fun b o e => Heap.get?_push_of_some _ e, turn_list a _, ⟨_, Heap.get?_push_size _ rfl, rfl, rfl⟩, fun b hb => ?_, q⟩
    obtain rfl : b = s1.heap.objs.size := by simpa using hb
    exact fresh
  · obtain ⟨its, rv, p, hz⟩ := I1.tuple hq
    refine wpAny_pyIter_tuple (show s1.heap.IsTuple a its.toArray from p) ⟨s1.heap.objs.size, [s1.heap.objs.size], _, _, H1, rfl, I1.kept (t' := s1.toks) fun b o e => Heap.get?_push_of_some _ e, turn_tuple a _, ⟨_, Heap.get?_push_size _ rfl, rfl, rfl⟩, fun b hb => ?_, q⟩
    obtain rfl : b = s1.heap.objs.size := by simpa using hb
    exact fresh
theorem mi_seq {tg : Expr} (hK : X.K = G.K) (ha : PE X a (tE G ma W)) : PI X tg a (tI G (iSeq ma) W) := by
  refine pi_weak (pi_seq ha) ?_
  rintro σ H R ⟨ρ, η, st, so, re, h⟩
  refine ⟨ρ, η, st, so, re, Out.bind h fun p st1 ρ1 H1 _ s1 o1 h1 => fun v rv => ?_⟩
  cases q : items st1 p with
  | none => rw [q] at h1; exact False.elim h1
  | some xs =>
    rw [q] at h1
    obtain ⟨b, vs, rfl, r, k⟩ := items_ok o1 rv q
    rw [hK]
    rcases k with ⟨il, k⟩ | ⟨⟨ys, rfl⟩, k⟩
    · exact ⟨b, rfl, .inl ⟨⟨vs, k⟩, h1 ρ1 H1 .refl o1 _ (.lst rv (by cases p <;> first | rfl | cases il))⟩⟩
    · exact ⟨b, rfl, .inr ⟨⟨vs, k.sq⟩, h1 ρ1 H1 .refl o1 _ (.tup rv)⟩⟩
def small (i : Int) : Bool := decide (-(2 ^ 62) ≤ i ∧ i < 2 ^ 62)
theorem small_ok {i : Int} (h : small i = true) : -(2 ^ 62) ≤ i ∧ i < 2 ^ 62 := @of_decide_eq_true (-(2 ^ 62) ≤ i ∧ i < 2 ^ 62) _ h
def iRange1 (m : Ev (List PV)) : Ev Src := fun η st => (m η st).bind fun ps st => match ps with
  | [.int j] => if small j then .ok (.rng 0 j.toNat) st else .stuck
  | _ => .stuck
theorem mi_range1 {tg e : Expr} {p : Pos} {m : Ev (List PV)} (hg : Gl X "range") (hm : X.mg "range" = none) (ha : PA X [e] (tEs G m W)) (hs : starEach [e] X.env = [(false, eval e X.env)]) : PI X tg (.Call (.Name "range" p) [e] [] pos) (tI G (iRange1 m) W) := by
  refine pi_weak (pi_range1 hg hm ha hs) ?_
  rintro σ H R ⟨ρ, η, st, so, re, h⟩
  refine ⟨ρ, η, st, so, re, Out.bind h fun ps st1 ρ1 H1 _ s1 o1 h1 => fun vs rv => ?_⟩
  match ps, rv with
  | [p], rv =>
    obtain ⟨v, rfl, r⟩ := rv.one_inv
    cases r with
    | int j =>
      obtain ⟨c, h1⟩ := ite_stuck h1
      exact ⟨j, rfl, (small_ok c).1, (small_ok c).2, h1 ρ1 H1 .refl o1 _ (.rng 0 _)⟩
    | _ => exact False.elim h1
  | [], _ => exact False.elim h1
  | p :: _ :: _, _ => cases p <;> exact False.elim h1
def iRange2 (m : Ev (List PV)) : Ev Src := fun η st => (m η st).bind fun ps st => match ps with
  | [.int i, .int j] => if small i && small j then .ok (.rng i (j - i).toNat) st else .stuck
  | _ => .stuck
theorem mi_range2 {tg e e2 : Expr} {p : Pos} {m : Ev (List PV)} (hg : Gl X "range") (hm : X.mg "range" = none) (ha : PA X [e, e2] (tEs G m W)) (hs : starEach [e, e2] X.env = [(false, eval e X.env), (false, eval e2 X.env)]) (hs2 : starEach [e2] X.env = [(false, eval e2 X.env)]) :
    PI X tg (.Call (.Name "range" p) [e, e2] [] pos) (tI G (iRange2 m) W) := by
  refine pi_weak (pi_range2 hg hm ha hs hs2) ?_
  rintro σ H R ⟨ρ, η, st, so, re, h⟩
  refine ⟨ρ, η, st, so, re, Out.bind h fun ps st1 ρ1 H1 _ s1 o1 h1 => fun vs rv => ?_⟩
  match ps, rv with
  | [p, q], rv =>
    obtain ⟨v, u, rfl, r, r2⟩ := rv.two_inv
    cases r with
    | int i => cases r2 with
      | int j =>
        obtain ⟨c, h1⟩ := ite_stuck h1
        rw [Bool.and_eq_true] at c
        exact ⟨i, j, rfl, ⟨(small_ok c.1).1, (small_ok c.1).2, (small_ok c.2).1, (small_ok c.2).2⟩, h1 ρ1 H1 .refl o1 _ (.rng i _)⟩
      | _ => exact False.elim h1
    | _ => exact False.elim h1
  | [], _ => exact False.elim h1
  | [p], _ => cases p <;> exact False.elim h1
  | p :: q :: _ :: _, _ => cases p <;> cases q <;> exact False.elim h1
def iZip2 (m : Ev (List PV)) : Ev Src := fun η st => (m η st).bind fun ps st => match ps with
  | [p, q] => match items st p, items st q with
    | some _, some _ => if notTup p = notTup q then .ok (.zip p q) st else .stuck
    | _, _ => .stuck
  | _ => .stuck
theorem mi_zip {e e2 : Expr} {p tpos : Pos} {elts : List Expr} {kk : Nat} {m : Ev (List PV)} (hK : X.K = G.K) (hg : Gl X "zip") (hm : X.mg "zip" = none) (ha : PA X [e, e2] (tEs G m W)) (hs : starEach [e, e2] X.env = (false, eval e X.env) :: starEach [e2] X.env)
    (hpl : (backTo pos (starEach [e2] X.env)).any (·.1) = false) : PI X (.Tuple elts kk tpos) (.Call (.Name "zip" p) [e, e2] [] pos) (tI G (iZip2 m) W) := by
  refine pi_weak (RZ.pi_zipA hg hm ha hs hpl) ?_
  rintro σ H R ⟨ρ, η, st, so, re, h⟩
  refine ⟨ρ, η, st, so, re, Out.bind h fun ps st1 ρ1 H1 _ s1 o1 h1 => fun vs rv => ?_⟩
  match ps, rv with
  | [p, q], rv =>
    obtain ⟨v, u, rfl, r, r2⟩ := rv.two_inv
    have h1 : Out G (match items st1 p, items st1 q with | some _, some _ => if notTup p = notTup q then .ok (.zip p q) st1 else .stuck | _, _ => .stuck) ρ1 H1 (fun s ρ' H' => ∀ J, SrcRel G ρ' H' s J → R J H') (XW G W σ) := h1
    split at h1
    · rename_i xs ys e1 e2
      obtain ⟨c, h1⟩ := ite_stuck h1
      obtain ⟨a, vs, rfl, r1', k1⟩ := items_ok o1 r e1
      obtain ⟨b, us, rfl, r2', k2⟩ := items_ok o1 r2 e2
      have nt : ∀ {z : PV}, isList st1 z = true → notTup z = true := fun {z} e => by cases z <;> first | rfl | cases e
      rw [hK]
      rcases k1 with ⟨l1, k1⟩ | ⟨⟨_, rfl⟩, k1⟩
      · rcases k2 with ⟨l2, k2⟩ | ⟨⟨_, rfl⟩, k2⟩
        · exact ⟨a, b, vs, us, rfl, .inl ⟨k1, k2, h1 ρ1 H1 .refl o1 _ (.zipL r r2 (nt l1) (nt l2))⟩⟩
        · rw [nt l1] at c; cases c
      · rcases k2 with ⟨l2, k2⟩ | ⟨⟨_, rfl⟩, k2⟩
        · rw [nt l2] at c; cases c
        · exact ⟨a, b, vs, us, rfl, .inr ⟨k1.sq, k2.sq, h1 ρ1 H1 .refl o1 _ (.zipT r r2)⟩⟩
    · exact False.elim h1
  | [], _ => exact False.elim h1
  | [_], _ => exact False.elim h1
  | _ :: _ :: _ :: _, _ => exact False.elim h1
def iEnum1 (m : Ev (List PV)) : Ev Src := fun η st => (m η st).bind fun ps st => match ps with
  | [p] => match items st p with
    | some _ => if notTup p then .ok (.enum p) st else .stuck
    | none => .stuck
  | _ => .stuck
theorem mi_enum {e : Expr} {p tpos : Pos} {elts : List Expr} {kk : Nat} {m : Ev (List PV)} (hK : X.K = G.K) (hg : Gl X "enumerate") (hm : X.mg "enumerate" = none) (ha : PA X [e] (tEs G m W)) (hs : starEach [e] X.env = [(false, eval e X.env)]) :
    PI X (.Tuple elts kk tpos) (.Call (.Name "enumerate" p) [e] [] pos) (tI G (iEnum1 m) W) := by
  refine pi_weak (pi_enum hg hm ha hs) ?_
  rintro σ H R ⟨ρ, η, st, so, re, h⟩
  refine ⟨ρ, η, st, so, re, Out.bind h fun ps st1 ρ1 H1 _ s1 o1 h1 => fun vs rv => ?_⟩
  match ps, rv with
  | [p], rv =>
    obtain ⟨v, rfl, r⟩ := rv.one_inv
    have h1 : Out G (match items st1 p with | some _ => if notTup p then .ok (.enum p) st1 else .stuck | none => .stuck) ρ1 H1 (fun s ρ' H' => ∀ J, SrcRel G ρ' H' s J → R J H') (XW G W σ) := h1
    split at h1
    · rename_i xs e1
      obtain ⟨c, h1⟩ := ite_stuck h1
      obtain ⟨a, vs, rfl, r1', k1⟩ := items_ok o1 r e1
      rw [hK]
      rcases k1 with ⟨l1, k1⟩ | ⟨⟨_, rfl⟩, k1⟩
      · exact ⟨a, vs, rfl, k1, h1 ρ1 H1 .refl o1 _ (.enum r c)⟩
      · cases c
    · exact False.elim h1
  | [], _ => exact False.elim h1
  | _ :: _ :: _, _ => exact False.elim h1

/-! ### for -/
def forLoop (t : CT) (s : Src) (m : Sv) : Nat → Nat → Sv
  | 0, _ => fun _ _ => .stuck
  | n + 1, i => fun η st => match srcAt st s i with
    | none => .stuck
    | some none => .ok .nx η st
    | some (some x) => match asg st t x η with
      | none => .stuck
      | some η => match m η st with
        | .ok .nx η st => forLoop t s m n (i + 1) η st
        | .ok .ct η st => forLoop t s m n (i + 1) η st
        | .ok .bk η st => .ok .nx η st
        | r => r
def sFor (t : CT) (it : Ev Src) (m : Sv) : Sv := fun η st => SR.of (it η st) η fun s st => forLoop t s m FU 0 η st
theorem ms_for {tg it : Expr} {body : List Stmt} {t : CT} {mi : Ev Src} {m : Sv} (hp : PassesOwn (model X.prog X.w) X.A X.env X.xe) (hc : X.calm = true) (hi : PI X tg it (tI G mi W)) (hg : PG X tg (tA G t)) (hb : PSs X body (tB G m W))
    (hs : ∀ x, foldedSetIterable it X.env x = pure x) : PS X (.For tg it body [] pos) (tB G (sFor t mi m) W) := by
  refine ps_weak (ps_for hp hc hi hg hb hs) ?_
  rintro D σ H ⟨ρ, η, st, so, re, h⟩
  refine ⟨ρ, η, st, so, re, OutB.of re h fun s st1 ρ1 H1 _ s1 o1 h1 => fun J sr => ?_⟩
  have re1 := re.step s1
  clear h re so s1
  refine ⟨fun i n σ H => ∃ ρ η st, StOk G ρ H st ∧ REn G ρ H η σ ∧ SrcRel G ρ H s J ∧ OutB G (forLoop t s m n i η st) ρ H D W, ⟨FU, ρ1, η, st1, o1, re1, sr, h1⟩, ?_⟩
  clear h1 re1 o1 sr
  rintro i n σ H ⟨ρ, η, st, so, re, sr, h⟩
  cases n with
  | zero => exact False.elim h
  | succ n =>
    have h : OutB G (match srcAt st s i with
      | none => .stuck
      | some none => .ok .nx η st
      | some (some x) => match asg st t x η with
        | none => .stuck
        | some η => match m η st with
          | .ok .nx η st => forLoop t s m n (i + 1) η st
          | .ok .ct η st => forLoop t s m n (i + 1) η st
          | .ok .bk η st => .ok .nx η st
          | r => r) ρ H D W := h
    cases q : srcAt st s i with
    | none => rw [q] at h; exact False.elim h
    | some r =>
      have tr := src_turn so sr q
      cases r with
      | none =>
        rw [q] at h
        exact .inl ⟨tr.1 rfl, h ρ H σ .refl so re⟩
      | some x =>
        rw [q] at h
        obtain ⟨go, yl⟩ := tr.2 x rfl
        refine .inr ⟨go, fun σ' H' => ∃ ρ η st, StOk G ρ H' st ∧ REn G ρ H' η σ' ∧ SrcRel G ρ H' s J ∧ OutB G (forLoop t s m n (i + 1) η st) ρ H' D W, fun σ' H' q => ⟨n, Nat.lt_succ_self n, q⟩, fun v H' y => ?_⟩
        obtain ⟨s2, o2, r2⟩ := yl v H' y
        have h : OutB G (match asg st t x η with
          | none => .stuck
          | some η => match m η st with
            | .ok .nx η st => forLoop t s m n (i + 1) η st
            | .ok .ct η st => forLoop t s m n (i + 1) η st
            | .ok .bk η st => .ok .nx η st
            | r => r) ρ H D W := h
        cases q2 : asg st t x η with
        | none => rw [q2] at h; exact False.elim h
        | some η1 =>
          rw [q2] at h
          refine ⟨ρ, η, st, x, η1, o2, re.step s2, r2, q2, fun σ2 re2 _ => ⟨ρ, η1, st, o2, re2, ?_⟩⟩
          have h : OutB G (match m η1 st with
            | .ok .nx η st => forLoop t s m n (i + 1) η st
            | .ok .ct η st => forLoop t s m n (i + 1) η st
            | .ok .bk η st => .ok .nx η st
            | r => r) ρ H D W := h
          have h := OutB.later h s2
          cases e : m η1 st with
          | ok f η' st' =>
            rw [e] at h
            intro ρ' H'' σ' t' o re'
            cases f with
            | nx => exact ⟨ρ', η', st', o, re', (sr.step s2).step t', OutB.later h t'⟩
            | ct => exact ⟨ρ', η', st', o, re', (sr.step s2).step t', OutB.later h t'⟩
            | rt p => exact h ρ' H'' σ' t' o re'
            | bk => exact h ρ' H'' σ' t' o re'
          | exn c fs η' st' => rw [e] at h; exact h
          | stuck => rw [e] at h; exact h
end
end Cv
namespace Cv
open L2 PySem PySem.Spec PyProof.Rows

/-! ### comprehensions -/
def wipeP (η : Env') : List Nat → Env'
  | [] => η
  | v :: vs => (wipeP η vs).set v none
def lcLoop (elt : Ev PV) (t : CT) (ifs : Ev Bool) (s : Src) (η : Env') (d : Nat) : Nat → Nat → Sto → Res Unit
  | 0, _, _ => .stuck
  | n + 1, i, st => match srcAt st s i with
    | none => .stuck
    | some none => .ok () st
    | some (some x) => match asg st t x η with
      | none => .stuck
      | some η1 => match ifs η1 st with
        | .ok false st => lcLoop elt t ifs s η d n (i + 1) st
        | .ok true st => match elt η1 st with
          | .ok y st => match st[d]? with
            | some (.lst acc) => if acc.length < LIM then lcLoop elt t ifs s η d n (i + 1) (st.set d (.lst (acc ++ [y]))) else .stuck
            | _ => .stuck
          | _ => .stuck
        | _ => .stuck
def eLc (elt : Ev PV) (t : CT) (ifs : Ev Bool) (it : Ev Src) (vs : List Nat) : Ev PV := fun η st => (it η st).bind fun s st =>
  (lcLoop elt t ifs s (wipeP η vs) st.length FU 0 (st ++ [.lst []])).bind fun _ st' => .ok (.loc st.length) st'
section
variable {X : Cx} {G : Gc} {W : WX} {a b c : Expr} {ma mb mc : Ev PV} {pos : Pos} {ρ ρ' : List Addr} {H H' : Hp} {st : Sto} {η : Env'} {σ : L2.St}
theorem REn.unset (r : REn G ρ H η σ) (i : Nat) : REn G ρ H (η.set i none) (σ.set i none) := by
  refine ⟨by simpa using r.len, fun j q e => ?_⟩
  by_cases hj : i = j
  · subst hj
    rw [List.getElem?_set] at e
    simp only [if_true] at e
    by_cases hl : i < η.length
    · rw [if_pos hl] at e; cases e
    · rw [if_neg hl] at e; cases e
  · rw [List.getElem?_set_ne hj] at e ⊢
    exact r.at_ j q e
theorem REn.wipe (r : REn G ρ H η σ) : ∀ vs : List Nat, REn G ρ H (wipeP η vs) (wipe σ vs)
  | [] => r
  | v :: vs => (REn.wipe r vs).unset v
theorem wipe_in {σ : L2.St} {j : Nat} : ∀ {vs : List Nat}, j ∈ vs → (wipe σ vs)[j]? = if j < σ.length then some none else none
  | v :: vs, h => by
    show ((wipe σ vs).set v none)[j]? = _
    by_cases e : v = j
    · subst e
      rw [List.getElem?_set, wipe_length]
      simp
    · rw [List.getElem?_set_ne e]
      exact wipe_in (by
        rcases List.mem_cons.mp
              h with z | z
        · exact absurd z.symm e
        · exact z)
theorem wipe_agree {l vs : List Nat} {σ σ2 : L2.St} (h : Agree l (wipe σ vs) σ2) (sub : ∀ j ∈ l, j ∈ vs) : wipe σ2 vs = wipe σ vs := by
  have hl : σ2.length = σ.length := by rw [h.1, wipe_length]
  refine List.ext_getElem? fun j =>
        ?_
  by_cases hj : j ∈ vs
  · rw [wipe_in hj, wipe_in hj, hl]
  · rw [wipe_out hj, wipe_out hj, h.2 j (fun z => hj (sub j z)), wipe_out hj]
/-- nothing is let out of a block -/
abbrev W0 : WX := fun _ _ _ _ => False
theorem lc_red {t : CT} {mi : Ev Src} {me : Ev PV} {mt : Ev Bool} {vs : List Nat} (sub : ∀ j ∈ t.slots, j ∈ vs) : ∀ σ H Q, tE G (eLc me t mt mi vs) W σ H Q → tLc (tI G mi W) (tA G t) (tT G mt W0) (tE G me W0) vs σ H Q := by
  rintro σ H Q ⟨ρ, η, st, so, re, h⟩
  refine ⟨ρ, η, st, so, re, Out.bind h fun s st1 ρ1 H1 _ s1 o1 h1 => fun J sr D hD => ?_⟩
  have re1 := (re.step s1).wipe vs
  have sp := step_push (ρ := ρ1) (o := .lst []) hD
  have o2 : StOk G (ρ1 ++ [D]) (upd H1 D (.lst [])) (st1 ++ [.lst []]) := o1.push hD ⟨[], upd_same, .nil⟩
  have at2 : (ρ1 ++ [D])[st1.length]? = some D := by rw [← o1.len]; simp
  refine ⟨fun i n H => ∃ ρ st, StOk G ρ H st ∧ REn G ρ H (wipeP η vs) (wipe σ vs) ∧ SrcRel G ρ H s J ∧ ρ[st1.length]? = some D ∧
    Out G ((lcLoop me t mt s (wipeP η vs) st1.length n i st).bind fun _ st' => .ok (.loc st1.length) st') ρ H (VP G Q) (XW G W σ), ⟨FU, _, _, o2, re1.step sp, sr.step sp, at2, Out.later h1 sp⟩, ?_⟩
  clear h1 re1 o2 at2 sp sr o1 s1 h so re
  rintro i n H ⟨ρ, st, so, re, sr, hD, h⟩
  cases n with
  | zero => exact False.elim h
  | succ n =>
    have h : Out G (Res.bind (match srcAt st s i with
      | none => .stuck
      | some none => .ok () st
      | some (some x) => match asg st t x (wipeP η vs) with
        | none => .stuck
        | some η1 => match mt η1 st with
          | .ok false st => lcLoop me t mt s (wipeP η vs) st1.length n (i + 1) st
          | .ok true st => match me η1 st with
            | .ok y st => match st[st1.length]? with
              | some (.lst acc) => if acc.length < LIM then lcLoop me t mt s (wipeP η vs) st1.length n (i + 1) (st.set st1.length (.lst (acc ++ [y]))) else .stuck
              | _ => .stuck
            | _ => .stuck
          | _ => .stuck) fun _ st' => .ok (.loc st1.length) st') ρ H (VP G Q) (XW G W σ) := h
    cases q : srcAt st s i with
    | none => rw [q] at h; exact False.elim h
    | some r =>
      have tr := src_turn so sr q
      cases r with
      | none => rw [q] at h; exact .inl ⟨tr.1 rfl, fin_ok so h (.loc hD)⟩
      | some x =>
        rw [q] at h
        obtain ⟨go, yl⟩ := tr.2 x rfl
        refine .inr ⟨go, fun H => ∃ ρ st, StOk G ρ H st ∧ REn G ρ H (wipeP η vs) (wipe σ vs) ∧ SrcRel G ρ H s J ∧ ρ[st1.length]? = some D ∧
          Out G ((lcLoop me t mt s (wipeP η vs) st1.length n (i + 1) st).bind fun _ st' => .ok (.loc st1.length) st') ρ H (VP G Q) (XW G W σ), fun H' q => ⟨n, Nat.lt_succ_self n, q⟩, fun v H' y => ?_⟩
        obtain ⟨s2, o2, r2⟩ := yl v H' y
        cases q2 : asg st t x (wipeP η vs) with
        | none => simp only [q2] at h; exact False.elim h
        | some η1 =>
          simp only [q2] at h
          refine ⟨ρ, wipeP η vs, st, x, η1, o2, re.step s2, r2, q2, fun σ2 re2 ag => ⟨wipe_agree ag sub, ρ, η1, st, o2, re2, ?_⟩⟩
          have h := Out.later h s2
          have re := re.step s2
          have sr := sr.step s2
          cases e : mt η1 st with
          | exn c fs st' => simp only [e] at h; exact False.elim h
          | stuck => simp only [e] at h; exact False.elim h
          | ok k st' =>
            intro ρ3 H3 s3 o3
            cases k with
            | false =>
              simp only [e] at h
              exact ⟨ρ3, st', o3, re.step s3, sr.step s3, s3.at_ hD, Out.later h s3⟩
            | true =>
              simp only [e] at h
              refine ⟨ρ3, η1, st', o3, re2.step s3, ?_⟩
              have h := Out.later h s3
              cases e2 : me η1 st' with
              | exn c fs st' => simp only [e2] at h; exact False.elim h
              | stuck => simp only [e2] at h; exact False.elim h
              | ok y st4 =>
                simp only [e2] at h
                intro ρ4 H4 s4 o4 v rv
                have h := Out.later h s4
                have hD4 := s4.at_ (s3.at_ hD)
                cases q4 : st4[st1.length]? with
                | none => simp only [q4] at h; exact False.elim h
                | some so' =>
                  cases so' with
                  | lst acc =>
                    simp only [q4] at h
                    by_cases c : acc.length < LIM
                    · rw [if_pos c] at h
                      obtain ⟨ws, k1, r⟩ := o4.at_ _ _ D q4 hD4
                      have s5 : Step ρ4 H4 ρ4 (upd H4 D (.lst (ws ++ [v]))) := step_write k1 trivial (mem_of_at hD4)
                      exact ⟨ws, k1, by rw [← r.length]; exact lim_line' c, ρ4, _, o4.set (x := .lst (acc ++ [y])) hD4 k1 trivial ⟨_, upd_same, (r.append (.cons rv .nil)).step s5⟩,
                        ((re.step s3).step s4).step s5, ((sr.step s3).step s4).step s5, hD4, Out.later h s5⟩
                    · rw [if_neg c] at h; exact False.elim h
                  | _ => simp only [q4] at h; exact False.elim h
theorem me_lc {elt tg iter : Expr} {ifs : List Expr} {scope : Scope} {own : List (Str × Nat)} {t : CT} {mi : Ev Src} {me : Ev PV} {mt : Ev Bool} (hc : X.calm = true) (hN : X.N.Nodup) (hi : PI X tg iter (tI G mi W)) (ok : BlkOk X.N X.env.scope scope own)
    (sub : ∀ j ∈ t.slots, j ∈ own.map (·.2))
    (hg : ∀ (s : Shared) (H : Hp) (C : Addr) (cl : List (Str × Addr)) (fp : List Addr), PG (X.blk s H scope (compEnvC scope cl C X.env) fp) tg (tA G t))
    (ht : ∀ (s : Shared) (H : Hp) (C : Addr) (cl : List (Str × Addr)) (fp : List Addr), PTs (X.blk s H scope (compEnvC scope cl C X.env) fp) ifs (tT G mt W0))
    (he : ∀ (s : Shared) (H : Hp) (C : Addr) (cl : List (Str × Addr)) (fp : List Addr), PE (X.blk s H scope (compEnvC scope cl C X.env) fp) elt (tE G me W0))
    (hs : ∀ x, foldedSetIterable iter X.env x = pure x) : PE X (.ListComp elt [⟨tg, iter, ifs, 0⟩] scope pos) (tE G (eLc me t mt mi (own.map (·.2))) W) := by
  refine pe_weak (pe_lc hc hN hi ok hg ht he hs) ?_
  exact lc_red sub
/-- name = [..] on one line -/
theorem ms_setLc {i : Nat} {y : Str} {py spos : Pos} {elt tg iter : Expr} {ifs : List Expr} {scope : Scope} {own : List (Str × Nat)} {t : CT} {mi : Ev Src} {me : Ev PV} {mt : Ev Bool} (hc : X.calm = true) (hN : X.N.Nodup) (hy : X.N[i]? = some y) (hyl : X.env.scope.names.lookup y = some .local)
    (hsw : swapsWith (.ListComp elt [⟨tg, iter, ifs, 0⟩] scope pos) (some (.Name y py)) spos.line X.env = pure true) (hi : PI X tg iter (tI G mi W)) (ok : BlkOk X.N X.env.scope scope own) (sub : ∀ j ∈ t.slots, j ∈ own.map (·.2))
    (hg : ∀ (s : Shared) (H : Hp) (C : Addr) (cl : List (Str × Addr)) (fp : List Addr), PG (X.blk s H scope (compEnvC scope cl C X.env) fp) tg (tA G t))
    (ht : ∀ (s : Shared) (H : Hp) (C : Addr) (cl : List (Str × Addr)) (fp : List Addr), PTs (X.blk s H scope (compEnvC scope cl C X.env) fp) ifs (tT G mt W0))
    (he : ∀ (s : Shared) (H : Hp) (C : Addr) (cl : List (Str × Addr)) (fp : List Addr), PE (X.blk s H scope (compEnvC scope cl C X.env) fp) elt (tE G me W0))
    (hs : ∀ x, foldedSetIterable iter X.env x = pure x) : PS X (.Assign [.Name y py] (.ListComp elt [⟨tg, iter, ifs, 0⟩] scope pos) spos) (tB G (sAsg (eLc me t mt mi (own.map (·.2))) (.nm i)) W) := by
  refine ps_weak (ps_setLc hc hN hy hyl hsw hi ok hg ht he hs) ?_
  rintro D σ H ⟨ρ, η, st, so, re, h⟩
  exact lc_red sub σ H _ ⟨ρ, η, st, so, re, OutB.of re h fun x st1 ρ1 H1 _ s1 o1 h1 => fun v rv => h1 ρ1 H1 _ .refl o1 ((re.step s1).set i rv)⟩
end
end Cv
namespace Cv
open L2 PySem PySem.Spec PyProof.Rows

/-! ### defs: promises where no repr is under way -/
structure FnG (P : Program) (w : World) (K : PySem.W.Frag) (mg : Str → Option Value) (base : Heap) (k : Nat) (f : Addr) (sp : Sp) : Prop where
  go : ∀ (A : Around) (outer : List PySem.Env) (s : Shared) (H : Hp) (us : List Value) (vs : List V) (Q : VK) (E : XK), Room k A → A.guards = some [] → Env0 P w K mg base A outer s H → Vals vs us → sp vs H Q E →
    codeAny (model P w) A (.call (.ref f) ⟨us, []⟩) (CR (L2.CX P w) outer P w H s Q E) s
section
variable {P : Program} {w : World} {K : PySem.W.Frag} {mg : Str → Option Value} {base : Heap} {k j : Nat} {f : Addr} {sp : Sp}
theorem FnG.mono (F : FnG P w K mg base j f sp) (h : j ≤ k) : FnG P w K mg base k f sp := ⟨fun A outer s H us vs Q E r => F.go A outer s H us vs Q E (r.mono h)⟩
/-- a def of the text by its body -/
theorem fng_of {x qual : Str} {params : Arguments} {body : List Stmt} {scope : Scope} {fd : FuncData} {N ps : List Str} (F : FunD K x qual params body scope [] [] f fd) (S : FnScope N ps scope)
    (hb : ∀ (dV kV doc pm : Value) (an : Option Addr) (cdv ct : Value) (us : List Value), dV = .none → us.length = ps.length → bindArgs (PySem.W.fnOf x qual params body scope dV kV doc pm an cdv ct) ⟨us, []⟩ = pure (ps.zip us))
    (len :
          ∀ vs H Q E, sp vs H Q E → vs.length = ps.length)
    (go : ∀ (cdv : Value) (A : Around) (outer : List PySem.Env) (s : Shared) (H : Hp) (vs : List V) (Q : VK) (E : XK), Room k (A.deeper (envOfC qual scope s.heap.objs.size f cdv)) → (A.deeper (envOfC qual scope s.heap.objs.size f cdv)).guards = some [] → sp vs H Q E →
      (∃ (oc : Value) (od : Option Addr) (dV kV doc pm : Value) (an : Option Addr) (ct : Value) (osl : Array (Option Value)), K.lookup f = some ⟨oc, od, .func (PySem.W.fnOf x qual params body scope dV kV doc pm an cdv ct), osl⟩ ∧ PySem.W.codeIn K cdv qual = true) →
      ∃ t, PSs (cxOf (L2.CX P w) P w K mg base N qual scope f cdv A outer s H E) body t ∧ t { nx := fun _ H' => Q .non H', rt := Q } (start N vs) H) :
    FnG P w K mg base (k + 1) f sp := by
  obtain ⟨oc, od, dV, kV, doc, pm, an, cdv, ct, osl, rfl, lk, hcd, hdv, _⟩ := F.ex
  have hdN : dV = .none := by
    rcases hdv with ⟨_, z⟩ | ⟨z, _⟩
    · exact z
    · exact absurd rfl z
  refine ⟨fun A outer s H us vs Q E room gd ent rv pre => ?_⟩
  have nvs := len vs H Q E pre
  have inH : K.In s.heap := ent.mod.kin.keeps fun b o e => (ent.bs b o e).1
  have free : s.heap.NoLimit := ent.mod.nolimit.keeps fun b o e => (ent.bs b o e).1
  have kinds : ∀ y ∈ ps.zip us, scope.names.lookup y.1 = some .local ∨ (scope.names.lookup y.1 = some .cell ∧ ((cellsFrom (s.heap.objs.size + 1) scope.names []).lookup y.1).isSome = true) := by
    intro y my
    obtain ⟨n, z⟩ := y
    refine (S.par n (List.of_mem_zip my).1).imp id fun q => ⟨q, ?_⟩
    exact PySem.W.cellsFrom_some _ _ _ (.inl q)
  refine codeAny_call_function room.depth (inH _ _ lk) rfl S.co S.gen rfl (PySem.W.codeRec_of inH hcd) ?_
  rw [hb dV kV doc pm an cdv ct us hdN (by rw [← rv.length]; exact nvs)]
  refine wpAny_pure (wpAny_newFunctionEnv_cells S.kind kinds fun env eq s1 x => ?_)
  subst eq
  refine ⟨free.keeps x.toInCall.keep, codeAny_func ?_⟩
  obtain ⟨t, run, wish⟩ := go cdv A outer s H vs Q E (room.deeper _) gd pre ⟨oc, od, dV, kV, doc, pm, an, ct, osl, lk, hcd⟩
  have inv0 : Inv (cxOf (L2.CX P w) P w K mg base N qual scope f cdv A outer s H E) [] (start N vs) H s1 := inv_start S room.hd ent nvs rv x
  refine wpAny_mono (run.run [] s1 (start N vs) H _ inv0 wish) ?_ (fun e s' z => z)
  intro fl s' z
  have fin : ∀ (σ' : L2.St) (H' : Hp) (v : V) (u : Value), Inv (cxOf (L2.CX P w) P w K mg base N qual scope f cdv A outer s H E) [] σ' H' s' → RelV v u → Q v H' → CE outer P w H s Q u s' :=
    fun σ' H' v u J r q => ⟨v, H', J.os, J.bare, J.base, J.hok, r, q⟩
  match fl, z with
  | .ret u, ⟨v, σ', H', J, r, q⟩ => exact fin σ' H' v u J r q
  | .next, ⟨σ', H', J, q⟩ => exact fin σ' H' .non .none J rfl q
  | .brk, ⟨_, _, _, q⟩ => exact False.elim q
  | .cont, ⟨_, _, _, q⟩ => exact False.elim q
end
section
variable {X : Cx} {G : Gc} {W : WX} {a b c : Expr} {ma mb mc : Ev PV} {pos : Pos}
/-- such a def is called, by values -/
theorem run_G {k : Nat} {f : Addr} {sp : Sp} {pins : List (Addr × Obj)} {σ : L2.St} {H : Hp} {s : Shared} {Q : VK} {us : List Value} {vs : List V} (F : FnG X.prog X.w X.K X.mg X.base k f sp) (hr : Room k X.A) (hg : X.A.guards = some [])
    (tk : Takes X W) (I : Inv X pins σ H s) (r : Vals vs us) (h : sp vs H Q (WE W σ)) : wpAny (model X.prog X.w) X.A (call (.ref f) us) (EP X pins σ Q) X.xe s := by
  refine wpAny_call (codeAny_mono (F.go X.A X.stack s H us vs Q (WE W σ) hr hg I.env0 r h) ?_)
  intro res s' z
  match res, z with
  | .error e, z => exact passAt tk σ pins H s e s' I z
  | .ok (.ret u), z => exact I.after z
  | .ok .next, z => exact False.elim z
  | .ok .brk, z => exact False.elim z
  | .ok .cont, z => exact False.elim z

/-! ### methods of lists, ints -/
inductive MI where | append | insert | extend | bits
  deriving DecidableEq
def mthOp : MI → PV → List PV → Sto → Res PV
  | .append, x, [y], st => match x with
    | .loc n => match st[n]? with
      | some (.lst xs) => if xs.length < LIM then .ok .non (st.set n (.lst (xs ++ [y]))) else .stuck
      | _ => .stuck
    | _ => .stuck
  | .insert, x, [i, y], st => match x, i with
    | .loc n, .int i => match st[n]? with
      | some (.lst xs) => if xs.length < LIM ∧ 0 ≤ i ∧ i < 1000000000 then .ok .non (st.set n (.lst (xs.take i.toNat ++ [y] ++ xs.drop i.toNat))) else .stuck
      | _ => .stuck
    | _, _ => .stuck
  | .extend, x, [y], st => match x, y with
    | .loc n, .loc m => match st[n]?, st[m]? with
      | some (.lst xs), some (.lst ys) => if xs.length + ys.length ≤ LIM then .ok .non (st.set n (.lst (xs ++ ys))) else .stuck
      | _, _ => .stuck
    | _, _ => .stuck
  | .bits, .int i, [], st => .ok (.int (Builtin.Int.intBits i : Nat)) st
  | _, _, _, _ => .stuck
def eMth (mi : MI) (m : Ev PV) (mr : Ev (List PV)) : Ev PV := fun η st => (m η st).bind fun x st => (mr η st).bind fun ps st => mthOp mi x ps st
/-- the receiver is looked at ahead of the arguments: it must still be a list there -/
def eMthL (mi : MI) (m : Ev PV) (mr : Ev (List PV)) : Ev PV := fun η st => (m η st).bind fun x st => if isList st x then (mr η st).bind fun ps st => mthOp mi x ps st else .stuck
theorem isList_ok {ρ : List Addr} {H : Hp} {st : Sto} {x : PV} {v : V} (so : StOk G ρ H st) (r : RV G ρ H x v) (h : isList st x = true) : tyV G.K "list" v H := by
  cases r with
  | fls k r => exact .inl ⟨rfl, _, k.sq⟩
  | @loc n a k =>
    have h : (match st[n]? with | some (.lst _) => true | _ => false) = true := h
    split at h
    · rename_i xs q
      obtain ⟨vs, h1, _⟩ := so.at_ n _ a q k
      exact .inl ⟨rfl, vs, .of h1⟩
    · cases h
  | _ => cases h
def MRuns (G : Gc) (r : V → List V → Hp → VK → Prop) (f : PV → List PV → Sto → Res PV) : Prop :=
  ∀ (ρ : List Addr) (H : Hp) (st : Sto) (x : PV) (xs : List PV) (v : V) (vs : List V) (Q : VK) (E : Str → List (Str × PV) → List Addr → Hp → Prop), StOk G ρ H st → RV G ρ H x v → RVs G ρ H xs vs → Out G (f x xs st) ρ H (VP G Q) E → r v vs H Q
theorem list_loc {ρ : List Addr} {H : Hp} {st : Sto} {n : Nat} {v : V} {xs : List PV} (so : StOk G ρ H st) (r : RV G ρ H (.loc n) v) (q : st[n]? = some (.lst xs)) : ∃ a vs, v = .ref a ∧ ρ[n]? = some a ∧ H a = some (.lst vs) ∧ RVs G ρ H xs vs := by
  obtain ⟨a, rfl, h1, vs, h2, h3⟩ := so.loc r q
  exact ⟨a, vs, rfl, h1, h2, h3⟩
theorem set_fin {ρ : List Addr} {H : Hp} {st : Sto} {n : Nat} {a : Addr} {vs ws : List V} {ys : List PV} {Q : VK} {E : Str → List (Str × PV) → List Addr → Hp → Prop} (so : StOk G ρ H st) (ha : ρ[n]? = some a) (h : H a = some (.lst vs)) (r : RVs G ρ H ys ws)
    (q : Out G (.ok .non (st.set n (.lst ys))) ρ H (VP G Q) E) : Q .non (upd H a (.lst ws)) :=
  have s5 : Step ρ H ρ (upd H a (.lst ws)) := step_write h trivial (mem_of_at ha)
  q ρ _ s5 (so.set (x := .lst ys) ha h trivial ⟨_, upd_same, r.step s5⟩) _ .non
theorem runs_append : MRuns G rAppend (mthOp .append) := by
  intro ρ H st x xs v vs Q E so rx rs h
  match xs, rs with
  | [y], rs =>
    obtain ⟨u, rfl, ry⟩ := rs.one_inv
    cases x with
    | loc n =>
      have h : Out G (match st[n]? with | some (.lst xs) => if xs.length < LIM then .ok .non (st.set n (.lst (xs ++ [y]))) else .stuck | _ => .stuck) ρ H (VP G Q) E := h
      split at h
      · rename_i zs q
        obtain ⟨c, h⟩ := ite_stuck h
        obtain ⟨a, ws, rfl, h1, h2, h3⟩ := list_loc so rx q
        exact ⟨a, ws, u, rfl, rfl, h2, by rw [← h3.length]; exact lim_line' c, set_fin so h1 h2 (h3.append (.cons ry .nil)) h⟩
      · exact False.elim h
    | _ => exact False.elim h
  | [], _ => exact False.elim h
  | _ :: _ :: _, _ => exact False.elim h
def rInsert : V → List V → Hp → VK → Prop := fun x vs H Q => ∃ (l : Addr) (xs : List V) (i : Int) (y : V), x = .ref l ∧ vs = [.int i, y] ∧ H l = some (.lst xs) ∧ xs.length < sizeLine ∧ 0 ≤ i ∧ i < 2 ^ 63 ∧
    Q .non (upd H l (.lst (xs.take i.toNat ++ [y] ++ xs.drop i.toNat)))
theorem runs_insert : MRuns G rInsert (mthOp .insert) := by
  intro ρ H st x xs v vs Q E so rx rs h
  match xs, rs with
  | [i, y], rs =>
    obtain ⟨w, u, rfl, ri, ry⟩ := rs.two_inv
    cases x with
    | loc n => cases i with
      | int i =>
        cases ri
        have h : Out G (match st[n]? with | some (.lst xs) => if xs.length < LIM ∧ 0 ≤ i ∧ i < 1000000000 then .ok .non (st.set n (.lst (xs.take i.toNat ++ [y] ++ xs.drop i.toNat))) else .stuck | _ => .stuck) ρ H (VP G Q) E := h
        split at h
        · rename_i zs q
          obtain ⟨c, h⟩ := ite_stuck h
          obtain ⟨a, ws, rfl, h1, h2, h3⟩ := list_loc so rx q
          exact ⟨a, ws, i, u, rfl, rfl, h2, by rw [← h3.length]; exact lim_line' c.1, c.2.1, by omega, set_fin so h1 h2 (((h3.take _).append (.cons ry .nil)).append (h3.drop _)) h⟩
        · exact False.elim h
      | _ => exact False.elim h
    | _ => exact False.elim h
  | [], _ => exact False.elim h
  | [_], _ => exact False.elim h
  | _ :: _ :: _ :: _, _ => exact False.elim h
theorem runs_extend : MRuns G rExtend (mthOp .extend) := by
  intro ρ H st x xs v vs Q E so rx rs h
  match xs, rs with
  | [y], rs =>
    obtain ⟨u, rfl, ry⟩ := rs.one_inv
    cases x with
    | loc n => cases y with
      | loc m =>
        have h : Out G (match st[n]?, st[m]? with | some (.lst xs), some (.lst ys) => if xs.length + ys.length ≤ LIM then .ok .non (st.set n (.lst (xs ++ ys))) else .stuck | _, _ => .stuck) ρ H (VP G Q) E := h
        split at h
        · rename_i zs ys q q2
          obtain ⟨c, h⟩ := ite_stuck h
          obtain ⟨a, ws, rfl, h1, h2, h3⟩ := list_loc so rx q
          obtain ⟨b, us, rfl, k1, k2, k3⟩ := list_loc so ry q2
          exact ⟨a, b, ws, us, rfl, rfl, h2, k2, by rw [← h3.length, ← k3.length]; exact lim_line c, set_fin so h1 h2 (h3.append k3) h⟩
        · exact False.elim h
      | _ => exact False.elim h
    | _ => exact False.elim h
  | [], _ => exact False.elim h
  | _ :: _ :: _, _ => exact False.elim h
theorem bm_red {T : String} {r : V → List V → Hp → VK → Prop} {mi : MI} {m : Ev PV} {mr : Ev (List PV)} (hT : T = "list") (hr : MRuns G r (mthOp mi)) : ∀ σ H Q, tE G (eMthL mi m mr) W σ H Q → tBM G.K T r (tE G m W) (tEs G mr W) σ H Q := by
  subst hT
  rintro σ H Q ⟨ρ, η, st, so, re, h⟩
  refine ⟨ρ, η, st, so, re, Out.bind h fun x st1 ρ1 H1 _ s1 o1 h1 => fun v rv => ?_⟩
  obtain ⟨c, h1⟩ := ite_stuck h1
  exact ⟨isList_ok o1 rv c, ρ1, η, st1, o1, re.step s1, Out.bind h1 fun ps st2 ρ2 H2 _ s2 o2 h2 => fun vs rvs => hr ρ2 H2 st2 x ps v vs Q _ o2 (rv.step s2) rvs h2⟩
def MI.nm : MI → Str
  | .append => "append" | .insert => "insert" | .extend => "extend" | .bits => "bit_length"
theorem me_mth {o e : Expr} {es : List Expr} {mi : MI} {m : Ev PV} {mr : Ev (List PV)} {name : Str} {apos cpos : Pos} (hK : X.K = G.K) (hm : name = mi.nm) (hne : mi ≠ .bits) (ho : PE X o (tE G m W)) (ha : PA X (e :: es) (tEs G mr W))
    (hbase : attributeBase o name X.env (eval o X.env) = eval o X.env)
    (hfew : ((backTo cpos (starEach (e :: es) X.env)).all (fun x => !x.1) && (backToKw cpos (keywordEach [] X.env)).all (fun x => x.1.isSome) && decide ((e :: es).length + ([] : List Keyword).length + (if ([] : List Keyword).isEmpty then 0 else 1) < 30)) = true)
    (hline : (apos.endLine == cpos.line) = true) (hs : starEach (e :: es) X.env = (false, eval e X.env) :: starEach es X.env) (hplain : (backTo cpos (starEach es X.env)).any (·.1) = false) :
    PE X (.Call (.Attribute o name apos) (e :: es) [] cpos) (tE G (eMthL mi m mr) W) := by
  subst hm
  cases mi with
  | append => exact pe_weak (pe_bm PySem.F.plainAttrs_list PySem.F.slot_list_append PySem.F.type_list_append (fun pins s σ H x xs v us Q => mt_append pins s σ H x xs v us Q) ho ha hbase hfew hline hs hplain) (by rw [hK]; exact bm_red rfl runs_append)
  | insert => exact pe_weak (pe_bm PySem.F.plainAttrs_list PySem.F.slot_list_insert PySem.F.type_list_insert mt_insert ho ha hbase hfew hline hs hplain) (by rw [hK]; exact bm_red rfl runs_insert)
  | extend => exact pe_weak (pe_bm PySem.F.plainAttrs_list PySem.F.slot_list_extend PySem.F.type_list_extend (fun pins s σ H x xs v us Q => mt_extend pins s σ H x xs v us Q) ho ha hbase hfew hline hs hplain) (by rw [hK]; exact bm_red rfl runs_extend)
  | bits => exact absurd rfl hne
theorem me_bits {o : Expr} {m : Ev PV} {apos : Pos} (ho : PE X o (tE G m W)) (hbase : attributeBase o "bit_length" X.env (eval o X.env) = eval o X.env) (hline : (apos.endLine == pos.line) = true) :
    PE X (.Call (.Attribute o "bit_length" apos) [] [] pos) (tE G (eMth .bits m eNil) W) := by
  refine pe_weak (pe_bits ho hbase hline) ?_
  rintro σ H Q ⟨ρ, η, st, so, re, h⟩
  refine ⟨ρ, η, st, so, re, Out.bind h fun x st1 ρ1 H1 _ s1 o1 h1 => fun v rv => ?_⟩
  cases rv with
  | int i => exact ⟨i, rfl, fin_ok o1 h1 (.int _)⟩
  | _ => exact False.elim h1
end
end Cv
namespace Cv
open L2 PySem PySem.Spec PyProof.Rows

/-! ### try: .. except X as n: .. except Y as m: .. -/
abbrev Suite := Addr → Value → Option Addr → TS
def wNm (K : PySem.W.Frag) (Wout : WX) (D : Ends) : List (Value × Nat × Suite) → WX
  | [] => Wout
  | (c, i, ts) :: r => fun cls d σ H => ∃ b, PySem.W.exmOne K cls c = some b ∧
      (b = true → ∀ a, H a = none → ts a cls d { nx := fun σ' H' => D.nx (σ'.set i none) H', rt := D.rt, bk := fun σ' H' => D.bk (σ'.set i none) H', ct := fun σ' H' => D.ct (σ'.set i none) H' } (σ.set i (some (.ref a))) H) ∧
      (b = false → wNm K Wout D r cls d σ H)
inductive NmOk (X : Cx) : List ExceptHandler → List (Value × Nat × Suite) → Prop
  | nil : NmOk X [] []
  | cons {x n : Str} {c : Value} {i : Nat} {ts : Suite} {b₀ : Stmt} {suite : List Stmt} {np pos' : Pos} {hds : List ExceptHandler} {l : List (Value × Nat × Suite)} (hc : Names X x c) (hi : X.N[i]? = some n) (hln : X.env.kindOf n = some .local)
      (hsu : ∀ (a : Addr) (oe : Obj) (cls : Value) (d : Option Addr) (pn : List (Addr × Obj)), Zc cls d oe → (∃ vs, oe.data = .fields vs) → PSs (X.suite a ((a, oe) :: pn)) (b₀ :: suite) (ts a cls d)) (r : NmOk X hds l) :
      NmOk X (.ExceptHandler (some (.Name x np)) (some n) (b₀ :: suite) pos' :: hds) ((c, i, ts) :: l)
section
variable {X : Cx} {body : List Stmt} {hd1 : ExceptHandler} {hds : List ExceptHandler} {l : List (Value × Nat × Suite)} {pos : Pos} {tb : WX → TS} {Wout : WX}
theorem ps_try_nm (hs : X.stack = X.env :: X.outer) (hf : X.env.frame = some X.env.locals) (hN : X.N.Nodup) (tk : Takes X Wout)
    (hb : ∀ (W : WX) (pn : List (Addr × Obj)) (xe :
          Value → Shared → Prop), Takes (X.tr pn xe) W → PassesOwn (model X.prog X.w) X.A X.env xe → PSs (X.tr pn xe) body (tb W))
    (hh : NmOk X (hd1 :: hds) l) : PS X (.Try body (hd1 :: hds) [] [] pos) (fun D σ H => tb (wNm X.K Wout D l) D σ H) := by
  refine ⟨fun pins s σ H D I0 pre => ?_⟩
  have good := I0.ok
  have frm : X.A.frames = some (X.env :: X.outer) := by rw [good.frames, hs]
  let xe1 : Value → Shared → Prop := fun e s₁ => wpAny (model X.prog X.w) X.A (noteFrame e X.env) (fun _ s₂ => wpAny (model X.prog X.w) X.A (setFlight e none) (fun _ s₃ =>
    wpAny (model X.prog X.w) X.A (handleBy e X.env (hd1 :: hds)) (SP X pins D) X.xe s₃) X.xe s₂) X.xe s₁
  refine wpAny_Try_except (wpAny_mono ((hb (wNm X.K Wout D l) (X.pn ++ pins) xe1 ?air PassesOwn.looking).run [] s σ H D (I0.toTry _) pre) ?nice (fun e s1 z => z))
  case nice =>
    intro fl s1 z
    match fl, z with
    | .next, ⟨σ', H', J, q⟩ => exact wpAny_execs_nil ⟨σ', H', J.ofTry good, q⟩
    | .brk, ⟨σ', H', J, q⟩ => exact ⟨σ', H', J.ofTry good, q⟩
    | .cont, ⟨σ', H', J, q⟩ => exact ⟨σ', H', J.ofTry good, q⟩
    | .ret u, ⟨v, σ', H', J, r, q⟩ => exact ⟨v, σ', H', J.ofTry good, r, q⟩
  case air =>
    rintro u sx ⟨a, Gr, sI, pins', σx, Hx, cls, d, rfl, Jx, nb, up, sky, na, osx, bare, wish⟩
    have J : Inv X pins σx Hx sI := Jx.ofTry good
    have skyS : Sky Gr (X.env :: X.outer) a (Zc cls d) X.env.locals sx.heap := by rw [← hs]; exact sky
    show wpAny (model X.prog X.w) X.A
          (noteFrame (.ref a) X.env) _ _ _
    refine Sky.land Zc.steady frm hf skyS fun hp3 fly3 up3 => ?_
    have J3 : Inv X pins σx Hx { sx with heap := hp3 } := J.landed nb fly3.1 (up.trans up3) osx bare
    obtain ⟨ob3, vv3, at3, zc3, dat3⟩ := fly3.there
    have off : ∀ b ∈ (X.env :: X.outer).filterMap (·.frame), b ≠ a := fun b hb z => by
      obtain ⟨_, o', e', nf⟩ := fly3.2.2.1.mem hb
      rw [z, at3] at e'; cases e'
      exact nf _ dat3
    have noL : a ≠ X.env.locals := fun z => off _ (List.mem_filterMap.mpr ⟨X.env, List.mem_cons_self, hf⟩) z.symm
    have noF : a ∉ X.fs := fun hm => by
      obtain ⟨e, he, q⟩ :=
            List.mem_filterMap.mp hm
      exact off a (List.mem_filterMap.mpr ⟨e, List.mem_cons_of_mem _ he, q⟩) rfl
    have S3 := J3.suite at3 dat3 na noL noF
    have clauses : ∀ {hs' : List ExceptHandler} {l' : List (Value × Nat × Suite)}, NmOk X hs' l' → wNm X.K Wout D l' cls d σx Hx → wpAny (model X.prog X.w) X.A (handleBy (.ref a) X.env hs') (SP X pins D) X.xe { sx with heap := hp3 } := by
      intro hs' l' ok'
      induction ok' with
      | nil =>
        intro wo
        refine wpAny_handleBy_nil ?_
        obtain ⟨_, _, _, ob, vs, T, obT, tvs, e1, e2, e3, e4, _⟩ := id fly3
        unfold PySem.passOn
        refine wpAny_bind (wpAny_field e1 e3 e4 ?_)
        rw
              [if_neg (show ¬ ((Value.ref T == Value.none) = true) from by simp)]
        have away : wpAny (model X.prog X.w) X.A (setFlight (.ref a) X.env.frame) (fun _ s4 => wpAny (model X.prog X.w) X.A (throw (.ref a) : Sem Flow) (SP X pins D) X.xe s4) X.xe { sx with heap := hp3 } := by
          rw [hf]
          refine HandSPX.setFlight_upZ fly3 fun hp4 held4 up4 => wpAny_throw (tk _ _ ⟨a, Gr, sI, pins, σx, Hx, cls, d, rfl, J, nb, (up.trans up3).trans up4, .inr (.inr ?_), na, osx, bare, wo⟩)
          rw [hs]; exact held4
        first
          | exact wpAny_bind (wpAny_pure (wpAny_bind away))
          | exact wpAny_bind away
      | @cons x n c i ts b₀ suite np pos' hs2 l2 hc hi hln hsu r ih =>
        rintro ⟨b, isIt, yes, no⟩
        refine wpAny_handleBy_cons
              (codeAny_handlers_test ?_) (by intro q; cases q)
        have ofCls : PySem.W.Looks (model X.prog X.w) hp3 (typeOf (.ref a)) cls := fun A Q E s k q => wpAny_typeOf_ref (k _ _ at3) (by rw [zc3.1]; exact q)
        have mat := PySem.W.exm_one (M := model X.prog X.w) (J3.kIn) ofCls isIt
        have named : ∀ {Q : Value → Shared → Prop} {E : Value → Shared → Prop}, Q c { sx with heap := hp3 } → wpAny (model X.prog X.w) (X.A.mark (some (.ref a))) (eval (.Name x np) X.env) Q E { sx with heap := hp3 } := by
          intro Q E q
          obtain ⟨g1, g2, g3 | ⟨g3, g4, g5⟩⟩ := hc
          · exact ld_glob (X := X.suite a ((a, ob3) :: (X.pn ++ pins))) S3 g1 g3 q g2
          · exact ld_blt (X := X.suite a ((a, ob3) :: (X.pn ++ pins))) S3 g1 g3 g4 q g5 g2
        refine named (mat.here ?_)
        cases b with
        | false => exact ih (no rfl)
        | true =>
          refine codeAny_handlers_suite_as (HandSPX.lands_againZ fly3 fun hp4 fly4 up4 => ?_)
          have J4 : Inv X pins σx Hx { sx with heap := hp4 } := J.landed nb fly4.1 ((up.trans up3).trans up4) osx bare
          obtain ⟨ob4, vv4, at4, zc4, dat4⟩ := fly4.there
          have S4 := J4.suite at4 dat4 na noL noF
          refine store_ok (X := X.suite a ((a, ob4) :: (X.pn ++ pins))) (v := .ref a) S4 hN hi (.inl hln) rfl (fun s5 S5 => ?_) (.inr hln)
          refine wpAny_mono ((hsu a ob4 cls d (X.pn ++ pins) zc4 ⟨_, dat4⟩).run [] s5 _ Hx _ S5 (yes rfl a na)) ?_ (fun _ _ z => False.elim z)
          intro fl s6 z
          have gone : ∀ {σ6 : L2.St} {H6 : Hp} {Q : Shared → Prop}, Inv (X.suite a ((a, ob4) :: (X.pn ++ pins))) [] σ6 H6 s6 → (∀ s7, Inv X pins (σ6.set i none) H6 s7 → Q s7) →
              wpAny (model X.prog X.w) X.A (do bindName X.env n .none; unbindBehindTheSuite X.env n pos') (fun _ s7 => Q s7) X.xe s6 := fun S6 hq => gone_ok (S6.unsuite good) hN hi hln hq
          match fl, z with
          | .next, ⟨σ6, H6, S6, q6⟩ => exact gone S6 fun s7 J7 => ⟨_, _, J7, q6⟩
          | .brk, ⟨σ6, H6, S6, q6⟩ => exact gone S6 fun s7 J7 => ⟨_, _, J7, q6⟩
          | .cont, ⟨σ6, H6, S6, q6⟩ => exact gone S6 fun s7 J7 => ⟨_, _, J7, q6⟩
          | .ret u, ⟨v6, σ6, H6, S6, r6, q6⟩ => exact gone S6 fun s7 J7 => ⟨_, _, _, J7, r6, q6⟩
    exact clauses hh wish
end
end Cv
namespace Cv
open L2 PySem PySem.Spec PyProof.Rows

/-! ### except suites: return (text, error.field, ..) -/
inductive XI where | con (z : Str) | fld (f : Str)
def xiVals (fs : List (Str × PV)) : List XI → Option (List PV)
  | [] => some []
  | .con z :: r => (xiVals fs r).map (.str z :: ·)
  | .fld f :: r => match fs.lookup f, xiVals fs r with
    | some p, some ps => some (p :: ps)
    | _, _ => none
def suiteOut (fs : List (Str × PV)) (xs : List XI) (η : Env') (st : Sto) : SR := match xiVals fs xs with
  | some ps => if ps.length ≤ LIM then .ok (.rt (.tup ps)) η st else .stuck
  | none => .stuck
def pick (ex : Str → Str → Option Bool) (c : Str) (fs : List (Str × PV)) (η : Env') (st : Sto) : List (Str × Nat × List XI) → SR
  | [] => .exn c fs η st
  | (c', i, xs) :: r => match ex c c' with
    | some false => pick ex c fs η st r
    | some true => if c = c' ∧ i < η.length then suiteOut fs xs η st else .stuck
    | none => .stuck
def sTry (ex : Str → Str → Option Bool) (m : Sv) (hds : List (Str × Nat × List XI)) : Sv := fun η st => match m η st with
  | .exn c fs η st => pick ex c fs η st hds
  | r => r
def tXi (a : Addr) (cls : Value) (d : Option Addr) (C : Addr) (i : Nat) : List XI → TA
  | [] => tNil
  | .con z :: r => tCons (tC (.str z)) (tXi a cls d C i r)
  | .fld f :: r => tCons (tXf a cls d C f (tVar i)) (tXi a cls d C i r)
def xSuite (C : Addr) (i : Nat) (xs : List XI) : Suite := fun a cls d => tRet (tTup (tXi a cls d C i xs))
section
variable {X : Cx} {G : Gc} {W : WX} {pos : Pos}
/-- the items' text: the error stands at the name n -/
inductive XiTxt (X : Cx) (C : Addr) (n : Str) : List XI → List Expr → Prop
  | nil : XiTxt X C n [] []
  | con {z : Str} {j : Nat} {p : Pos} {xs : List XI} {es : List Expr} : XiTxt X C n xs es → XiTxt X C n (.con z :: xs) (.Constant (.str z) j p :: es)
  | fld {f : Str} {p q : Pos} {xs : List XI} {es : List Expr} : PySem.W.findIn X.K (.ref C) f = some none → attributeBase (.Name n p) f X.env (eval (.Name n p) X.env) = eval (.Name n p) X.env → XiTxt X C n xs es → XiTxt X C n (.fld f :: xs) (.Attribute (.Name n p) f q :: es)
theorem RFs.look {ρ : List Addr} {H : Hp} {fs : List (Str × PV)} {gs : List (Str × V)} {f : Str} {p : PV} (r : RFs G ρ H fs gs) (e : fs.lookup f = some p) : ∃ v, gs.lookup f = some v ∧ RV G ρ H p v := by
  induction r with
  | nil => cases e
  | @cons a b l1 l2 h t ih =>
    obtain ⟨x, y⟩ := a
    obtain ⟨x', y'⟩ := b
    have hx : x = x' := h.1
    subst hx
    by_cases q : f = x
    · subst q
      simp only [List.lookup, beq_self_eq_true] at e ⊢
      cases e
      exact ⟨_, rfl, h.2⟩
    · have q' : (f == x) = false := by simpa using q
      simp only [List.lookup, q'] at e ⊢
      exact ih e
theorem xi_ok {ρ : List Addr} {H : Hp} {fs : List (Str × PV)} {gs : List (Str × V)} {a C d : Addr} {i : Nat} {σ : L2.St} (r : RFs G ρ H fs gs) (hd : H d = some (.xd gs)) (hs : σ[i]? = some (some (.ref a))) : ∀ {xs : List XI} {ps : List PV} (Q : List V → Hp → Prop), xiVals fs xs = some ps →
    (∀ vs, RVs G ρ H ps vs → Q vs H) → tXi a (.ref C) (some d) C i xs σ H Q
  | [], _, Q, e, q => by cases e; exact q [] .nil
  | .con z :: r', _, Q, e, q => by
    obtain ⟨ps, e1, rfl⟩ := Option.map_eq_some_iff.mp (show (xiVals fs r').map (PV.str z :: ·) = _ from e)
    exact xi_ok r hd hs (fun vs H' => Q (.str z :: vs) H') e1 fun vs rv => q _ (.cons (.str z) rv)
  | .fld f :: r', _, Q, e, q => by
    have e : (match fs.lookup f, xiVals fs r' with | some p, some ps => some (p :: ps) | _, _ => none) = _ := e
    split at e
    · rename_i p ps e1 e2
      cases e
      obtain ⟨v, h1, h2⟩ := r.look e1
      exact ⟨_, hs, rfl, rfl, d, gs, v, rfl, hd, h1, xi_ok r hd hs (fun vs H' => Q (v :: vs) H') e2 fun vs rv => q _ (.cons h2 rv)⟩
    · cases e
/-- the clauses, as the layer has them -/
inductive ClOk (G : Gc) : List (Str × Nat × List XI) → List (Value × Nat × Suite) → Prop
  | nil : ClOk G [] []
  | cons {c : Str} {C : Addr} {i : Nat} {xs : List XI} {r : List (Str × Nat × List XI)} {l : List (Value × Nat × Suite)} : G.mg c = some (.ref C) → ClOk G r l → ClOk G ((c, i, xs) :: r) ((.ref C, i, xSuite C i xs) :: l)
/-- what ex tells of classes holds -/
def ExOk (G : Gc) (ex : Str → Str → Option Bool) : Prop := ∀ c c' b C C', ex c c' = some b → G.mg c = some (.ref C) → G.mg c' = some (.ref C') → PySem.W.exmOne G.K (.ref C) (.ref C') = some b
theorem suite_ok {fs : List (Str × PV)} {xs : List XI} {η : Env'} {st : Sto} {D : Ends} {ρ : List Addr} {H : Hp} {σ : L2.St} {C d a : Addr} {gs : List (Str × V)} {i : Nat} (so : StOk G ρ H st) (re : REn G ρ H η σ) (hd : H d = some (.xd gs)) (r : RFs G ρ H fs gs) (hi : i < η.length)
    (h : OutB G (suiteOut fs xs η st) ρ H D W) : xSuite C i xs a (.ref C) (some d) { nx := fun σ' H' => D.nx (σ'.set i none) H', rt := D.rt, bk := fun σ' H' => D.bk (σ'.set i none) H', ct := fun σ' H' => D.ct (σ'.set i none) H' } (σ.set i (some (.ref a))) H := by
  unfold suiteOut at h
  cases q2 : xiVals fs xs with
  | none => rw [q2] at h; exact False.elim h
  | some ps =>
    rw [q2] at h
    by_cases c2 : ps.length ≤ LIM
    · have h : OutB G (if ps.length ≤ LIM then .ok (.rt (.tup ps)) η st else .stuck) ρ H D W := h
      rw [if_pos c2] at h
      refine xi_ok r hd (i := i) (a := a) (by rw [List.getElem?_set_self (by rw [← re.len]; exact hi)]) _ q2 fun vs rv => ⟨by rw [← rv.length]; exact lim_line c2, fun p hp => ?_⟩
      exact h ρ _ σ (step_new hp) (so.new_other hp) (re.step (step_new hp)) _ (.tup (.inl upd_same) (rv.step (step_new hp)))
    · have h : OutB G (if ps.length ≤ LIM then .ok (.rt (.tup ps)) η st else .stuck) ρ H D W := h
      rw [if_neg c2] at h; exact False.elim h
theorem pick_ok {ex : Str → Str → Option Bool} (hex : ExOk G ex) {c : Str} {fs : List (Str × PV)} {η : Env'} {st : Sto} {D : Ends} {ρ : List Addr} {H : Hp} {σ : L2.St} {C d : Addr} {gs : List (Str × V)} (so : StOk G ρ H st) (re : REn G ρ H η σ)
    (hC : G.mg c = some (.ref C)) (hd : H d = some (.xd gs)) (r : RFs G ρ H fs gs) : ∀ {hds : List (Str × Nat × List XI)} {l : List (Value × Nat × Suite)}, ClOk G hds l → OutB G (pick ex c fs η st hds) ρ H D W → wNm G.K W D l (.ref C) (some d) σ H
  | [], _, .nil, h => h ρ H σ .refl so re C d gs hC hd r
  | (c', i, xs) :: hr, _, .cons (C := C') hC' k, h => by
    replace h : OutB G (match ex c c' with
      | some false => pick ex c fs η st hr
      | some true => if c = c' ∧ i < η.length then suiteOut fs xs η st else .stuck
      | none => .stuck) ρ H D W := h
    cases q : ex c c' with
    | none => rw [q] at h; exact False.elim h
    | some b =>
      rw [q] at h
      refine ⟨b, hex c c' b C C' q hC hC', fun hb a ha => ?_, fun hb => ?_⟩
      · subst hb
        replace h : OutB G (if c = c' ∧ i < η.length then suiteOut fs xs η st else .stuck) ρ H D W := h
        by_cases e : c = c' ∧ i < η.length
        · rw [if_pos e] at h
          obtain ⟨rfl, hi⟩ := e
          rw [hC] at hC'; cases hC'
          exact suite_ok so re hd r hi h
        · rw [if_neg e] at h; exact False.elim h
      · subst hb
        exact pick_ok hex so re hC hd r k h
theorem ms_try {ex : Str → Str → Option Bool} {m : Sv} {body : List Stmt} {hd1 : ExceptHandler} {hds : List ExceptHandler} {cs : List (Str × Nat × List XI)} {l : List (Value × Nat × Suite)} (hK : X.K = G.K) (hex : ExOk G ex) (hs : X.stack = X.env :: X.outer) (hf : X.env.frame = some X.env.locals) (hN : X.N.Nodup) (tk : Takes X W)
    (hb : ∀ (W : WX) (pn : List (Addr × Obj)) (xe : Value → Shared → Prop), Takes (X.tr pn xe) W → PassesOwn (model X.prog X.w) X.A X.env xe → PSs (X.tr pn xe) body (tB G m W))
    (hh : NmOk X (hd1 :: hds) l) (hc : ClOk G cs l) : PS X (.Try body (hd1 :: hds) [] [] pos) (tB G (sTry ex m cs) W) := by
  refine ps_weak (ps_try_nm hs hf hN tk hb hh) ?_
  rintro D σ H ⟨ρ, η, st, so, re, h⟩
  refine ⟨ρ, η, st, so, re, ?_⟩
  unfold sTry at h
  cases e : m η st with
  | ok f η' st' => rw [e] at h; exact h
  | stuck => rw [e] at h; exact h
  | exn c fs η' st' =>
    rw [e] at h
    intro ρ' H' σ' s' o' re' C d gs e1 e2 e3
    rw [hK]
    exact pick_ok hex o' re' e1 e2 e3 hc (OutB.later h s')
/-- the suite's text -/
theorem mx_items {a C : Addr} {oe : Obj} {cls : Value} {d : Option Addr} {pn : List (Addr × Obj)} {i : Nat} {n : Str} (T : XfC X.K C) (hz : Zc cls d oe) (hf : ∃ vs, oe.data = .fields vs) (hi : X.N[i]? = some n) (hv : Vis X.env.scope n)
    (hd : (n == ("__debug__" : Str)) = false) (hcd : (n == ("__classdict__" : Str)) = false) : ∀ {xs : List XI} {es : List Expr}, XiTxt X C n xs es → PA (X.suite a ((a, oe) :: pn)) es (tXi a cls d C i xs)
  | _, _, .nil => pa_nil
  | _, _, .con r => pa_cons pe_str (mx_items T hz hf hi hv hd hcd r) rfl
  | _, _, .fld hno hb r => pa_cons (pe_xf T hno hz hf (pe_var hi hv hd hcd) hb) (mx_items T hz hf hi hv hd hcd r) rfl
theorem mx_suite {a C : Addr} {oe : Obj} {cls : Value} {d : Option Addr} {pn : List (Addr × Obj)} {i k : Nat} {n : Str} {p1 p2 : Pos} {xs : List XI} {es : List Expr} (T : XfC X.K C) (hz : Zc cls d oe) (hf : ∃ vs, oe.data = .fields vs) (hi : X.N[i]? = some n) (hv : Vis X.env.scope n)
    (hd : (n == ("__debug__" : Str)) = false) (hcd : (n == ("__classdict__" : Str)) = false) (t : XiTxt X C n xs es) : PSs (X.suite a ((a, oe) :: pn)) [.Return (some (.Tuple es k p1)) p2] (xSuite C i xs a cls d) :=
  pss_one (ps_ret (pe_tup (mx_items T hz hf hi hv hd hcd t)))
end
end Cv
namespace Cv
open L2 PySem PySem.Spec PyProof.Rows

/-! ### {k: v, ..} -/
def ePairs : List (Ev PV × Ev PV) → Ev (List (PV × PV))
  | [] => fun _ st => .ok [] st
  | (k, v) :: r => fun η st => (k η st).bind fun x st => (v η st).bind fun y st => (ePairs r η st).bind fun ps st => .ok ((x, y) :: ps) st
def keysP : List (PV × PV) → Option (List (Key × PV))
  | [] => some []
  | (x, y) :: r => match keyOf x, keysP r with
    | some k, some ks => some ((k, y) :: ks)
    | _, _ => none
def mergeP (ks more : List (Key × PV)) : List (Key × PV) := more.foldl (fun acc kv => putP acc kv.1 kv.2) ks
def dspEnd (n : Nat) (ps : List (PV × PV)) (st : Sto) : Res PV := match st[n]?, keysP ps with
  | some (.dct []), some ks => if ks.length ≤ 15 then .ok (.loc n) (st.set n (.dct (mergeP [] ks))) else .stuck
  | _, _ => .stuck
def eDsp (l : List (Ev PV × Ev PV)) : Ev PV := fun η st => (ePairs l η (st ++ [.dct []])).bind fun ps st' => dspEnd st.length ps st'
def eDnew : Ev PV := fun _ st => .ok (.loc st.length) (st ++ [.dct []])
abbrev RPs (G : Gc) (ρ : List Addr) (H : Hp) : List (PV × PV) → List (V × V) → Prop := Paired fun p q => RV G ρ H p.1 q.1 ∧ RV G ρ H p.2 q.2
section
variable {X : Cx} {G : Gc} {W : WX} {pos : Pos} {ρ ρ' : List Addr} {H H' : Hp} {st : Sto} {η : Env'} {σ : L2.St}
abbrev trsOf (G : Gc) (W : WX) (l : List (Ev PV × Ev PV)) : List (TE × TE) := l.map fun p => (tE G p.1 W, tE G p.2 W)
theorem pairs_of : ∀ {l : List (Ev PV × Ev PV)} {ρ : List Addr} {H : Hp} {st : Sto} {Q : List (V × V) → Hp → Prop}, StOk G ρ H st → REn G ρ H η σ →
    Out G (ePairs l η st) ρ H (fun ps ρ' H' => ∀ vs, RPs G ρ' H' ps vs → Q vs H') (XW G W σ) → tPairs (trsOf G W l) σ H Q
  | [], ρ, H, st, Q, so, re, h => h ρ H .refl so [] .nil
  | (k, v) :: r, ρ, H, st, Q, so, re, h =>
    ⟨ρ, η, st, so, re, Out.bind h fun x st1 ρ1 H1 _ s1 o1 h1 => fun a ra => ⟨ρ1, η, st1, o1, re.step s1, Out.bind h1 fun y st2 ρ2 H2 _ s2 o2 h2 => fun b rb =>
      pairs_of o2 ((re.step s1).step s2) (Out.bind h2 fun ps st3 ρ3 H3 _ s3 o3 h3 => fun vs rvs => h3 ρ3 H3 .refl o3 ((a, b) :: vs) (.cons ⟨(ra.step s2).step s3, rb.step s3⟩ rvs))⟩⟩
theorem keys_ok : ∀ {ps : List (PV × PV)} {vs : List (V × V)} {ks : List (Key × PV)}, RPs G ρ H ps vs → keysP ps = some ks → ∃ kvs : List (Key × V), vs = kvs.map (fun kv => (kV kv.1, kv.2)) ∧ RKs G ρ H ks kvs
  | [], _, _, .nil, e => by cases e; exact ⟨[], rfl, .nil⟩
  | (x, y) :: r, _, _, .cons (b := b) h t, e => by
    replace e : (match keyOf x, keysP r with | some k, some ks => some ((k, y) :: ks) | _, _ => none) = _ := e
    split at e
    · rename_i k ks e1 e2
      cases e
      obtain ⟨kvs, h1, h2⟩ := keys_ok t e2
      obtain ⟨b1, b2⟩ := b
      have hb : b1 = kV k := key_ok h.1 e1
      subst hb h1
      exact ⟨(k, b2) :: kvs, rfl, .cons ⟨rfl, h.2⟩ h2⟩
    · cases e
theorem merge_rel : ∀ {more : List (Key × PV)} {mv : List (Key × V)} {ks : List (Key × PV)} {vs : List (Key × V)}, RKs G ρ H more mv → RKs G ρ H ks vs → RKs G ρ H (mergeP ks more) (mergeK vs mv)
  | _, _, _, _, .nil, r => r
  | a :: l, b :: l', ks, vs, .cons h t, r => by
    have q := putP_rel (k := a.1) r h.2
    have e : putK vs a.1 b.2 = putK vs b.1 b.2 := by rw [h.1]
    rw [e] at q
    show RKs G ρ H (mergeP (putP ks a.1 a.2) l) (mergeK (putK vs b.1 b.2) l')
    exact merge_rel t q
theorem me_dnew : PE X (.Dict [] [] pos) (tE G eDnew W) := by
  refine pe_weak pe_dnewK ?_
  rintro σ H Q ⟨ρ, η, st, so, re, h⟩ p hp
  refine h _ _ (step_push hp) (so.push hp ⟨[], upd_same, .nil⟩) _ (.loc ?_)
  rw [← so.len]; simp
theorem me_dsp {keys : List (Option Expr)} {values : List Expr} {l : List (Ev PV × Ev PV)} (h : PPs X pos keys values (trsOf G W l)) (hall : keys.all (·.isSome) = true) (hl : keys.length = values.length) (h0 : keys ≠ []) (h15 : keys.length ≤ 15) :
    PE X (.Dict keys values pos) (tE G (eDsp l) W) := by
  refine pe_weak (pe_disp h hall hl h0 h15) ?_
  rintro σ H Q ⟨ρ, η, st, so, re, h⟩ p hp
  have s0 := step_push (ρ := ρ) (o := .dK []) hp
  have o0 : StOk G (ρ ++ [p]) (upd H p (.dK [])) (st ++ [.dct []]) := so.push hp ⟨[], upd_same, .nil⟩
  have at0 : (ρ ++ [p])[st.length]? = some p := by rw [← so.len]; simp
  refine pairs_of o0 (re.step s0) (Out.bind (Out.later h s0) fun ps st1 ρ1 H1 _ s1 o1 h1 => fun vs rvs => ?_)
  have at1 := s1.at_ at0
  unfold dspEnd at h1
  split at h1
  · rename_i ks q1 q2
    by_cases c : ks.length ≤ 15
    · rw [if_pos c] at h1
      obtain ⟨ws, k1, r1⟩ := o1.at_ _ _ p q1 at1
      cases r1
      obtain ⟨kvs, rfl, r2⟩ := keys_ok rvs q2
      refine ⟨k1, kvs, rfl, by rw [← Paired.length r2]; exact c, ?_⟩
      have s5 : Step ρ1 H1 ρ1 (upd H1 p (.dK (mergeK [] kvs))) := step_write k1 trivial (mem_of_at at1)
      exact h1 ρ1 _ s5 (o1.set (x := .dct (mergeP [] ks)) at1 k1 trivial ⟨_, upd_same, (merge_rel r2 .nil).step s5⟩) _ (.loc at1)
    · rw [if_neg c] at h1; exact False.elim h1
  · exact False.elim h1

/-! ### and, or: the last one -/
theorem me_and1 {a : Expr} {ma : Ev PV} (ha : PE X a (tE G ma W)) : PE X (.BoolOp .And [a] pos) (tE G ma W) := by
  refine ⟨fun pins s σ H Q I q =>
        ?_⟩
  have e : eval (.BoolOp .And [a] pos) X.env = eval a X.env := by
    rw [eval]
    rfl
  rw [e]
  exact ha.run pins s σ H Q I q
theorem me_or1 {a : Expr} {ma : Ev PV} (ha : PE X a (tE G ma W)) : PE X (.BoolOp .Or [a] pos) (tE G ma W) := by
  refine ⟨fun pins s σ H Q I q =>
        ?_⟩
  have e : eval (.BoolOp .Or [a] pos) X.env = eval a X.env := by
    rw [eval]
    rfl
  rw [e]
  exact ha.run pins s σ H Q I q
end
end Cv
namespace Cv
open L2 PySem PySem.Spec PyProof.Rows

/-! ### an interpreter over the very text -/
abbrev Fun' := List PV → Sto → Res PV
abbrev Cap := List (Str × PV)
inductive GK where
  | fn (lv : Nat) (f : Cap → Fun') | blt (b : BI) | ty (n : String) | rng | zip | enum | val (p : PV) | exc (fs : List Str)
structure Ctx where
  N : List Str
  sc : Scope
  top : Bool
  k : Nat
  glo : Str → Option GK
  exm : Str → Str → Option Bool
  cap : Env' → Cap
  mkr : Option Str
def noSt {α : Type} : Ev α := fun _ _ => .stuck
def ixN (c : Ctx) (x : Str) : Option Nat := match c.N.findIdx? (fun y => decide (y = x)) with
  | some i => if c.N[i]? = some x then some i else none
  | none => none
def isStar : Expr → Bool
  | .Starred .. => true
  | _ => false
def noStar (es : List Expr) : Bool := es.all fun e => !isStar e
def noSet : Expr → Bool
  | .Set .. => false
  | _ => true
def noComp : Expr → Bool
  | .ListComp .. => false
  | .SetComp .. => false
  | .DictComp .. => false
  | _ => true
def noSuper : Expr → Bool
  | .Call (.Name id _) [] [] _ => id != ("super" : Str)
  | _ => true
def isTup : Expr → Bool
  | .Tuple .. => true
  | _ => false
def gl (c : Ctx) (x : Str) : Bool := decide (c.sc.names.lookup x = some .globalImplicit)
def vis (c : Ctx) (x : Str) : Bool := decide (c.sc.names.lookup x = some .local) || (decide (c.sc.names.lookup x = some .cell) || decide (c.sc.names.lookup x = some .free))
def okName (x : Str) : Bool := !(x == ("__debug__" : Str)) && !(x == ("__classdict__" : Str))
def evName (c : Ctx) (x : Str) : Ev PV := if okName x = true then
    (if vis c x = true then (match ixN c x with
      | some i => eVar i
      | none => noSt)
    else if gl c x = true then (match c.glo x with
      | some (.val p) => eCon p
      | some (.ty n) => eCon (.ty n)
      | some (.blt b) => (match b.val with
        | .type n => eCon (.ty n)
        | _ => noSt)
      | some (.fn _ _) => eCon (.gl x)
      | some (.exc _) => eCon (.gl x)
      | _ => noSt)
    else noSt)
  else noSt
abbrev EvE := Ctx → Expr → Ev PV
def evs (r : EvE) (c : Ctx) : List Expr → Ev (List PV)
  | [] => eNil
  | a :: es => if isStar a = true then noSt else eCons (r c a) (evs r c es)
def evAnd (r : EvE) (c : Ctx) : List Expr → Ev PV
  | [] => noSt
  | [a] => r c a
  | a :: b :: es => eAnd (r c a) (evAnd r c (b :: es))
def evOr (r : EvE) (c : Ctx) : List Expr → Ev PV
  | [] => noSt
  | [a] => r c a
  | a :: b :: es => eOr (r c a) (evOr r c (b :: es))
def bopOf : Operator → Option Bop
  | .Add => some .add | .Sub => some .sub | .Mult => some .mul | .FloorDiv => some .fdiv | .Mod => some .mod | .Pow => some .pow
  | _ => none
def copOf : CmpOp → Cop
  | .Eq => .eq | .NotEq => .ne | .Lt => .lt | .LtE => .le | .Gt => .gt | .GtE => .ge | .Is => .is | .IsNot => .isnot | .In => .in_ | .NotIn => .notin
def evPart (r : EvE) (c : Ctx) : Option Expr → Env' → Sto → Res (Option Int)
  | none => eNoPart
  | some e => ePart (r c e)
def evPs (r : EvE) (c : Ctx) : List (Option Expr) → List Expr → Option (List (Ev PV × Ev PV))
  | [], [] => some []
  | some k :: ks, v :: vs => (evPs r c ks vs).map ((r c k, r c v) :: ·)
  | _, _ => none
def noArgs : Arguments → Bool
  | ⟨[], [], none, [], [], none, []⟩ => true
  | _ => false
/-- no name of its own: captured ones and globals -/
def lamB (sc : Scope) : Bool := decide (sc.kind = .function) && (!sc.isCoroutine && (!sc.isGenerator && (decide ((sc.names.map (·.1)).Nodup) && (sc.names.all fun y => !decide (y.2 = .local) && !decide (y.2 = .cell)))))
def miOf (m : Str) : Option MI := if m = ("append" : Str) then some .append else if m = ("insert" : Str) then some .insert else if m = ("extend" : Str) then some .extend else none
def evCallF (m : Ev (List PV)) (cap : Env' → Cap) (g : Cap → Fun') : Ev PV := fun η st => (m η st).bind fun ps st => g (cap η) ps st
/-- the names that a lambda captures -/
def freeOf (sc : Scope) : List Str := (sc.names.filter fun y => decide (y.2 = .free)).map (·.1)
def lamC (c : Ctx) (sc : Scope) : Ctx := { c with N := freeOf sc, sc := sc, top := false, k := c.k - 1, cap := fun _ => [], mkr := none }
/-- what the captured names hold -/
def capsOf (cap : Cap) : List Str → Option (List PV)
  | [] => some []
  | x :: r => match cap.lookup x, capsOf cap r with
    | some p, some ps => some (p :: ps)
    | _, _ => none
def runClo (r : EvE) (c : Ctx) (cap : Cap) (p : PV) (st : Sto) : Res PV := match p with
  | .loc n => (match st[n]? with
    | some (.clo _ pr e sc) => if noArgs pr = true ∧ lamB sc = true ∧ 1 ≤ c.k then (match capsOf cap (freeOf sc) with
        | some ps => r { lamC c sc with cap := fun _ => cap } e (ps.map some) st
        | none => .stuck)
      else .stuck
    | _ => .stuck)
  | _ => .stuck
/-- x(), x a name that holds a lambda's function -/
def evCallV (r : EvE) (c : Ctx) (x : Str) : Ev PV := if c.mkr = none then (fun η st => (evName c x η st).bind fun p st => runClo r c (c.cap η) p st) else noSt
def evCall (r : EvE) (c : Ctx) (f : Str) (es : List Expr) : Ev PV := if okName f = true ∧ gl c f = true ∧ noStar es = true then (match c.glo f, es with
    | some (.blt b), _ :: _ => eRow (evs r c es) (bltOp b)
    | some (.fn lv g), _ => if lv ≤ c.k then evCallF (evs r c es) c.cap g else noSt
    | _, _ => noSt)
  else noSt
/-- x(..), x a name that holds a def -/
def runDef (r : EvE) (c : Ctx) (es : List Expr) (p : PV) : Ev PV := match p with
  | .gl y => (match c.glo y with
    | some (.fn lv g) => if lv ≤ c.k then evCallF (evs r c es) c.cap g else noSt
    | _ => noSt)
  | _ => noSt
def evCallL (r : EvE) (c : Ctx) (x : Str) (es : List Expr) : Ev PV := if noStar es = true then (fun η st => (evName c x η st).bind fun p st => runDef r c es p η st) else noSt
def evMeth (r : EvE) (c : Ctx) (o : Expr) (m : Str) (ap pos : Pos) (es : List Expr) : Ev PV :=
  if noSuper o = true ∧ (ap.endLine == pos.line) = true ∧ noStar es = true ∧ es.length < 30 then (match es with
    | [] => if m = ("bit_length" : Str) then eMth .bits (r c o) eNil else noSt
    | _ :: _ => match miOf m with
      | some mi => eMthL mi (r c o) (evs r c es)
      | none => noSt)
  else noSt
/-! targets -/
def inLoc (c : Ctx) (x : Str) : Bool := decide (c.sc.names.lookup x = some .local) || (c.top && decide (c.sc.names.lookup x = some .cell))
def tgN (c : Ctx) (x : Str) : Option CT := if inLoc c x = true then (match ixN c x with
    | some i => some (.nm i)
    | none => none)
  else none
def tg (c : Ctx) : Nat → Expr → Option CT
  | 0, _ => none
  | n + 1, e => match e with
    | .Name x _ => tgN c x
    | .Tuple es _ _ => if noStar es = true then (omap (tg c n) es).map .tup else none
    | _ => none
def TGF : Nat := 6
/-! iterables -/
def evI (r : EvE) (c : Ctx) (t : Expr) : Expr → Ev Src
  | .Call (.Name f _) es [] _ => if okName f = true ∧ gl c f = true ∧ noStar es = true then (match c.glo f, es with
      | some .rng, [_] => iRange1 (evs r c es)
      | some .rng, [_, _] => iRange2 (evs r c es)
      | some .zip, [_, _] => if isTup t = true then iZip2 (evs r c es) else noSt
      | some .enum, [_] => if isTup t = true then iEnum1 (evs r c es) else noSt
      | some (.fn _ _), _ => iSeq (evCall r c f es)
      | some (.blt _), _ => iSeq (evCall r c f es)
      | _, _ => noSt)
    else noSt
  | e => if noSet e = true then iSeq (r c e) else noSt
def ownOf (N : List Str) (scope : Scope) : List (Str × Nat) := scope.names.filterMap fun y => match y.2 with
  | .local => (N.findIdx? (fun z => decide (z = y.1))).map fun i => (y.1, i)
  | .cell => (N.findIdx? (fun z => decide (z = y.1))).map fun i => (y.1, i)
  | _ => none
def inner (c : Ctx) (scope : Scope) : Ctx := { c with sc := relS scope c.sc, top := false, mkr := none, cap := if c.mkr.isSome = true then fun _ => [] else c.cap }
def subN (l m : List Nat) : Bool := l.all fun j => m.contains j
def evIfs (r : EvE) (c : Ctx) : List Expr → Ev Bool
  | [] => fun _ st => .ok true st
  | [e] => eT (r c e)
  | _ => noSt
def evLc (r : EvE) (c : Ctx) (elt : Expr) (tr it : Expr) (ifs : List Expr) (scope : Scope) : Ev PV := match tg (inner c scope) TGF tr with
  | some t => if blkC c.N c.sc scope (ownOf c.N scope) = true ∧ subN t.slots ((ownOf c.N scope).map (·.2)) = true then
      eLc (r (inner c scope) elt) t (evIfs r (inner c scope) ifs) (evI r c tr it) ((ownOf c.N scope).map (·.2)) else noSt
  | none => noSt
def evStep (r : EvE) (c : Ctx) : Expr → Ev PV
  | .Name x _ => evName c x
  | .Constant .none _ _ => eCon .non
  | .Constant (.bool b) _ _ => eCon (.bl b)
  | .Constant (.int i) _ _ => eCon (.int i)
  | .Constant (.str s) _ _ => eCon (.str s)
  | .BoolOp .And es _ => evAnd r c es
  | .BoolOp .Or es _ => evOr r c es
  | .BinOp a op b _ => (match bopOf op with
    | some o => two (r c a) (r c b) (binOp o)
    | none => noSt)
  | .UnaryOp .USub a _ => one (r c a) negOp
  | .UnaryOp .Not a _ => one (r c a) notOp
  | .IfExp t a b _ => eIte (r c t) (r c a) (r c b)
  | .Compare a [op] [b] _ => if behindInMarks op b = false then two (r c a) (r c b) (cmpOp (copOf op)) else noSt
  | .Compare a [op, op2] [b, d] _ => if lastMarks [op, op2] [b, d] = false then eChain (copOf op) (copOf op2) (r c a) (r c b) (r c d) else noSt
  | .Call (.Name f _) es [] _ => if vis c f = true then (if es.isEmpty = true then evCallV r c f else evCallL r c f es) else evCall r c f es
  | .Lambda pr e sc _ => (match c.mkr with
    | some q => if noArgs pr = true ∧ lamB sc = true ∧ (sc.names.all fun y => !decide (y.2 = .free) || (decide (c.sc.names.lookup y.1 = some .cell) || decide (c.sc.names.lookup y.1 = some .free))) = true then (fun _ st => .ok (.loc st.length) (st ++ [.clo q pr e sc])) else noSt
    | none => noSt)
  | .Call (.Attribute o m ap) es [] pos => evMeth r c o m ap pos es
  | .Subscript a (.Slice l h none _) _ => eSlc (r c a) (evPart r c l) (evPart r c h)
  | .Subscript a b _ => if noSlice b = true then two (r c a) (r c b) idxOp else noSt
  | .Tuple es _ _ => eRow (evs r c es) mkTup
  | .List es _ => eRow (evs r c es) mkLst
  | .Dict [] [] _ => eDnew
  | .Dict ks vs _ => (match evPs r c ks vs with
    | some l => if ks.all (·.isSome) = true ∧ ks.length = vs.length ∧ ks.length ≤ 15 ∧ ks.isEmpty = false then eDsp l else noSt
    | none => noSt)
  | .ListComp elt [⟨tr, it, ifs, 0⟩] scope _ => evLc r c elt tr it ifs scope
  | _ => noSt
def evE : Nat → EvE
  | 0 => fun _ _ => noSt
  | n + 1 => evStep (evE n)
end Cv
namespace Cv
open L2 PySem PySem.Spec PyProof.Rows

/-! ### raise C(..) of an own class whose __init__ stores its parameters -/
theorem paired_append {α β : Type} {F : α → β → Prop} : ∀ {a : List α} {b : List β} {c : List α} {d : List β}, Paired F a b → Paired F c d → Paired F (a ++ c) (b ++ d)
  | _, _, _, _, .nil, k => k
  | _, _, _, _, .cons h t, k => .cons h (paired_append t k)
theorem paired_rev {α β : Type} {F : α → β → Prop} : ∀ {a : List α} {b : List β}, Paired F a b → Paired F a.reverse b.reverse
  | _, _, .nil => .nil
  | _, _, .cons h t => by
    rw [List.reverse_cons,
          List.reverse_cons]
    exact paired_append (paired_rev t) (.cons h .nil)
theorem zip_rel {G : Gc} {ρ : List Addr} {H : Hp} : ∀ {fs : List Str} {ps : List PV} {vs : List V}, RVs G ρ H ps vs → RFs G ρ H (fs.zip ps) (fs.zip vs)
  | [], _, _, _ => by
    show Paired _ [] []
    exact .nil
  | f :: fs, _, _, .nil => by
    show Paired _ [] []
    exact .nil
  | f :: fs, _, _, .cons h r => .cons ⟨rfl, h⟩ (zip_rel r)
/-- what __init__ promises -/
def spInit (C : Addr) (fs : List Str) : Sp := fun vs H Q _ => ∃ (a : Addr) (ws : List V), vs = .ref a :: ws ∧ ws.length = fs.length ∧ H a = some (exo a C none) ∧
  ∀ dx H', H dx = none → dx ≠ a → H' a = some (exo a C (some dx)) → H' dx = some (exd dx ((fs.zip ws).reverse)) → (∀ b, b ≠ a → b ≠ dx → H' b = H b) → Q .non H'
structure ExcOk (P : Program) (w : World) (K : PySem.W.Frag) (mg : Str → Option Value) (base : Heap) (x : Str) (fs : List Str) (C : Addr) : Prop where
  hm : mg x = some (.ref C)
  T : OexC K C
  F : XfC K C
  few : fs.length ≤ 900
  init : ∃ (fI : Addr) (fd : FuncData), PySem.W.findIn K (.ref C) "__init__" = some (some (.ref fI)) ∧ PySem.W.typeIn K (.ref fI) = some (.type "function") ∧ FnOk P w K mg base C8.CX0 1 fI fd ("self" :: fs) (spInit C fs) ∧ Binds K fd ("self" :: fs) []
  no : ∀ f ∈ fs, PySem.W.findIn K (.ref C) f = some none
def sRaise (x : Str) (fs : List Str) (m : Ev (List PV)) : Sv := fun η st => SR.of (m η st) η fun ps st => if ps.length = fs.length then .exn x (fs.zip ps).reverse η st else .stuck
section
variable {X : Cx} {G : Gc} {W : WX} {pos : Pos}
theorem ms_raise {x : Str} {fs : List Str} {C : Addr} {e : Expr} {es : List Expr} {m : Ev (List PV)} {p p2 : Pos} (hK : X.K = G.K) (hM : X.mg = G.mg) (E : ExcOk X.prog X.w G.K G.mg X.base x fs C) (hc : X.calm = true) (hr : Room 2 X.A) (tk : Takes X W) (hg : Gl X x) (hdb : (x == ("__debug__" : Str)) = false)
    (ha : PA X (e :: es) (tEs G m W)) (he : starEach (e :: es) X.env = (false, eval e X.env) :: starEach es X.env) (hpl : (backTo p2 (starEach es X.env)).any (·.1) = false) :
    PS X (.Raise (some (.Call (.Name x p) (e :: es) [] p2)) none pos) (tB G (sRaise x fs m) W) := by
  obtain ⟨hm, T, F, few, ⟨fI, fd, iC, tI, F1, hb⟩, no⟩ := E
  rw [← hK] at T iC tI F1 hb no
  rw [← hM] at hm F1
  refine ps_weak (ps_raise hc tk (pmk_oex T iC tI F1 hr hb .nil C8.pass0 hg hm ha hdb he hpl)) ?_
  rintro D σ H ⟨ρ, η, st, so, re, h⟩
  refine ⟨ρ, η, st, so, re, OutB.of re h fun ps st1 ρ1 H1 _ s1 o1 h1 => fun vs rvs => ?_⟩
  by_cases c : ps.length = fs.length
  · rw [if_pos c] at h1
    have lv : vs.length = fs.length := by rw [← rvs.length]; exact c
    refine ⟨by omega, fun a ha => ⟨a, vs, by rw [List.append_nil], lv, upd_same, fun dx H' hd hda h2 h3 h4 => ?_⟩⟩
    have hd1 : H1 dx = none := by rw [upd_ne hda] at hd; exact hd
    refine ⟨rfl, dx, _, h2, h3, hd1, ?_⟩
    have eH : upd (del H' a) dx (.xd ((fs.zip vs).reverse)) = upd H1 dx (.xd ((fs.zip vs).reverse)) := by
      funext b
      by_cases hb : b = dx
      · rw [hb, upd_same, upd_same]
      · rw [upd_ne hb, upd_ne hb]
        by_cases hb2 : b = a
        · rw [hb2, del_same, ha]
        · rw [del_ne hb2, h4 b hb2 hb, upd_ne hb2]
    rw [eH]
    have s2 : Step ρ1 H1 ρ1 (upd H1 dx (.xd ((fs.zip vs).reverse))) := step_new hd1
    exact h1 ρ1 _ σ s2 (o1.new_other hd1) ((re.step s1).step s2) C dx _ (by rw [← hM]; exact hm) upd_same (RFs.step s2 (paired_rev (zip_rel rvs)))
  · rw [if_neg c] at h1; exact False.elim h1
end

/-! ### such an __init__ -/
/-- self.f = f, one behind another: from the slot i on -/
def tSets (K : PySem.W.Frag) : List Str → Nat → TS
  | [], _ => tNext
  | f :: r, i => tSeq (tOst K f (tVar 0) (tVar i)) (tSets K r (i + 1))
def isSet (f : Str) : Stmt → Bool
  | .Assign [.Attribute (.Name s _) g _] (.Name h _) _ => decide (s = "self") && decide (g = f) && decide (h = f)
  | _ => false
def setsB : List Str → List Stmt → Bool
  | [], [] => true
  | f :: r, s :: b => isSet f s && setsB r b
  | _, _ => false
def initB (cb : Str) (fs : List Str) : List Stmt → Bool
  | .Expr (.Call (.Attribute (.Name x _) y py) [.Name s _, .Constant (.str _) _ _] [] pc) _ :: r => (py.endLine == pc.line) && decide (x = cb) && decide (y = "__init__") && decide (s = "self") && setsB fs r
  | _ => false
/-- CB.__init__(self, ..), CB an own class over ValueError without an __init__ of its own -/
structure CbOk (K : PySem.W.Frag) (mg : Str → Option Value) (cb : Str) : Prop where
  ex : ∃ (CB : Addr) (mc : Value), mg cb = some (.ref CB) ∧ PySem.W.specialIn K (.ref CB) "__getattribute__" = some (some (.builtin "type.__getattribute__")) ∧ PySem.W.readsIn K CB mc = true ∧
    PySem.W.findCls K (.ref CB) mc "__init__" = some (.val (.builtin "ValueError.__init__"))
  nd : (cb == ("__debug__" : Str)) = false
section
variable {X : Cx} {o e : Expr} {es : List Expr} {to te :
      TE} {ta : TA} {f : Str} {p p' p1 p2 pos : Pos}
theorem pe_cbinit {cb : Str} {pl : Sem Bool} (B : CbOk X.K X.mg cb) (hg : Gl X cb) (ha : PA X (e :: es) ta)
    (he : starEach (e :: es) X.env = (false, eval e X.env) :: starEach es X.env) (hpl : (backTo pos (starEach es X.env)).any (·.1) = false)
    (hc : eval (.Call (.Attribute (.Name cb p1) "__init__" p2) (e :: es) [] pos) X.env = (do
      let ov ← eval (.Name cb p1) X.env
      standAt p2.atName
      let (f,
            first) ← holding [ov] (getMethod ov "__init__" pl)
      callWith pos f first (backTo pos (starEach (e :: es) X.env)) (backToKw pos (keywordEach [] X.env))) :=
            by rfl) :
    PE X (.Call (.Attribute (.Name cb p1) "__init__" p2) (e :: es) [] pos) (tVeI X.K ta) := by
  obtain ⟨CB, mc, hm, sp, rd, fc⟩ := B.ex
  refine ⟨fun pins s σ H Q I h =>
        ?_⟩
  refine PySem.W.methodCall_KW (ld_glob I hg hm ?_ B.nd) hc
  refine PySem.W.method_cls I.kIn sp (PySem.W.cls_value I.kIn rd fc (by decide +kernel) ?_)
  show wpAny _ _ (callWith pos (Value.builtin "ValueError.__init__")
        [] (backTo pos (starEach (e :: es) X.env)) []) _ _ _
  refine PyProof.Rows.callWith_method1 (thn (ha.run pos pins _ σ H _ (I.tok _) h) fun us s1 ⟨vs, H1, I1, rv, q1⟩ => ?_) he hpl
  obtain ⟨a, C, ws, ev, hl, T, ea, q⟩ := q1
  subst ev
  cases rv with
  | @cons _ u0 _ ur ra rs =>
    have eu : u0 = Value.ref a := ra
    subst eu
    exact oinit_ok T I1 ea (by rw [← Paired.length rs, sizeLine_eq]; omega) fun s' J => ⟨.non, H1, J, rfl, q⟩
theorem pss_sets {fs : List Str} {K : PySem.W.Frag} (hK : X.K = K) (h0 : X.N[0]? = some ("self" : Str)) (hv0 : Vis X.env.scope "self") : ∀ {l : List Str} {b : List Stmt} {i : Nat}, setsB l b = true → (∀ j f, l[j]? = some f → X.N[i + j]? = some f ∧ Vis X.env.scope f ∧ okName f = true) → PSs X b (tSets K l i)
  | [], [], _, _, _ => pss_nil
  | [], _ :: _, _, e, _ => by cases e
  | _ :: _, [], _, e, _ => by cases e
  | f :: r, s :: b, i, e, hN => by
    obtain ⟨e1, e2⟩ := Bool.and_eq_true_iff.mp (show (isSet f s && setsB r b) = true from e)
    refine pss_cons ?_ (pss_sets (fs := fs) hK h0 hv0 e2 fun j g q => ?_)
    · unfold isSet at e1
      split at e1
      · rename_i s' ps g pa h ph p
        rw [Bool.and_eq_true, Bool.and_eq_true, decide_eq_true_eq, decide_eq_true_eq, decide_eq_true_eq] at e1
        obtain ⟨⟨rfl, rfl⟩, rfl⟩ := e1
        obtain ⟨n1, n2, n3⟩ := hN 0 _ rfl
        unfold okName at n3
        rw [Bool.and_eq_true, Bool.not_eq_true', Bool.not_eq_true'] at n3
        rw [← hK]
        exact ps_ost (pe_var h0 hv0) (pe_var n1 n2 n3.1 n3.2)
      · cases e1
    · have := hN (j + 1) g (by simpa using q)
      rw [show i + (j + 1) = i + 1 + j from by omega] at this
      exact this
theorem sets_more {K : PySem.W.Frag} {C a dx : Addr} {σ : L2.St} {D : Ends} (T : OexC K C) (h0 : σ[0]? = some (some (.ref a))) (hda : dx ≠ a) : ∀ {l : List Str} {ws : List V} {i : Nat} {acc : List (Str × V)} {H : Hp}, (∀ f ∈ l, PySem.W.findIn K (.ref C) f = some none) → ws.length = l.length → (∀ j v, ws[j]? = some v → σ[i + j]? = some (some v)) →
    acc.length + l.length ≤ 900 → H a = some (exo a C (some dx)) → H dx = some (exd dx acc) → (∀ H', H' a = some (exo a C (some dx)) → H' dx = some (exd dx ((l.zip ws).reverse ++ acc)) → (∀ b, b ≠ a → b ≠ dx → H' b = H b) → D.nx σ H') → tSets K l i D σ H
  | [], _, _, acc, H, _, _, _, _, ea, ed, h => h H ea (by simpa using ed) fun _ _ _ => rfl
  | f :: r, [], _, _, _, _, hl, _, _, _, _, _ => by cases hl
  | f :: r, v :: ws, i, acc, H, hno, hl, hs, hz, ea, ed, h => by
    refine ⟨v, hs 0 v rfl, .ref a, h0, a, C, rfl, T, hno f (List.mem_cons_self ..), .inr ⟨dx, acc, ea, ed, by omega, ?_⟩⟩
    refine sets_more T h0 hda (l := r) (ws := ws) (acc := (f, v) :: acc) (fun g hg => hno g (List.mem_cons_of_mem _ hg)) (by simpa using hl) (fun j u q => ?_) (by simp only [List.length_cons] at hz ⊢; omega) (by rw [upd_ne (Ne.symm hda)]; exact ea) upd_same fun H' h1 h2 h3 => ?_
    · have := hs (j + 1) u (by simpa using q)
      rw [show i + (j + 1) = i + 1 + j from by omega] at this
      exact this
    · refine h H' h1 (by rw [h2]; simp) fun b n1 n2 => (h3 b n1 n2).trans (upd_ne n2)
theorem sets_ok {K : PySem.W.Frag} {C a : Addr} {σ : L2.St} {D : Ends} {H : Hp} (T : OexC K C) (h0 : σ[0]? = some (some (.ref a))) : ∀ {l : List Str} {ws : List V} {i : Nat}, l ≠ [] → (∀ f ∈ l, PySem.W.findIn K (.ref C) f = some none) → ws.length = l.length → (∀ j v, ws[j]? = some v → σ[i + j]? = some (some v)) →
    l.length ≤ 900 → H a = some (exo a C none) → (∀ dx H', H dx = none → dx ≠ a → H' a = some (exo a C (some dx)) → H' dx = some (exd dx ((l.zip ws).reverse)) → (∀ b, b ≠ a → b ≠ dx → H' b = H b) → D.nx σ H') → tSets K l i D σ H
  | [], _, _, n, _, _, _, _, _, _ => absurd rfl n
  | f :: r, [], _, _, _, hl, _, _, _, _ => by cases hl
  | f :: r, v :: ws, i, _, hno, hl, hs, hz, ea, h => by
    refine ⟨v, hs 0 v rfl, .ref a, h0, a, C, rfl, T, hno f (List.mem_cons_self ..), .inl ⟨ea, fun dx hd hda => ?_⟩⟩
    refine sets_more T h0 hda (l := r) (ws := ws) (acc := [(f, v)]) (fun g hg => hno g (List.mem_cons_of_mem _ hg)) (by simpa using hl) (fun j u q => ?_) (by simp only [List.length_cons, List.length_nil] at hz ⊢; omega) upd_same (by rw [upd_ne hda, upd_same]) fun H' h1 h2 h3 => ?_
    · have := hs (j + 1) u (by simpa using q)
      rw [show i + (j + 1) = i + 1 + j from by omega] at this
      exact this
    · refine h dx H' hd hda h1 (by rw [h2]; simp) fun b n1 n2 => (h3 b n1 n2).trans (by rw [upd_ne n1, upd_ne n2])
end
def initScB (cb : Str) (fs : List Str) (sc : Scope) : Bool := decide (sc.kind = .function) && (!sc.isCoroutine && (!sc.isGenerator && (decide (("self" :: fs : List Str).Nodup) && ((("self" :: fs : List Str).all fun x => decide (sc.names.lookup x = some .local) && okName x) && ((sc.names.all fun y => !decide (y.2 = .free)) &&
  decide (sc.names.lookup cb = some .globalImplicit))))))
theorem init_ok {P : Program} {w : World} {K : PySem.W.Frag} {mg : Str → Option Value} {base : Heap} {x qual cb : Str} {params : Arguments} {body : List Stmt} {scope : Scope} {fI : Addr} {fd : FuncData} {C : Addr} {fs : List Str} (F : FunD K x qual params body scope [] [] fI fd) (T : OexC K C) (B : CbOk K mg cb)
    (hno : ∀ f ∈ fs, PySem.W.findIn K (.ref C) f = some none) (h1 : initB cb fs body = true) (h2 : initScB cb fs scope = true) (h3 : fs ≠ []) (h4 : fs.length ≤ 900) : FnOk P w K mg base C8.CX0 1 fI fd ("self" :: fs) (spInit C fs) := by
  unfold initScB at h2
  simp only [Bool.and_eq_true, decide_eq_true_eq, Bool.not_eq_true', List.all_eq_true, decide_eq_false_iff_not] at h2
  obtain ⟨k1, k2, k3, k4, k5, k6, k7⟩ := h2
  have S : FnScope ("self" :: fs) ("self" :: fs) scope := ⟨k1, k2, k3, k4, by simp, fun y hy => .inl (k5 y hy).1, k6⟩
  refine F.ok S (fun vs H Q E h => ?_) fun cdv A outer s H vs Q E hr h => ?_
  · obtain ⟨a, ws, rfl, hl, _⟩ := h
    simp [hl]
  · obtain ⟨a, ws, rfl, hl, ea, hq⟩ := h
    unfold initB at h1
    split at h1
    · rename_i x' px y py s' ps z jz pz pc pe r
      simp only [Bool.and_eq_true,
            decide_eq_true_eq] at h1
      obtain ⟨⟨⟨⟨hln, rfl⟩, rfl⟩, rfl⟩, hs⟩ := h1
      have v0 : Vis scope "self" := .inl (k5 "self" (List.mem_cons_self ..)).1
      have st0 : (L2.start ("self" :: fs) (V.ref a :: ws))[0]? = some (some (.ref a)) := rfl
      have look : ∀ j v, ws[j]? = some v → (L2.start ("self" :: fs) (V.ref a :: ws))[1 + j]? = some (some v) := fun j v e => by
        unfold L2.start
        rw [List.getElem?_append_left (by have := (List.getElem?_eq_some_iff.mp e).1; simp; omega)]
        rw [show 1 + j = j + 1 from by omega]
        simp [e]
      refine ⟨tSeq (tDrop (tVeI K (tCons (tVar 0) (tCons (tC (.str z)) tNil)))) (tSets K fs 1), pss_cons (ps_expr (pe_cbinit (X := cxOf C8.CX0 P w K mg base ("self" :: fs) qual scope fI cdv A outer s H E) B k7 (pa_cons (pe_var (i := 0) rfl v0) (pa_cons pe_str pa_nil)) rfl rfl (mcall_of rfl fun ov => by
        unfold methodCall methodCallPos
        rw [show (!methodCallForm ([Expr.Name ("self" : Str) ps, Expr.Constant (Const.str z) jz pz].length + ([] : List Keyword).length) (backTo pc (starEach [Expr.Name ("self" : Str) ps, Expr.Constant (Const.str z) jz pz] (cxOf C8.CX0 P w K mg base ("self" :: fs) qual scope fI cdv A outer s H E).env)) (backToKw pc (keywordEach [] (cxOf C8.CX0 P w K mg base ("self" :: fs) qual scope fI cdv A outer s H E).env)) || py.endLine == pc.line) = true from by simpa using Or.inr hln]
        rfl))) (pss_sets (fs := fs) rfl rfl v0 hs fun j f e => ?_), ?_⟩
      · have m : f ∈ ("self" :: fs : List Str) := List.mem_cons_of_mem _ (List.mem_of_getElem? e)
        refine ⟨?_, .inl (k5 f m).1, (k5 f m).2⟩
        show (("self" : Str) :: fs)[1 + j]? = some f
        rw [show 1 + j = j + 1 from by omega]
        simpa using e
      · refine ⟨_, st0, a, C, [.str z], rfl, by show 1 ≤ 1000; decide, T, ea, ?_⟩
        exact sets_ok T st0 h3 hno hl look h4 ea fun dx H' d1 d2 d3 d4 d5 => hq dx H' d1 d2 d3 d4 d5
    · cases h1
end Cv
namespace Cv
open L2 PySem PySem.Spec PyProof.Rows

/-! ### the interpreter tells what the text does: expressions -/
/-- an exception, as a caller wants it -/
def XV (G : Gc) (E : XK) : Str → List (Str × PV) → List Addr → Hp → Prop := fun c fs ρ H =>
  ∀ (C d : Addr) (gs : List (Str × V)), G.mg c = some (.ref C) → H d = some (.xd gs) → RFs G ρ H fs gs → E (.ref C) (some d) H
def spF (G : Gc) (f : Fun') : Sp := fun vs H Q E => ∃ ρ st ps, StOk G ρ H st ∧ RVs G ρ H ps vs ∧ Out G (f ps st) ρ H (VP G Q) (XV G E)
def capOf (G : Gc) : Cap := G.cap.map fun z => (z.1, z.2.1)
/-- what the captured cells hold in the base -/
structure CapOk (G : Gc) (base : Heap) : Prop where
  inj : G.cap ≠ [] → ∀ x y c, G.cells.lookup x = some c → G.cells.lookup y = some c → x = y
  at_ : ∀ z ∈ G.cap, ∃ c u, G.cells.lookup z.1 = some c ∧ base.IsCell c (some u) ∧ RelV z.2.2 u
def GkOk (P : Program) (w : World) (G : Gc) (base : Heap) (x : Str) : GK → Prop
  | .fn lv f => ∃ a, G.mg x = some (.ref a) ∧ PySem.W.keepIn G.K (.ref a) = true ∧ ∀ (G' : Gc) (base' : Heap), G'.K = G.K → G'.mg = G.mg → CapOk G' base' → FnG P w G.K G.mg base' lv a (spF G' (f (capOf G')))
  | .blt b => (G.mg x = none ∧ bootBuiltins x = some b.val ∧ x ≠ "__name__") ∨ G.mg x = some b.val
  | .ty n => G.mg x = none ∧ bootBuiltins x = some (.type n) ∧ x ≠ "__name__"
  | .rng => x = "range" ∧ G.mg "range" = none
  | .zip => x = "zip" ∧ G.mg "zip" = none
  | .enum => x = "enumerate" ∧ G.mg "enumerate" = none
  | .val p => ∃ u v, G.mg x = some u ∧ RelV v u ∧ ∀ ρ H, RV G ρ H p v
  | .exc fs => ∃ C, ExcOk P w G.K G.mg base x fs C
/-- behind a switch to G', base' all is as before -/
def SwOk (G : Gc) (c : Ctx) (X : Cx) : Prop := ∀ (pins : List (Addr × Obj)) (σ : L2.St) (H : Hp) (s : Shared) (ρ : List Addr) (η : Env') (st : Sto), L2.Inv X pins σ H s → StOk G ρ H st → REn G ρ H η σ →
  ∃ (G' : Gc) (base' : Heap), G'.K = G.K ∧ G'.mg = G.mg ∧ G'.cl = G.cl ∧ CapOk G' base' ∧ capOf G' = c.cap η ∧ Env0 X.prog X.w G.K G.mg base' X.A X.stack s H ∧ StOk G' ρ H st ∧
    ∀ ρ' H' st', StOk G' ρ' H' st' → StOk G ρ' H' st'
/-- the def that makes lambdas -/
structure MkOk (G : Gc) (c : Ctx) (X : Cx) (q : Str) : Prop where
  sw : SwOk G c X
  cap0 : G.cap = []
  cells : X.env.cells = G.cells
  qual : X.env.qual ++ "<lambda>" = q
  tab : ∃ cc P, LamX.TabB X.base X.mg cc P ∧ X.env.code = .ref cc ∧ G.tabs = [(P, q)]
structure Snd (G : Gc) (c : Ctx) (X : Cx) (W : WX) : Prop where
  hK : X.K = G.K
  hM : X.mg = G.mg
  hN : X.N = c.N
  nd : c.N.Nodup
  sc : X.env.scope = c.sc
  calm : X.calm = true
  gd : X.A.guards = some []
  room : Room c.k X.A
  tk : Takes X W
  fn : c.top = true → ∀ x, X.fn x = true
  glo : ∀ x g, c.glo x = some g → GkOk X.prog X.w G X.base x g
  pl : c.mkr = none → CapOk G X.base ∧ ∀ η, c.cap η = capOf G
  mkk : ∀ q, c.mkr = some q → MkOk G c X q
/-! two G's with the same K, mg, cl -/
mutual
theorem RV.cg {G G' : Gc} {ρ : List Addr} {H : Hp} (hK : G'.K = G.K) (hM : G'.mg = G.mg) (hc : G'.cl = G.cl) : ∀ {p : PV} {v : V}, RV G ρ H p v → RV G' ρ H p v
  | _, _, .non => .non
  | _, _, .bl b => .bl b
  | _, _, .int b => .int b
  | _, _, .str b => .str b
  | _, _, .ty b => .ty b
  | _, _, .tup h r => .tup (by rw [hK]; exact h) (RVs.cg hK hM hc r)
  | _, _, .fls h r => .fls (by rw [hK]; exact h) (RVs.cg hK hM hc r)
  | _, _, .loc h => .loc h
  | _, _, .gl h => .gl (by rw [hM]; exact h)
  | _, _, .clo h => .clo (by rw [hc]; exact h)
theorem RVs.cg {G G' : Gc} {ρ : List Addr} {H : Hp} (hK : G'.K = G.K) (hM : G'.mg = G.mg) (hc : G'.cl = G.cl) : ∀ {p : List PV} {v : List V}, RVs G ρ H p v → RVs G' ρ H p v
  | _, _, .nil => .nil
  | _, _, .cons h r => .cons (RV.cg hK hM hc h) (RVs.cg hK hM hc r)
end
theorem RFs.cg {G G' : Gc} {ρ : List Addr} {H : Hp} (hK : G'.K = G.K) (hM : G'.mg = G.mg) (hc : G'.cl = G.cl) {p : List (Str × PV)} {v : List (Str × V)} (h : RFs G ρ H p v) : RFs G' ρ H p v := Paired.mapP h fun _ _ z => ⟨z.1, z.2.cg hK hM hc⟩
theorem SOk.cg {G G' : Gc} {ρ : List Addr} {H : Hp} (hK : G'.K = G.K) (hM : G'.mg = G.mg) (hc : G'.cl = G.cl) (hcl : G'.cells = G.cells) {a : Addr} {o : SO} (h : SOk G ρ H a o) : SOk G' ρ H a o := by
  cases o with
  | lst xs => obtain ⟨vs, h1, h2⟩ := h; exact ⟨vs, h1, h2.cg hK hM hc⟩
  | dct ks => obtain ⟨vs, h1, h2⟩ := h; exact ⟨vs, h1, Paired.mapP h2 fun _ _ z => ⟨z.1, z.2.cg hK hM hc⟩⟩
  | ins c fs => obtain ⟨C, dx, gs, h0, h1, h2⟩ := h; exact ⟨C, dx, gs, by rw [hM]; exact h0, h1, h2.cg hK hM hc⟩
  | clo q pr e sc => obtain ⟨c', h1, h2, h3⟩ := h; exact ⟨c', by rw [hcl]; exact h1, h2, h3⟩
theorem sw_plain {G : Gc} {c : Ctx} {X : Cx} (hK : X.K = G.K) (hM : X.mg = G.mg) (h : CapOk G X.base) (e : ∀ η, c.cap η = capOf G) : SwOk G c X := fun pins σ H s ρ η st I so re =>
  ⟨G, X.base, rfl, rfl, rfl, h, (e η).symm, by rw [← hK, ← hM]; exact I.env0, so, fun _ _ _ o => o⟩
theorem Snd.sw {G : Gc} {c : Ctx} {X : Cx} {W : WX} (S : Snd G c X W) : SwOk G c X := by
  cases e : c.mkr with
  | none => exact sw_plain S.hK S.hM (S.pl e).1 (S.pl e).2
  | some q => exact (S.mkk q e).sw
section
variable {X : Cx} {G : Gc} {W : WX} {c : Ctx} {a b : Expr} {pos p : Pos} {x : Str} {es : List Expr}
theorem Snd.hu (S : Snd G c X W) : X.A.units + 66 < cLine := by have := S.room.un; omega
theorem pe_noSt {e : Expr} : PE X e (tE G noSt W) := ⟨fun pins s σ H Q I ⟨ρ, η, st, so, re, h⟩ => False.elim h⟩
theorem pt_noSt {e : Expr} : PT X e (tT G (eT noSt) W) := ⟨fun pins s σ H Q I ⟨ρ, η, st, so, re, h⟩ => False.elim h⟩
theorem pa_noSt {es : List Expr} : PA X es (tEs G noSt W) := ⟨fun pos pins s σ H Q I ⟨ρ, η, st, so, re, h⟩ => False.elim h⟩
theorem pi_noSt {t e : Expr} : PI X t e (tI G noSt W) := ⟨fun pins s σ H Q I ⟨ρ, η, st, so, re, h⟩ => False.elim h⟩
theorem star_cons {env : Env} (h : isStar a = false) : starEach (a :: es) env = (false, eval a env) :: starEach es env := by
  cases a <;> first | rfl | cases h
theorem noStar_cons (h : noStar (a :: es) = true) : isStar a = false ∧ noStar es = true := by
  unfold noStar at h
  rw [List.all_cons, Bool.and_eq_true,
        Bool.not_eq_true'] at h
  exact h
theorem star_plain {env : Env} : ∀ {es : List Expr}, noStar es = true → (backTo pos (starEach es env)).any (·.1) = false
  | [], _ => rfl
  | a :: es, h => by
    obtain ⟨h1, h2⟩ := noStar_cons h
    rw [star_cons h1]
    show (false || (backTo pos (starEach es env)).any (·.1)) = false
    rw [star_plain h2]; rfl
theorem star_all {env : Env} : ∀ {es : List Expr}, noStar es = true → (backTo pos (starEach es env)).all (fun x => !x.1) = true
  | [], _ => rfl
  | a :: es, h => by
    obtain ⟨h1, h2⟩ := noStar_cons h
    rw [star_cons h1]
    show (!false && (backTo pos (starEach es env)).all (fun x => !x.1)) = true
    rw [star_all h2]; rfl
theorem base_ok {o : Expr} {m : Str} {env : Env} {whole : Sem Value} (h : noSuper o = true) : attributeBase o m env whole = whole := by
  unfold noSuper at h
  split at h
  · exact abase_call h
  · rename_i hn
    cases o <;> first | rfl | skip
    rename_i f args kws ps
    cases f <;> first | rfl | skip
    cases args <;> first | rfl | skip
    cases kws <;> first | rfl | skip
    exact (hn _ _ _ rfl).elim
theorem okName_ok (h : okName x = true) : (x == ("__debug__" : Str)) = false ∧ (x == ("__classdict__" : Str)) = false := by
  unfold okName at h
  rw [Bool.and_eq_true, Bool.not_eq_true',
        Bool.not_eq_true'] at h
  exact h
theorem gl_ok (S : Snd G c X W) (h : gl c x = true) : Gl X x := by
  unfold gl at h
  have := of_decide_eq_true h
  rw [← S.sc] at this
  exact this
theorem vis_ok (S : Snd G c X W) (h : vis c x = true) : Vis X.env.scope x := by
  unfold vis at h
  simp only [Bool.or_eq_true, decide_eq_true_eq] at h
  rw [← S.sc] at h
  exact h
theorem ix_ok (S : Snd G c X W) {i : Nat} (h : ixN c x = some i) : X.N[i]? = some x := by
  rw [S.hN]
  unfold ixN at h
  split at h
  · split at h
    · cases h; assumption
    · cases h
  · cases h
theorem s_name (S : Snd G c X W) : PE X (.Name x pos) (tE G (evName c x) W) := by
  unfold evName
  by_cases h0 : okName x = true
  · rw [if_pos h0]
    obtain ⟨hd, hc⟩ := okName_ok h0
    by_cases h1 : vis c x = true
    · rw [if_pos h1]
      split
      · rename_i i e
        exact me_var (ix_ok S e) (vis_ok S h1) hd hc
      · exact pe_noSt
    · rw [if_neg h1]
      by_cases h2 : gl c x = true
      · rw [if_pos h2]
        have hg := gl_ok S h2
        cases e : c.glo x with
        | none => exact pe_noSt
        | some g =>
          have ok := S.glo x g e
          cases g with
          | val p =>
            obtain ⟨u, v, k1, k2, k3⟩ := ok
            exact me_con (pe_glob hg (by rw [S.hM]; exact k1) k2 hd) k3
          | ty n =>
            obtain ⟨k1, k2, k3⟩ := ok
            exact me_con (pe_bltn (v := .ty n) hg (by rw [S.hM]; exact k1) k2 rfl k3 hd) fun _ _ => .ty n
          | blt b =>
            show PE X _ (tE G (match b.val with | .type n => eCon (.ty n) | _ => noSt) W)
            cases eb : b.val with
            | type n =>
              rcases ok with ⟨k1, k2, k3⟩ | k1
              · rw [eb] at k2
                exact me_con (pe_bltn (v := .ty n) hg (by rw [S.hM]; exact k1) k2 rfl k3 hd) fun _ _ => .ty n
              · rw [eb] at k1
                exact me_con (pe_glob (v := .ty n) hg (by rw [S.hM]; exact k1) rfl hd) fun _ _ => .ty n
            | _ => exact pe_noSt
          | fn lv f =>
            obtain ⟨a, k1, _, _⟩ := ok
            exact me_con (pe_glob (v := .ref a) hg (by rw [S.hM]; exact k1) rfl hd) fun _ _ => .gl k1
          | exc fs =>
            obtain ⟨C, E⟩ := ok
            exact me_con (pe_glob (v := .ref C) hg (by rw [S.hM]; exact E.hm) rfl hd) fun _ _ => .gl E.hm
          | _ => exact pe_noSt
      · rw [if_neg h2]; exact pe_noSt
  · rw [if_neg h0]; exact pe_noSt
/-- all that is said of r -/
def SndE (G : Gc) (r : EvE) : Prop := ∀ (c : Ctx) (X : Cx) (W : WX) (e : Expr), Snd G c X W → PE X e (tE G (r c e) W) ∧ PT X e (tT G (eT (r c e)) W)
variable {r : EvE}
theorem s_evs (R : SndE G r) (S : Snd G c X W) : ∀ {es : List Expr}, PA X es (tEs G (evs r c es) W)
  | [] => ma_nil
  | a :: es => by
    show PA X (a :: es) (tEs G (if isStar a = true then noSt else eCons (r c a) (evs r c es)) W)
    by_cases h : isStar a = true
    · rw [if_pos h]; exact pa_noSt
    · rw [if_neg h]
      exact ma_cons (R c X W a S).1 (s_evs R S) (star_cons (by simpa using h))
theorem s_and (R : SndE G r) (S : Snd G c X W) : ∀ {es : List Expr}, PE X (.BoolOp .And es pos) (tE G (evAnd r c es) W) ∧ PW X (.BoolOp .And es pos) (tT G (eT (evAnd r c es)) W)
  | [] => ⟨pe_noSt, ⟨fun wh pins s σ H Q I ⟨ρ, η, st, so, re, h⟩ => False.elim h⟩⟩
  | [a] => ⟨me_and1 (R c X W a S).1, pw_and1 (R c X W a S).2⟩
  | a :: b :: es => ⟨me_and S.hK (R c X W a S).1 (s_and R S).1, mw_and (R c X W a S).2 (s_and R S).2⟩
theorem s_or (R : SndE G r) (S : Snd G c X W) : ∀ {es : List Expr}, PE X (.BoolOp .Or es pos) (tE G (evOr r c es) W) ∧ PW X (.BoolOp .Or es pos) (tT G (eT (evOr r c es)) W)
  | [] => ⟨pe_noSt, ⟨fun wh pins s σ H Q I ⟨ρ, η, st, so, re, h⟩ => False.elim h⟩⟩
  | [a] => ⟨me_or1 (R c X W a S).1, pw_or1 (R c X W a S).2⟩
  | a :: b :: es => ⟨me_or S.hK (R c X W a S).1 (s_or R S).1, mw_or (R c X W a S).2 (s_or R S).2⟩
theorem op_of {op : Operator} {o : Bop} (h : bopOf op = some o) : op = o.op := by
  cases op <;> first | (cases h; rfl) | cases h
theorem cop_of (op : CmpOp) : op = (copOf op).op := by cases op <;> rfl
theorem s_part (R : SndE G r) (S : Snd G c X W) {e : Option Expr} : PO X e (tO G (evPart r c e) W) := by
  cases e with
  | none => exact mo_none
  | some e => exact mo_some (R c X W e S).1
theorem s_ps (R : SndE G r) (S : Snd G c X W) : ∀ {ks : List (Option Expr)} {vs : List Expr} {l : List (Ev PV × Ev PV)}, evPs r c ks vs = some l → PPs X pos ks vs (trsOf G W l)
  | [], [], _, e => by cases e; exact pps_nil
  | [], _ :: _, _, e => by cases e
  | none :: _, _, _, e => by cases e
  | some _ :: _, [], _, e => by cases e
  | some k :: ks, v :: vs, l, e => by
    obtain ⟨l', e1, rfl⟩ := Option.map_eq_some_iff.mp (show (evPs r c ks vs).map ((r c k, r c v) :: ·) = some l from e)
    exact pps_cons (R c X W k S).1 (R c X W v S).1 (s_ps R S e1)
theorem run_G' {k : Nat} {f : Addr} {base' : Heap} {sp : Sp} {pins : List (Addr × Obj)} {σ : L2.St} {H : Hp} {s : Shared} {Q : VK} {us : List Value} {vs : List V} (F : FnG X.prog X.w X.K X.mg base' k f sp) (hr : Room k X.A) (hg : X.A.guards = some [])
    (tk : Takes X W) (I : L2.Inv X pins σ H s) (e0 : Env0 X.prog X.w X.K X.mg base' X.A X.stack s H) (r : Vals vs us) (h : sp vs H Q (WE W σ)) : wpAny (model X.prog X.w) X.A (call (.ref f) us) (EP X pins σ Q) X.xe s := by
  refine wpAny_call (codeAny_mono (F.go X.A X.stack s H us vs Q (WE W σ) hr hg e0 r h) ?_)
  intro res s' z
  match res, z with
  | .error e, z => exact passAt tk σ pins H s e s' I z
  | .ok (.ret u), z => exact I.after z
  | .ok .next, z => exact False.elim z
  | .ok .brk, z => exact False.elim z
  | .ok .cont, z => exact False.elim z
theorem out_cg {G G' : Gc} {ρ : List Addr} {H : Hp} {σ : L2.St} {Q : VK} {rs : Res PV} (hK : G'.K = G.K) (hM : G'.mg = G.mg) (hc : G'.cl = G.cl) (back : ∀ ρ' H' st', StOk G' ρ' H' st' → StOk G ρ' H' st') (h : Out G rs ρ H (VP G Q) (XW G W σ)) : Out G' rs ρ H (VP G' Q) (XV G' (WE W σ)) := by
  cases rs with
  | stuck => exact h
  | ok p st => exact fun ρ' H' s o v rv => h ρ' H' s (back _ _ _ o) v (rv.cg hK.symm hM.symm hc.symm)
  | exn x fs st => exact fun ρ' H' s o C d gs e1 e2 e3 => h ρ' H' s (back _ _ _ o) C d gs (by rw [← hM]; exact e1) e2 (RFs.cg hK.symm hM.symm hc.symm e3)
/-- f(..), f a def of the text -/
theorem me_callG {lv : Nat} {f : Cap → Fun'} (R : SndE G r) (S : Snd G c X W) (hg : Gl X x) (hd : (x == ("__debug__" : Str)) = false) (ok : GkOk X.prog X.w G X.base x (.fn lv f)) (hl : lv ≤ c.k) (hs : noStar es = true) : PE X (.Call (.Name x p) es [] pos) (tE G (evCallF (evs r c es) c.cap f) W) := by
  have ha : PA X es (tEs G (evs r c es) W) := s_evs R S
  obtain ⟨a, k1, k2, F⟩ := ok
  rw [← S.hM] at k1
  rw [← S.hK] at k2
  have fin : ∀ {pins : List (Addr × Obj)} {σ : L2.St} {H1 : Hp} {s1 : Shared} {Q : VK} {us : List Value} {vs : List V} {η : Env'} {ρ1 : List Addr} {st1 : Sto} {ps : List PV}, L2.Inv X pins σ H1 s1 → Vals vs us → StOk G ρ1 H1 st1 → REn G ρ1 H1 η σ → RVs G ρ1 H1 ps vs → Out G (f (c.cap η) ps st1) ρ1 H1 (VP G Q) (XW G W σ) →
      wpAny (model X.prog X.w) X.A (call (.ref a) us) (EP X pins σ Q) X.xe s1 := fun {pins σ H1 s1 Q us vs η ρ1 st1 ps} I rr o re rv h => by
    obtain ⟨G', base', e1, e2, e3, e4, e5, e6, e7, e8⟩ := S.sw pins σ H1 s1 ρ1 η st1 I o re
    have F' := (F G' base' e1 e2 e4).mono hl
    rw [← S.hK, ← S.hM] at F' e6
    rw [← e5] at h
    exact run_G' F' S.room S.gd S.tk I e6 rr ⟨ρ1, st1, ps, e7, rv.cg e1 e2 e3, out_cg e1 e2 e3 e8 h⟩
  cases es with
  | nil =>
    refine ⟨fun pins s σ H Q I ⟨ρ, η, st, so, re, h⟩ => ?_⟩
    refine wpAny_Call_Name_kw (ld_glob I hg k1 (PySem.W.callWith_K0 I.kIn k2 ?_) hd)
    exact fin (η := η) I .nil so re .nil h
  | cons e es =>
    refine ⟨fun pins s σ H Q I ⟨ρ, η, st, so, re, h⟩ => ?_⟩
    obtain ⟨s1, s2⟩ := noStar_cons hs
    refine wpAny_Call_Name_kw (ld_glob I hg k1 ?_ hd)
    refine PySem.W.callWith_K (h₀ := X.base) I.ok.mod.kin k2 (thn (ha.run pos pins s σ H (fun vs H1 => ∃ ρ1 st1 ps, StOk G ρ1 H1 st1 ∧ REn G ρ1 H1 η σ ∧ RVs G ρ1 H1 ps vs ∧ Out G (f (c.cap η) ps st1) ρ1 H1 (VP G Q) (XW G W σ)) I ⟨ρ, η, st, so, re, Out.bind h fun ps st1 ρ1 H1 _ s1 o1 h1 => fun vs rvs => ⟨ρ1, st1, ps, o1, re.step s1, rvs, h1⟩⟩) fun us s1 ⟨vs, H1, I1, r1, ρ1, st1, ps, o1, re1, rvs, h1⟩ => ⟨I1.kIn, ?_⟩) (star_cons s1) (star_plain s2)
    exact fin (η := η) I1 r1 o1 re1 rvs h1
theorem s_callL {e : Expr} (R : SndE G r) (S : Snd G c X W) : PE X (.Call (.Name x p) (e :: es) [] pos) (tE G (evCallL r c x (e :: es)) W) := by
  unfold evCallL
  by_cases hs : noStar (e :: es) = true
  · rw [if_pos hs]
    obtain ⟨n1, n2⟩ := noStar_cons hs
    have ha : PA X (e :: es) (tEs G (evs r c (e :: es)) W) := s_evs R S
    refine ⟨fun pins s σ H Q I ⟨ρ, η, st, so, re, h⟩ => ?_⟩
    refine wpAny_Call_Name_kw (thn ((s_name S).run pins s σ H (fun v H1 => ∃ ρ1 st1 p, StOk G ρ1 H1 st1 ∧ REn G ρ1 H1 η σ ∧ RV G ρ1 H1 p v ∧ Out G (runDef r c (e :: es) p η st1) ρ1 H1 (VP G Q) (XW G W σ)) I ⟨ρ, η, st, so, re, Out.bind h fun p st1 ρ1 H1 _ s1 o1 h1 => fun v rv => ⟨ρ1, st1, p, o1, re.step s1, rv, h1⟩⟩) fun u s0 ⟨v, H0, I0, r0, ρ0, st0, p0, o0, re0, rv0, h0⟩ => ?_)
    clear h re so
    unfold runDef at h0
    cases p0 <;> try exact False.elim h0
    case gl y =>
      dsimp only at h0
      cases e1 : c.glo y with
      | none => rw [e1] at h0; exact False.elim h0
      | some g =>
       rw [e1] at h0
       cases g <;> try exact False.elim h0
       case fn lv f =>
        dsimp only at h0
        by_cases hl : lv ≤ c.k
        · rw [if_pos hl] at h0
          obtain ⟨a, k1, k2, F⟩ := S.glo y _ e1
          cases rv0 with
          | gl k3 =>
            rw [k1] at k3
            cases k3
            obtain rfl : u = Value.ref a := r0
            rw [← S.hK] at k2
            refine PySem.W.callWith_K (h₀ := X.base) I0.ok.mod.kin k2 (thn (ha.run pos pins s0 σ H0 (fun vs H1 => ∃ ρ1 st1 ps, StOk G ρ1 H1 st1 ∧ REn G ρ1 H1 η σ ∧ RVs G ρ1 H1 ps vs ∧ Out G (f (c.cap η) ps st1) ρ1 H1 (VP G Q) (XW G W σ)) I0 ⟨ρ0, η, st0, o0, re0, Out.bind h0 fun ps st1 ρ1 H1 _ s1 o1 h1 => fun vs rvs => ⟨ρ1, st1, ps, o1, re0.step s1, rvs, h1⟩⟩) fun us s1 ⟨vs, H1, I1, r1, ρ1, st1, ps, o1, re1, rvs, h1⟩ => ⟨I1.kIn, ?_⟩) (star_cons n1) (star_plain n2)
            obtain ⟨G', base', e1, e2, e3, e4, e5, e6, e7, e8⟩ := S.sw pins σ H1 s1 ρ1 η st1 I1 o1 re1
            have F' := (F G' base' e1 e2 e4).mono hl
            rw [← S.hK, ← S.hM] at F' e6
            rw [← e5] at h1
            exact run_G' F' S.room S.gd S.tk I1 e6 r1 ⟨ρ1, st1, ps, e7, rvs.cg e1 e2 e3, out_cg e1 e2 e3 e8 h1⟩
        · rw [if_neg hl] at h0; exact False.elim h0
  · rw [if_neg hs]; exact pe_noSt
theorem pt_of {e : Expr} {m : Ev PV} (S : Snd G c X W) (h : PE X e (tE G m W)) (he : ∀ whole, isTrue e X.env whole = (do let v ← whole; standAt e.pos; holding [v] (truthy v)) := by intro _; rfl) : PE X e (tE G m W) ∧ PT X e (tT G (eT m) W) := ⟨h, mt_truth S.hK h he⟩
theorem s_call (R : SndE G r) (S : Snd G c X W) : PE X (.Call (.Name x p) es [] pos) (tE G (evCall r c x es) W) := by
  unfold evCall
  by_cases h : okName x = true ∧ gl c x = true ∧ noStar es = true
  · rw [if_pos h]
    obtain ⟨h1, h2, h3⟩ := h
    have hg := gl_ok S h2
    have hd := (okName_ok h1).1
    split
    · rename_i b e es' e1
      have ok := S.glo x _ e1
      obtain ⟨s1, s2⟩ := noStar_cons h3
      refine me_blt S.hK S.calm S.gd S.hu hg ?_ (s_evs R S) hd (star_cons s1) (star_plain s2)
      rw [S.hM]
      exact ok
    · rename_i lv g e1
      by_cases hl : lv ≤ c.k
      · rw [if_pos hl]; exact me_callG R S hg hd (S.glo x _ e1) hl h3
      · rw [if_neg hl]; exact pe_noSt
    · exact pe_noSt
  · rw [if_neg h]; exact pe_noSt
theorem mi_of {m : Str} {mi : MI} (h : miOf m = some mi) : m = mi.nm ∧ mi ≠ .bits := by
  unfold miOf at h
  split at h
  · cases h; exact ⟨by assumption, by decide⟩
  · split at h
    · cases h; exact ⟨by assumption, by decide⟩
    · split at h
      · cases h; exact ⟨by assumption, by decide⟩
      · cases h
theorem s_meth {o : Expr} {m : Str} {ap : Pos} (R : SndE G r) (S : Snd G c X W) : PE X (.Call (.Attribute o m ap) es [] pos) (tE G (evMeth r c o m ap pos es) W) := by
  unfold evMeth
  by_cases h : noSuper o = true ∧ (ap.endLine == pos.line) = true ∧ noStar es = true ∧ es.length < 30
  · rw [if_pos h]
    obtain ⟨h1, h2, h3, h4⟩ := h
    cases es with
    | nil =>
      show PE X _ (tE G (if m = ("bit_length" : Str) then eMth .bits (r c o) eNil else noSt) W)
      by_cases hm : m = ("bit_length" : Str)
      · rw [if_pos hm, hm]
        exact me_bits (R c X W o S).1 (base_ok h1) h2
      · rw [if_neg hm]; exact pe_noSt
    | cons e es =>
      show PE X _ (tE G (match miOf m with | some mi => eMthL mi (r c o) (evs r c (e :: es)) | none => noSt) W)
      cases em : miOf m with
      | none => exact pe_noSt
      | some mi =>
        obtain ⟨k1, k2⟩ := mi_of em
        obtain ⟨s1, s2⟩ := noStar_cons h3
        refine me_mth S.hK k1 k2 (R c X W o S).1 (s_evs R S) (base_ok h1) ?_ h2 (star_cons s1) (star_plain s2)
        rw [star_all h3, show backToKw pos (keywordEach [] X.env) = [] from rfl]
        simpa using h4
  · rw [if_neg h]; exact pe_noSt
/-! targets -/
theorem agree_inLoc {d : Ctx} {Y : Cx} (hN : Y.N = d.N) (sc : Y.env.scope = d.sc) (fn : d.top = true → ∀ x, Y.fn x = true) (nd : d.N.Nodup) {t : CT} (h : tgN d x = some t) : PG Y (.Name x pos) (tA G t) := by
  unfold tgN at h
  split at h
  · rename_i hl
    split at h
    · rename_i i e
      cases h
      have hi : Y.N[i]? = some x := by
        rw [hN]
        unfold ixN at e
        split at e
        · split at e
          · cases e; assumption
          · cases e
        · cases e
      unfold inLoc at hl
      simp only [Bool.or_eq_true, Bool.and_eq_true, decide_eq_true_eq] at hl
      rw [← sc] at hl
      refine mg_name (by rw [hN]; exact nd) hi ?_ ?_
      · exact hl.elim (fun z => .inl z) fun z => .inr z.2
      · exact hl.elim (fun z => .inr z) fun z => .inl (fn z.1 x)
    · cases h
  · cases h
theorem asg_star {env : Env} (h : isStar a = false) : assignEach (a :: es) env = (false, assign a env) :: assignEach es env := by
  cases a <;> first | rfl | cases h
theorem asg_len {env : Env} : ∀ {es : List Expr}, noStar es = true → (assignEach es env).length = es.length ∧ (assignEach es env).findIdx? (·.1) = none
  | [], _ => ⟨rfl, rfl⟩
  | a :: es, h => by
    obtain ⟨h1, h2⟩ := noStar_cons h
    obtain ⟨k1, k2⟩ := asg_len (env := env) h2
    rw [asg_star h1]
    refine ⟨by simp [k1], ?_⟩
    rw [List.findIdx?_cons, k2]
    rfl
theorem omap_len {α β : Type} {f : α → Option β} : ∀ {l : List α} {m : List β}, omap f l = some m → m.length = l.length
  | [], _, e => by cases e; rfl
  | x :: l, m, e => by
    unfold omap at e
    split at e
    · rename_i y ys e1 e2
      cases e
      simp [omap_len e2]
    · cases e
theorem s_tgs {d : Ctx} {Y : Cx} {n : Nat} (ih : ∀ {e : Expr} {t : CT}, tg d n e = some t → PG Y e (tA G t)) : ∀ {es : List Expr} {ts : List CT}, noStar es = true → omap (tg d n) es = some ts → PGs Y es (tAL G ts)
  | [], _, _, e => by cases e; exact mgs_nil
  | a :: es, ts, hs, e => by
    obtain ⟨h1, h2⟩ := noStar_cons hs
    unfold omap at e
    split at e
    · rename_i y ys e1 e2
      cases e
      exact mgs_cons (ih e1) (s_tgs ih h2 e2) (by rw [asg_star h1]; rfl)
    · cases e
theorem s_tg {d : Ctx} {Y : Cx} (hK : Y.K = G.K) (hc : Y.calm = true) (hN : Y.N = d.N) (sc : Y.env.scope = d.sc) (fn : d.top = true → ∀ x, Y.fn x = true) (nd : d.N.Nodup) : ∀ (n : Nat) {e : Expr} {t : CT}, tg d n e = some t → PG Y e (tA G t)
  | 0, _, _, h => by cases h
  | n + 1, e, t, h => by
    cases e with
    | Name x pos => exact agree_inLoc hN sc fn nd h
    | Tuple es k pos =>
      replace h : (if noStar es = true then (omap (tg d n) es).map CT.tup else none) = some t := h
      by_cases hs : noStar es = true
      · rw [if_pos hs] at h
        obtain ⟨ts, e1, rfl⟩ := Option.map_eq_some_iff.mp h
        obtain ⟨k1, k2⟩ := asg_len (env := Y.env) hs
        exact mg_tup hK hc (s_tgs (fun q => s_tg hK hc hN sc fn nd n q) hs e1) (by rw [k1, omap_len e1]) k2
      · rw
            [if_neg hs] at h; cases h
    | _ => cases h
theorem Snd.tg (S : Snd G c X W) {e : Expr} {t : CT} {n : Nat} (h : Cv.tg c n e = some t) : PG X e (tA G t) := s_tg S.hK S.calm S.hN S.sc S.fn S.nd n h
end
end Cv
namespace Cv
open L2 PySem PySem.Spec PyProof.Rows

/-! ### lambdas: called -/
theorem lam_obj {P : Program} {w : World} {H : Hp} {h : Heap} {a c' : Addr} {q : Str} {pr : Arguments} {e : Expr} {sc : Scope} {cl : List (Str × Addr)} (hok : HOk P w H h) (k : H a = some (LamO a c' q pr e sc cl)) : ∃ pm ctv : Value, h.get? a = some (PySem.W.kla_obj "<lambda>" q pr e sc cl pm c' ctv) := by
  have x : ObjOk P w H h a (.ext fun h => ∃ pm ctv : Value, h.get? a = some (PySem.W.kla_obj "<lambda>" q pr e sc cl pm c' ctv)) := hok a _ k
  exact x.1
theorem nodup_look : ∀ {names : List (Str × NameKind)} {x : Str} {k : NameKind}, (names.map (·.1)).Nodup → (x, k) ∈ names → names.lookup x = some k
  | [], _, _, _, h =>
        by cases h
  | (y, j) :: r, x, k, nd, h => by
    obtain ⟨n1, n2⟩ :=
          List.nodup_cons.mp nd
    rcases List.mem_cons.mp
          h with e | h
    · cases e
      simp [List.lookup]
    · have hx : x ≠ y := fun z => n1 (by rw [← z]; exact List.mem_map.mpr ⟨(x, k), h, rfl⟩)
      have e : (x == y) = false := by simpa using hx
      simp only [List.lookup, e]
      exact nodup_look n2 h
theorem free_mem {sc : Scope} {x : Str} : x ∈ freeOf sc ↔ (x, NameKind.free) ∈ sc.names := by
  unfold freeOf
  rw [List.mem_map]
  constructor
  · rintro ⟨y, h, rfl⟩
    obtain ⟨h1, h2⟩ := List.mem_filter.mp h
    have h2 := of_decide_eq_true h2
    obtain ⟨y1, y2⟩ := y
    dsimp only at h2
    rw [← h2]; exact h1
  · intro h
    exact ⟨(x, .free), List.mem_filter.mpr ⟨h, decide_eq_true rfl⟩, rfl⟩
theorem lam_scope {sc : Scope} (h : lamB sc = true) : NdefX.NScope (freeOf sc) [] (freeOf sc) sc := by
  unfold lamB at h
  simp only [Bool.and_eq_true, decide_eq_true_eq, Bool.not_eq_true', List.all_eq_true, decide_eq_false_iff_not] at h
  obtain ⟨h1, h2, h3, h4, h5⟩ := h
  refine ⟨h1, h2, h3, ?_, by simp, fun x hx => absurd hx (by simp), fun y hy => (h5 y hy).2, fun y hy e => ?_, fun x hx => ?_⟩
  · unfold freeOf
    exact h4.sublist (List.Sublist.map _ List.filter_sublist)
  · obtain ⟨y1, y2⟩ := y
    dsimp only at e
    subst e
    exact free_mem.mpr hy
  · exact nodup_look h4 (free_mem.mp hx)
theorem cap_find : ∀ {l : List (Str × PV × V)} {x : Str} {p : PV}, (l.map fun z => (z.1, z.2.1)).lookup x = some p → ∃ v, (x, p, v) ∈ l
  | [], _, _, h => by cases h
  | (y, q, v) :: r, x, p, h => by
    by_cases e : x = y
    · subst e
      simp only [List.map_cons, List.lookup, beq_self_eq_true] at h
      cases h
      exact ⟨v, List.mem_cons_self ..⟩
    · have e' : (x == y) = false := by simpa using e
      simp only [List.map_cons, List.lookup, e'] at h
      obtain ⟨u, hu⟩ := cap_find h
      exact ⟨u, List.mem_cons_of_mem _ hu⟩
theorem caps_rel {G : Gc} {ρ : List Addr} {H : Hp} {st : Sto} {base : Heap} (so : StOk G ρ H st) (C : CapOk G base) : ∀ {l : List Str} {ps : List PV}, capsOf (capOf G) l = some ps →
    ∃ vs : List V, RVs G ρ H ps vs ∧ vs.length = l.length ∧ ∀ (i : Nat) (y : Str), l[i]? = some y → G.cap ≠ [] ∧ ∃ c v u, vs[i]? = some v ∧ G.cells.lookup y = some c ∧ base.IsCell c (some u) ∧ RelV v u
  | [], _, h => by cases h; exact ⟨[], .nil, rfl, fun i y e => by simp at e⟩
  | x :: l, ps, h => by
    replace h : (match (capOf G).lookup x, capsOf (capOf G) l with | some p, some ps => some (p :: ps) | _, _ => none) = some ps := h
    split at h
    · rename_i p ps' e1 e2
      cases h
      obtain ⟨vs, h1, h2, h3⟩ := caps_rel so C e2
      obtain ⟨v, hv⟩ := cap_find e1
      obtain ⟨c, u, k1, k2, k3⟩ := C.at_ _ hv
      refine ⟨v :: vs, .cons (so.cap _ hv) h1, by simp [h2], fun i y e => ⟨List.ne_nil_of_mem hv, ?_⟩⟩
      cases i with
      | zero => simp at e; subst e; exact ⟨c, v, u, rfl, k1, k2, k3⟩
      | succ i =>
        obtain ⟨_, c, v, u, a1, a2⟩ := h3 i y (by simpa using e)
        exact ⟨c, v, u, by simpa using a1, a2⟩
    · cases h
section
variable {X : Cx} {G : Gc} {W : WX} {c : Ctx} {a b : Expr} {pos p : Pos} {x : Str} {es : List Expr} {r : EvE}
theorem cells_lam {pins : List (Addr × Obj)} {σ : L2.St} {H : Hp} {s : Shared} {ρ : List Addr} {st : Sto} {sc : Scope} {ps : List PV} (C : CapOk G X.base) (I : L2.Inv X pins σ H s) (so : StOk G ρ H st) (e : capsOf (capOf G) (freeOf sc) = some ps) :
    ∃ vs : List V, RVs G ρ H ps vs ∧ vs.length = (freeOf sc).length ∧ NdefX.CellsAt (cloFrom G.cells sc.names []) (freeOf sc) (vs.map some) s.heap H := by
  obtain ⟨vs, h1, h2, h3⟩ := caps_rel so C e
  have hfree : ∀ y ∈ sc.names, y.2 = .free → ∃ c, G.cells.lookup y.1 = some c := fun y hy ey => by
    obtain ⟨y1, y2⟩ := y
    dsimp only at ey
    subst ey
    obtain ⟨i, hi⟩ := List.mem_iff_getElem?.mp (free_mem.mpr hy)
    obtain ⟨_, c, _, _, _, k, _⟩ := h3 i y1 hi
    exact ⟨c, k⟩
  have back : ∀ y d, (cloFrom G.cells sc.names []).lookup y = some d → G.cells.lookup y = some d ∧ (y, NameKind.free) ∈ sc.names := fun y d q => by
    refine ⟨NdefX.clo_cm hfree q, ?_⟩
    rcases cloFrom_mem (PySem.mem_of_lookup q) with hm | ⟨hm, _⟩
    · cases hm
    · exact hm
  have at_ : ∀ y d, (cloFrom G.cells sc.names []).lookup y = some d → G.cap ≠ [] ∧ ∃ u, X.base.IsCell d (some u) := fun y d q => by
    obtain ⟨k1, k2⟩ := back y d q
    obtain ⟨i, hi⟩ := List.mem_iff_getElem?.mp (free_mem.mpr k2)
    obtain ⟨n, c, v, u, _, a2, a3, _⟩ := h3 i y hi
    rw [k1] at a2
    cases a2
    exact ⟨n, u, a3⟩
  have keep : ∀ d u, X.base.IsCell d (some u) → H d = none ∧ s.heap.IsCell d (some u) := fun d u ⟨o, ho, hd⟩ => ⟨(I.bs d o ho).2, o, (I.bs d o ho).1, hd⟩
  refine ⟨vs, h1, h2, by simp [h2], fun y d q => ?_, fun y z d q1 q2 => ?_, fun i y hi => ?_⟩
  · obtain ⟨_, u, hu⟩ := at_ y d q
    exact ⟨(keep d u hu).1, _, (keep d u hu).2⟩
  · exact C.inj (at_ y d q1).1 y z d (back y d q1).1 (back z d q2).1
  · obtain ⟨_, d, v, u, a1, a2, a3, a4⟩ := h3 i y hi
    refine ⟨d, NdefX.clo_has hfree (free_mem.mp (List.mem_of_getElem? hi)) a2, fun v' hv' => ?_⟩
    rw [List.getElem?_map, a1] at hv'
    cases hv'
    exact ⟨u, a4, (keep d u a3).2⟩
theorem lam_start {ρ : List Addr} {H : Hp} {N : List Str} {ps : List PV} {vs : List V} (rv : RVs G ρ H ps vs) (hl : vs.length = N.length) : REn G ρ H (ps.map some) (NdefX.startF N [] (vs.map some)) := by
  unfold NdefX.startF
  refine ⟨by simp [rv.length, hl], fun i q e => ?_⟩
  rw [List.getElem?_map] at e
  obtain ⟨z, e1, e2⟩ := Option.map_eq_some_iff.mp e
  cases e2
  obtain ⟨v, k1, k2⟩ := rv.get e1
  refine ⟨v, ?_, k2⟩
  simp only [List.map_nil, List.nil_append]
  rw [List.getElem?_append_left (by rw [List.length_map]; exact (List.getElem?_eq_some_iff.mp k1).1), List.getElem?_map, k1]
  rfl
theorem noArgs_bind {pr : Arguments} (h : noArgs pr = true) {q : Str} {e : Expr} {sc : Scope} {cl : List (Str × Addr)} {pm cv ctv : Value} : bindArgs (PySem.W.kla_fn "<lambda>" q pr e sc cl pm cv ctv) ⟨[], []⟩ = pure [] := by
  unfold noArgs at h
  split at h
  · rfl
  · cases h
theorem noArgs_def {pr : Arguments} (h : noArgs pr = true) {env : Env} : defaultsOf pr env = ([], []) := by
  unfold noArgs at h
  split at h
  · rfl
  · cases h
theorem s_clo (R : SndE G r) (S : Snd G c X W) : PE X (.Call (.Name x p) [] [] pos) (tE G (evCallV r c x) W) := by
  unfold evCallV
  by_cases hm : c.mkr = none
  · rw [if_pos hm]
    obtain ⟨C, ecap⟩ := S.pl hm
    refine ⟨fun pins s σ H Q I ⟨ρ, η, st, so, re, h⟩ => ?_⟩
    refine wpAny_Call_Name_kw (thn ((s_name S).run pins s σ H (fun v H1 => ∃ ρ1 st1 p, StOk G ρ1 H1 st1 ∧ RV G ρ1 H1 p v ∧ Out G (runClo r c (c.cap η) p st1) ρ1 H1 (VP G Q) (XW G W σ)) I ⟨ρ, η, st, so, re, Out.bind h fun p st1 ρ1 H1 _ s1 o1 h1 => fun v rv => ⟨ρ1, st1, p, o1, rv, h1⟩⟩) fun u s1 ⟨v, H1, I1, r1, ρ1, st1, p, o1, rv, h1⟩ => ?_)
    clear h re so
    rw [ecap η] at h1
    unfold runClo at h1
    split at h1
    · rename_i n
      split at h1
      · rename_i q pr e sc q0
        obtain ⟨⟨c1, c2, c3⟩, h1⟩ := ite_stuck h1
        cases ec : capsOf (capOf G) (freeOf sc) with
        | none => rw [ec] at h1; exact False.elim h1
        | some ps =>
          rw [ec] at h1
          replace h1 : Out G (r { lamC c sc with cap := fun _ => capOf G } e (ps.map some) st1) ρ1 H1 (VP G Q) (XW G W σ) := h1
          obtain ⟨a, rfl, _, c', ha, hc', _⟩ := o1.loc rv q0
          obtain rfl : u = Value.ref a :=
                r1
          obtain ⟨pm, ctv, ho⟩ := lam_obj I1.hok ha
          have hcr := NdefX.codeO_at I1.hok hc'
          obtain ⟨vs, rvs, lvs, CA⟩ := cells_lam C I1 o1 ec
          have NS := lam_scope c2
          have sc2 := c2
          refine PySem.W.callWith_F0 ⟨_, _, _, _, ho⟩ ?_
          let F : NdefX.NF := ⟨"<lambda>", q, pr, [], sc, cloFrom G.cells sc.names [], c'⟩
          have room : Room (c.k - 1 + 1) X.A := S.room.mono (by omega)
          have rc : codeAny (model X.prog X.w) X.A (.call (.ref a) ⟨[], []⟩) (CR (L2.CX X.prog X.w) X.stack X.prog X.w H1 s1 Q (WE W σ)) s1 := by
            refine PySem.W.kla_callFunE room.depth ho rfl NS.co NS.gen rfl hcr ?_
            rw [noArgs_bind c1]
            refine wpAny_pure (wpAny_newFunctionEnv NS.nocell (fun y hy => absurd hy (by simp)) (fun h₁ hns hsb => ⟨I1.nolimit.fresh _ hsb, ?_⟩) NS.kind)
            have kp : ∀ b o, s1.heap.get? b = some o → h₁.get? b = some o := fun b o z => hsb.extBut b o (Nat.ne_of_lt (Heap.lt_size z)) (Heap.get?_push_of_some _ z)
            have J : L2.Inv (NdefX.ncx (L2.CX X.prog X.w) X.prog X.w X.K X.mg X.base (freeOf sc) F a X.A X.stack s1 H1 (WE W σ)) [] (NdefX.startF (freeOf sc) [] (vs.map some)) H1 { s1 with heap := h₁, toks := s1.toks + ([] : List (Str × Value)).length } :=
              NdefX.inv_startN (ps := []) (us := []) NS room.hd I1.env0 rfl .nil CA hns kp
            have SL : Snd G { lamC c sc with cap := fun _ => capOf G } (NdefX.ncx (L2.CX X.prog X.w) X.prog X.w X.K X.mg X.base (freeOf sc) F a X.A X.stack s1 H1 (WE W σ)) (fun cls d _ H => WE W σ cls d H) :=
              { hK := S.hK, hM := S.hM, hN := rfl, nd := NS.nd, sc := rfl, calm := rfl, gd := S.gd, room := room.deeper _
                tk := takes_of (X := NdefX.ncx (L2.CX X.prog X.w) X.prog X.w X.K X.mg X.base (freeOf sc) F a X.A X.stack s1 H1 (WE W σ)) rfl rfl rfl rfl
                fn := fun z => by cases z
                glo := S.glo, pl := fun _ => ⟨C, fun _ => rfl⟩, mkk := fun q z => by cases z }
            refine PySem.W.kla_codeExpr (wpAny_mono ((R _ _ _ e SL).1.run [] _ _ H1 Q J ⟨ρ1, ps.map some, st1, o1, lam_start rvs lvs, h1⟩) (fun v s' hq => ?_) fun e s' hq => hq)
            obtain ⟨w', H', J', rv', q'⟩ := hq
            exact ⟨w', H', J'.os, J'.bare, J'.base, J'.hok, rv', q'⟩
          refine wpAny_call (codeAny_mono rc fun res s' z => ?_)
          match res, z with
          | .error e, z => exact passAt S.tk σ pins H1 s1 e s' I1 z
          | .ok (.ret u), z => exact I1.after z
          | .ok .next, z => exact False.elim z
          | .ok .brk, z => exact False.elim z
          | .ok .cont, z => exact False.elim z
      · exact False.elim h1
    · exact False.elim h1
  · rw [if_neg hm]; exact pe_noSt
end

/-! ### lambdas: made -/
/-- a lambda's function, just made, is known -/
theorem inv_lam {X : Cx} {pins : List (Addr × Obj)} {σ : L2.St} {H : Hp} {s : Shared} {t' : Nat} {c' : Addr} {q : Str} {pr : Arguments} {e : Expr} {sc : Scope} {cl : List (Str × Addr)} {pm ctv : Value} (I : L2.Inv X pins σ H s) :
    L2.Inv X pins σ (upd H s.heap.objs.size (LamO s.heap.objs.size c' q pr e sc cl)) { s with heap := s.heap.push (PySem.W.kla_obj "<lambda>" q pr e sc cl pm c' ctv), toks := t' } := by
  have at_ : (s.heap.push (PySem.W.kla_obj "<lambda>" q pr e sc cl pm c' ctv)).get? s.heap.objs.size = some (PySem.W.kla_obj "<lambda>" q pr e sc cl pm c' ctv) := Heap.get?_push_size _ rfl
  refine I.laid (a := s.heap.objs.size) (fun b u z => Heap.get?_push_of_some _ z) (Nat.le_refl _) ⟨⟨pm, ctv, at_⟩, ⟨_, at_⟩, fun h1 h2 y st => ?_⟩
  obtain ⟨p1, p2, z⟩ := y
  exact ⟨p1, p2, st _ z⟩
/-- what the making leaves: a found code object, or a new one behind the table -/
def Made (H H1 : Hp) (P c' : Addr) (q : Str) : Prop := H1 c' = some (LamX.CodeO c' q) ∧ (H1 = H ∨ ∃ ps more : Array Value, H P = some (.tbl ps) ∧ H c' = none ∧ H1 = upd (upd H P (.tbl (ps ++ more))) c' (LamX.CodeO c' q)) ∧ LamX.TabS H1 P q
theorem lam_made {X : Cx} {pins : List (Addr × Obj)} {σ : L2.St} {H : Hp} {s : Shared} {cc P : Addr} {params : Arguments} {body : Expr} {scope : Scope} {pos : Pos} {E : Value → Shared → Prop} {Q : Value → Shared → Prop} (I : L2.Inv X pins σ H s) (B : LamX.TabB X.base X.mg cc P) (hcode : X.env.code = .ref cc)
    (hT : LamX.TabS H P (X.env.qual ++ "<lambda>")) (hdef : defaultsOf params X.env = ([], [])) (hfree : ∀ y ∈ scope.names, y.2 = .free → ∃ c, X.env.cells.lookup y.1 = some c)
    (h : ∀ (f c' : Addr) (H1 : Hp) (s' : Shared), Made H H1 P c' (X.env.qual ++ "<lambda>") → H1 f = none → L2.Inv X pins σ (upd H1 f (LamO f c' (X.env.qual ++ "<lambda>") params body scope (cloFrom X.env.cells scope.names []))) s' → Q (.ref f) s') :
    wpAny (model X.prog X.w) X.A (eval (.Lambda params body scope pos) X.env) Q E s :=
          by
  have hT0 := hT
  obtain ⟨ps, hP, ok, names⟩ := hT
  have tabAt : s.heap.get? P = some { cls := .none, data := .fields ps } := I.hok P _ hP
  have bmAt : s.heap.BuiltinsAt X.mg P := B.bm.keeps I.bk
  have cdAt := B.code.keeps I.bk
  have glAt := I.mod.glob.keeps I.bk
  refine PySem.W.kla_eval
        hdef ?_
  cases look : codeAmong pos ps.toList with
  | some cv =>
    obtain ⟨c', rfl, hco⟩ := names pos cv look
    refine PySem.W.kla_makeFunctionHit (mg := X.mg) (c := cc) (P := P) (ps := ps) (closure_ok hfree) I.ok.glob glAt hcode cdAt tabAt ok look bmAt fun ctv h' tk keep big => ?_
    have I1 : L2.Inv X pins σ H { s with heap := h', toks := tk } := I.kept keep
    exact h h'.objs.size c' H _ ⟨hco, .inl rfl, hT0⟩ (I1.hok.fresh (Nat.le_refl _)) (inv_lam I1)
  | none =>
    refine PySem.W.kla_makeFunction (mg := X.mg) (c := cc) (P := P) (ps := ps) (closure_ok hfree) I.ok.glob glAt hcode cdAt tabAt ok look B.gP bmAt fun c' ctv h' tk ext ge lt cr tb => ?_
    obtain ⟨c2, oc, vs, tk2, e2, hoc, hd, hv⟩ := cr
    cases e2
    have nC : H c' = none := I.hok.fresh ge
    have nP : P ≠ c' := ne_of_none hP nC
    have I1 := LamX.inv_table (t' := tk) (more := #[rawInt pos.line, rawInt pos.col, .ref c']) (h' := h') I hP (fun b o nb z => ext b o nb z) tb ge ⟨oc, vs, tk2, hoc, hd, hv⟩
    have hc1 : upd (upd H P (.tbl (ps ++ #[rawInt pos.line, rawInt pos.col, .ref c']))) c' (LamX.CodeO c' (X.env.qual ++ "<lambda>")) c' = some (LamX.CodeO c' (X.env.qual ++ "<lambda>")) := upd_same
    have el : (ps ++ #[rawInt pos.line, rawInt pos.col, .ref c']).toList = ps.toList ++ [rawInt pos.line, rawInt pos.col, .ref c'] := by simp
    refine h h'.objs.size c' _ _ ⟨hc1, .inr ⟨ps, _, hP, nC, rfl⟩, ⟨_, by rw [upd_ne nP, upd_same], by rw [el]; exact PySem.TriplesOk_snoc _ _ _ _ ok, fun p' cv hcv => ?_⟩⟩ (I1.hok.fresh (Nat.le_refl _)) (inv_lam I1)
    rw [el] at hcv
    rcases LamX.among_app _ ok hcv with z | z
    · obtain ⟨c0, e1, k2⟩ := names p' cv z
      refine ⟨c0, e1, ?_⟩
      rw [upd_ne (ne_of_none k2 nC), upd_ne (fun z => by rw [z, hP] at k2; exact LamX.codeO_ne ps (Option.some.inj k2).symm)]
      exact k2
    · exact ⟨c', z, hc1⟩
theorem step_made {ρ : List Addr} {H H1 : Hp} {P c' : Addr} {q : Str} (m : Made H H1 P c' q) (nρ : ∀ ps, H P = some (.tbl ps) → P ∉ ρ) : Step ρ H ρ H1 := by
  obtain ⟨_, m, _⟩ := m
  rcases m with rfl | ⟨ps, more, hP, hc, rfl⟩
  · exact .refl
  · have key : ∀ b o, H b = some o → (∀ ps, o ≠ .tbl ps) → upd (upd H P (.tbl (ps ++ more))) c' (LamX.CodeO c' q) b = some o := fun b o e n => by
      rw [upd_ne (ne_of_none e hc), upd_ne (fun z => n ps (Option.some.inj (e.symm.trans (by rw [z]; exact hP))))]
      exact e
    refine ⟨List.prefix_refl _, fun b o e _ n => key b o e n, fun b vs e => key b _ e (fun _ z => by cases z), fun b o u e => key b _ e (fun _ z => by cases z), fun b qs e => ?_, fun b z n => absurd z n⟩
    rw [upd_ne (ne_of_none e hc)]
    by_cases hb : b = P
    · rw [hb, hP] at e
      cases e
      exact ⟨more, by rw [hb, upd_same]⟩
    · exact ⟨#[], by rw [upd_ne hb]; simpa using e⟩
/-- a store does not hold its table -/
theorem StOk.noTab {G : Gc} {ρ : List Addr} {H : Hp} {st : Sto} (so : StOk G ρ H st) {P : Addr} {ps : Array Value} (h : H P = some (.tbl ps)) : P ∉ ρ := fun m => by
  obtain ⟨n, hn, e⟩ := List.getElem_of_mem m
  have h2 : n < st.length := by rw [← so.len]; exact hn
  have k := so.at_ n st[n] P (List.getElem?_eq_getElem h2) (by rw [List.getElem?_eq_getElem hn, e])
  cases q : st[n] with
  | lst xs => rw [q] at k; obtain ⟨vs, h1, _⟩ := k; rw [h] at h1; cases h1
  | dct xs => rw [q] at k; obtain ⟨vs, h1, _⟩ := k; rw [h] at h1; cases h1
  | ins c fs => rw [q] at k; obtain ⟨_, _, _, _, h1, _⟩ := k; rw [h] at h1; cases h1
  | clo q' pr e' sc =>
    rw [q] at k
    obtain ⟨c', h1, _⟩ := k
    rw [h] at h1
    have z := Option.some.inj h1
    unfold LamO at z
    cases z
theorem StOk.made {G : Gc} {ρ : List Addr} {H H1 : Hp} {st : Sto} {P c' : Addr} {q : Str} (so : StOk G ρ H st) (m : Made H H1 P c' q) (ht : G.tabs = [(P, q)]) : StOk G ρ H1 st := by
  have s : Step ρ H ρ H1 := step_made m fun ps h => so.noTab h
  refine ⟨so.len, so.nd, fun n o a e1 e2 => (so.at_ n o a e1 e2).step s (.inr fun x hx => ?_), fun z hz => (so.cap z hz).step s, fun z hz => ?_⟩
  · obtain ⟨_, m, _⟩ := m
    rcases m with rfl | ⟨ps, more, hP, hc, rfl⟩
    · exact hx
    · rw [upd_ne (ne_of_none hx hc), upd_ne (fun z => so.noTab hP (by rw [← z]; exact List.mem_of_getElem? e2))]
      exact hx
  · rw [ht] at hz
    rw [List.mem_singleton.mp hz]
    exact m.2.2
theorem s_lam {X : Cx} {G : Gc} {W : WX} {c : Ctx} {pr : Arguments} {e : Expr} {sc : Scope} {pos : Pos} {q : Str} (S : Snd G c X W) (hm : c.mkr = some q) (h1 : noArgs pr = true) (h3 : (sc.names.all fun y => !decide (y.2 = .free) || (decide (c.sc.names.lookup y.1 = some .cell) || decide (c.sc.names.lookup y.1 = some .free))) = true) :
    PE X (.Lambda pr e sc pos) (tE G (fun _ st => .ok (.loc st.length) (st ++ [.clo q pr e sc])) W) := by
  have M := S.mkk q hm
  obtain ⟨cc, P, B, hcode, ht⟩ := M.tab
  refine ⟨fun pins s σ H Q I ⟨ρ, η, st, so, re, h⟩ => ?_⟩
  have hfree : ∀ y ∈ sc.names, y.2 = .free → ∃ d, X.env.cells.lookup y.1 = some d := fun y hy ey => by
    have z := List.all_eq_true.mp h3 y hy
    simp only [Bool.or_eq_true, Bool.not_eq_true', decide_eq_false_iff_not, decide_eq_true_eq] at z
    rw [← S.sc] at z
    rcases z with z | z | z
    · exact absurd ey z
    · exact I.ok.has _ (.inl z)
    · exact I.ok.has _ (.inr z)
  have hT : LamX.TabS H P (X.env.qual ++ "<lambda>") := by
    rw [M.qual]
    exact so.tbs (P, q) (by rw [ht]; exact List.mem_singleton_self _)
  refine lam_made I B hcode hT (noArgs_def h1) hfree fun f c' H1 s' m hf I1 => ?_
  rw [M.qual] at m I1
  rw [M.cells] at I1
  have s1 : Step ρ H ρ H1 := step_made m fun ps z => so.noTab z
  have o1 := so.made m ht
  have s2 := step_push (ρ := ρ) (o := LamO f c' q pr e sc (cloFrom G.cells sc.names [])) hf
  have nc : c' ∉ ρ ++ [f] := fun z => by
    have hc := m.1
    rcases List.mem_append.mp z with z | z
    · obtain ⟨n, hn, en⟩ := List.getElem_of_mem z
      have h2 : n < st.length := by rw [← o1.len]; exact hn
      have k := o1.at_ n st[n] c' (List.getElem?_eq_getElem h2) (by rw [List.getElem?_eq_getElem hn, en])
      cases q0 : st[n] with
      | lst xs => rw [q0] at k; obtain ⟨vs, h1, _⟩ := k; rw [hc] at h1; cases Option.some.inj h1
      | dct xs => rw [q0] at k; obtain ⟨vs, h1, _⟩ := k; rw [hc] at h1; cases Option.some.inj h1
      | ins c fs => rw [q0] at k; obtain ⟨_, _, _, _, h1, _⟩ := k; rw [hc] at h1; cases Option.some.inj h1
      | clo q' pr' e' sc' =>
        rw [q0] at k
        obtain ⟨c2, h1, h2, h3⟩ := k
        have ne : c' ≠ f := fun z => by rw [z, hf] at hc; cases hc
        obtain ⟨pm, ctv, k1⟩ := lam_obj I1.hok (a := c') (c' := c2) (q := q') (pr := pr') (e := e') (sc := sc') (cl := cloFrom G.cells sc'.names []) (by rw [upd_ne ne]; exact h1)
        obtain ⟨_, oc, vt, tk, e0, k2, k3, _⟩ := NdefX.codeO_at I1.hok (c := c') (q := q) (by rw [upd_ne ne]; exact hc)
        cases e0
        rw [k1] at k2
        have := Option.some.inj k2
        rw [← this] at k3
        cases k3
    · rw [List.mem_singleton.mp z, hf] at hc
      cases hc
  have o2 := o1.push (x := LamO f c' q pr e sc (cloFrom G.cells sc.names [])) (y := .clo q pr e sc) hf ⟨c', upd_same, by rw [upd_ne (fun z => nc (by rw [z]; simp))]; exact m.1, nc⟩
  refine ⟨.ref f, _, I1, rfl, h _ _ (s1.trans s2) o2 _ (.loc ?_)⟩
  rw [← so.len]; simp
end Cv
namespace Cv
open L2 PySem PySem.Spec PyProof.Rows
section
variable {X : Cx} {G : Gc} {W : WX} {c : Ctx} {a b : Expr} {pos p : Pos} {x : Str} {es : List Expr} {r : EvE}
theorem fold_ok {env : Env} (h : noSet a = true) : ∀ x, foldedSetIterable a env x = pure x := by
  cases a <;> first | (intro _; rfl) | cases h
theorem s_inner (S : Snd G c X W) (s : Shared) (H : Hp) (scope : Scope) (C : Addr) (cl : List (Str × Addr)) (fp : List Addr) : Snd G (inner c scope) (X.blk s H scope (compEnvC scope cl C X.env) fp) W0 :=
  { hK := S.hK, hM := S.hM, hN := S.hN, nd := S.nd
    sc := by
      show relS scope X.env.scope = relS scope c.sc
      rw [S.sc]
    calm := S.calm, gd := S.gd, room := S.room
    tk := fun _ _ z => by
      obtain ⟨_, _, _, _, _, _, _, _, _, _, _, _, _, _, _, _, z⟩ := z
      exact z.elim
    fn := fun z => by cases z
    glo := S.glo
    pl := fun _ => by
      cases e : c.mkr with
      | none =>
        obtain ⟨h1, h2⟩ := S.pl e
        refine ⟨h1, fun η => ?_⟩
        show (if c.mkr.isSome = true then fun _ => [] else c.cap) η = _
        rw [e]
        exact h2 η
      | some q =>
        have M := S.mkk q e
        refine ⟨⟨fun z => absurd M.cap0 z, fun z hz => by rw [M.cap0] at hz; cases hz⟩, fun η => ?_⟩
        show (if c.mkr.isSome = true then fun _ => [] else c.cap) η = _
        rw [e]
        unfold capOf
        rw [M.cap0]
        rfl
    mkk := fun q z => by cases z }
theorem tup_of {t : Expr} (h : isTup t = true) : ∃ elts k pos, t = .Tuple elts k pos := by
  cases t <;> first | exact ⟨_, _, _, rfl⟩ | cases h
theorem s_iter (R : SndE G r) (S : Snd G c X W) {t it : Expr} : PI X t it (tI G (evI r c t it) W) := by
  unfold evI
  split
  · rename_i f pf es pos
    by_cases h : okName f = true ∧ gl c f = true ∧ noStar es = true
    · rw [if_pos h]
      obtain ⟨h1, h2, h3⟩ := h
      have hg := gl_ok S h2
      split
      · rename_i e e1
        obtain ⟨k1, k2⟩ := S.glo f _ e1
        subst k1
        obtain ⟨s1, _⟩ := noStar_cons h3
        exact mi_range1 hg (by rw [S.hM]; exact k2) (s_evs R S) (star_cons s1)
      · rename_i e e2 e1
        obtain ⟨k1, k2⟩ := S.glo f _ e1
        subst k1
        obtain ⟨s1, s2⟩ := noStar_cons h3
        obtain ⟨s3, _⟩ := noStar_cons s2
        exact mi_range2 hg (by rw [S.hM]; exact k2) (s_evs R S) (by rw [star_cons s1, star_cons s3]; rfl) (by rw [star_cons s3]; rfl)
      · rename_i e e2 e1
        obtain ⟨k1, k2⟩ := S.glo f _ e1
        subst k1
        obtain ⟨s1, s2⟩ := noStar_cons h3
        by_cases ht : isTup t = true
        · rw [if_pos ht]
          obtain ⟨elts, k, tp, rfl⟩ := tup_of ht
          exact mi_zip S.hK hg (by rw [S.hM]; exact k2) (s_evs R S) (star_cons s1) (star_plain s2)
        · rw [if_neg ht]; exact pi_noSt
      · rename_i e e1
        obtain ⟨k1, k2⟩ := S.glo f _ e1
        subst k1
        obtain ⟨s1, _⟩ := noStar_cons h3
        by_cases ht : isTup t = true
        · rw [if_pos ht]
          obtain ⟨elts, k, tp, rfl⟩ := tup_of ht
          exact mi_enum S.hK hg (by rw [S.hM]; exact k2) (s_evs R S) (star_cons s1)
        · rw [if_neg ht]; exact pi_noSt
      · exact mi_seq S.hK (s_call R S)
      · exact mi_seq S.hK (s_call R S)
      · exact pi_noSt
    · rw [if_neg h]; exact pi_noSt
  · rename_i e hn
    by_cases h : noSet it = true
    · rw [if_pos h]; exact mi_seq S.hK (R c X W it S).1
    · rw [if_neg h]; exact pi_noSt
/-- the iterable's tree is no set display -/
theorem iter_noSet {t it : Expr} : noSet it = true ∨ evI r c t it = noSt := by
  cases it <;> first | exact .inl rfl | exact .inr rfl
theorem s_ifs (R : SndE G r) (S : Snd G c X W) {ifs : List Expr} : PTs X ifs (tT G (evIfs r c ifs) W) := by
  match ifs with
  | [] => exact ⟨fun pins s σ H Q I ⟨ρ, η, st, so, re, h⟩ => pts_nil.run pins s σ H Q I (h ρ H .refl so)⟩
  | [e] => exact pts_one (R c X W e S).2
  | _ :: _ :: _ => exact ⟨fun pins s σ H Q I ⟨ρ, η, st, so, re, h⟩ => False.elim h⟩
theorem sub_ok {l m : List Nat} (h : subN l m = true) : ∀ j ∈ l, j ∈ m := fun j hj => by
  have := List.all_eq_true.mp h j hj
  simpa using this
theorem s_lc (R : SndE G r) (S : Snd G c X W) {elt tr it : Expr} {ifs : List Expr} {scope : Scope} : PE X (.ListComp elt [⟨tr, it, ifs, 0⟩] scope pos) (tE G (evLc r c elt tr it ifs scope) W) := by
  unfold evLc
  split
  · rename_i t et
    by_cases h : blkC c.N c.sc scope (ownOf c.N scope) = true ∧ subN t.slots ((ownOf c.N scope).map (·.2)) = true
    · rw [if_pos h]
      rcases iter_noSet (r := r) (c := c) (t := tr) (it := it) with z | z
      · exact me_lc S.calm (by rw [S.hN]; exact S.nd) (s_iter R S) (by rw [S.hN, S.sc]; exact blkOk_by h.1) (sub_ok h.2) (fun s H C cl fp => (s_inner S s H scope C cl fp).tg et) (fun s H C cl fp => s_ifs R (s_inner S s H scope C cl fp)) (fun s H C cl fp => (R _ _ _ elt (s_inner S s H scope C cl fp)).1) (fold_ok z)
      · rw [z]
        exact ⟨fun pins s σ H Q I ⟨ρ, η, st, so, re, h⟩ => False.elim h⟩
    · rw [if_neg h]; exact pe_noSt
  · exact pe_noSt
/-- a if t else b, tested -/
theorem mt_ite {t : Expr} {mc ma mb : Ev PV} (hc : PT X t (tT G (eT mc) W)) (ha : PT X a (tT G (eT ma) W)) (hb : PT X b (tT G (eT mb) W)) : PT X (.IfExp t a b pos) (tT G (eT (eIte mc ma mb)) W) := by
  refine ⟨fun pins s σ H Q I ⟨ρ, η, st, so, re, h⟩ => ?_⟩
  have e : eT (eIte mc ma mb) η st = (eT mc η st).bind fun k st => if k then eT ma η st else eT mb η st := by
    show Res.bind (Res.bind (eT mc η st) fun k st => if k then ma η st else mb η st) truR = Res.bind (eT mc η st) fun k st => if k then eT ma η st else eT mb η st
    cases eT mc η st with
    | ok k st1 => cases k <;> rfl
    | exn c fs st1 => rfl
    | stuck => rfl
  rw [e] at h
  refine isTrue_IfExp (thn (hc.run pins s σ H _ I ⟨ρ, η, st, so, re, Out.bind h fun k st1 ρ1 H1 _ s1 o1 h1 => (⟨ρ1, η, st1, o1, re.step s1, h1⟩ : ∃ ρ η st, StOk G ρ H1 st ∧ REn G ρ H1 η σ ∧ Out G (if k = true then eT ma η st else eT mb η st) ρ H1 (fun b _ H' => Q b H') (XW G W σ))⟩) fun k s1 ⟨H1, I1, ρ1, η1, st1, o1, re1, h1⟩ => ?_)
  cases k with
  | true => exact ha.run pins s1 σ H1 Q I1 ⟨ρ1, η1, st1, o1, re1, h1⟩
  | false => exact hb.run pins s1 σ H1 Q I1 ⟨ρ1, η1, st1, o1, re1, h1⟩
theorem chain_true {env : Env} {e0 : Expr} {ops : List CmpOp} {cs : List Expr} {whole w2 : Sem Value} : isTrue (.Compare e0 ops cs pos) env whole = isTrue (.Compare e0 ops cs pos) env w2 := rfl
theorem s_step (R : SndE G r) : SndE G (evStep r) := by
  intro c X W e S
  unfold evStep
  split
  · exact pt_of S (s_name S)
  · exact pt_of S (me_con pe_non fun _ _ => .non)
  · exact pt_of S (me_con pe_bl fun _ _ => .bl _)
  · exact pt_of S (me_con pe_int fun _ _ => .int _)
  · exact pt_of S (me_con pe_str fun _ _ => .str _)
  · exact ⟨(s_and R S).1, (s_and R S).2.pt⟩
  · exact ⟨(s_or R S).1, (s_or R S).2.pt⟩
  · rename_i a op b pos
    cases e1 : bopOf op with
    | none => exact pt_of S pe_noSt
    | some o => exact pt_of S (me_bin (op_of e1) S.hK (R c X W a S).1 (R c X W b S).1)
  · rename_i a pos
    exact pt_of S (me_neg (R c X W a S).1)
  · rename_i a pos
    exact ⟨me_not S.hK (R c X W a S).1, mt_not S.hK (R c X W a S).2⟩
  · rename_i t a b pos
    exact ⟨me_ite (R c X W t S).2 (R c X W a S).1 (R c X W b S).1, mt_ite (R c X W t S).2 (R c X W a S).2 (R c X W b S).2⟩
  · rename_i a op b pos
    by_cases h : behindInMarks op b = false
    · rw [if_pos h]
      have hu : X.A.units + 65 < cLine := by have := S.hu; omega
      exact ⟨me_cmp (cop_of op) S.hK hu (R c X W a S).1 (R c X W b S).1 h, mt_cmp (cop_of op) S.hK hu (R c X W a S).1 (R c X W b S).1 h⟩
    · rw [if_neg h]; exact ⟨pe_noSt, pt_noSt⟩
  · rename_i a op op2 b d pos
    by_cases h : lastMarks [op, op2] [b, d] = false
    · rw [if_pos h]
      have hu : X.A.units + 65 < cLine := by have := S.hu; omega
      exact ⟨me_chain (cop_of op) (cop_of op2) S.hK hu (R c X W a S).1 (R c X W b S).1 (R c X W d S).1 h, mt_chain (cop_of op) (cop_of op2) S.hK hu (R c X W a S).1 (R c X W b S).1 (R c X W d S).1 h⟩
    · rw [if_neg h]; exact ⟨pe_noSt, pt_noSt⟩
  · rename_i f pf es pos
    by_cases h : vis c f = true
    · rw [if_pos h]
      by_cases he : es.isEmpty = true
      · rw [if_pos he]
        have e : es = [] := by simpa using he
        subst e
        exact pt_of S (s_clo R S)
      · rw [if_neg he]
        cases es with
        | nil => exact absurd rfl he
        | cons e es => exact pt_of S (s_callL R S)
    · rw [if_neg h]; exact pt_of S (s_call R S)
  · rename_i pr e sc pos
    cases em : c.mkr with
    | none => exact pt_of S pe_noSt
    | some q =>
      show PE X (.Lambda pr e sc pos) (tE G (if noArgs pr = true ∧ lamB sc = true ∧ (sc.names.all fun y => !decide (y.2 = .free) || (decide (c.sc.names.lookup y.1 = some .cell) || decide (c.sc.names.lookup y.1 = some .free))) = true then (fun _ st => .ok (.loc st.length) (st ++ [.clo q pr e sc])) else noSt) W) ∧ _
      by_cases h : noArgs pr = true ∧ lamB sc = true ∧ (sc.names.all fun y => !decide (y.2 = .free) || (decide (c.sc.names.lookup y.1 = some .cell) || decide (c.sc.names.lookup y.1 = some .free))) = true
      · simp only [if_pos h]
        exact pt_of S (s_lam S em h.1 h.2.2)
      · simp only [if_neg h]; exact pt_of S pe_noSt
  · exact pt_of S (s_meth R S)
  · rename_i a l h p2 pos
    exact pt_of S (me_slc S.hK (R c X W a S).1 (s_part R S) (s_part R S))
  · rename_i a b pos hn
    by_cases h : noSlice b = true
    · rw [if_pos h]
      exact pt_of S (me_idx S.hK (by have := S.hu; omega) h (R c X W a S).1 (R c X W b S).1)
    · rw [if_neg h]; exact pt_of S pe_noSt
  · exact pt_of S (me_tup (s_evs R S))
  · exact pt_of S (me_lst (s_evs R S))
  · exact pt_of S me_dnew
  · rename_i ks vs pos hn
    cases e1 : evPs r c ks vs with
    | none => exact pt_of S pe_noSt
    | some l =>
      show PE X (.Dict ks vs pos) (tE G (if ks.all (·.isSome) = true ∧ ks.length = vs.length ∧ ks.length ≤ 15 ∧ ks.isEmpty = false then eDsp l else noSt) W) ∧ _
      by_cases h : ks.all (·.isSome) = true ∧ ks.length = vs.length ∧ ks.length ≤ 15 ∧ ks.isEmpty = false
      · simp only [if_pos h]
        exact pt_of S (me_dsp (s_ps R S e1) h.1 h.2.1 (by rintro rfl; cases h.2.2.2) h.2.2.1)
      · simp only [if_neg h]; exact pt_of S pe_noSt
  · exact pt_of S (s_lc R S)
  · exact ⟨pe_noSt, pt_noSt⟩
theorem s_expr (G : Gc) : ∀ n, SndE G (evE n)
  | 0 => fun c X W e S => ⟨pe_noSt, pt_noSt⟩
  | n + 1 => s_step (s_expr G n)
end
end Cv
namespace Cv
open L2 PySem PySem.Spec PyProof.Rows

/-! ### the interpreter: statements -/
def noS : Sv := fun _ _ => .stuck
abbrev EvB := Ctx → List Stmt → Sv
def evL (f : Stmt → Sv) : List Stmt → Sv
  | [] => sNx
  | s :: r => sSeq (f s) (evL f r)
/-- does the compiler exchange the stores? none: not told -/
def swp (c : Ctx) (ts vs : List Expr) : Option (Option (List Str)) :=
  if (!(ts.length == 2 || ts.length == 3) || vs.length != ts.length || decide (c.sc.kind ≠ .function)) = true then some none
  else if (vs.any fun | .Starred .. => true | _ => false) = true then some none
  else
    let line :=
          (ts.head?.map (·.pos.line)).getD 0
    let names := ts.filterMap fun
      | .Name id pos => if c.sc.names.lookup id == some .local && pos.line == line then some id else none
      | _ => none
    if (names.length != ts.length || names.eraseDups.length != names.length) = true then some none
    else if (vs.all (foldedForSure 8)) = true then some none
    else if (vs.all (constantsAlone 8)) = true then none
    else some (some names)
def isLoc (c : Ctx) (x : Str) : Bool := decide (c.sc.names.lookup x = some .local)
def evPar (r : EvE) (c : Ctx) : List Expr → List Expr → Sv
  | [.Name x _, .Name y _], [a, b] => (match ixN c x, ixN c y with
    | some i, some j => if i ≠ j ∧ isLoc c x = true ∧ isLoc c y = true then sPar i j (evs r c [a, b]) else noS
    | _, _ => noS)
  | [.Name x _, .Name y _, .Name z _], [a, b, d] => (match ixN c x, ixN c y, ixN c z with
    | some i, some j, some l => if (i ≠ j ∧ i ≠ l ∧ j ≠ l) ∧ isLoc c x = true ∧ isLoc c y = true ∧ isLoc c z = true then sPar3 i j l (evs r c [a, b, d]) else noS
    | _, _, _ => noS)
  | _, _ => noS
def evAsg (r : EvE) (c : Ctx) (line : Nat) : Expr → Expr → Sv
  | .Tuple ts _ _, .Tuple vs k p => (match swp c ts vs with
    | some none => (match tg c TGF (.Tuple ts 0 p) with
      | some t => sAsg (r c (.Tuple vs k p)) t
      | none => noS)
    | some (some _) => evPar r c ts vs
    | none => noS)
  | .Subscript o i _, v => if noComp v = true then sPut (r c v) (r c o) (r c i) else noS
  | .Name x _, v => if noComp v = true then (match tgN c x with
      | some t => sAsg (r c v) t
      | none => noS) else (match v with
        | .ListComp elt [⟨tr, it, ifs, 0⟩] scope _ => (match tgN c x with
          | some t => sAsg (evLc r c elt tr it ifs scope) t
          | none => noS)
        | _ => noS)
  | .Tuple ts k p, v => if noComp v = true then (match tg c TGF (.Tuple ts 0 p) with
      | some t => sAsg (r c v) t
      | none => noS) else noS
  | _, _ => noS
def xisOf (n : Str) (fs : List Str) : List Expr → Option (List XI)
  | [] => some []
  | .Constant (.str z) _ _ :: r => (xisOf n fs r).map (.con z :: ·)
  | .Attribute (.Name m _) f _ :: r => if m = n ∧ f ∈ fs then (xisOf n fs r).map (.fld f :: ·) else none
  | _ => none
def hdOf (c : Ctx) : ExceptHandler → Option (Str × Nat × List XI)
  | .ExceptHandler (some (.Name x _)) (some n) [.Return (some (.Tuple es _ _)) _] _ => if gl c x = true ∧ okName x = true ∧ okName n = true ∧ isLoc c n = true then (match c.glo x, ixN c n with
      | some (.exc fs), some i => (xisOf n fs es).map fun xs => (x, i, xs)
      | _, _ => none)
    else none
  | _ => none
def evStmt (r : EvE) (b : EvB) (c : Ctx) : Stmt → Sv
  | .Pass _ => sNx
  | .Break _ => sFl .bk
  | .Continue _ => sFl .ct
  | .Return none _ => sFl (.rt .non)
  | .Return (some e) _ => sRet (r c e)
  | .Expr e _ => if noComp e = true then sExp (r c e) else noS
  | .If t x y _ => sIf (r c t) (b c x) (b c y)
  | .While t x [] _ => whileLoop (r c t) (b c x) FU
  | .For tr it x [] _ => (match tg c TGF tr with
    | some t => sFor t (evI r c tr it) (b c x)
    | none => noS)
  | .Assign [t] v p => evAsg r c p.line t v
  | .Raise (some (.Call (.Name x _) (e :: es) [] _)) none _ => if okName x = true ∧ gl c x = true ∧ noStar (e :: es) = true ∧ 2 ≤ c.k then (match c.glo x with
      | some (.exc fs) => sRaise x fs (evs r c (e :: es))
      | _ => noS)
    else noS
  | .Try x (h :: hs) [] [] _ => if c.mkr = none then (match omap (hdOf c) (h :: hs) with
    | some l => sTry c.exm (b c x) l
    | none => noS) else noS
  | _ => noS
def evB (m : Nat) : Nat → EvB
  | 0 => fun _ _ => noS
  | n + 1 => fun c l => evL (evStmt (evE m) (evB m n) c) l
def start' (n : Nat) (ps : List PV) : Env' := ps.map some ++ List.replicate (n - ps.length) none
def endDef : SR → Res PV
  | .ok .nx _ st => .ok .non st
  | .ok (.rt p) _ st => .ok p st
  | .exn x fs _ st => .exn x fs st
  | _ => .stuck
def evDef (m : Nat) (c : Ctx) (np : Nat) (body : List Stmt) : Fun' := fun ps st => if ps.length = np ∧ np ≤ c.N.length then endDef (evB m m c body (start' c.N.length ps) st) else .stuck

structure SndS (G : Gc) (c : Ctx) (X : Cx) (W : WX) : Prop extends Snd G c X W where
  po : PassesOwn (model X.prog X.w) X.A X.env X.xe
  stk : X.stack = X.env :: X.outer
  frm : X.env.frame = some X.env.locals
  kind : c.sc.kind = .function
  exm : ExOk G c.exm
def SndB (G : Gc) (b : EvB) : Prop := ∀ (c : Ctx) (X : Cx) (W : WX) (l : List Stmt), SndS G c X W → PSs X l (tB G (b c l) W)
section
variable {X : Cx} {G : Gc} {W : WX} {c : Ctx} {a b : Expr} {pos p : Pos} {x : Str} {es : List Expr} {r : EvE} {bb : EvB}
theorem ps_noS {s : Stmt} : PS X s (tB G noS W) := ⟨fun pins st σ H D I ⟨ρ, η, s, so, re, h⟩ => False.elim h⟩
theorem pss_noS {s : List Stmt} : PSs X s (tB G noS W) := ⟨fun pins st σ H D I ⟨ρ, η, s, so, re, h⟩ => False.elim h⟩
theorem swaps_no {t : Option Expr} {n : Nat} {env : Env} (h : noComp a = true) : swapsWith a t n env = pure false := by
  cases a <;> first | rfl | cases h
theorem stores_no {t : List Expr} {env : Env} (h : isTup a = false) : swappedStores t a env = pure none := by
  cases a <;> first | rfl | cases h | skip
  all_goals
    cases t with
    | nil => rfl
    | cons t0 tr =>
      cases tr with
      | nil => cases t0 <;> rfl
      | cons _ _ => cases t0 <;> rfl
theorem stores_name {env : Env} : swappedStores [.Name x p] a env = pure none := by
  cases a <;> rfl
end
end Cv
namespace Cv
open L2 PySem PySem.Spec PyProof.Rows
section
variable {X : Cx} {G : Gc} {W : WX} {c : Ctx} {a b : Expr} {pos p : Pos} {x : Str} {es : List Expr} {r : EvE} {bb : EvB}
theorem SndS.bk (S : SndS G c X W) : X.env.blockKind = .function := by
  unfold Env.blockKind
  rw [S.sc, S.kind]
  rfl
theorem swp_ok (S : SndS G c X W) {ts vs : List Expr} {k k2 : Nat} {p p2 : Pos} {o : Option (List Str)} (h : swp c ts vs = some o) : swappedStores [.Tuple ts k p] (.Tuple vs k2 p2) X.env = pure o := by
  have hk : ∀ y, X.env.kindOf y = c.sc.names.lookup y := fun y => by
    show X.env.scope.names.lookup y = _
    rw [S.sc]
  unfold swp at h
  unfold swappedStores
  simp only [S.bk, hk]
  split at h
  · rename_i c1
    cases h
    rw [S.kind] at c1
    have c2 : (!(ts.length == 2 || ts.length == 3) || vs.length != ts.length || (ScopeKind.function != ScopeKind.function)) = true := by simpa using c1
    simp only [c2, if_true]
  · rename_i c1
    rw [S.kind] at c1
    have c2 : (!(ts.length == 2 || ts.length == 3) || vs.length != ts.length || (ScopeKind.function != ScopeKind.function)) = false := by simpa using c1
    simp only [c2]
    refine (if_neg Bool.false_ne_true).trans ?_
    split at h
    · rename_i c3
      cases h
      exact if_pos c3
    · rename_i c3
      refine (if_neg c3).trans ?_
      dsimp only at h ⊢
      split at h
      · rename_i c4
        cases h
        exact if_pos c4
      · rename_i c4
        refine (if_neg c4).trans ?_
        split at h
        · rename_i c5
          cases h
          exact if_pos c5
        · rename_i c5
          refine (if_neg c5).trans ?_
          split at h
          · cases h
          · rename_i c6
            cases h
            refine (if_neg c6).trans ?_
            rfl
theorem fm_two {f : Expr → Option Str} {e1 e2 : Expr} {x y : Str} (h1 : f e1 = some x ∨ f e1 = none) (h2 : f e2 = some y ∨ f e2 = none) (hl : ([e1, e2].filterMap f).length = 2) : [e1, e2].filterMap f = [x, y] := by
  rcases h1 with h1 | h1 <;> rcases h2 with h2 | h2 <;> simp [h1, h2] at hl ⊢
theorem fm_three {f : Expr → Option Str} {e1 e2 e3 : Expr} {x y z : Str} (h1 : f e1 = some x ∨ f e1 = none) (h2 : f e2 = some y ∨ f e2 = none) (h3 : f e3 = some z ∨ f e3 = none) (hl : ([e1, e2, e3].filterMap f).length = 3) : [e1, e2, e3].filterMap f = [x, y, z] := by
  rcases h1 with h1 | h1 <;> rcases h2 with h2 | h2 <;> rcases h3 with h3 | h3 <;> simp [h1, h2, h3] at hl ⊢
theorem swp_two {y : Str} {px py : Pos} {vs : List Expr} {l : List Str} (h : swp c [.Name x px, .Name y py] vs = some (some l)) : l = [x, y] := by
  unfold swp at h
  split at h
  · cases h
  · split at h
    · cases h
    · dsimp only at h
      split at h
      · cases h
      · rename_i c4
        split at h
        · cases h
        · split at h
          · cases h
          · cases h
            refine fm_two ?_ ?_ ?_
            · dsimp only
              split <;> simp
            · dsimp only
              split <;> simp
            · simp only [Bool.or_eq_true, not_or, bne_iff_ne, ne_eq, Decidable.not_not] at c4
              exact c4.1
theorem swp_three {y z : Str} {px py pz : Pos} {vs : List Expr} {l : List Str} (h : swp c [.Name x px, .Name y py, .Name z pz] vs = some (some l)) : l = [x, y, z] := by
  unfold swp at h
  split at h
  · cases h
  · split at h
    · cases h
    · dsimp only at h
      split at h
      · cases h
      · rename_i c4
        split at h
        · cases h
        · split at h
          · cases h
          · cases h
            refine fm_three ?_ ?_ ?_ ?_
            · dsimp only
              split <;> simp
            · dsimp only
              split <;> simp
            · dsimp only
              split <;> simp
            · simp only [Bool.or_eq_true, not_or, bne_iff_ne, ne_eq, Decidable.not_not] at c4
              exact c4.1
theorem loc_ok (S : Snd G c X W) (h : isLoc c x = true) : X.env.scope.names.lookup x = some .local := by
  unfold isLoc at h
  rw [S.sc]
  exact of_decide_eq_true h
theorem sole_tup {ts vs : List Expr} {k k2 n : Nat} {p p2 : Pos} {env : Env} : swapsWithSole [.Tuple ts k p] (.Tuple vs k2 p2) n env = pure false := rfl
theorem asg_one {t : Expr} {env : Env} (h : isStar t = false) : (assignEach [t] env).map (·.2) = [assign t env] := by
  rw [asg_star h]; rfl
/-- a target does not look at the places of its text -/
theorem tg_tup {n k k2 : Nat} {p p2 : Pos} {ts : List Expr} : tg c n (.Tuple ts k p) = tg c n (.Tuple ts k2 p2) := by
  cases n <;> rfl
theorem s_asg (R : SndE G r) (S : SndS G c X W) {t v : Expr} {k : Nat} : PS X (.Assign [t] v pos) (tB G (evAsg r c pos.line t v) W) := by
  unfold evAsg
  split
  · rename_i ts kt pt vs kv pv
    cases e1 : swp c ts vs with
    | none => exact ps_noS
    | some o =>
      have hw := swp_ok (k := kt) (p := pt) (k2 := kv) (p2 := pv) S e1
      cases o with
      | none =>
        show PS X _ (tB G (match tg c TGF (.Tuple ts 0 pv) with | some t => sAsg (r c (.Tuple vs kv pv)) t | none => noS) W)
        cases e2 : tg c TGF (.Tuple ts 0 pv) with
        | none => exact ps_noS
        | some t => exact ms_asg (R c X W _ S.toSnd).1 (S.tg (tg_tup.trans e2)) sole_tup hw (asg_one rfl)
      | some l =>
        show PS X _ (tB G (evPar r c ts vs) W)
        unfold evPar
        split
        · rename_i x px y py a b
          have el := swp_two e1
          subst el
          split
          · rename_i i j ei ej
            by_cases h : i ≠ j ∧ isLoc c x = true ∧ isLoc c y = true
            · rw [if_pos h]
              exact ms_par S.calm (by rw [S.hN]; exact S.nd) (ix_ok S.toSnd ei) (ix_ok S.toSnd ej) h.1 (loc_ok S.toSnd h.2.1) (loc_ok S.toSnd h.2.2) (s_evs R S.toSnd) hw sole_tup
            · rw [if_neg h]; exact ps_noS
          · exact ps_noS
        · rename_i x px y py z pz a b d
          have el := swp_three e1
          subst el
          split
          · rename_i i j l ei ej el
            by_cases h : (i ≠ j ∧ i ≠ l ∧ j ≠ l) ∧ isLoc c x = true ∧ isLoc c y = true ∧ isLoc c z = true
            · rw [if_pos h]
              exact ms_par3 S.calm (by rw [S.hN]; exact S.nd) (ix_ok S.toSnd ei) (ix_ok S.toSnd ej) (ix_ok S.toSnd el) h.1.1 h.1.2.1 h.1.2.2 (loc_ok S.toSnd h.2.1) (loc_ok S.toSnd h.2.2.1) (loc_ok S.toSnd h.2.2.2) (s_evs R S.toSnd) hw sole_tup
            · rw [if_neg h]; exact ps_noS
          · exact ps_noS
        · exact ps_noS
  · rename_i o i p'
    by_cases h : noComp v = true
    · rw [if_pos h]
      exact ms_put (by have := S.hu; omega) (R c X W o S.toSnd).1 (R c X W i S.toSnd).1 (R c X W v S.toSnd).1 (swaps_no h)
    · rw [if_neg h]; exact ps_noS
  · rename_i x px
    by_cases h : noComp v = true
    · rw [if_pos h]
      cases e2 : tgN c x with
      | none => exact ps_noS
      | some t => exact ms_asg (R c X W _ S.toSnd).1 (S.tg (n := 1) (show tg c 1 (.Name x px) = some t from e2)) (by unfold swapsWithSole; exact swaps_no h) stores_name (asg_one rfl)
    · rw [if_neg h]
      split
      · rename_i elt tr it ifs scope lp
        cases e2 : tgN c x with
        | none => exact ps_noS
        | some t =>
          have hg : PG X (.Name x px) (tA G t) := S.tg (n := 1) (show tg c 1 (.Name x px) = some t from e2)
          by_cases sw : (X.env.blockKind == .function && X.env.kindOf x == some .local && px.line == lp.line && !(scope.names.any fun (n, k) => n == x && (k == .local || k == .cell))) = true
          · -- the stores of the comprehension are used
            have hsw : swapsWith (.ListComp elt [⟨tr, it, ifs, 0⟩] scope lp) (some (.Name x px)) pos.line X.env = pure true := by
              show (pure (X.env.blockKind == .function && X.env.kindOf x == some .local && px.line == lp.line && !(scope.names.any fun (n, k) => n == x && (k == .local || k == .cell))) : Sem Bool) = pure true
              rw [sw]
            have hl : X.env.scope.names.lookup x = some .local := by
              simp only [Bool.and_eq_true] at sw
              simpa [Env.kindOf] using sw.1.1.2
            show PS X _ (tB G (sAsg (evLc r c elt tr it ifs scope) t) W)
            unfold tgN at e2
            split at e2
            · split at e2
              · rename_i i ei
                cases e2
                unfold evLc
                split
                · rename_i t et
                  by_cases hb : blkC c.N c.sc scope (ownOf c.N scope) = true ∧ subN t.slots ((ownOf c.N scope).map (·.2)) = true
                  · rw [if_pos hb]
                    rcases iter_noSet (r := r) (c := c) (t := tr) (it := it) with z | z
                    · exact ms_setLc S.calm (by rw [S.hN]; exact S.nd) (ix_ok S.toSnd ei) hl hsw (s_iter R S.toSnd) (by rw [S.hN, S.sc]; exact blkOk_by hb.1) (sub_ok hb.2) (fun s H C cl fp => (s_inner S.toSnd s H scope C cl fp).tg et) (fun s H C cl fp => s_ifs R (s_inner S.toSnd s H scope C cl fp))
                        (fun s H C cl fp => (R _ _ _ elt (s_inner S.toSnd s H scope C cl fp)).1) (fold_ok z)
                    · rw [z]; exact ⟨fun pins st σ H D I ⟨ρ, η, s, so, re, h⟩ => False.elim h⟩
                  · rw [if_neg hb]; exact ⟨fun pins st σ H D I ⟨ρ, η, s, so, re, h⟩ => False.elim h⟩
                · exact ⟨fun pins st σ H D I ⟨ρ, η, s, so, re, h⟩ => False.elim h⟩
              · cases e2
            · cases e2
          · have hsw : swapsWith (.ListComp elt [⟨tr, it, ifs, 0⟩] scope lp) (some (.Name x px)) pos.line X.env = pure false := by
              show (pure (X.env.blockKind == .function && X.env.kindOf x == some .local && px.line == lp.line && !(scope.names.any fun (n, k) => n == x && (k == .local || k == .cell))) : Sem Bool) = pure false
              rw [Bool.not_eq_true] at sw
              rw [sw]
            exact ms_asg (s_lc R S.toSnd) hg hsw stores_name (asg_one rfl)
      · exact ps_noS
  · rename_i ts kt pt hn
    by_cases h : noComp v = true
    · rw [if_pos h]
      cases e2 : tg c TGF (.Tuple ts 0 pt) with
      | none => exact ps_noS
      | some t =>
        have ht : isTup v = false := by
          cases v <;> first | rfl | exact (hn _ _ _ rfl).elim
        exact ms_asg (R c X W _ S.toSnd).1 (S.tg (tg_tup.trans e2)) (by unfold swapsWithSole; exact swaps_no h) (stores_no ht) (asg_one rfl)
    · rw [if_neg h]; exact ps_noS
  · exact ps_noS
end
end Cv
namespace Cv
open L2 PySem PySem.Spec PyProof.Rows
section
variable {X : Cx} {G : Gc} {W : WX} {c : Ctx} {a b : Expr} {pos p : Pos} {x : Str} {es : List Expr} {r : EvE} {bb : EvB}
theorem xis_txt {C : Addr} {n : Str} {fs : List Str} (no : ∀ f ∈ fs, PySem.W.findIn X.K (.ref C) f = some none) : ∀ {es : List Expr} {xs : List XI}, xisOf n fs es = some xs → XiTxt X C n xs es
  | [], _, h => by cases h; exact .nil
  | e :: es, xs, h => by
    unfold xisOf at h
    split at h
    · rename_i h0; cases h0
    · rename_i z j p r h0
      cases h0
      obtain ⟨xs', e1, rfl⟩ := Option.map_eq_some_iff.mp h
      exact .con (xis_txt no e1)
    · rename_i m p f q r h0
      cases h0
      split at h
      · rename_i k
        obtain ⟨xs', e1, rfl⟩ := Option.map_eq_some_iff.mp h
        obtain ⟨rfl, k2⟩ := k
        exact .fld (no f k2) rfl (xis_txt no e1)
      · cases h
    · cases h
theorem s_hds (S : SndS G c X W) : ∀ {hs : List ExceptHandler} {l : List (Str × Nat × List XI)}, omap (hdOf c) hs = some l → ∃ l', NmOk X hs l' ∧ ClOk G l l'
  | [], _, e => by cases e; exact ⟨[], .nil, .nil⟩
  | h :: hs, l, e => by
    unfold omap at e
    split at e
    · rename_i y ys e1 e2
      cases e
      obtain ⟨l', k1, k2⟩ := s_hds S e2
      unfold hdOf at e1
      split at e1
      · rename_i x px n es kk p1 p2 p3
        split at e1
        · rename_i cd
          obtain ⟨c1, c2, c3, c4⟩ := cd
          split at e1
          · rename_i fs i g1 g2
            obtain ⟨xs, e3, rfl⟩ := Option.map_eq_some_iff.mp e1
            obtain ⟨C, E⟩ := S.glo x _ g1
            have hn := okName_ok c3
            have hl := loc_ok S.toSnd c4
            have T : XfC X.K C := by rw [S.hK]; exact E.F
            refine ⟨(.ref C, i, xSuite C i xs) :: l', .cons ⟨gl_ok S.toSnd c1, (okName_ok c2).1, .inl (by rw [S.hM]; exact E.hm)⟩ (ix_ok S.toSnd g2) hl (fun a oe cls d pn hz hf => ?_) k1, .cons E.hm k2⟩
            exact mx_suite T hz hf (ix_ok S.toSnd g2) (.inl hl) hn.1 hn.2 (xis_txt (by rw [S.hK]; exact E.no) e3)
          · cases e1
        · cases e1
      · cases e1
    · cases e
theorem SndS.tr (S : SndS G c X W) (hm : c.mkr = none) {W' : WX} {pn : List (Addr × Obj)} {xe : Value → Shared → Prop} (tk : Takes (X.tr pn xe) W') (po : PassesOwn (model X.prog X.w) X.A X.env xe) : SndS G c (X.tr pn xe) W' :=
  { hK := S.hK, hM := S.hM, hN := S.hN, nd := S.nd, sc := S.sc, calm := S.calm, gd := S.gd, room := S.room, tk := tk, fn := S.fn, glo := S.glo, pl := S.pl, mkk := fun q z => (by rw [hm] at z; cases z), po := po, stk := S.stk, frm := S.frm, kind := S.kind, exm := S.exm }
theorem s_stmt (R : SndE G r) (B : SndB G bb) (S : SndS G c X W) : ∀ s : Stmt, PS X s (tB G (evStmt r bb c s) W) := by
  intro s
  unfold evStmt
  split
  · exact ms_pass
  · exact ms_break
  · exact ms_cont
  · exact ms_retN
  · rename_i e p
    exact ms_ret (R c X W e S.toSnd).1
  · rename_i e p
    by_cases h : noComp e = true
    · rw [if_pos h]; exact ms_exp (R c X W e S.toSnd).1 (swaps_no h)
    · rw [if_neg h]; exact ps_noS
  · rename_i t x y p
    exact ms_if (R c X W t S.toSnd).2 (B c X W x S) (B c X W y S)
  · rename_i t x p
    exact ms_while S.po (R c X W t S.toSnd).2 (B c X W x S)
  · rename_i tr it x p
    cases e1 : tg c TGF tr with
    | none => exact ps_noS
    | some t =>
      rcases iter_noSet (r := r) (c := c) (t := tr) (it := it) with z | z
      · exact ms_for S.po S.calm (s_iter R S.toSnd) (S.tg e1) (B c X W x S) (fold_ok z)
      · show PS X _ (tB G (sFor t (evI r c tr it) (bb c x)) W)
        rw [z]
        exact ⟨fun pins st σ H D I ⟨ρ, η, s, so, re, h⟩ => False.elim h⟩
  · exact s_asg R S (k := 0)
  · rename_i x px e es p2 p
    by_cases h : okName x = true ∧ gl c x = true ∧ noStar (e :: es) = true ∧ 2 ≤ c.k
    · rw [if_pos h]
      obtain ⟨h1, h2, h3, h4⟩ := h
      obtain ⟨s1, s2⟩ := noStar_cons h3
      split
      · rename_i fs g
        obtain ⟨C, E⟩ := S.glo x _ g
        exact ms_raise S.hK S.hM E S.calm (S.room.mono h4) S.tk (gl_ok S.toSnd h2) (okName_ok h1).1 (s_evs R S.toSnd) (star_cons s1) (star_plain s2)
      · exact ps_noS
    · rw [if_neg h]; exact ps_noS
  · rename_i x h hs p
    by_cases hm : c.mkr = none
    · rw [if_pos hm]
      cases e1 : omap (hdOf c) (h :: hs) with
      | none => exact ps_noS
      | some l =>
        obtain ⟨l', k1, k2⟩ := s_hds S e1
        exact ms_try S.hK S.exm S.stk S.frm (by rw [S.hN]; exact S.nd) S.tk (fun W' pn xe tk po => B c _ W' x (S.tr hm tk po)) k1 k2
    · rw [if_neg hm]; exact ps_noS
  · exact ps_noS
theorem s_list (R : SndE G r) (B : SndB G bb) (S : SndS G c X W) : ∀ l : List Stmt, PSs X l (tB G (evL (evStmt r bb c) l) W)
  | [] => mb_nil
  | s :: l => mb_cons (s_stmt R B S s) (s_list R B S l)
theorem s_body (G : Gc) (m : Nat) : ∀ n, SndB G (evB m n)
  | 0 => fun c X W l S => pss_noS
  | n + 1 => fun c X W l S => s_list (s_expr G m) (s_body G m n) S l
end

/-! ### a def -/
theorem start_rel {G : Gc} {ρ : List Addr} {H : Hp} {N : List Str} {ps : List PV} {vs : List V} (r : RVs G ρ H ps vs) (hl : ps.length ≤ N.length) : REn G ρ H (start' N.length ps) (L2.start N vs) := by
  unfold start' L2.start
  refine ⟨by simp [r.length], fun i p e => ?_⟩
  by_cases h : i < ps.length
  · rw [List.getElem?_append_left (by simpa using h)] at e
    rw [List.getElem?_append_left (by simpa [← r.length] using h)]
    rw [List.getElem?_map] at e ⊢
    obtain ⟨q, e1, e2⟩ := Option.map_eq_some_iff.mp e
    cases e2
    obtain ⟨v, h1, h2⟩ := r.get e1
    exact ⟨v, by rw [h1]; rfl, h2⟩
  · rw [List.getElem?_append_right (by simpa using h)] at e
    rw [List.getElem?_replicate] at e
    split at e <;> cases e
def fscB (N ps : List Str) (sc : Scope) : Bool := decide (sc.kind = .function) && (!sc.isCoroutine && (!sc.isGenerator && (decide N.Nodup && (decide (N.take ps.length = ps) && ((ps.all fun x => decide (sc.names.lookup x = some .local) || decide (sc.names.lookup x = some .cell)) && (sc.names.all fun y => !decide (y.2 = .free)))))))
theorem fsc_ok {N ps : List Str} {sc : Scope} (h : fscB N ps sc = true) : FnScope N ps sc := by
  unfold fscB at h
  simp only [Bool.and_eq_true, decide_eq_true_eq, Bool.not_eq_true', List.all_eq_true, decide_eq_false_iff_not, Bool.or_eq_true] at h
  obtain ⟨k1, k2, k3, k4, k5, k6, k7⟩ := h
  exact ⟨k1, k2, k3, k4, k5, k6, k7⟩
theorem fng_def {P : Program} {w : World} {G : Gc} {base : Heap} {x qual : Str} {params : Arguments} {body : List Stmt} {scope : Scope} {f : Addr} {fd : FuncData} {ps : List Str} {c : Ctx} (m : Nat) (F : FunD G.K x qual params body scope [] [] f fd) (hs : fscB c.N ps scope = true) (hsc : c.sc = scope)
    (hb : ∀ (dV kV doc pm : Value) (an : Option Addr) (cdv ct : Value) (us : List Value), dV = .none → us.length = ps.length → bindArgs (PySem.W.fnOf x qual params body scope dV kV doc pm an cdv ct) ⟨us, []⟩ = pure (ps.zip us))
    (glo : ∀ x g, c.glo x = some g → GkOk P w G base x g) (exm : ExOk G c.exm) (hm : c.mkr = none) (CO : CapOk G base) (hc : ∀ η, c.cap η = capOf G) : FnG P w G.K G.mg base (c.k + 1) f (spF G (evDef m c ps.length body)) := by
  have S := fsc_ok hs
  refine fng_of F S hb (fun vs H Q E h => ?_) fun cdv A outer s H vs Q E room gd h _ => ?_
  · obtain ⟨ρ, st, qs, so, rv, h⟩ := h
    obtain ⟨h1, h⟩ := ite_stuck h
    rw [← rv.length]; exact h1.1
  · obtain ⟨ρ, st, qs, so, rv, h⟩ := h
    obtain ⟨h1, h⟩ := ite_stuck h
    have SS : SndS G c (cxOf (L2.CX P w) P w G.K G.mg base c.N qual scope f cdv A outer s H E) (fun cls d _ H => E cls d H) :=
      { hK := rfl, hM := rfl, hN := rfl, nd := S.nd, sc := hsc.symm, calm := rfl, gd := gd, room := room
        tk := takes_of (X := cxOf (L2.CX P w) P w G.K G.mg base c.N qual scope f cdv A outer s H E) rfl rfl rfl rfl
        fn := fun _ _ => rfl
        glo := glo
        pl := fun _ => ⟨CO, hc⟩
        mkk := fun q z => (by rw [hm] at z; cases z)
        po := passes_of (X := cxOf (L2.CX P w) P w G.K G.mg base c.N qual scope f cdv A outer s H E) (K := fun e s'' => L2.CX P w outer H s E e s'') (E₁ := fun e' s'' => L2.CX P w outer H s E e' s'') rfl
        stk := rfl, frm := rfl, kind := by rw [hsc]; exact S.kind
        exm := exm }
    refine ⟨_, s_body G m m c _ _ body SS, ρ, _, st, so, start_rel rv (by rw [h1.1]; exact h1.2), ?_⟩
    cases e : evB m m c body (start' c.N.length qs) st with
    | stuck => rw [e] at h; exact False.elim h
    | exn y fs η st' =>
      rw [e] at h
      intro ρ' H' σ' s' o' re' C d gs k1 k2 k3
      exact h ρ' H' s' o' C d gs k1 k2 k3
    | ok fl η st' =>
      rw [e] at h
      intro ρ' H' σ' s' o' re'
      cases fl with
      | nx => exact h ρ' H' s' o' _ .non
      | rt p => exact fun v rv => h ρ' H' s' o' v rv
      | bk => exact False.elim h
      | ct => exact False.elim h
end Cv
namespace Cv
open L2 PySem PySem.Spec PyProof.Rows

/-! ### the def that makes lambdas -/
/-- what its cells hold -/
def capM (sc : Scope) : List Str → Env' → Cap
  | y :: N, o :: η => (match o with
    | some p => if sc.names.lookup y = some .cell then (y, p) :: capM sc N η else capM sc N η
    | none => capM sc N η)
  | _, _ => []
theorem capM_rel {G : Gc} {ρ : List Addr} {H : Hp} {sc : Scope} : ∀ {N : List Str} {η : Env'} {σ : L2.St}, (∀ (i : Nat) (p : PV), η[i]? = some (some p) → ∃ v, σ[i]? = some (some v) ∧ RV G ρ H p v) →
    ∃ l : List (Str × PV × V), (l.map fun z => (z.1, z.2.1)) = capM sc N η ∧ ∀ z ∈ l, RV G ρ H z.2.1 z.2.2 ∧ (∃ i : Nat, N[i]? = some z.1 ∧ σ[i]? = some (some z.2.2)) ∧ sc.names.lookup z.1 = some .cell
  | [], _, _, _ => ⟨[], by simp [capM], fun z h => by cases h⟩
  | y :: N, [], _, _ => ⟨[], by simp [capM], fun z h => by cases h⟩
  | y :: N, o :: η, σ, h => by
    obtain ⟨l, h1, h2⟩ := capM_rel (sc := sc) (N := N) (η := η) (σ := σ.drop 1) fun i p e => by
      obtain ⟨v, k1, k2⟩ := h (i + 1) p (by simpa using e)
      exact ⟨v, by rw [List.getElem?_drop, Nat.add_comm]; exact k1, k2⟩
    have up : ∀ z ∈ l, RV G ρ H z.2.1 z.2.2 ∧ (∃ i : Nat, (y :: N)[i]? = some z.1 ∧ σ[i]? = some (some z.2.2)) ∧ sc.names.lookup z.1 = some .cell := fun z hz => by
      obtain ⟨a, ⟨i, b, c⟩, d⟩ := h2 z hz
      refine ⟨a, ⟨i + 1, by simpa using b, ?_⟩, d⟩
      rw [List.getElem?_drop, Nat.add_comm] at c
      exact c
    cases o with
    | none => exact ⟨l, h1, up⟩
    | some p =>
      by_cases c : sc.names.lookup y = some .cell
      · obtain ⟨v, k1, k2⟩ := h 0 p rfl
        refine ⟨(y, p, v) :: l, ?_, fun z hz => ?_⟩
        · show _ = if sc.names.lookup y = some .cell then (y, p) :: capM sc N η else capM sc N η
          rw [if_pos c, List.map_cons, h1]
        · rcases List.mem_cons.mp hz with e | hz
          · rw [e]; exact ⟨k2, ⟨0, rfl, k1⟩, c⟩
          · exact up z hz
      · refine ⟨l, ?_, up⟩
        show _ = if sc.names.lookup y = some .cell then (y, p) :: capM sc N η else capM sc N η
        rw [if_neg c, h1]
theorem funs_other {h base base' : Heap} : ∀ {l : List Env}, h.FunFrames base l → (∀ b ∈ frs l, base'.get? b = none) → h.FunFrames base' l
  | [], _, _ => trivial
  | env :: l, ⟨a, ⟨L, o, e1, e2, e3, e4⟩, r⟩, n => by
    refine ⟨a, ⟨L, o, e1, n L ?_, e3, e4⟩, funs_other r fun b hb => n b ?_⟩
    · exact List.mem_filterMap.mpr ⟨env, List.mem_cons_self .., e1⟩
    · obtain ⟨e, he, q⟩ := List.mem_filterMap.mp hb
      exact List.mem_filterMap.mpr ⟨e,
            List.mem_cons_of_mem _ he, q⟩
section
variable {X : Cx} {G : Gc} {c : Ctx}
/-- the switch at a call from the maker -/
theorem sw_maker (hK : X.K = G.K) (hM : X.mg = G.mg) (hN : X.N = c.N) (sc : X.env.scope = c.sc) (hc : ∀ η, c.cap η = capM c.sc c.N η) (c0 : G.cap = []) (hcl : X.env.cells = G.cells) (hfn : ∀ x, X.fn x = true) (hst : X.stack = X.env :: X.outer) (hfr : X.env.frame = some X.env.locals) : SwOk G c X := by
  intro pins σ H s ρ η st I so re
  obtain ⟨l, h1, h2⟩ := capM_rel (sc := c.sc) (N := c.N) re.at_
  have hl : ∀ z ∈ l, ∃ d u, X.env.cells.lookup z.1 = some d ∧ s.heap.IsCell d (some u) ∧ RelV z.2.2 u := fun z hz => by
    obtain ⟨_, ⟨i, e1, e2⟩, e3⟩ := h2 z hz
    rw [← sc] at e3
    obtain ⟨m, _, lk⟩ := I.loc
    obtain ⟨u, r, k⟩ := lk i z.1 z.2.2 (by rw [hN]; exact e1) e2 (.inr (.inl e3))
    rcases k with ⟨k, _⟩ | ⟨_, d, k1, k2⟩
    · have k : X.env.scope.names.lookup z.1 = some .local := k
      rw [e3] at k; cases k
    · exact ⟨d, u, k1, k2, r⟩
  let p : Addr → Bool := fun b => (X.base.get? b).isSome || l.any fun z => decide (X.env.cells.lookup z.1 = some b)
  let Hq : Hp := fun b => if p b = true then none else some (.lst [])
  have get : ∀ b, p b = true → ∀ o, s.heap.get? b = some o → (hidT s.heap Hq).get? b = some o := fun b hb o e => hidT_get e (if_pos hb)
  have of : ∀ b o, (hidT s.heap Hq).get? b = some o → s.heap.get? b = some o ∧ p b = true := fun b o e => by
    obtain ⟨e1, e2⟩ := of_hidT e
    refine ⟨e1, ?_⟩
    cases q : p b with
    | true => rfl
    | false =>
      have z : (if p b = true then (none : Option HO) else some (.lst [])) = none := e2
      rw [q] at z
      cases z
  have kb : ∀ b o, X.base.get? b = some o → (hidT s.heap Hq).get? b = some o := fun b o e => get b (by show ((X.base.get? b).isSome || _) = true; rw [e]; rfl) o (I.bk b o e)
  have cl : ∀ z ∈ l, ∀ d, X.env.cells.lookup z.1 = some d → p d = true := fun z hz d e => by
    show (_ || l.any fun z => decide (X.env.cells.lookup z.1 = some d)) = true
    rw [List.any_eq_true.mpr ⟨z, hz, decide_eq_true e⟩, Bool.or_true]
  have pof : ∀ b, p b = true → (∃ o, X.base.get? b = some o) ∨ ∃ z ∈ l, X.env.cells.lookup z.1 = some b := fun b hb => by
    rcases Bool.or_eq_true_iff.mp hb with z | z
    · exact .inl (Option.isSome_iff_exists.mp z)
    · obtain ⟨z, hz, e⟩ := List.any_eq_true.mp z
      exact .inr ⟨z, hz, of_decide_eq_true e⟩
  have cellO : ∀ b, (∃ z ∈ l, X.env.cells.lookup z.1 = some b) → ∃ (o : Obj) (v : Option Value), s.heap.get? b = some o ∧ o.data = .cell v := fun b ⟨z, hz, e⟩ => by
    obtain ⟨d, u, k1, ⟨o, k2, k3⟩, _⟩ := hl z hz
    rw [e] at k1
    cases k1
    exact ⟨o, _, k2, k3⟩
  have noF : ∀ b ∈ frs X.stack, (hidT s.heap Hq).get? b = none := fun b hb => by
    cases e : (hidT s.heap Hq).get? b with
    | none => rfl
    | some o =>
      exfalso
      obtain ⟨e1, e2⟩ := of b o e
      have fm := I.env0.funs.mem hb
      rcases pof b e2 with ⟨o', z⟩ | ⟨z, hz, q⟩
      · rw [fm.1] at z; cases z
      · -- a captured cell is no frame's dict
        rcases List.mem_cons.mp (I.stkSub _ hb) with e3 | e3
        · exact I.cne z.1 b q e3
        · obtain ⟨_, o2, ho2, _⟩ := I.ok.funs.mem e3
          have lt := Heap.lt_size ho2
          have ge := I.ok.cab z.1 b (hfn z.1) q
          exact Nat.lt_irrefl _ (Nat.lt_of_lt_of_le lt ge)
  have md : Mod X.K X.mg (hidT s.heap Hq) := by
    obtain ⟨m1, m2, ⟨mb, m3, m4⟩, m5⟩ := I.mod
    exact ⟨m1.keeps kb, m2.keeps kb, ⟨mb, m3.keeps kb, m4⟩, m5.keeps kb⟩
  refine ⟨{ G with cap := l }, hidT s.heap Hq, rfl, rfl, rfl, ⟨fun _ x y d e1 e2 => I.ok.inj x y d (by rw [hcl]; exact e1) (by rw [hcl]; exact e2), fun z hz => ?_⟩, by rw [hc]; exact h1, ?_, ?_, fun ρ' H' st' o => ?_⟩
  · obtain ⟨d, u, k1, ⟨o, k2, k3⟩, k4⟩ := hl z hz
    exact ⟨d, u, by rw [← hcl]; exact k1, ⟨o, get d (cl z hz d k1) o k2, k3⟩, k4⟩
  · rw [← hK, ← hM]
    refine ⟨I.ok.frames, md, fun b o e => ?_, Nat.le_of_eq (hidT_size _ _), funs_other I.env0.funs noF, I.env0.frf, I.hok, I.bare⟩
    obtain ⟨e1, e2⟩ := of b o e
    refine ⟨e1, ?_⟩
    rcases pof b e2 with ⟨o', z⟩ | ⟨z, hz, q⟩
    · exact (I.bs b o' z).2
    · exact I.freeC z.1 b q
  · exact ⟨so.len, so.nd, fun n o a e1 e2 => SOk.cg (G := G) (G' := { G with cap := l }) rfl rfl rfl rfl (so.at_ n o a e1 e2), fun z hz => RV.cg (G := G) (G' := { G with cap := l }) rfl rfl rfl (h2 z hz).1, so.tbs⟩
  · exact ⟨o.len, o.nd, fun n x a e1 e2 => SOk.cg (G := { G with cap := l }) (G' := G) rfl rfl rfl rfl (o.at_ n x a e1 e2), fun z hz => (by rw [c0] at hz; cases hz), o.tbs⟩
end
abbrev G0 (K : PySem.W.Frag) (mg : Str → Option Value) (cells : List (Str × Addr)) (tabs : List (Addr × Str)) : Gc := { K := K, mg := mg, cl := [], cells := cells, cap := [], tabs := tabs }
/-- the maker's promise, from an empty store -/
def spM (K : PySem.W.Frag) (mg : Str → Option Value) (P : Addr) (q : Str) (f : Fun') : Sp := fun vs H Q E => LamX.TabS H P q ∧ ∀ cells, ∃ ps, RVs (G0 K mg cells [(P, q)]) [] H ps vs ∧ Out (G0 K mg cells [(P, q)]) (f ps []) [] H (VP (G0 K mg cells [(P, q)]) Q) (XV (G0 K mg cells [(P, q)]) E)
theorem fng_law {P : Program} {w : World} {K : PySem.W.Frag} {mg : Str → Option Value} {base : Heap} {x qual : Str} {params : Arguments} {body : List Stmt} {scope : Scope} {f : Addr} {fd : FuncData} {ps : List Str} {c : Ctx} {cc T : Addr} {q : Str} (m : Nat) (F : FunD K x qual params body scope [] [] f fd)
    (hs : fscB c.N ps scope = true) (hsc : c.sc = scope)
    (hb : ∀ (dV kV doc pm : Value) (an : Option Addr) (cdv ct : Value) (us : List Value), dV = .none → us.length = ps.length → bindArgs (PySem.W.fnOf x qual params body scope dV kV doc pm an cdv ct) ⟨us, []⟩ = pure (ps.zip us))
    (glo : ∀ G : Gc, G.K = K → G.mg = mg → ∀ x g, c.glo x = some g → GkOk P w G base x g) (exm : ∀ G : Gc, G.K = K → G.mg = mg → ExOk G c.exm) (hm : c.mkr = some q) (hq : (qual ++ ".<locals>.") ++ "<lambda>" = q) (hc : ∀ η, c.cap η = capM c.sc c.N η)
    (hcode : ∀ (oc : Value) (od : Option Addr) (dV kV doc pm : Value) (an : Option Addr) (cdv ct : Value) (osl : Array (Option Value)), K.lookup f = some ⟨oc, od, .func (PySem.W.fnOf x qual params body scope dV kV doc pm an cdv ct), osl⟩ → PySem.W.codeIn K cdv qual = true → cdv = .ref cc)
    (B : LamX.TabB base mg cc T) : FnG P w K mg base (c.k + 1) f (spM K mg T q (evDef m c ps.length body)) := by
  have S := fsc_ok hs
  refine fng_of F S hb (fun vs H Q E h => ?_) fun cdv A outer s H vs Q E room gd h lk => ?_
  · obtain ⟨_, h⟩ := h
    obtain ⟨qs, rv, h⟩ := h []
    obtain ⟨h1, h⟩ := ite_stuck h
    rw [← rv.length]; exact h1.1
  · obtain ⟨oc, od, dV, kV, doc, pm, an, ct, osl, lk, hcd⟩ := lk
    have ecd := hcode _ _ _ _ _ _ _ _ _ _ lk hcd
    obtain ⟨tb, h⟩ := h
    let X : Cx := cxOf (L2.CX P w) P w K mg base c.N qual scope f cdv A outer s H E
    obtain ⟨qs, rv, h⟩ := h X.env.cells
    obtain ⟨h1, h⟩ := ite_stuck h
    have MK : MkOk (G0 K mg X.env.cells [(T, q)]) c X q :=
      { sw := sw_maker (X := X) rfl rfl rfl hsc.symm hc rfl rfl (fun _ => rfl) rfl rfl
        cap0 := rfl, cells := rfl, qual := hq
        tab := ⟨cc, T, B, ecd, rfl⟩ }
    have SS : SndS (G0 K mg X.env.cells [(T, q)]) c X (fun cls d _ H => E cls d H) :=
      { hK := rfl, hM := rfl, hN := rfl, nd := S.nd, sc := hsc.symm, calm := rfl, gd := gd, room := room
        tk := takes_of (X := X) rfl rfl rfl rfl
        fn := fun _ _ => rfl
        glo := glo _ rfl rfl
        pl := fun z => (by rw [hm] at z; cases z)
        mkk := fun q' z => by
          rw [hm] at z
          cases z
          exact MK
        po := passes_of (X := X) (K := fun e s'' => L2.CX P w outer H s E e s'') (E₁ := fun e' s'' => L2.CX P w outer H s E e' s'') rfl
        stk := rfl, frm := rfl, kind := by rw [hsc]; exact S.kind
        exm := exm _ rfl rfl }
    refine ⟨_, s_body _ m m c _ _ body SS, [], _, [], ⟨rfl, List.nodup_nil, fun n o a e => absurd e (by simp), fun z hz => absurd hz (by simp), fun z hz => ?_⟩, start_rel rv (by rw [h1.1]; exact h1.2), ?_⟩
    · rw [List.mem_singleton.mp hz]; exact tb
    · cases e : evB m m c body (start' c.N.length qs) [] with
      | stuck => rw [e] at h; exact False.elim h
      | exn y fs η st' =>
        rw [e] at h
        intro ρ' H' σ' s' o' re' C d gs k1 k2 k3
        exact h ρ' H' s' o' C d gs k1 k2 k3
      | ok fl η st' =>
        rw [e] at h
        intro ρ' H' σ' s' o' re'
        cases fl with
        | nx => exact h ρ' H' s' o' _ .non
        | rt p => exact fun v rv => h ρ' H' s' o' v rv
        | bk => exact False.elim h
        | ct => exact False.elim h
end Cv
namespace Cv
open L2 PySem PySem.Spec PyProof.Rows

/-! ### the law's call -/
def atStart (a T : Addr) (fz : Option HO) : Hp := fun b => if b = T then some (.tbl #[]) else if b = a then fz else none
theorem cx_never {P : Program} {w : World} {l : List Env} {H : Hp} {s s' : Shared} {e : Value} (h : L2.CX P w l H s (fun _ _ _ => False) e s') : False := by
  obtain ⟨_, _, _, _, _, _, _, _, _, _, _, _, z⟩ :=
        h
  exact z
abbrev tabO : Obj := { cls := .none, data := .fields #[] }
abbrev lstO (vs : List Value) : Obj := { cls := .type "list", data := .seq vs.toArray }
theorem law_end {P : Program} {w : World} {K : PySem.W.Frag} {mg mb : Str → Option Value} {k : Nat} {fa a cc T : Addr} {q : Str} {sp : Sp} {s₁ : Shared} {vs : List Value} {ns : List Int} (KX : K.In s₁.heap) (gN : s₁.heap.Ns mainGlobals mg) (bN : s₁.heap.Ns builtinsNs mb)
    (bV : ∀ x : Str, x ≠ "__name__" → mb x = bootBuiltins x) (lim : s₁.heap.NoLimit) (gens : s₁.gens = #[]) (hT : s₁.heap.get? T = some tabO) (nT : K.lookup T = none) (C : PySem.W.CodeHd s₁.heap cc T)
    (bm : ∃ (m : Addr) (om : Obj), mg "__builtins__" = some (.ref m) ∧ m ≠ builtinsNs ∧ s₁.heap.get? m = some om ∧ om.cls = .type "module" ∧ om.dict = some builtinsNs ∧ om.data = .plain) (ha : s₁.heap.get? a = some (lstO vs)) (hi : IntsAre vs ns) (hl : ns.length ≤ sizeLine) (hr : Room k callerA)
    (F : ∀ base : Heap, K.In base → base.Ns mainGlobals mg → LamX.TabB base mg cc T → FnG P w K mg base k fa sp) (good : ∀ H : Hp, LamX.TabS H T q → Fz K H a (ns.map V.int) → sp [.ref a] H (fun v _ => v = .bl true) fun _ _ _ => False) :
    codeAny (model P w) callerA (.call (.ref fa) ⟨[.ref a], []⟩) (fun r s' => r = .ok (.ret (.bool true)) ∧ OldK s₁.heap s'.heap ∧ s'.os = s₁.os ∧ AllBare s'.gens) s₁ :=
          by
  have relI := vals_ints hi
  have aT : a ≠ T := fun z => by
    rw [z, hT] at ha
    have := congrArg Obj.data (Option.some.inj ha)
    cases this
  have main : ∀ fz : Option HO, (fz = none ∧ (∃ o, K.lookup a = some o)) ∨ (fz = some (.frz (lstO vs) (.lst (ns.map V.int))) ∧ K.lookup a = none) →
      codeAny (model P w) callerA (.call (.ref fa) ⟨[.ref a], []⟩) (fun r s' => r = .ok (.ret (.bool true)) ∧ OldK s₁.heap s'.heap ∧ s'.os = s₁.os ∧ AllBare s'.gens) s₁ :=
            by
    intro fz hfz
    have atT : atStart a T fz T = some (.tbl #[]) := if_pos rfl
    have atA : atStart a T fz a = fz := (if_neg aT).trans (if_pos rfl)
    have atO : ∀ b, b ≠ T → b ≠ a → atStart a T fz b = none := fun b h1 h2 => (if_neg h1).trans (if_neg h2)
    -- what is neither the table nor the script is not tracked
    have un1 : ∀ {b : Addr} {o : Obj}, s₁.heap.get? b = some o → o.data ≠ .fields #[] → o.data ≠ .seq vs.toArray → atStart a T fz b = none := fun {b o} e h1 h2 => by
      refine atO b (fun z => ?_) fun z => ?_
      · rw [z, hT] at e; cases e; exact h1 rfl
      · rw [z, ha] at e; cases e; exact h2 rfl
    have vis : ∀ {b : Addr} {o : Obj}, s₁.heap.get? b = some o → o.data ≠ .fields #[] → o.data ≠ .seq vs.toArray → (hidT s₁.heap (atStart a T fz)).get? b = some o := fun e h1 h2 => hidT_get e (un1 e h1 h2)
    have nsv : ∀ {b : Addr} {m : Str → Option Value}, s₁.heap.Ns b m → (hidT s₁.heap (atStart a T fz)).Ns b m := fun {b m} h => by
      obtain ⟨o, es, ep, e, d, r⟩ := h
      exact ⟨o, es, ep, vis e (by rw [d]; exact fun z => by cases z) (by rw [d]; exact fun z => by cases z), d, r⟩
    have kin : K.In (hidT s₁.heap (atStart a T fz)) := fun b o e => by
      refine hidT_get (KX b o e) ?_
      by_cases h1 : b = T
      · rw [h1, nT] at e; cases e
      · by_cases h2 : b = a
        · rw [h2, atA]
          rcases hfz with ⟨z, _⟩ | ⟨_, z⟩
          · exact z
          · rw [h2, z] at e; cases e
        · exact atO b h1 h2
    have md : Mod K mg (hidT s₁.heap (atStart a T fz)) := ⟨kin, nsv gN, ⟨mb, nsv bN, bV⟩, by obtain ⟨mc, h1, h2⟩ := lim; exact ⟨mc, nsv h1, h2⟩⟩
    have hok : HOk P w (atStart a T fz) s₁.heap := fun b u e => by
      by_cases h1 : b = T
      · rw [h1, atT] at e
        cases e
        rw [h1]; exact hT
      · by_cases h2 : b = a
        · rw [h2, atA] at e
          rcases hfz with ⟨z, _⟩ | ⟨z, _⟩
          · rw [z] at e; cases e
          · rw [z] at e
            cases e
            rw [h2]
            exact ⟨ha, by rw [List.length_map]; exact hl, vs, _, relI, ha⟩
        · rw [atO b h1 h2] at e; cases e
    have e0 : Env0 P w K mg (hidT s₁.heap (atStart a T fz)) callerA [] s₁ (atStart a T fz) :=
      ⟨rfl, md, fun b o e => of_hidT e, Nat.le_of_eq (hidT_size _ _), trivial, fun b hb => absurd hb (by simp [frs]), hok, .of_eq gens⟩
    have tb : LamX.TabB (hidT s₁.heap (atStart a T fz)) mg cc T := by
      refine ⟨?_, ?_, fun z => ?_⟩
      · obtain ⟨o, us, r1, r2, r3, r4, r5, r6, r7, x1, x2, x3, x⟩ := C
        refine ⟨o, us, r1, r2, r3, r4, r5, r6, r7, vis x1 (fun z => ?_) (fun z => ?_), x2, x3, x⟩
        · rw [x3] at z
          cases z
          have := x.1
          simp at this
        · rw [x3] at z; cases z
      · obtain ⟨m, om, b1, b2, b3, b4, b5, b6⟩ := bm
        refine ⟨m, om, b1, b2, fun z => ?_, fun z => ?_, vis b3 (by rw [b6]; exact fun z => by cases z) (by rw [b6]; exact fun z => by cases z), b4, b5, b6⟩
        · obtain ⟨o, es, ep, e, d, _⟩ := gN
          rw [z, e] at b3
          cases b3
          rw [d] at b6; cases b6
        · rw [z, hT] at b3
          cases b3
          cases b6
      · obtain ⟨o, es, ep, e, d, _⟩ := gN
        rw [z, hT] at e
        cases e
        cases d
    have scr : Fz K (atStart a T fz) a (ns.map V.int) := by
      rcases hfz with ⟨_, o, z⟩ | ⟨z, _⟩
      · have e := KX a o z
        rw [ha] at e
        cases e
        exact .inr ⟨_, vs.toArray, _, z, rfl, rfl, rfl, by rw [List.size_toArray, hi.length]; exact hl, by simpa using relI⟩
      · exact .inl ⟨_, by rw [atA]; exact z⟩
    refine codeAny_mono ((F _ kin (nsv gN) tb).go callerA [] s₁ _ [.ref a] [.ref a] _ _ hr rfl e0 (.cons rfl .nil) (good _ (LamX.TabS.nil atT) scr)) fun r s' h => ?_
    match r, h with
    | .error e, h => exact (cx_never h).elim
    | .ok .next, h => exact False.elim h
    | .ok .brk, h => exact False.elim h
    | .ok .cont, h => exact False.elim h
    | .ok (.ret u), ⟨v, H', os, bare, un, hok', rv, ev⟩ =>
      have ev : v = .bl true := ev
      subst ev
      have eu : u = Value.bool true := rv
      subst eu
      obtain ⟨more, grown⟩ := un.tbls T #[] atT
      have grown := hok' T _ grown
      have stay : ∀ b o, b ≠ T → s₁.heap.get? b = some o → s'.heap.get? b = some o := fun b o nb e => by
        by_cases h2 : b = a
        · rcases hfz with ⟨z, _⟩ | ⟨z, _⟩
          · exact un.keep b o e (by rw [h2, atA]; exact z) (by simp [frs]) (by simp)
          · have k1 := un.frzs a _ _ (atA.trans z)
            obtain ⟨k2, _⟩ := hok' a _ k1
            rw [h2, ha] at e
            cases e
            rw [h2]; exact k2
        · exact un.keep b o e (atO b nb h2) (by simp [frs]) (by simp)
      refine ⟨rfl, ⟨fun b o e =>
            ?_, fun b o e => ?_⟩, os, bare⟩
      · by_cases hb : b = T
        · rw [hb] at e ⊢
          rw [hT] at e
          cases e
          exact .inr (.inl ⟨(C.tab hT).isCodeTable, rfl, #[], _, rfl, grown⟩)
        · exact .inl (stay b o hb e)
      · by_cases hb : b = T
        · rw [hb]; exact ⟨_, grown⟩
        · exact ⟨o, stay b o hb e⟩
  cases hk : K.lookup a with
  | some o => exact main none (.inl ⟨rfl, o, hk⟩)
  | none => exact main _ (.inr ⟨rfl, hk⟩)
/-- the end of a law row: what its def promises suffices -/
theorem law_walk {l : PySem.W.OpenLaw} {n k : Nat} {q : Program} {loose : List Str} {XP : (Str → Option Value) → Heap → Prop} {YP : World → Heap → Prop} {d : DefRec} (hn : l.most = some n) (hz : n ≤ sizeLine) (hd : d.params.defaults = []) (hr : Room k callerA)
    (F : ∀ (w : World) (mg : Str → Option Value) (fa : Addr) (h : Heap), YP w h → h.Ns mainGlobals mg → mg d.name = some (.ref fa) → ∃ (K : PySem.W.Frag) (cc T : Addr) (nm : Str) (sp : Sp), K.In h ∧ h.get? T = some tabO ∧ K.lookup T = none ∧ PySem.W.CodeHd h cc T ∧
      (∀ (H : Hp) (a : Addr) (ns : List Int), ns.length ≤ n → (∀ z ∈ ns, Builtin.Int.intBits z ≤ 1048576) → LamX.TabS H T nm → Fz K H a (ns.map V.int) → sp [.ref a] H (fun v _ => v = .bl true) fun _ _ _ => False) ∧
      ∀ base : Heap, K.In base → base.Ns mainGlobals mg → LamX.TabB base mg cc T → FnG l.prog w K mg base k fa sp) :
    PySem.W.WalkO q loose XP YP l.row.toRowW d [] (fun f vs =>
          PySem.call f vs) := by
  refine Att.attach_callB hn hd fun w s₀ s₁ mg mb fa o pm cd doc a vs ns G Y _ _ _ hm ha hi hl hbits hg => ?_
  obtain ⟨K, cc, T, nm, sp, KX, hT, nT, C, good, hF⟩ := F w mg fa _ Y G.T.g hm
  exact law_end KX G.T.g G.T.b G.T.builtins G.T.nolimit hg hT nT C G.T.bmain ha hi (Nat.le_trans hl hz) hr hF fun H t f => good H a ns hl hbits t f
end Cv
namespace Cv
open L2 PySem PySem.Spec PyProof.Rows

/-! ### what the head's part tells -/
def oexB (K : PySem.W.Frag) (C : Addr) : Bool := match K.lookup C with
  | some ⟨.type "type", _, .cls cd, sl⟩ =>
        (match cd.mro, sl.toList with
    | .ref C' :: bm, [_, _, _, _, some (.builtin n), _] => (C' == C && n == "ValueError.__new__") && (!cd.hasDel && (cd.hasDict && PySem.HandSPX.refsVE bm))
    | _, _ => false)
  | _ => false
theorem oex_cls {K : PySem.W.Frag} {C : Addr} (h : oexB K C = true) : ∃ nm q N bs bm sn sub ab col dd k0 k1 k2 k3 k5, K.lookup C = some (excClassObj nm q C N bs bm true sn sub ab col dd k0 k1 k2 k3 k5 "ValueError.__new__") ∧ PySem.HandSPX.refsVE bm = true := by
  unfold oexB at h
  split at h
  · rename_i dd cd sl ho
    split at h
    · rename_i C' bm k0 k1 k2 k3 n k5 em es
      simp only [Bool.and_eq_true, beq_iff_eq, Bool.not_eq_true'] at h
      obtain ⟨⟨h1, h2⟩, h3, h4, h5⟩ := h
      subst h1 h2
      obtain ⟨nm, bs, mro, nsp, qn, hd, sn, sub, ab, col, del⟩ := cd
      dsimp only at em h3 h4
      subst em h3 h4
      obtain ⟨sll⟩ := sl
      dsimp only at es
      subst es
      exact ⟨_, _, _, _, _, _, _, _, _, _, _, _, _, _, _, ho, h5⟩
    · cases h
  · cases h
def dec (p : Prop) [Decidable p] : Bool := decide p
/-- an own error class x with the fields fs -/
def excB (K : PySem.W.Frag) (x : Str) (fs : List Str) : Bool :=
  decide (PySem.W.nsIn K mainGlobals x = some (some (.ref (He.ga K x)))) && (oexB K (He.ga K x) && (decide (PySem.W.findIn K (.ref (He.ga K x)) "__setattr__" = some (some (.builtin "object.__setattr__"))) && (decide (PySem.W.subIn K (.ref (He.ga K x)) (.type "BaseException") = some true) &&
    (decide (PySem.W.typeIn K (.ref (He.ga K x)) = some (.type "type")) && (PySem.W.keepIn K (.ref (He.ga K x)) && (xfB K (He.ga K x) && (decide (PySem.W.findIn K (.ref (He.ga K x)) "__init__" = some (some (.ref (He.ma K (He.ga K x) "__init__")))) &&
      (decide (PySem.W.typeIn K (.ref (He.ma K (He.ga K x) "__init__")) = some (.type "function")) && fs.all fun f => decide (PySem.W.findIn K (.ref (He.ga K x)) f = some none)))))))))
theorem exc_by {P : Program} {w : World} {K : PySem.W.Frag} {h base : Heap} {mg : Str → Option Value} {x cb q : Str} {fs : List Str} {params : Arguments} {body : List Stmt} {scope : Scope} {fd : FuncData} (KX : K.In h) (N : h.Ns mainGlobals mg) (e : excB K x fs = true) (B : CbOk K mg cb)
    (F : FunD K "__init__" q params body scope [] [] (He.ma K (He.ga K x) "__init__") fd) (h1 : initB cb fs body = true) (h2 : initScB cb fs scope = true) (h3 : fs ≠ []) (h4 : fs.length ≤ 900)
    (hb : ∀ (kV doc pm : Value) (an : Option Addr) (cdv ct : Value) (us : List Value), us.length = ("self" :: fs : List Str).length → bindArgs (PySem.W.fnOf "__init__" q params body scope .none kV doc pm an cdv ct) ⟨us, []⟩ = pure (("self" :: fs : List Str).zip us)) :
    ExcOk P w K mg base x fs (He.ga K x) := by
  unfold excB at e
  simp only [Bool.and_eq_true, decide_eq_true_eq, List.all_eq_true] at e
  obtain ⟨e1, e2, e3, e4, e5, e6, e7, e8, e9, e10⟩ := e
  have T : OexC K (He.ga K x) := ⟨oex_cls e2, e3, e4, e5, e6⟩
  exact ⟨PySem.W.mg_of KX N e1, T, xfB_ok e7, h4, ⟨_, fd, e8, e9, init_ok F T B e10 h1 h2 h3 h4, F.bindsN hb⟩, e10⟩
def cbB (K : PySem.W.Frag) (cb : Str) : Bool := decide (PySem.W.nsIn K mainGlobals cb = some (some (.ref (He.ga K cb)))) && (decide (PySem.W.specialIn K (.ref (He.ga K cb)) "__getattribute__" = some (some (.builtin "type.__getattribute__"))) && (PySem.W.readsIn K (He.ga K cb) (.type "type") &&
  (match PySem.W.findCls K (.ref (He.ga K cb)) (.type "type") "__init__" with
    | some (.val (.builtin n)) => n == "ValueError.__init__"
    | _ => false)))
theorem cb_by {K : PySem.W.Frag} {h : Heap} {mg : Str → Option Value} {cb : Str} (KX : K.In h) (N : h.Ns mainGlobals mg) (e : cbB K cb = true) (nd : (cb == ("__debug__" : Str)) = false) : CbOk K mg cb := by
  unfold cbB at e
  simp only [Bool.and_eq_true, decide_eq_true_eq] at e
  obtain ⟨e1, e2, e3, e4⟩ := e
  refine ⟨⟨_, _, PySem.W.mg_of KX N e1, e2, e3, ?_⟩, nd⟩
  split at e4
  · rename_i n q
    rw [q]
    rw [beq_iff_eq] at e4
    rw [e4]
  · cases e4
/-- the classes of L, told apart -/
def exmB (K : PySem.W.Frag) (L : List Str) : Bool := L.all fun x => decide (PySem.W.nsIn K mainGlobals x = some (some (.ref (He.ga K x)))) && L.all fun y => decide (PySem.W.exmOne K (.ref (He.ga K x)) (.ref (He.ga K y)) = some (decide (x = y)))
def exmF (L : List Str) (x y : Str) : Option Bool := if x ∈ L ∧ y ∈ L then some (decide (x = y)) else none
theorem exm_by {K : PySem.W.Frag} {h : Heap} {mg : Str → Option Value} {L : List Str} (KX : K.In h) (N : h.Ns mainGlobals mg) (e : exmB K L = true) {G : Gc} (hK : G.K = K) (hM : G.mg = mg) : ExOk G (exmF L) := by
  intro x y b C C' q e1 e2
  unfold exmF at q
  split at q
  · rename_i k
    cases q
    have z1 := List.all_eq_true.mp e x k.1
    have z2 := List.all_eq_true.mp e y k.2
    rw [Bool.and_eq_true] at z1 z2
    have w1 := PySem.W.mg_of KX N (of_decide_eq_true z1.1)
    have w2 := PySem.W.mg_of KX N (of_decide_eq_true z2.1)
    rw [hM, w1] at e1
    rw [hM, w2] at e2
    cases e1
    cases e2
    rw [hK]
    exact of_decide_eq_true (List.all_eq_true.mp z1.2 y k.2)
  · cases q
/-- a built-in that the module does not hide; one that it imports -/
def freeB (K : PySem.W.Frag) (x : Str) : Bool := decide (PySem.W.nsIn K mainGlobals x = some none)
theorem free_by {K : PySem.W.Frag} {h : Heap} {mg : Str → Option Value} {x : Str} (KX : K.In h) (N : h.Ns mainGlobals mg) (e : freeB K x = true) : mg x = none := PySem.W.mg_none_of KX N (of_decide_eq_true e)
def isB (K : PySem.W.Frag) (x : Str) (n : String) : Bool := match PySem.W.nsIn K mainGlobals x with
  | some (some (.builtin m)) => m == n
  | _ => false
theorem is_by {K : PySem.W.Frag} {h : Heap} {mg : Str → Option Value} {x : Str} {n : String} (KX : K.In h) (N : h.Ns mainGlobals mg) (e : isB K x n = true) : mg x = some (.builtin n) := by
  unfold isB at e
  split at e
  · rename_i m q
    rw [beq_iff_eq] at e
    rw [e] at q
    exact PySem.W.mg_of KX N q
  · cases e
end Cv
namespace Cv
open L2 PySem PySem.Spec PyProof.Rows
/-- a lambda, made -/
def eLam (q : Str) (z : Arguments × Expr × Scope) : Ev PV := fun _ st => .ok (.loc st.length) (st ++ [.clo q z.1 z.2.1 z.2.2])
/-- the lambdas of a text, from the left -/
def lamsE : Nat → Expr → List (Arguments × Expr × Scope)
  | 0, _ => []
  | n + 1, e => match e with
    | .Lambda pr b sc _ => [(pr, b, sc)]
    | .Call (.Attribute o _ _) as _ _ => lamsE n o ++ as.flatMap (lamsE n)
    | .Call _ as _ _ => as.flatMap (lamsE n)
    | .Tuple es _ _ => es.flatMap (lamsE n)
    | .List es _ => es.flatMap (lamsE n)
    | _ => []
def lamsS : Nat → Stmt → List (Arguments × Expr × Scope)
  | 0, _ => []
  | n + 1, s => match s with
    | .Assign _ v _ => lamsE n v
    | .Expr v _ => lamsE n v
    | .Return (some v) _ => lamsE n v
    | .If _ x y _ => x.flatMap (lamsS n) ++ y.flatMap (lamsS n)
    | .For _ _ x _ _ => x.flatMap (lamsS n)
    | .While _ x _ _ => x.flatMap (lamsS n)
    | _ => []
theorem code_at {K : PySem.W.Frag} {p : He.Defn} {oc : Value} {od : Option Addr} {x qual : Str} {params : Arguments} {body : List Stmt} {scope : Scope} {dV kV doc pm cdv ct : Value} {an : Option Addr} {osl : Array (Option Value)}
    (lk : K.lookup (He.fAd K p) = some ⟨oc, od, .func (PySem.W.fnOf x qual params body scope dV kV doc pm an cdv ct), osl⟩) (hc : PySem.W.codeIn K cdv qual = true) : cdv = .ref (He.cT K p).1 := by
  show cdv = .ref (He.codeOf K p)
  unfold He.codeOf
  rw [lk]
  unfold PySem.W.codeIn at hc
  cases cdv with
  | ref a => rfl
  | _ => cases hc
end Cv
namespace Cv
open PySem PySem.Spec PyProof.Rows L2 He
/-! ### a Hook whose part holds the statics too -/
def partY (g : Addr → Option Obj) (n : Nat) : PySem.W.Frag := frT g (cStatics :: asD g n)
def obY (n : Nat) (fa : List Fa) (fn : List DefD) (tf : List Defn) (ex : PySem.W.Frag → Bool) (g : Addr → Option Obj) : AlX := (obsT fa fn [] (partY g n), ex (partY g n) && tabsB g tf (partY g n))
theorem saysY {n : Nat} {fa : List Fa} {fn : List DefD} {tf : List Defn} {ex : PySem.W.Frag → Bool} {w : World} {h : Heap} (e : obY n fa fn tf ex h.get? = (valT fn [] w, true)) : SaysX fa fn [] tf ex w h (partY h.get? n) := by
  have t := congrArg Prod.fst e
  have b : (ex (partY h.get? n) && tabsB h.get? tf (partY h.get? n)) = true := congrArg Prod.snd e
  rw [Bool.and_eq_true] at b
  have at_ : ∀ p ∈ tf, PySem.W.codeHdIn (partY h.get? n) (cT (partY h.get? n) p).1 (cT (partY h.get? n) p).2 = true ∧ ∃ o, h.get? (cT (partY h.get? n) p).2 = some o ∧ emptyTab o = true := by
    intro p hp
    have z := List.all_eq_true.mp b.2 p hp
    rw [Bool.and_eq_true] at z
    refine ⟨z.1, ?_⟩
    have z2 := z.2
    split at z2
    · rename_i o q
      exact ⟨o, q, z2⟩
    · cases z2
  refine ⟨t, b.1, fun p hp => (at_ p hp).1, fun p hp => ?_, fun p hp => ?_⟩
  · obtain ⟨_, o, q, z⟩ := at_ p hp
    exact frT_none q z
  · obtain ⟨_, o, q, z⟩ := at_ p hp
    rw [q, emptyTab_eq z]
def hookY (n : Nat) (fa : List Fa) (fn : List DefD) (tf : List Defn) (ex : PySem.W.Frag → Bool) : PySem.W.Hook where
  α := AlX
  obs s := obY n fa fn tf ex s.heap.get?
  val w := (valT fn [] w, true)
  says w h := ∃ K : PySem.W.Frag, K.In h ∧ SaysX fa fn [] tf ex w h K
  of _ _ e := ⟨_, frT_in, saysY e⟩
  keeps _ _ _ s k := by
    obtain ⟨K, i, c⟩ := s
    exact ⟨K, i.keeps k, c.t, c.more, c.hd, c.out, fun p hp => k _ _ (c.empty p hp)⟩
theorem obY_eq {n : Nat} {fa : List Fa} {fn : List DefD} {tf : List Defn} {ex : PySem.W.Frag → Bool} {g : Addr → Option Obj} {s : Shared} (h : ∀ a, g a = s.heap.get? a) : obY n fa fn tf ex g = (hookY n fa fn tf ex).obs s := by
  rw [funext h]; rfl
end Cv
namespace Cut
open PySem PySem.Spec PyProof.Rows L2 Cv
/-! ### the text's parts -/
abbrev Pg : Program := PySem.Challenge.pw_cutmoves_k12_turns_and_straight_ways
def top (i : Nat) : Stmt := Pg.main.body.getD i (.Pass ⟨0, 0, 0, 0⟩)
def initOf : Stmt → Stmt
  | .ClassDef (body := b) .. => b.getD 0 (.Pass ⟨0, 0, 0, 0⟩)
  | _ => .Pass ⟨0, 0, 0, 0⟩
def mkD (x : Str) (i : Nat) : He.DefD := ⟨(x, none), x, x, defArgs (top i), defBody (top i), defScope (top i), [], []⟩
def mkI (x q : Str) (i : Nat) : He.DefD := ⟨(x, some "__init__"), "__init__", q, defArgs (initOf (top i)), defBody (initOf (top i)), defScope (initOf (top i)), [], []⟩
def fn : List He.DefD := [mkD "_law_draw" 32, mkD "_law_pick" 33, mkD "_law_bad_point" 53, mkD "lowest" 14, mkD "scaled" 18, mkD "summed" 16, mkD "dot" 23, mkD "lessened" 17, mkD "gap" 21, mkD "cross" 22, mkD "sign_of" 24, mkD "turn_by" 25, mkD "is_between_by" 26, mkD "in_tuples" 9, mkD "is_whole" 8, mkD "is_pair" 12, mkD "is_ratio" 13, mkD "is_tuple_of" 10, mkD "told" 15, mkD "point_from" 20, mkD "is_between" 29, mkD "turn_of" 28, mkD "_law_four_fault" 48, mkD "_law_four_due" 49, mkD "_law_gcd" 34, mkD "_law_q" 35, mkD "_law_ratio" 46, mkD "_law_free_point" 50, mkD "_law_turn" 42, mkD "_law_half_turned" 52, mkD "_law_handed" 40, mkD "_law_handed_row" 41, mkD "_law_minus" 39, mkD "_law_plus" 36, mkD "_law_moved_by" 51, mkD "_law_less" 38, mkD "_law_sorted" 45, mkD "_law_times" 37, mkD "_law_turn_of" 43, mkD "_law_on_edge" 44, mkD "_law_pen" 31, mkD "_law_says" 47, mkD "law" 54, mkI "BadNumber" "BadNumber.__init__" 3, mkI "BadRow" "BadRow.__init__" 4, mkI "BadTable" "BadTable.__init__" 5, mkI "Unlike" "Unlike.__init__" 6]
def fa : List He.Fa := [.glo "_law_draw", .glo "_law_pick", .glo "_law_bad_point", .glo "lowest", .glo "scaled", .glo "summed", .glo "dot", .glo "lessened", .glo "gap", .glo "cross", .glo "sign_of", .glo "turn_by", .glo "is_between_by", .glo "in_tuples", .glo "is_whole", .glo "is_pair", .glo "is_ratio", .glo "is_tuple_of", .glo "told", .glo "point_from", .glo "is_between", .glo "turn_of", .glo "_law_four_fault", .glo "_law_four_due", .glo "_law_gcd", .glo "_law_q", .glo "_law_ratio", .glo "_law_free_point", .glo "_law_turn", .glo "_law_half_turned", .glo "_law_handed", .glo "_law_handed_row", .glo "_law_minus", .glo "_law_plus", .glo "_law_moved_by", .glo "_law_less", .glo "_law_sorted", .glo "_law_times", .glo "_law_turn_of", .glo "_law_on_edge", .glo "_law_pen", .glo "_law_says", .glo "law"]
def loose : List Str := (["BadNumber", "BadRow", "BadTable", "CutError", "Unlike", "_law_bad_point", "_law_draw", "_law_four_due", "_law_four_fault", "_law_free_point", "_law_gcd", "_law_half_turned", "_law_handed", "_law_handed_row", "_law_less", "_law_minus"] : List Str) ++ (["_law_moved_by", "_law_on_edge", "_law_pen", "_law_pick", "_law_plus", "_law_q", "_law_ratio", "_law_says", "_law_sorted", "_law_times", "_law_turn", "_law_turn_of", "cross", "dot", "gap", "gcd"] : List Str) ++ (["in_tuples", "is_between", "is_between_by", "is_pair", "is_ratio", "is_tuple_of", "is_whole", "lessened", "lowest", "point_from", "scaled", "sign_of", "summed", "told", "turn_by", "turn_of"] : List Str)
def errL : List Str := ["BadNumber", "BadRow", "BadTable", "Unlike"]
def exL (K : PySem.W.Frag) : List Bool := [freeB K "len", freeB K "abs", freeB K "int", freeB K "repr", freeB K "isinstance", freeB K "tuple", freeB K "list", freeB K "all", freeB K "any", freeB K "bool", freeB K "str", freeB K "dict", freeB K "float", freeB K "range", freeB K "zip", freeB K "enumerate", isB K "gcd" "math.gcd", excB K "BadNumber" ["what", "number"], excB K "BadRow" ["row"], excB K "BadTable" ["table"], excB K "Unlike" ["what"], cbB K "CutError", exmB K errL]
def exB (K : PySem.W.Frag) : Bool := (exL K).all id
abbrev R : PySem.W.OpenRow := PySem.W.OpenLaw.row PySem.Challenge.rw_cutmoves_k12_turns_and_straight_ways
def tf : List He.Defn := [("law", none)]
abbrev hk : PySem.W.Hook := hookY 5 fa fn tf exB
def ob (s : PySem.W.SharedT) : He.AlX := obY 5 fa fn tf exB (HandSHeadRun.getT s)
theorem ob_eq (s : PySem.W.SharedT) : ob s = hk.obs s.abs := obY_eq (HandSHeadRun.getT_eq s)
theorem run (w : World) : HandSHeadRun.RunEqI R (PySem.W.view R.prog [0, 54]) hk ob 8000 loose w := by
  unfold HandSHeadRun.RunEqI
  kernel_rfl
/-! ### what the head tells -/
structure Says (w : World) (h : Heap) (K : PySem.W.Frag) (mg : Str → Option Value) : Prop where
  KX : K.In h
  N : h.Ns mainGlobals mg
  c : He.SaysX fa fn [] tf exB w h K
section
variable {w : World} {h : Heap} {K : PySem.W.Frag} {mg : Str → Option Value}
theorem Says.ex (S : Says w h K mg) (i : Nat) {b : Bool} (e : (exL K)[i]? = some b) : b = true := List.all_eq_true.mp (show (exL K).all id = true from S.c.more) b (List.mem_of_getElem? e)
theorem Says.no_len (S : Says w h K mg) : mg "len" = none := free_by S.KX S.N (S.ex 0 rfl)
theorem Says.no_abs (S : Says w h K mg) : mg "abs" = none := free_by S.KX S.N (S.ex 1 rfl)
theorem Says.no_int (S : Says w h K mg) : mg "int" = none := free_by S.KX S.N (S.ex 2 rfl)
theorem Says.no_repr (S : Says w h K mg) : mg "repr" = none := free_by S.KX S.N (S.ex 3 rfl)
theorem Says.no_isinstance (S : Says w h K mg) : mg "isinstance" = none := free_by S.KX S.N (S.ex 4 rfl)
theorem Says.no_tuple (S : Says w h K mg) : mg "tuple" = none := free_by S.KX S.N (S.ex 5 rfl)
theorem Says.no_list (S : Says w h K mg) : mg "list" = none := free_by S.KX S.N (S.ex 6 rfl)
theorem Says.no_all (S : Says w h K mg) : mg "all" = none := free_by S.KX S.N (S.ex 7 rfl)
theorem Says.no_any (S : Says w h K mg) : mg "any" = none := free_by S.KX S.N (S.ex 8 rfl)
theorem Says.no_bool (S : Says w h K mg) : mg "bool" = none := free_by S.KX S.N (S.ex 9 rfl)
theorem Says.no_str (S : Says w h K mg) : mg "str" = none := free_by S.KX S.N (S.ex 10 rfl)
theorem Says.no_dict (S : Says w h K mg) : mg "dict" = none := free_by S.KX S.N (S.ex 11 rfl)
theorem Says.no_float (S : Says w h K mg) : mg "float" = none := free_by S.KX S.N (S.ex 12 rfl)
theorem Says.no_range (S : Says w h K mg) : mg "range" = none := free_by S.KX S.N (S.ex 13 rfl)
theorem Says.no_zip (S : Says w h K mg) : mg "zip" = none := free_by S.KX S.N (S.ex 14 rfl)
theorem Says.no_enumerate (S : Says w h K mg) : mg "enumerate" = none := free_by S.KX S.N (S.ex 15 rfl)
theorem Says.im_gcd (S : Says w h K mg) : mg "gcd" = some (.builtin "math.gcd") := is_by S.KX S.N (S.ex 16 rfl)
theorem bt_len : bootBuiltins "len" = some (BI.len).val := by kernel_rfl
theorem bt_abs : bootBuiltins "abs" = some (BI.abs).val := by kernel_rfl
theorem bt_int : bootBuiltins "int" = some (BI.int).val := by kernel_rfl
theorem bt_repr : bootBuiltins "repr" = some (BI.repr).val := by kernel_rfl
theorem bt_isinstance : bootBuiltins "isinstance" = some (BI.isi).val := by kernel_rfl
theorem bt_tuple : bootBuiltins "tuple" = some (BI.tuple).val := by kernel_rfl
theorem bt_list : bootBuiltins "list" = some (BI.list).val := by kernel_rfl
theorem bt_all : bootBuiltins "all" = some (BI.all).val := by kernel_rfl
theorem bt_any : bootBuiltins "any" = some (BI.any).val := by kernel_rfl
theorem bt_bool : bootBuiltins "bool" = some (.type "bool") := by kernel_rfl
theorem bt_str : bootBuiltins "str" = some (.type "str") := by kernel_rfl
theorem bt_dict : bootBuiltins "dict" = some (.type "dict") := by kernel_rfl
theorem bt_float : bootBuiltins "float" = some (.type "float") := by kernel_rfl
theorem Says.cb (S : Says w h K mg) : CbOk K mg "CutError" := cb_by S.KX S.N (S.ex 21 rfl) (by decide +kernel)
theorem Says.exm (S : Says w h K mg) {G : Gc} (hK : G.K = K) (hM : G.mg = mg) : ExOk G (exmF errL) := exm_by S.KX S.N (S.ex 22 rfl) hK hM
theorem Says.exc_BadNumber (S : Says w h K mg) (P : Program) (w' : World) (base : Heap) : ExcOk P w' K mg base "BadNumber" ["what", "number"] (He.ga K "BadNumber") := by
  obtain ⟨fd, F⟩ := S.c.t.d.def_ 43 (d := mkI "BadNumber" "BadNumber.__init__" 3) rfl
  exact exc_by S.KX S.N (S.ex 17 rfl) S.cb F (by kernel_rfl) (by kernel_rfl) (by simp) (by decide) fun _ _ _ _ _ _ us hl => match us, hl with | [_, _, _], _ => rfl
theorem Says.exc_BadRow (S : Says w h K mg) (P : Program) (w' : World) (base : Heap) : ExcOk P w' K mg base "BadRow" ["row"] (He.ga K "BadRow") := by
  obtain ⟨fd, F⟩ := S.c.t.d.def_ 44 (d := mkI "BadRow" "BadRow.__init__" 4) rfl
  exact exc_by S.KX S.N (S.ex 18 rfl) S.cb F (by kernel_rfl) (by kernel_rfl) (by simp) (by decide) fun _ _ _ _ _ _ us hl => match us, hl with | [_, _], _ => rfl
theorem Says.exc_BadTable (S : Says w h K mg) (P : Program) (w' : World) (base : Heap) : ExcOk P w' K mg base "BadTable" ["table"] (He.ga K "BadTable") := by
  obtain ⟨fd, F⟩ := S.c.t.d.def_ 45 (d := mkI "BadTable" "BadTable.__init__" 5) rfl
  exact exc_by S.KX S.N (S.ex 19 rfl) S.cb F (by kernel_rfl) (by kernel_rfl) (by simp) (by decide) fun _ _ _ _ _ _ us hl => match us, hl with | [_, _], _ => rfl
theorem Says.exc_Unlike (S : Says w h K mg) (P : Program) (w' : World) (base : Heap) : ExcOk P w' K mg base "Unlike" ["what"] (He.ga K "Unlike") := by
  obtain ⟨fd, F⟩ := S.c.t.d.def_ 46 (d := mkI "Unlike" "Unlike.__init__" 6) rfl
  exact exc_by S.KX S.N (S.ex 20 rfl) S.cb F (by kernel_rfl) (by kernel_rfl) (by simp) (by decide) fun _ _ _ _ _ _ us hl => match us, hl with | [_, _], _ => rfl
/-! ### the defs -/
theorem gnil {P : Program} {G : Gc} {base : Heap} : ∀ z ∈ ([] : List (Str × GK)), GkOk P w G base z.1 z.2 := fun z hz => absurd hz (by simp)
theorem gcons {P : Program} {G : Gc} {base : Heap} {x : Str} {g : GK} {l : List (Str × GK)} (h1 : GkOk P w G base x g) (h2 : ∀ z ∈ l, GkOk P w G base z.1 z.2) : ∀ z ∈ (x, g) :: l, GkOk P w G base z.1 z.2 := fun z hz => by
  rcases List.mem_cons.mp
        hz with e | hz
  · rw [e]; exact h1
  · exact h2 z hz
theorem gall {P : Program} {G : Gc} {base : Heap} {l : List (Str × GK)} (h : ∀ z ∈ l, GkOk P w G base z.1 z.2) : ∀ x g, (fun x => l.lookup x) x = some g → GkOk P w G base x g := fun x g e => h (x, g) (PySem.mem_of_lookup e)
/-! _law_draw -/
def g__law_draw : List (Str × GK) := [("int", .blt .int), ("len", .blt .len)]
def c__law_draw (cap : Cap) : Cv.Ctx := { N := ["pen", "many", "cell", "digit", "blend"], sc := defScope (top 32), top := true, k := 0, glo := fun x => g__law_draw.lookup x, exm := exmF errL, cap := fun _ => cap, mkr := none }
def f__law_draw (cap : Cap) : Fun' := evDef 40 (c__law_draw cap) 2 (defBody (top 32))
theorem ok__law_draw (S : Says w h K mg) {P : Program} {G : Gc} (hK : G.K = K) (hM : G.mg = mg) (base : Heap) : GkOk P w G base "_law_draw" (.fn 1 f__law_draw) := by
  obtain ⟨fd, F⟩ := S.c.t.d.def_ 0 (d := mkD "_law_draw" 32) rfl
  refine ⟨_, by rw [hM]; exact He.glo_ok S.KX S.N (S.c.t.d.fact 0 (f := .glo "_law_draw") rfl), by rw [hK]; exact F.kp, fun G' base e1 e2 CO => ?_⟩
  rw [hK] at e1
  rw [hM] at e2
  have q := fng_def (P := P) (w := w) (G := G') (base := base) (c := c__law_draw (capOf G')) (ps := ["pen", "many"]) 40 (by rw [e1]; exact F) (by kernel_rfl) rfl (fun dV kV doc pm an cdv ct us h0 hl => by subst h0; exact (match us, hl with | [_, _], _ => rfl)) (gall (gcons (.inl ⟨by rw [e2]; exact S.no_int, bt_int, by decide⟩) (gcons (.inl ⟨by rw [e2]; exact S.no_len, bt_len, by decide⟩) gnil))) (S.exm e1 e2) rfl CO fun _ => rfl
  rw [e1, e2] at q
  rw [hK, hM]
  exact q
def m__law_draw (cap : Cap) : Sv := (sSeq (sPut (two (two (eVar 0) (eCon (.str "count")) idxOp) (eCon (.int 1)) (binOp .add)) (eVar 0) (eCon (.str "count")))
  (sSeq (sIf (eAnd (two (two (eVar 0) (eCon (.str "digits")) idxOp) (eCon (.int 0)) (cmpOp .eq)) (two (two (eVar 0) (eCon (.str "at")) idxOp) (eRow (eCons (two (eVar 0) (eCon (.str "cells")) idxOp) eNil) (bltOp .len)) (cmpOp .lt))) (sSeq (sAsg (two (two (eVar 0) (eCon (.str "cells")) idxOp) (two (eVar 0) (eCon (.str "at")) idxOp) idxOp) (.nm 2))
  (sSeq (sPut (two (two (eVar 0) (eCon (.str "at")) idxOp) (eCon (.int 1)) (binOp .add)) (eVar 0) (eCon (.str "at")))
  (sSeq (sIf (two (eVar 2) (two (eCon (.int 10)) (eCon (.int 18)) (binOp .pow)) (cmpOp .ge)) (sSeq (sPut (two (eVar 2) (two (eCon (.int 10)) (eCon (.int 18)) (binOp .pow)) (binOp .sub)) (eVar 0) (eCon (.str "digits")))
  sNx) (sSeq (sPut (two (eRow (eCons (two (two (two (eVar 0) (eCon (.str "fold")) idxOp) (eCon (.int 31013)) (binOp .mul)) (eVar 2) (binOp .add)) eNil) (bltOp .int)) (eCon (.int 2147482909)) (binOp .mod)) (eVar 0) (eCon (.str "fold")))
  sNx))
  sNx))) sNx)
  (sSeq (sIf (two (two (eVar 0) (eCon (.str "digits")) idxOp) (eCon (.int 0)) (cmpOp .gt)) (sSeq (sAsg (two (eRow (eCons (two (eVar 0) (eCon (.str "digits")) idxOp) eNil) (bltOp .int)) (eVar 1) (binOp .mod)) (.nm 3))
  (sSeq (sPut (two (two (eVar 0) (eCon (.str "digits")) idxOp) (eVar 1) (binOp .fdiv)) (eVar 0) (eCon (.str "digits")))
  (sSeq (sRet (eVar 3))
  sNx))) sNx)
  (sSeq (sAsg (two (two (two (eVar 0) (eCon (.str "fold")) idxOp) (two (two (eVar 0) (eCon (.str "count")) idxOp) (eCon (.int 6317)) (binOp .mul)) (binOp .add)) (eCon (.int 191)) (binOp .add)) (.nm 4))
  (sSeq (sRet (two (two (eRow (eCons (two (two (eVar 4) (eCon (.int 53)) (binOp .pow)) (eCon (.int 2305843009213693951)) (binOp .mod)) eNil) (bltOp .int)) (eCon (.int 2048)) (binOp .fdiv)) (eVar 1) (binOp .mod)))
  sNx)))))
theorem ev__law_draw : f__law_draw = fun cap ps st => if ps.length = 2 ∧ 2 ≤ 5 then endDef (m__law_draw cap (start' 5 ps) st) else .stuck := by kernel_rfl
/-! _law_pick -/
def g__law_pick : List (Str × GK) := [("_law_draw", .fn 1 f__law_draw), ("len", .blt .len)]
def c__law_pick (cap : Cap) : Cv.Ctx := { N := ["pen", "some"], sc := defScope (top 33), top := true, k := 1, glo := fun x => g__law_pick.lookup x, exm := exmF errL, cap := fun _ => cap, mkr := none }
def f__law_pick (cap : Cap) : Fun' := evDef 40 (c__law_pick cap) 2 (defBody (top 33))
theorem ok__law_pick (S : Says w h K mg) {P : Program} {G : Gc} (hK : G.K = K) (hM : G.mg = mg) (base : Heap) : GkOk P w G base "_law_pick" (.fn 2 f__law_pick) := by
  obtain ⟨fd, F⟩ := S.c.t.d.def_ 1 (d := mkD "_law_pick" 33) rfl
  refine ⟨_, by rw [hM]; exact He.glo_ok S.KX S.N (S.c.t.d.fact 1 (f := .glo "_law_pick") rfl), by rw [hK]; exact F.kp, fun G' base e1 e2 CO => ?_⟩
  rw [hK] at e1
  rw [hM] at e2
  have q := fng_def (P := P) (w := w) (G := G') (base := base) (c := c__law_pick (capOf G')) (ps := ["pen", "some"]) 40 (by rw [e1]; exact F) (by kernel_rfl) rfl (fun dV kV doc pm an cdv ct us h0 hl => by subst h0; exact (match us, hl with | [_, _], _ => rfl)) (gall (gcons (ok__law_draw S e1 e2 base) (gcons (.inl ⟨by rw [e2]; exact S.no_len, bt_len, by decide⟩) gnil))) (S.exm e1 e2) rfl CO fun _ => rfl
  rw [e1, e2] at q
  rw [hK, hM]
  exact q
def m__law_pick (cap : Cap) : Sv := (sSeq (sRet (two (eVar 1) (evCallF (eCons (eVar 0) (eCons (eRow (eCons (eVar 1) eNil) (bltOp .len)) eNil)) (fun _ => cap) f__law_draw) idxOp))
  sNx)
theorem ev__law_pick : f__law_pick = fun cap ps st => if ps.length = 2 ∧ 2 ≤ 2 then endDef (m__law_pick cap (start' 2 ps) st) else .stuck := by kernel_rfl
/-! _law_bad_point -/
def g__law_bad_point : List (Str × GK) := [("_law_pick", .fn 2 f__law_pick)]
def c__law_bad_point (cap : Cap) : Cv.Ctx := { N := ["pen"], sc := defScope (top 53), top := true, k := 2, glo := fun x => g__law_bad_point.lookup x, exm := exmF errL, cap := fun _ => cap, mkr := none }
def f__law_bad_point (cap : Cap) : Fun' := evDef 40 (c__law_bad_point cap) 1 (defBody (top 53))
theorem ok__law_bad_point (S : Says w h K mg) {P : Program} {G : Gc} (hK : G.K = K) (hM : G.mg = mg) (base : Heap) : GkOk P w G base "_law_bad_point" (.fn 3 f__law_bad_point) := by
  obtain ⟨fd, F⟩ := S.c.t.d.def_ 2 (d := mkD "_law_bad_point" 53) rfl
  refine ⟨_, by rw [hM]; exact He.glo_ok S.KX S.N (S.c.t.d.fact 2 (f := .glo "_law_bad_point") rfl), by rw [hK]; exact F.kp, fun G' base e1 e2 CO => ?_⟩
  rw [hK] at e1
  rw [hM] at e2
  have q := fng_def (P := P) (w := w) (G := G') (base := base) (c := c__law_bad_point (capOf G')) (ps := ["pen"]) 40 (by rw [e1]; exact F) (by kernel_rfl) rfl (fun dV kV doc pm an cdv ct us h0 hl => by subst h0; exact (match us, hl with | [_], _ => rfl)) (gall (gcons (ok__law_pick S e1 e2 base) gnil)) (S.exm e1 e2) rfl CO fun _ => rfl
  rw [e1, e2] at q
  rw [hK, hM]
  exact q
def m__law_bad_point (cap : Cap) : Sv := (sSeq (sRet (evCallF (eCons (eVar 0) (eCons (eRow (eCons (eCon .non) (eCons (eCon (.int 5)) (eCons (eCon (.str "12")) (eCons (eRow eNil mkTup) (eCons (eRow (eCons (eCon (.int 1)) eNil) mkTup) (eCons (eRow (eCons (eCon (.int 1)) (eCons (eCon (.int 2)) (eCons (eCon (.int 3)) eNil))) mkTup) (eCons (eRow (eCons (eCon (.str "1")) (eCons (eCon (.str "2")) eNil)) mkTup) (eCons (eRow (eCons (eCon (.bl true)) (eCons (eCon (.int 2)) eNil)) mkTup) (eCons (eRow (eCons (eRow (eCons (eCon (.int 1)) (eCons (eCon (.int 0)) eNil)) mkTup) (eCons (eCon (.int 2)) eNil)) mkTup) (eCons (eRow (eCons (eCon .non) (eCons (eCon (.int 1)) eNil)) mkTup) eNil)))))))))) mkLst) eNil)) (fun _ => cap) f__law_pick))
  sNx)
theorem ev__law_bad_point : f__law_bad_point = fun cap ps st => if ps.length = 1 ∧ 1 ≤ 1 then endDef (m__law_bad_point cap (start' 1 ps) st) else .stuck := by kernel_rfl
/-! lowest -/
def g_lowest : List (Str × GK) := [("gcd", .blt .gcd)]
def c_lowest (cap : Cap) : Cv.Ctx := { N := ["top", "bottom", "by"], sc := defScope (top 14), top := true, k := 0, glo := fun x => g_lowest.lookup x, exm := exmF errL, cap := fun _ => cap, mkr := none }
def f_lowest (cap : Cap) : Fun' := evDef 40 (c_lowest cap) 2 (defBody (top 14))
theorem ok_lowest (S : Says w h K mg) {P : Program} {G : Gc} (hK : G.K = K) (hM : G.mg = mg) (base : Heap) : GkOk P w G base "lowest" (.fn 1 f_lowest) := by
  obtain ⟨fd, F⟩ := S.c.t.d.def_ 3 (d := mkD "lowest" 14) rfl
  refine ⟨_, by rw [hM]; exact He.glo_ok S.KX S.N (S.c.t.d.fact 3 (f := .glo "lowest") rfl), by rw [hK]; exact F.kp, fun G' base e1 e2 CO => ?_⟩
  rw [hK] at e1
  rw [hM] at e2
  have q := fng_def (P := P) (w := w) (G := G') (base := base) (c := c_lowest (capOf G')) (ps := ["top", "bottom"]) 40 (by rw [e1]; exact F) (by kernel_rfl) rfl (fun dV kV doc pm an cdv ct us h0 hl => by subst h0; exact (match us, hl with | [_, _], _ => rfl)) (gall (gcons (.inr (by rw [e2]; exact S.im_gcd)) gnil)) (S.exm e1 e2) rfl CO fun _ => rfl
  rw [e1, e2] at q
  rw [hK, hM]
  exact q
def m_lowest (cap : Cap) : Sv := (sSeq (sAsg (eIte (two (eVar 1) (eCon (.int 0)) (cmpOp .gt)) (eRow (eCons (eVar 0) (eCons (eVar 1) eNil)) (bltOp .gcd)) (one (eRow (eCons (eVar 0) (eCons (eVar 1) eNil)) (bltOp .gcd)) negOp)) (.nm 2))
  (sSeq (sRet (eRow (eCons (two (eVar 0) (eVar 2) (binOp .fdiv)) (eCons (two (eVar 1) (eVar 2) (binOp .fdiv)) eNil)) mkTup))
  sNx))
theorem ev_lowest : f_lowest = fun cap ps st => if ps.length = 2 ∧ 2 ≤ 3 then endDef (m_lowest cap (start' 3 ps) st) else .stuck := by kernel_rfl
/-! scaled -/
def g_scaled : List (Str × GK) := [("lowest", .fn 1 f_lowest)]
def c_scaled (cap : Cap) : Cv.Ctx := { N := ["one", "other"], sc := defScope (top 18), top := true, k := 1, glo := fun x => g_scaled.lookup x, exm := exmF errL, cap := fun _ => cap, mkr := none }
def f_scaled (cap : Cap) : Fun' := evDef 40 (c_scaled cap) 2 (defBody (top 18))
theorem ok_scaled (S : Says w h K mg) {P : Program} {G : Gc} (hK : G.K = K) (hM : G.mg = mg) (base : Heap) : GkOk P w G base "scaled" (.fn 2 f_scaled) := by
  obtain ⟨fd, F⟩ := S.c.t.d.def_ 4 (d := mkD "scaled" 18) rfl
  refine ⟨_, by rw [hM]; exact He.glo_ok S.KX S.N (S.c.t.d.fact 4 (f := .glo "scaled") rfl), by rw [hK]; exact F.kp, fun G' base e1 e2 CO => ?_⟩
  rw [hK] at e1
  rw [hM] at e2
  have q := fng_def (P := P) (w := w) (G := G') (base := base) (c := c_scaled (capOf G')) (ps := ["one", "other"]) 40 (by rw [e1]; exact F) (by kernel_rfl) rfl (fun dV kV doc pm an cdv ct us h0 hl => by subst h0; exact (match us, hl with | [_, _], _ => rfl)) (gall (gcons (ok_lowest S e1 e2 base) gnil)) (S.exm e1 e2) rfl CO fun _ => rfl
  rw [e1, e2] at q
  rw [hK, hM]
  exact q
def m_scaled (cap : Cap) : Sv := (sSeq (sRet (evCallF (eCons (two (two (eVar 0) (eCon (.int 0)) idxOp) (two (eVar 1) (eCon (.int 0)) idxOp) (binOp .mul)) (eCons (two (two (eVar 0) (eCon (.int 1)) idxOp) (two (eVar 1) (eCon (.int 1)) idxOp) (binOp .mul)) eNil)) (fun _ => cap) f_lowest))
  sNx)
theorem ev_scaled : f_scaled = fun cap ps st => if ps.length = 2 ∧ 2 ≤ 2 then endDef (m_scaled cap (start' 2 ps) st) else .stuck := by kernel_rfl
/-! summed -/
def g_summed : List (Str × GK) := [("lowest", .fn 1 f_lowest)]
def c_summed (cap : Cap) : Cv.Ctx := { N := ["one", "other"], sc := defScope (top 16), top := true, k := 1, glo := fun x => g_summed.lookup x, exm := exmF errL, cap := fun _ => cap, mkr := none }
def f_summed (cap : Cap) : Fun' := evDef 40 (c_summed cap) 2 (defBody (top 16))
theorem ok_summed (S : Says w h K mg) {P : Program} {G : Gc} (hK : G.K = K) (hM : G.mg = mg) (base : Heap) : GkOk P w G base "summed" (.fn 2 f_summed) := by
  obtain ⟨fd, F⟩ := S.c.t.d.def_ 5 (d := mkD "summed" 16) rfl
  refine ⟨_, by rw [hM]; exact He.glo_ok S.KX S.N (S.c.t.d.fact 5 (f := .glo "summed") rfl), by rw [hK]; exact F.kp, fun G' base e1 e2 CO => ?_⟩
  rw [hK] at e1
  rw [hM] at e2
  have q := fng_def (P := P) (w := w) (G := G') (base := base) (c := c_summed (capOf G')) (ps := ["one", "other"]) 40 (by rw [e1]; exact F) (by kernel_rfl) rfl (fun dV kV doc pm an cdv ct us h0 hl => by subst h0; exact (match us, hl with | [_, _], _ => rfl)) (gall (gcons (ok_lowest S e1 e2 base) gnil)) (S.exm e1 e2) rfl CO fun _ => rfl
  rw [e1, e2] at q
  rw [hK, hM]
  exact q
def m_summed (cap : Cap) : Sv := (sSeq (sRet (evCallF (eCons (two (two (two (eVar 0) (eCon (.int 0)) idxOp) (two (eVar 1) (eCon (.int 1)) idxOp) (binOp .mul)) (two (two (eVar 1) (eCon (.int 0)) idxOp) (two (eVar 0) (eCon (.int 1)) idxOp) (binOp .mul)) (binOp .add)) (eCons (two (two (eVar 0) (eCon (.int 1)) idxOp) (two (eVar 1) (eCon (.int 1)) idxOp) (binOp .mul)) eNil)) (fun _ => cap) f_lowest))
  sNx)
theorem ev_summed : f_summed = fun cap ps st => if ps.length = 2 ∧ 2 ≤ 2 then endDef (m_summed cap (start' 2 ps) st) else .stuck := by kernel_rfl
/-! dot -/
def g_dot : List (Str × GK) := [("scaled", .fn 2 f_scaled), ("summed", .fn 2 f_summed)]
def c_dot (cap : Cap) : Cv.Ctx := { N := ["one", "other"], sc := defScope (top 23), top := true, k := 2, glo := fun x => g_dot.lookup x, exm := exmF errL, cap := fun _ => cap, mkr := none }
def f_dot (cap : Cap) : Fun' := evDef 40 (c_dot cap) 2 (defBody (top 23))
theorem ok_dot (S : Says w h K mg) {P : Program} {G : Gc} (hK : G.K = K) (hM : G.mg = mg) (base : Heap) : GkOk P w G base "dot" (.fn 3 f_dot) := by
  obtain ⟨fd, F⟩ := S.c.t.d.def_ 6 (d := mkD "dot" 23) rfl
  refine ⟨_, by rw [hM]; exact He.glo_ok S.KX S.N (S.c.t.d.fact 6 (f := .glo "dot") rfl), by rw [hK]; exact F.kp, fun G' base e1 e2 CO => ?_⟩
  rw [hK] at e1
  rw [hM] at e2
  have q := fng_def (P := P) (w := w) (G := G') (base := base) (c := c_dot (capOf G')) (ps := ["one", "other"]) 40 (by rw [e1]; exact F) (by kernel_rfl) rfl (fun dV kV doc pm an cdv ct us h0 hl => by subst h0; exact (match us, hl with | [_, _], _ => rfl)) (gall (gcons (ok_scaled S e1 e2 base) (gcons (ok_summed S e1 e2 base) gnil))) (S.exm e1 e2) rfl CO fun _ => rfl
  rw [e1, e2] at q
  rw [hK, hM]
  exact q
def m_dot (cap : Cap) : Sv := (sSeq (sRet (evCallF (eCons (evCallF (eCons (two (eVar 0) (eCon (.int 0)) idxOp) (eCons (two (eVar 1) (eCon (.int 0)) idxOp) eNil)) (fun _ => cap) f_scaled) (eCons (evCallF (eCons (two (eVar 0) (eCon (.int 1)) idxOp) (eCons (two (eVar 1) (eCon (.int 1)) idxOp) eNil)) (fun _ => cap) f_scaled) eNil)) (fun _ => cap) f_summed))
  sNx)
theorem ev_dot : f_dot = fun cap ps st => if ps.length = 2 ∧ 2 ≤ 2 then endDef (m_dot cap (start' 2 ps) st) else .stuck := by kernel_rfl
/-! lessened -/
def g_lessened : List (Str × GK) := [("lowest", .fn 1 f_lowest)]
def c_lessened (cap : Cap) : Cv.Ctx := { N := ["one", "other"], sc := defScope (top 17), top := true, k := 1, glo := fun x => g_lessened.lookup x, exm := exmF errL, cap := fun _ => cap, mkr := none }
def f_lessened (cap : Cap) : Fun' := evDef 40 (c_lessened cap) 2 (defBody (top 17))
theorem ok_lessened (S : Says w h K mg) {P : Program} {G : Gc} (hK : G.K = K) (hM : G.mg = mg) (base : Heap) : GkOk P w G base "lessened" (.fn 2 f_lessened) := by
  obtain ⟨fd, F⟩ := S.c.t.d.def_ 7 (d := mkD "lessened" 17) rfl
  refine ⟨_, by rw [hM]; exact He.glo_ok S.KX S.N (S.c.t.d.fact 7 (f := .glo "lessened") rfl), by rw [hK]; exact F.kp, fun G' base e1 e2 CO => ?_⟩
  rw [hK] at e1
  rw [hM] at e2
  have q := fng_def (P := P) (w := w) (G := G') (base := base) (c := c_lessened (capOf G')) (ps := ["one", "other"]) 40 (by rw [e1]; exact F) (by kernel_rfl) rfl (fun dV kV doc pm an cdv ct us h0 hl => by subst h0; exact (match us, hl with | [_, _], _ => rfl)) (gall (gcons (ok_lowest S e1 e2 base) gnil)) (S.exm e1 e2) rfl CO fun _ => rfl
  rw [e1, e2] at q
  rw [hK, hM]
  exact q
def m_lessened (cap : Cap) : Sv := (sSeq (sRet (evCallF (eCons (two (two (two (eVar 0) (eCon (.int 0)) idxOp) (two (eVar 1) (eCon (.int 1)) idxOp) (binOp .mul)) (two (two (eVar 1) (eCon (.int 0)) idxOp) (two (eVar 0) (eCon (.int 1)) idxOp) (binOp .mul)) (binOp .sub)) (eCons (two (two (eVar 0) (eCon (.int 1)) idxOp) (two (eVar 1) (eCon (.int 1)) idxOp) (binOp .mul)) eNil)) (fun _ => cap) f_lowest))
  sNx)
theorem ev_lessened : f_lessened = fun cap ps st => if ps.length = 2 ∧ 2 ≤ 2 then endDef (m_lessened cap (start' 2 ps) st) else .stuck := by kernel_rfl
/-! gap -/
def g_gap : List (Str × GK) := [("lessened", .fn 2 f_lessened)]
def c_gap (cap : Cap) : Cv.Ctx := { N := ["one", "other"], sc := defScope (top 21), top := true, k := 2, glo := fun x => g_gap.lookup x, exm := exmF errL, cap := fun _ => cap, mkr := none }
def f_gap (cap : Cap) : Fun' := evDef 40 (c_gap cap) 2 (defBody (top 21))
theorem ok_gap (S : Says w h K mg) {P : Program} {G : Gc} (hK : G.K = K) (hM : G.mg = mg) (base : Heap) : GkOk P w G base "gap" (.fn 3 f_gap) := by
  obtain ⟨fd, F⟩ := S.c.t.d.def_ 8 (d := mkD "gap" 21) rfl
  refine ⟨_, by rw [hM]; exact He.glo_ok S.KX S.N (S.c.t.d.fact 8 (f := .glo "gap") rfl), by rw [hK]; exact F.kp, fun G' base e1 e2 CO => ?_⟩
  rw [hK] at e1
  rw [hM] at e2
  have q := fng_def (P := P) (w := w) (G := G') (base := base) (c := c_gap (capOf G')) (ps := ["one", "other"]) 40 (by rw [e1]; exact F) (by kernel_rfl) rfl (fun dV kV doc pm an cdv ct us h0 hl => by subst h0; exact (match us, hl with | [_, _], _ => rfl)) (gall (gcons (ok_lessened S e1 e2 base) gnil)) (S.exm e1 e2) rfl CO fun _ => rfl
  rw [e1, e2] at q
  rw [hK, hM]
  exact q
def m_gap (cap : Cap) : Sv := (sSeq (sRet (eRow (eCons (evCallF (eCons (two (eVar 0) (eCon (.int 0)) idxOp) (eCons (two (eVar 1) (eCon (.int 0)) idxOp) eNil)) (fun _ => cap) f_lessened) (eCons (evCallF (eCons (two (eVar 0) (eCon (.int 1)) idxOp) (eCons (two (eVar 1) (eCon (.int 1)) idxOp) eNil)) (fun _ => cap) f_lessened) eNil)) mkTup))
  sNx)
theorem ev_gap : f_gap = fun cap ps st => if ps.length = 2 ∧ 2 ≤ 2 then endDef (m_gap cap (start' 2 ps) st) else .stuck := by kernel_rfl
/-! cross -/
def g_cross : List (Str × GK) := [("lessened", .fn 2 f_lessened), ("scaled", .fn 2 f_scaled)]
def c_cross (cap : Cap) : Cv.Ctx := { N := ["one", "other"], sc := defScope (top 22), top := true, k := 2, glo := fun x => g_cross.lookup x, exm := exmF errL, cap := fun _ => cap, mkr := none }
def f_cross (cap : Cap) : Fun' := evDef 40 (c_cross cap) 2 (defBody (top 22))
theorem ok_cross (S : Says w h K mg) {P : Program} {G : Gc} (hK : G.K = K) (hM : G.mg = mg) (base : Heap) : GkOk P w G base "cross" (.fn 3 f_cross) := by
  obtain ⟨fd, F⟩ := S.c.t.d.def_ 9 (d := mkD "cross" 22) rfl
  refine ⟨_, by rw [hM]; exact He.glo_ok S.KX S.N (S.c.t.d.fact 9 (f := .glo "cross") rfl), by rw [hK]; exact F.kp, fun G' base e1 e2 CO => ?_⟩
  rw [hK] at e1
  rw [hM] at e2
  have q := fng_def (P := P) (w := w) (G := G') (base := base) (c := c_cross (capOf G')) (ps := ["one", "other"]) 40 (by rw [e1]; exact F) (by kernel_rfl) rfl (fun dV kV doc pm an cdv ct us h0 hl => by subst h0; exact (match us, hl with | [_, _], _ => rfl)) (gall (gcons (ok_lessened S e1 e2 base) (gcons (ok_scaled S e1 e2 base) gnil))) (S.exm e1 e2) rfl CO fun _ => rfl
  rw [e1, e2] at q
  rw [hK, hM]
  exact q
def m_cross (cap : Cap) : Sv := (sSeq (sRet (evCallF (eCons (evCallF (eCons (two (eVar 0) (eCon (.int 0)) idxOp) (eCons (two (eVar 1) (eCon (.int 1)) idxOp) eNil)) (fun _ => cap) f_scaled) (eCons (evCallF (eCons (two (eVar 0) (eCon (.int 1)) idxOp) (eCons (two (eVar 1) (eCon (.int 0)) idxOp) eNil)) (fun _ => cap) f_scaled) eNil)) (fun _ => cap) f_lessened))
  sNx)
theorem ev_cross : f_cross = fun cap ps st => if ps.length = 2 ∧ 2 ≤ 2 then endDef (m_cross cap (start' 2 ps) st) else .stuck := by kernel_rfl
/-! sign_of -/
def g_sign_of : List (Str × GK) := []
def c_sign_of (cap : Cap) : Cv.Ctx := { N := ["item"], sc := defScope (top 24), top := true, k := 0, glo := fun x => g_sign_of.lookup x, exm := exmF errL, cap := fun _ => cap, mkr := none }
def f_sign_of (cap : Cap) : Fun' := evDef 40 (c_sign_of cap) 1 (defBody (top 24))
theorem ok_sign_of (S : Says w h K mg) {P : Program} {G : Gc} (hK : G.K = K) (hM : G.mg = mg) (base : Heap) : GkOk P w G base "sign_of" (.fn 1 f_sign_of) := by
  obtain ⟨fd, F⟩ := S.c.t.d.def_ 10 (d := mkD "sign_of" 24) rfl
  refine ⟨_, by rw [hM]; exact He.glo_ok S.KX S.N (S.c.t.d.fact 10 (f := .glo "sign_of") rfl), by rw [hK]; exact F.kp, fun G' base e1 e2 CO => ?_⟩
  rw [hK] at e1
  rw [hM] at e2
  have q := fng_def (P := P) (w := w) (G := G') (base := base) (c := c_sign_of (capOf G')) (ps := ["item"]) 40 (by rw [e1]; exact F) (by kernel_rfl) rfl (fun dV kV doc pm an cdv ct us h0 hl => by subst h0; exact (match us, hl with | [_], _ => rfl)) (gall gnil) (S.exm e1 e2) rfl CO fun _ => rfl
  rw [e1, e2] at q
  rw [hK, hM]
  exact q
def m_sign_of (cap : Cap) : Sv := (sSeq (sRet (eIte (two (two (eVar 0) (eCon (.int 0)) idxOp) (eCon (.int 0)) (cmpOp .eq)) (eCon (.int 0)) (eIte (two (two (eVar 0) (eCon (.int 0)) idxOp) (eCon (.int 0)) (cmpOp .gt)) (eCon (.int 1)) (one (eCon (.int 1)) negOp))))
  sNx)
theorem ev_sign_of : f_sign_of = fun cap ps st => if ps.length = 1 ∧ 1 ≤ 1 then endDef (m_sign_of cap (start' 1 ps) st) else .stuck := by kernel_rfl
/-! turn_by -/
def g_turn_by : List (Str × GK) := [("cross", .fn 3 f_cross), ("gap", .fn 3 f_gap), ("sign_of", .fn 1 f_sign_of)]
def c_turn_by (cap : Cap) : Cv.Ctx := { N := ["one", "other", "point"], sc := defScope (top 25), top := true, k := 3, glo := fun x => g_turn_by.lookup x, exm := exmF errL, cap := fun _ => cap, mkr := none }
def f_turn_by (cap : Cap) : Fun' := evDef 40 (c_turn_by cap) 3 (defBody (top 25))
theorem ok_turn_by (S : Says w h K mg) {P : Program} {G : Gc} (hK : G.K = K) (hM : G.mg = mg) (base : Heap) : GkOk P w G base "turn_by" (.fn 4 f_turn_by) := by
  obtain ⟨fd, F⟩ := S.c.t.d.def_ 11 (d := mkD "turn_by" 25) rfl
  refine ⟨_, by rw [hM]; exact He.glo_ok S.KX S.N (S.c.t.d.fact 11 (f := .glo "turn_by") rfl), by rw [hK]; exact F.kp, fun G' base e1 e2 CO => ?_⟩
  rw [hK] at e1
  rw [hM] at e2
  have q := fng_def (P := P) (w := w) (G := G') (base := base) (c := c_turn_by (capOf G')) (ps := ["one", "other", "point"]) 40 (by rw [e1]; exact F) (by kernel_rfl) rfl (fun dV kV doc pm an cdv ct us h0 hl => by subst h0; exact (match us, hl with | [_, _, _], _ => rfl)) (gall (gcons (ok_cross S e1 e2 base) (gcons (ok_gap S e1 e2 base) (gcons (ok_sign_of S e1 e2 base) gnil)))) (S.exm e1 e2) rfl CO fun _ => rfl
  rw [e1, e2] at q
  rw [hK, hM]
  exact q
def m_turn_by (cap : Cap) : Sv := (sSeq (sRet (evCallF (eCons (evCallF (eCons (evCallF (eCons (eVar 1) (eCons (eVar 0) eNil)) (fun _ => cap) f_gap) (eCons (evCallF (eCons (eVar 2) (eCons (eVar 0) eNil)) (fun _ => cap) f_gap) eNil)) (fun _ => cap) f_cross) eNil) (fun _ => cap) f_sign_of))
  sNx)
theorem ev_turn_by : f_turn_by = fun cap ps st => if ps.length = 3 ∧ 3 ≤ 3 then endDef (m_turn_by cap (start' 3 ps) st) else .stuck := by kernel_rfl
/-! is_between_by -/
def g_is_between_by : List (Str × GK) := [("dot", .fn 3 f_dot), ("gap", .fn 3 f_gap), ("turn_by", .fn 4 f_turn_by)]
def c_is_between_by (cap : Cap) : Cv.Ctx := { N := ["one", "other", "point"], sc := defScope (top 26), top := true, k := 4, glo := fun x => g_is_between_by.lookup x, exm := exmF errL, cap := fun _ => cap, mkr := none }
def f_is_between_by (cap : Cap) : Fun' := evDef 40 (c_is_between_by cap) 3 (defBody (top 26))
theorem ok_is_between_by (S : Says w h K mg) {P : Program} {G : Gc} (hK : G.K = K) (hM : G.mg = mg) (base : Heap) : GkOk P w G base "is_between_by" (.fn 5 f_is_between_by) := by
  obtain ⟨fd, F⟩ := S.c.t.d.def_ 12 (d := mkD "is_between_by" 26) rfl
  refine ⟨_, by rw [hM]; exact He.glo_ok S.KX S.N (S.c.t.d.fact 12 (f := .glo "is_between_by") rfl), by rw [hK]; exact F.kp, fun G' base e1 e2 CO => ?_⟩
  rw [hK] at e1
  rw [hM] at e2
  have q := fng_def (P := P) (w := w) (G := G') (base := base) (c := c_is_between_by (capOf G')) (ps := ["one", "other", "point"]) 40 (by rw [e1]; exact F) (by kernel_rfl) rfl (fun dV kV doc pm an cdv ct us h0 hl => by subst h0; exact (match us, hl with | [_, _, _], _ => rfl)) (gall (gcons (ok_dot S e1 e2 base) (gcons (ok_gap S e1 e2 base) (gcons (ok_turn_by S e1 e2 base) gnil)))) (S.exm e1 e2) rfl CO fun _ => rfl
  rw [e1, e2] at q
  rw [hK, hM]
  exact q
def m_is_between_by (cap : Cap) : Sv := (sSeq (sRet (eAnd (two (evCallF (eCons (eVar 0) (eCons (eVar 1) (eCons (eVar 2) eNil))) (fun _ => cap) f_turn_by) (eCon (.int 0)) (cmpOp .eq)) (two (two (evCallF (eCons (evCallF (eCons (eVar 2) (eCons (eVar 0) eNil)) (fun _ => cap) f_gap) (eCons (evCallF (eCons (eVar 2) (eCons (eVar 1) eNil)) (fun _ => cap) f_gap) eNil)) (fun _ => cap) f_dot) (eCon (.int 0)) idxOp) (eCon (.int 0)) (cmpOp .le))))
  sNx)
theorem ev_is_between_by : f_is_between_by = fun cap ps st => if ps.length = 3 ∧ 3 ≤ 3 then endDef (m_is_between_by cap (start' 3 ps) st) else .stuck := by kernel_rfl
/-! in_tuples -/
def g_in_tuples_0 : List (Str × GK) := [("isinstance", .blt .isi), ("list", .blt .list), ("tuple", .blt .tuple)]
def c_in_tuples_0 (cap : Cap) : Cv.Ctx := { N := ["value", "item"], sc := defScope (top 9), top := true, k := 0, glo := fun x => g_in_tuples_0.lookup x, exm := exmF errL, cap := fun _ => cap, mkr := none }
def f_in_tuples_0 (cap : Cap) : Fun' := evDef 40 (c_in_tuples_0 cap) 1 (defBody (top 9))
theorem ok_in_tuples_0 (S : Says w h K mg) {P : Program} {G : Gc} (hK : G.K = K) (hM : G.mg = mg) (base : Heap) : GkOk P w G base "in_tuples" (.fn 1 f_in_tuples_0) := by
  obtain ⟨fd, F⟩ := S.c.t.d.def_ 13 (d := mkD "in_tuples" 9) rfl
  refine ⟨_, by rw [hM]; exact He.glo_ok S.KX S.N (S.c.t.d.fact 13 (f := .glo "in_tuples") rfl), by rw [hK]; exact F.kp, fun G' base e1 e2 CO => ?_⟩
  rw [hK] at e1
  rw [hM] at e2
  have q := fng_def (P := P) (w := w) (G := G') (base := base) (c := c_in_tuples_0 (capOf G')) (ps := ["value"]) 40 (by rw [e1]; exact F) (by kernel_rfl) rfl (fun dV kV doc pm an cdv ct us h0 hl => by subst h0; exact (match us, hl with | [_], _ => rfl)) (gall (gcons (.inl ⟨by rw [e2]; exact S.no_isinstance, bt_isinstance, by decide⟩) (gcons (.inl ⟨by rw [e2]; exact S.no_list, bt_list, by decide⟩) (gcons (.inl ⟨by rw [e2]; exact S.no_tuple, bt_tuple, by decide⟩) gnil)))) (S.exm e1 e2) rfl CO fun _ => rfl
  rw [e1, e2] at q
  rw [hK, hM]
  exact q
def m_in_tuples_0 (cap : Cap) : Sv := (sSeq (sIf (one (eRow (eCons (eVar 0) (eCons (eRow (eCons (eCon (.ty "tuple")) (eCons (eCon (.ty "list")) eNil)) mkTup) eNil)) (bltOp .isi)) notOp) (sSeq (sRet (eVar 0))
  sNx) sNx)
  (sSeq (sRet (eRow (eCons (eLc noSt (.nm 1) (fun _ st => .ok true st) (iSeq (eVar 0)) [1]) eNil) (bltOp .tuple)))
  sNx))
theorem ev_in_tuples_0 : f_in_tuples_0 = fun cap ps st => if ps.length = 1 ∧ 1 ≤ 2 then endDef (m_in_tuples_0 cap (start' 2 ps) st) else .stuck := by kernel_rfl
def g_in_tuples_1 : List (Str × GK) := [("in_tuples", .fn 1 f_in_tuples_0), ("isinstance", .blt .isi), ("list", .blt .list), ("tuple", .blt .tuple)]
def c_in_tuples_1 (cap : Cap) : Cv.Ctx := { N := ["value", "item"], sc := defScope (top 9), top := true, k := 1, glo := fun x => g_in_tuples_1.lookup x, exm := exmF errL, cap := fun _ => cap, mkr := none }
def f_in_tuples_1 (cap : Cap) : Fun' := evDef 40 (c_in_tuples_1 cap) 1 (defBody (top 9))
theorem ok_in_tuples_1 (S : Says w h K mg) {P : Program} {G : Gc} (hK : G.K = K) (hM : G.mg = mg) (base : Heap) : GkOk P w G base "in_tuples" (.fn 2 f_in_tuples_1) := by
  obtain ⟨fd, F⟩ := S.c.t.d.def_ 13 (d := mkD "in_tuples" 9) rfl
  refine ⟨_, by rw [hM]; exact He.glo_ok S.KX S.N (S.c.t.d.fact 13 (f := .glo "in_tuples") rfl), by rw [hK]; exact F.kp, fun G' base e1 e2 CO => ?_⟩
  rw [hK] at e1
  rw [hM] at e2
  have q := fng_def (P := P) (w := w) (G := G') (base := base) (c := c_in_tuples_1 (capOf G')) (ps := ["value"]) 40 (by rw [e1]; exact F) (by kernel_rfl) rfl (fun dV kV doc pm an cdv ct us h0 hl => by subst h0; exact (match us, hl with | [_], _ => rfl)) (gall (gcons (ok_in_tuples_0 S e1 e2 base) (gcons (.inl ⟨by rw [e2]; exact S.no_isinstance, bt_isinstance, by decide⟩) (gcons (.inl ⟨by rw [e2]; exact S.no_list, bt_list, by decide⟩) (gcons (.inl ⟨by rw [e2]; exact S.no_tuple, bt_tuple, by decide⟩) gnil))))) (S.exm e1 e2) rfl CO fun _ => rfl
  rw [e1, e2] at q
  rw [hK, hM]
  exact q
def m_in_tuples_1 (cap : Cap) : Sv := (sSeq (sIf (one (eRow (eCons (eVar 0) (eCons (eRow (eCons (eCon (.ty "tuple")) (eCons (eCon (.ty "list")) eNil)) mkTup) eNil)) (bltOp .isi)) notOp) (sSeq (sRet (eVar 0))
  sNx) sNx)
  (sSeq (sRet (eRow (eCons (eLc (evCallF (eCons (eVar 1) eNil) (fun _ => cap) f_in_tuples_0) (.nm 1) (fun _ st => .ok true st) (iSeq (eVar 0)) [1]) eNil) (bltOp .tuple)))
  sNx))
theorem ev_in_tuples_1 : f_in_tuples_1 = fun cap ps st => if ps.length = 1 ∧ 1 ≤ 2 then endDef (m_in_tuples_1 cap (start' 2 ps) st) else .stuck := by kernel_rfl
def g_in_tuples : List (Str × GK) := [("in_tuples", .fn 2 f_in_tuples_1), ("isinstance", .blt .isi), ("list", .blt .list), ("tuple", .blt .tuple)]
def c_in_tuples (cap : Cap) : Cv.Ctx := { N := ["value", "item"], sc := defScope (top 9), top := true, k := 2, glo := fun x => g_in_tuples.lookup x, exm := exmF errL, cap := fun _ => cap, mkr := none }
def f_in_tuples (cap : Cap) : Fun' := evDef 40 (c_in_tuples cap) 1 (defBody (top 9))
theorem ok_in_tuples (S : Says w h K mg) {P : Program} {G : Gc} (hK : G.K = K) (hM : G.mg = mg) (base : Heap) : GkOk P w G base "in_tuples" (.fn 3 f_in_tuples) := by
  obtain ⟨fd, F⟩ := S.c.t.d.def_ 13 (d := mkD "in_tuples" 9) rfl
  refine ⟨_, by rw [hM]; exact He.glo_ok S.KX S.N (S.c.t.d.fact 13 (f := .glo "in_tuples") rfl), by rw [hK]; exact F.kp, fun G' base e1 e2 CO => ?_⟩
  rw [hK] at e1
  rw [hM] at e2
  have q := fng_def (P := P) (w := w) (G := G') (base := base) (c := c_in_tuples (capOf G')) (ps := ["value"]) 40 (by rw [e1]; exact F) (by kernel_rfl) rfl (fun dV kV doc pm an cdv ct us h0 hl => by subst h0; exact (match us, hl with | [_], _ => rfl)) (gall (gcons (ok_in_tuples_1 S e1 e2 base) (gcons (.inl ⟨by rw [e2]; exact S.no_isinstance, bt_isinstance, by decide⟩) (gcons (.inl ⟨by rw [e2]; exact S.no_list, bt_list, by decide⟩) (gcons (.inl ⟨by rw [e2]; exact S.no_tuple, bt_tuple, by decide⟩) gnil))))) (S.exm e1 e2) rfl CO fun _ => rfl
  rw [e1, e2] at q
  rw [hK, hM]
  exact q
def m_in_tuples (cap : Cap) : Sv := (sSeq (sIf (one (eRow (eCons (eVar 0) (eCons (eRow (eCons (eCon (.ty "tuple")) (eCons (eCon (.ty "list")) eNil)) mkTup) eNil)) (bltOp .isi)) notOp) (sSeq (sRet (eVar 0))
  sNx) sNx)
  (sSeq (sRet (eRow (eCons (eLc (evCallF (eCons (eVar 1) eNil) (fun _ => cap) f_in_tuples_1) (.nm 1) (fun _ st => .ok true st) (iSeq (eVar 0)) [1]) eNil) (bltOp .tuple)))
  sNx))
theorem ev_in_tuples : f_in_tuples = fun cap ps st => if ps.length = 1 ∧ 1 ≤ 2 then endDef (m_in_tuples cap (start' 2 ps) st) else .stuck := by kernel_rfl
/-! is_whole -/
def g_is_whole : List (Str × GK) := [("bool", .ty "bool"), ("int", .blt .int), ("isinstance", .blt .isi)]
def c_is_whole (cap : Cap) : Cv.Ctx := { N := ["value"], sc := defScope (top 8), top := true, k := 0, glo := fun x => g_is_whole.lookup x, exm := exmF errL, cap := fun _ => cap, mkr := none }
def f_is_whole (cap : Cap) : Fun' := evDef 40 (c_is_whole cap) 1 (defBody (top 8))
theorem ok_is_whole (S : Says w h K mg) {P : Program} {G : Gc} (hK : G.K = K) (hM : G.mg = mg) (base : Heap) : GkOk P w G base "is_whole" (.fn 1 f_is_whole) := by
  obtain ⟨fd, F⟩ := S.c.t.d.def_ 14 (d := mkD "is_whole" 8) rfl
  refine ⟨_, by rw [hM]; exact He.glo_ok S.KX S.N (S.c.t.d.fact 14 (f := .glo "is_whole") rfl), by rw [hK]; exact F.kp, fun G' base e1 e2 CO => ?_⟩
  rw [hK] at e1
  rw [hM] at e2
  have q := fng_def (P := P) (w := w) (G := G') (base := base) (c := c_is_whole (capOf G')) (ps := ["value"]) 40 (by rw [e1]; exact F) (by kernel_rfl) rfl (fun dV kV doc pm an cdv ct us h0 hl => by subst h0; exact (match us, hl with | [_], _ => rfl)) (gall (gcons ⟨by rw [e2]; exact S.no_bool, bt_bool, by decide⟩ (gcons (.inl ⟨by rw [e2]; exact S.no_int, bt_int, by decide⟩) (gcons (.inl ⟨by rw [e2]; exact S.no_isinstance, bt_isinstance, by decide⟩) gnil)))) (S.exm e1 e2) rfl CO fun _ => rfl
  rw [e1, e2] at q
  rw [hK, hM]
  exact q
def m_is_whole (cap : Cap) : Sv := (sSeq (sRet (eAnd (eRow (eCons (eVar 0) (eCons (eCon (.ty "int")) eNil)) (bltOp .isi)) (one (eRow (eCons (eVar 0) (eCons (eCon (.ty "bool")) eNil)) (bltOp .isi)) notOp)))
  sNx)
theorem ev_is_whole : f_is_whole = fun cap ps st => if ps.length = 1 ∧ 1 ≤ 1 then endDef (m_is_whole cap (start' 1 ps) st) else .stuck := by kernel_rfl
/-! is_pair -/
def g_is_pair : List (Str × GK) := [("is_whole", .fn 1 f_is_whole), ("isinstance", .blt .isi), ("len", .blt .len), ("list", .blt .list), ("tuple", .blt .tuple)]
def c_is_pair (cap : Cap) : Cv.Ctx := { N := ["value"], sc := defScope (top 12), top := true, k := 1, glo := fun x => g_is_pair.lookup x, exm := exmF errL, cap := fun _ => cap, mkr := none }
def f_is_pair (cap : Cap) : Fun' := evDef 40 (c_is_pair cap) 1 (defBody (top 12))
theorem ok_is_pair (S : Says w h K mg) {P : Program} {G : Gc} (hK : G.K = K) (hM : G.mg = mg) (base : Heap) : GkOk P w G base "is_pair" (.fn 2 f_is_pair) := by
  obtain ⟨fd, F⟩ := S.c.t.d.def_ 15 (d := mkD "is_pair" 12) rfl
  refine ⟨_, by rw [hM]; exact He.glo_ok S.KX S.N (S.c.t.d.fact 15 (f := .glo "is_pair") rfl), by rw [hK]; exact F.kp, fun G' base e1 e2 CO => ?_⟩
  rw [hK] at e1
  rw [hM] at e2
  have q := fng_def (P := P) (w := w) (G := G') (base := base) (c := c_is_pair (capOf G')) (ps := ["value"]) 40 (by rw [e1]; exact F) (by kernel_rfl) rfl (fun dV kV doc pm an cdv ct us h0 hl => by subst h0; exact (match us, hl with | [_], _ => rfl)) (gall (gcons (ok_is_whole S e1 e2 base) (gcons (.inl ⟨by rw [e2]; exact S.no_isinstance, bt_isinstance, by decide⟩) (gcons (.inl ⟨by rw [e2]; exact S.no_len, bt_len, by decide⟩) (gcons (.inl ⟨by rw [e2]; exact S.no_list, bt_list, by decide⟩) (gcons (.inl ⟨by rw [e2]; exact S.no_tuple, bt_tuple, by decide⟩) gnil)))))) (S.exm e1 e2) rfl CO fun _ => rfl
  rw [e1, e2] at q
  rw [hK, hM]
  exact q
def m_is_pair (cap : Cap) : Sv := (sSeq (sIf (eOr (one (eRow (eCons (eVar 0) (eCons (eRow (eCons (eCon (.ty "tuple")) (eCons (eCon (.ty "list")) eNil)) mkTup) eNil)) (bltOp .isi)) notOp) (two (eRow (eCons (eVar 0) eNil) (bltOp .len)) (eCon (.int 2)) (cmpOp .ne))) (sSeq (sRet (eCon (.bl false)))
  sNx) sNx)
  (sSeq (sRet (eAnd (evCallF (eCons (two (eVar 0) (eCon (.int 0)) idxOp) eNil) (fun _ => cap) f_is_whole) (eAnd (evCallF (eCons (two (eVar 0) (eCon (.int 1)) idxOp) eNil) (fun _ => cap) f_is_whole) (two (two (eVar 0) (eCon (.int 1)) idxOp) (eCon (.int 0)) (cmpOp .gt)))))
  sNx))
theorem ev_is_pair : f_is_pair = fun cap ps st => if ps.length = 1 ∧ 1 ≤ 1 then endDef (m_is_pair cap (start' 1 ps) st) else .stuck := by kernel_rfl
/-! is_ratio -/
def g_is_ratio : List (Str × GK) := [("is_pair", .fn 2 f_is_pair), ("is_whole", .fn 1 f_is_whole), ("isinstance", .blt .isi), ("tuple", .blt .tuple)]
def c_is_ratio (cap : Cap) : Cv.Ctx := { N := ["value"], sc := defScope (top 13), top := true, k := 2, glo := fun x => g_is_ratio.lookup x, exm := exmF errL, cap := fun _ => cap, mkr := none }
def f_is_ratio (cap : Cap) : Fun' := evDef 40 (c_is_ratio cap) 1 (defBody (top 13))
theorem ok_is_ratio (S : Says w h K mg) {P : Program} {G : Gc} (hK : G.K = K) (hM : G.mg = mg) (base : Heap) : GkOk P w G base "is_ratio" (.fn 3 f_is_ratio) := by
  obtain ⟨fd, F⟩ := S.c.t.d.def_ 16 (d := mkD "is_ratio" 13) rfl
  refine ⟨_, by rw [hM]; exact He.glo_ok S.KX S.N (S.c.t.d.fact 16 (f := .glo "is_ratio") rfl), by rw [hK]; exact F.kp, fun G' base e1 e2 CO => ?_⟩
  rw [hK] at e1
  rw [hM] at e2
  have q := fng_def (P := P) (w := w) (G := G') (base := base) (c := c_is_ratio (capOf G')) (ps := ["value"]) 40 (by rw [e1]; exact F) (by kernel_rfl) rfl (fun dV kV doc pm an cdv ct us h0 hl => by subst h0; exact (match us, hl with | [_], _ => rfl)) (gall (gcons (ok_is_pair S e1 e2 base) (gcons (ok_is_whole S e1 e2 base) (gcons (.inl ⟨by rw [e2]; exact S.no_isinstance, bt_isinstance, by decide⟩) (gcons (.inl ⟨by rw [e2]; exact S.no_tuple, bt_tuple, by decide⟩) gnil))))) (S.exm e1 e2) rfl CO fun _ => rfl
  rw [e1, e2] at q
  rw [hK, hM]
  exact q
def m_is_ratio (cap : Cap) : Sv := (sSeq (sRet (eOr (evCallF (eCons (eVar 0) eNil) (fun _ => cap) f_is_whole) (eAnd (eRow (eCons (eVar 0) (eCons (eCon (.ty "tuple")) eNil)) (bltOp .isi)) (evCallF (eCons (eVar 0) eNil) (fun _ => cap) f_is_pair))))
  sNx)
theorem ev_is_ratio : f_is_ratio = fun cap ps st => if ps.length = 1 ∧ 1 ≤ 1 then endDef (m_is_ratio cap (start' 1 ps) st) else .stuck := by kernel_rfl
/-! is_tuple_of -/
def g_is_tuple_of : List (Str × GK) := [("isinstance", .blt .isi), ("len", .blt .len), ("tuple", .blt .tuple)]
def c_is_tuple_of (cap : Cap) : Cv.Ctx := { N := ["value", "many"], sc := defScope (top 10), top := true, k := 0, glo := fun x => g_is_tuple_of.lookup x, exm := exmF errL, cap := fun _ => cap, mkr := none }
def f_is_tuple_of (cap : Cap) : Fun' := evDef 40 (c_is_tuple_of cap) 2 (defBody (top 10))
theorem ok_is_tuple_of (S : Says w h K mg) {P : Program} {G : Gc} (hK : G.K = K) (hM : G.mg = mg) (base : Heap) : GkOk P w G base "is_tuple_of" (.fn 1 f_is_tuple_of) := by
  obtain ⟨fd, F⟩ := S.c.t.d.def_ 17 (d := mkD "is_tuple_of" 10) rfl
  refine ⟨_, by rw [hM]; exact He.glo_ok S.KX S.N (S.c.t.d.fact 17 (f := .glo "is_tuple_of") rfl), by rw [hK]; exact F.kp, fun G' base e1 e2 CO => ?_⟩
  rw [hK] at e1
  rw [hM] at e2
  have q := fng_def (P := P) (w := w) (G := G') (base := base) (c := c_is_tuple_of (capOf G')) (ps := ["value", "many"]) 40 (by rw [e1]; exact F) (by kernel_rfl) rfl (fun dV kV doc pm an cdv ct us h0 hl => by subst h0; exact (match us, hl with | [_, _], _ => rfl)) (gall (gcons (.inl ⟨by rw [e2]; exact S.no_isinstance, bt_isinstance, by decide⟩) (gcons (.inl ⟨by rw [e2]; exact S.no_len, bt_len, by decide⟩) (gcons (.inl ⟨by rw [e2]; exact S.no_tuple, bt_tuple, by decide⟩) gnil)))) (S.exm e1 e2) rfl CO fun _ => rfl
  rw [e1, e2] at q
  rw [hK, hM]
  exact q
def m_is_tuple_of (cap : Cap) : Sv := (sSeq (sRet (eAnd (eRow (eCons (eVar 0) (eCons (eCon (.ty "tuple")) eNil)) (bltOp .isi)) (two (eRow (eCons (eVar 0) eNil) (bltOp .len)) (eVar 1) (cmpOp .eq))))
  sNx)
theorem ev_is_tuple_of : f_is_tuple_of = fun cap ps st => if ps.length = 2 ∧ 2 ≤ 2 then endDef (m_is_tuple_of cap (start' 2 ps) st) else .stuck := by kernel_rfl
/-! told -/
def g_told : List (Str × GK) := [("BadRow", .exc ["row"]), ("is_pair", .fn 2 f_is_pair), ("is_whole", .fn 1 f_is_whole), ("lowest", .fn 1 f_lowest)]
def c_told (cap : Cap) : Cv.Ctx := { N := ["ratio"], sc := defScope (top 15), top := true, k := 2, glo := fun x => g_told.lookup x, exm := exmF errL, cap := fun _ => cap, mkr := none }
def f_told (cap : Cap) : Fun' := evDef 40 (c_told cap) 1 (defBody (top 15))
theorem ok_told (S : Says w h K mg) {P : Program} {G : Gc} (hK : G.K = K) (hM : G.mg = mg) (base : Heap) : GkOk P w G base "told" (.fn 3 f_told) := by
  obtain ⟨fd, F⟩ := S.c.t.d.def_ 18 (d := mkD "told" 15) rfl
  refine ⟨_, by rw [hM]; exact He.glo_ok S.KX S.N (S.c.t.d.fact 18 (f := .glo "told") rfl), by rw [hK]; exact F.kp, fun G' base e1 e2 CO => ?_⟩
  rw [hK] at e1
  rw [hM] at e2
  have q := fng_def (P := P) (w := w) (G := G') (base := base) (c := c_told (capOf G')) (ps := ["ratio"]) 40 (by rw [e1]; exact F) (by kernel_rfl) rfl (fun dV kV doc pm an cdv ct us h0 hl => by subst h0; exact (match us, hl with | [_], _ => rfl)) (gall (gcons ⟨_, by rw [e1, e2]; exact S.exc_BadRow P w base⟩ (gcons (ok_is_pair S e1 e2 base) (gcons (ok_is_whole S e1 e2 base) (gcons (ok_lowest S e1 e2 base) gnil))))) (S.exm e1 e2) rfl CO fun _ => rfl
  rw [e1, e2] at q
  rw [hK, hM]
  exact q
def m_told (cap : Cap) : Sv := (sSeq (sIf (evCallF (eCons (eVar 0) eNil) (fun _ => cap) f_is_whole) (sSeq (sRet (eRow (eCons (eVar 0) (eCons (eCon (.int 1)) eNil)) mkTup))
  sNx) sNx)
  (sSeq (sIf (one (evCallF (eCons (eVar 0) eNil) (fun _ => cap) f_is_pair) notOp) (sSeq (sRaise "BadRow" ["row"] (eCons (eVar 0) eNil))
  sNx) sNx)
  (sSeq (sRet (evCallF (eCons (two (eVar 0) (eCon (.int 0)) idxOp) (eCons (two (eVar 0) (eCon (.int 1)) idxOp) eNil)) (fun _ => cap) f_lowest))
  sNx)))
theorem ev_told : f_told = fun cap ps st => if ps.length = 1 ∧ 1 ≤ 1 then endDef (m_told cap (start' 1 ps) st) else .stuck := by kernel_rfl
/-! point_from -/
def g_point_from : List (Str × GK) := [("BadRow", .exc ["row"]), ("all", .blt .all), ("in_tuples", .fn 3 f_in_tuples), ("is_ratio", .fn 3 f_is_ratio), ("is_tuple_of", .fn 1 f_is_tuple_of), ("told", .fn 3 f_told), ("tuple", .blt .tuple)]
def c_point_from (cap : Cap) : Cv.Ctx := { N := ["value", "made", "item"], sc := defScope (top 20), top := true, k := 3, glo := fun x => g_point_from.lookup x, exm := exmF errL, cap := fun _ => cap, mkr := none }
def f_point_from (cap : Cap) : Fun' := evDef 40 (c_point_from cap) 1 (defBody (top 20))
theorem ok_point_from (S : Says w h K mg) {P : Program} {G : Gc} (hK : G.K = K) (hM : G.mg = mg) (base : Heap) : GkOk P w G base "point_from" (.fn 4 f_point_from) := by
  obtain ⟨fd, F⟩ := S.c.t.d.def_ 19 (d := mkD "point_from" 20) rfl
  refine ⟨_, by rw [hM]; exact He.glo_ok S.KX S.N (S.c.t.d.fact 19 (f := .glo "point_from") rfl), by rw [hK]; exact F.kp, fun G' base e1 e2 CO => ?_⟩
  rw [hK] at e1
  rw [hM] at e2
  have q := fng_def (P := P) (w := w) (G := G') (base := base) (c := c_point_from (capOf G')) (ps := ["value"]) 40 (by rw [e1]; exact F) (by kernel_rfl) rfl (fun dV kV doc pm an cdv ct us h0 hl => by subst h0; exact (match us, hl with | [_], _ => rfl)) (gall (gcons ⟨_, by rw [e1, e2]; exact S.exc_BadRow P w base⟩ (gcons (.inl ⟨by rw [e2]; exact S.no_all, bt_all, by decide⟩) (gcons (ok_in_tuples S e1 e2 base) (gcons (ok_is_ratio S e1 e2 base) (gcons (ok_is_tuple_of S e1 e2 base) (gcons (ok_told S e1 e2 base) (gcons (.inl ⟨by rw [e2]; exact S.no_tuple, bt_tuple, by decide⟩) gnil)))))))) (S.exm e1 e2) rfl CO fun _ => rfl
  rw [e1, e2] at q
  rw [hK, hM]
  exact q
def m_point_from (cap : Cap) : Sv := (sSeq (sAsg (evCallF (eCons (eVar 0) eNil) (fun _ => cap) f_in_tuples) (.nm 1))
  (sSeq (sIf (eOr (one (evCallF (eCons (eVar 1) (eCons (eCon (.int 2)) eNil)) (fun _ => cap) f_is_tuple_of) notOp) (one (eRow (eCons (eLc (evCallF (eCons (eVar 2) eNil) (fun _ => cap) f_is_ratio) (.nm 2) (fun _ st => .ok true st) (iSeq (eVar 1)) [2]) eNil) (bltOp .all)) notOp)) (sSeq (sRaise "BadRow" ["row"] (eCons (eVar 0) eNil))
  sNx) sNx)
  (sSeq (sRet (eRow (eCons (eLc (evCallF (eCons (eVar 2) eNil) (fun _ => cap) f_told) (.nm 2) (fun _ st => .ok true st) (iSeq (eVar 1)) [2]) eNil) (bltOp .tuple)))
  sNx)))
theorem ev_point_from : f_point_from = fun cap ps st => if ps.length = 1 ∧ 1 ≤ 3 then endDef (m_point_from cap (start' 3 ps) st) else .stuck := by kernel_rfl
/-! is_between -/
def g_is_between : List (Str × GK) := [("is_between_by", .fn 5 f_is_between_by), ("point_from", .fn 4 f_point_from)]
def c_is_between (cap : Cap) : Cv.Ctx := { N := ["one", "other", "point", "first", "second"], sc := defScope (top 29), top := true, k := 5, glo := fun x => g_is_between.lookup x, exm := exmF errL, cap := fun _ => cap, mkr := none }
def f_is_between (cap : Cap) : Fun' := evDef 40 (c_is_between cap) 3 (defBody (top 29))
theorem ok_is_between (S : Says w h K mg) {P : Program} {G : Gc} (hK : G.K = K) (hM : G.mg = mg) (base : Heap) : GkOk P w G base "is_between" (.fn 6 f_is_between) := by
  obtain ⟨fd, F⟩ := S.c.t.d.def_ 20 (d := mkD "is_between" 29) rfl
  refine ⟨_, by rw [hM]; exact He.glo_ok S.KX S.N (S.c.t.d.fact 20 (f := .glo "is_between") rfl), by rw [hK]; exact F.kp, fun G' base e1 e2 CO => ?_⟩
  rw [hK] at e1
  rw [hM] at e2
  have q := fng_def (P := P) (w := w) (G := G') (base := base) (c := c_is_between (capOf G')) (ps := ["one", "other", "point"]) 40 (by rw [e1]; exact F) (by kernel_rfl) rfl (fun dV kV doc pm an cdv ct us h0 hl => by subst h0; exact (match us, hl with | [_, _, _], _ => rfl)) (gall (gcons (ok_is_between_by S e1 e2 base) (gcons (ok_point_from S e1 e2 base) gnil))) (S.exm e1 e2) rfl CO fun _ => rfl
  rw [e1, e2] at q
  rw [hK, hM]
  exact q
def m_is_between (cap : Cap) : Sv := (sSeq (sAsg (evCallF (eCons (eVar 0) eNil) (fun _ => cap) f_point_from) (.nm 3))
  (sSeq (sAsg (evCallF (eCons (eVar 1) eNil) (fun _ => cap) f_point_from) (.nm 4))
  (sSeq (sRet (evCallF (eCons (eVar 3) (eCons (eVar 4) (eCons (evCallF (eCons (eVar 2) eNil) (fun _ => cap) f_point_from) eNil))) (fun _ => cap) f_is_between_by))
  sNx)))
theorem ev_is_between : f_is_between = fun cap ps st => if ps.length = 3 ∧ 3 ≤ 5 then endDef (m_is_between cap (start' 5 ps) st) else .stuck := by kernel_rfl
/-! turn_of -/
def g_turn_of : List (Str × GK) := [("point_from", .fn 4 f_point_from), ("turn_by", .fn 4 f_turn_by)]
def c_turn_of (cap : Cap) : Cv.Ctx := { N := ["one", "other", "point", "first", "second"], sc := defScope (top 28), top := true, k := 4, glo := fun x => g_turn_of.lookup x, exm := exmF errL, cap := fun _ => cap, mkr := none }
def f_turn_of (cap : Cap) : Fun' := evDef 40 (c_turn_of cap) 3 (defBody (top 28))
theorem ok_turn_of (S : Says w h K mg) {P : Program} {G : Gc} (hK : G.K = K) (hM : G.mg = mg) (base : Heap) : GkOk P w G base "turn_of" (.fn 5 f_turn_of) := by
  obtain ⟨fd, F⟩ := S.c.t.d.def_ 21 (d := mkD "turn_of" 28) rfl
  refine ⟨_, by rw [hM]; exact He.glo_ok S.KX S.N (S.c.t.d.fact 21 (f := .glo "turn_of") rfl), by rw [hK]; exact F.kp, fun G' base e1 e2 CO => ?_⟩
  rw [hK] at e1
  rw [hM] at e2
  have q := fng_def (P := P) (w := w) (G := G') (base := base) (c := c_turn_of (capOf G')) (ps := ["one", "other", "point"]) 40 (by rw [e1]; exact F) (by kernel_rfl) rfl (fun dV kV doc pm an cdv ct us h0 hl => by subst h0; exact (match us, hl with | [_, _, _], _ => rfl)) (gall (gcons (ok_point_from S e1 e2 base) (gcons (ok_turn_by S e1 e2 base) gnil))) (S.exm e1 e2) rfl CO fun _ => rfl
  rw [e1, e2] at q
  rw [hK, hM]
  exact q
def m_turn_of (cap : Cap) : Sv := (sSeq (sAsg (evCallF (eCons (eVar 0) eNil) (fun _ => cap) f_point_from) (.nm 3))
  (sSeq (sAsg (evCallF (eCons (eVar 1) eNil) (fun _ => cap) f_point_from) (.nm 4))
  (sSeq (sRet (evCallF (eCons (eVar 3) (eCons (eVar 4) (eCons (evCallF (eCons (eVar 2) eNil) (fun _ => cap) f_point_from) eNil))) (fun _ => cap) f_turn_by))
  sNx)))
theorem ev_turn_of : f_turn_of = fun cap ps st => if ps.length = 3 ∧ 3 ≤ 5 then endDef (m_turn_of cap (start' 5 ps) st) else .stuck := by kernel_rfl
/-! _law_four_fault -/
def g__law_four_fault : List (Str × GK) := [("BadNumber", .exc ["what", "number"]), ("BadRow", .exc ["row"]), ("BadTable", .exc ["table"]), ("Unlike", .exc ["what"]), ("is_between", .fn 6 f_is_between), ("turn_of", .fn 5 f_turn_of)]
def c__law_four_fault (cap : Cap) : Cv.Ctx := { N := ["action", "error"], sc := defScope (top 48), top := true, k := 7, glo := fun x => g__law_four_fault.lookup x, exm := exmF errL, cap := fun _ => cap, mkr := none }
def f__law_four_fault (cap : Cap) : Fun' := evDef 40 (c__law_four_fault cap) 1 (defBody (top 48))
theorem ok__law_four_fault (S : Says w h K mg) {P : Program} {G : Gc} (hK : G.K = K) (hM : G.mg = mg) (base : Heap) : GkOk P w G base "_law_four_fault" (.fn 8 f__law_four_fault) := by
  obtain ⟨fd, F⟩ := S.c.t.d.def_ 22 (d := mkD "_law_four_fault" 48) rfl
  refine ⟨_, by rw [hM]; exact He.glo_ok S.KX S.N (S.c.t.d.fact 22 (f := .glo "_law_four_fault") rfl), by rw [hK]; exact F.kp, fun G' base e1 e2 CO => ?_⟩
  rw [hK] at e1
  rw [hM] at e2
  have q := fng_def (P := P) (w := w) (G := G') (base := base) (c := c__law_four_fault (capOf G')) (ps := ["action"]) 40 (by rw [e1]; exact F) (by kernel_rfl) rfl (fun dV kV doc pm an cdv ct us h0 hl => by subst h0; exact (match us, hl with | [_], _ => rfl)) (gall (gcons ⟨_, by rw [e1, e2]; exact S.exc_BadNumber P w base⟩ (gcons ⟨_, by rw [e1, e2]; exact S.exc_BadRow P w base⟩ (gcons ⟨_, by rw [e1, e2]; exact S.exc_BadTable P w base⟩ (gcons ⟨_, by rw [e1, e2]; exact S.exc_Unlike P w base⟩ (gcons (ok_is_between S e1 e2 base) (gcons (ok_turn_of S e1 e2 base) gnil))))))) (S.exm e1 e2) rfl CO fun _ => rfl
  rw [e1, e2] at q
  rw [hK, hM]
  exact q
def m__law_four_fault (cap : Cap) : Sv := (sSeq (sTry (exmF errL) (sSeq (sExp (evCallV (evE 39) (c__law_four_fault cap) "action"))
  (sSeq (sRet (eCon .non))
  sNx)) [("BadNumber", 1, [.con "number", .fld "what", .fld "number"]), ("BadRow", 1, [.con "row", .fld "row"]), ("BadTable", 1, [.con "table", .fld "table"]), ("Unlike", 1, [.con "unlike", .fld "what"])])
  sNx)
theorem ev__law_four_fault : f__law_four_fault = fun cap ps st => if ps.length = 1 ∧ 1 ≤ 2 then endDef (m__law_four_fault cap (start' 2 ps) st) else .stuck := by kernel_rfl
/-! _law_four_due -/
def g__law_four_due : List (Str × GK) := [("_law_four_fault", .fn 8 f__law_four_fault), ("all", .blt .all), ("repr", .blt .repr)]
def c__law_four_due (cap : Cap) : Cv.Ctx := { N := ["tries", "action", "due"], sc := defScope (top 49), top := true, k := 8, glo := fun x => g__law_four_due.lookup x, exm := exmF errL, cap := fun _ => cap, mkr := none }
def f__law_four_due (cap : Cap) : Fun' := evDef 40 (c__law_four_due cap) 1 (defBody (top 49))
theorem ok__law_four_due (S : Says w h K mg) {P : Program} {G : Gc} (hK : G.K = K) (hM : G.mg = mg) (base : Heap) : GkOk P w G base "_law_four_due" (.fn 9 f__law_four_due) := by
  obtain ⟨fd, F⟩ := S.c.t.d.def_ 23 (d := mkD "_law_four_due" 49) rfl
  refine ⟨_, by rw [hM]; exact He.glo_ok S.KX S.N (S.c.t.d.fact 23 (f := .glo "_law_four_due") rfl), by rw [hK]; exact F.kp, fun G' base e1 e2 CO => ?_⟩
  rw [hK] at e1
  rw [hM] at e2
  have q := fng_def (P := P) (w := w) (G := G') (base := base) (c := c__law_four_due (capOf G')) (ps := ["tries"]) 40 (by rw [e1]; exact F) (by kernel_rfl) rfl (fun dV kV doc pm an cdv ct us h0 hl => by subst h0; exact (match us, hl with | [_], _ => rfl)) (gall (gcons (ok__law_four_fault S e1 e2 base) (gcons (.inl ⟨by rw [e2]; exact S.no_all, bt_all, by decide⟩) (gcons (.inl ⟨by rw [e2]; exact S.no_repr, bt_repr, by decide⟩) gnil)))) (S.exm e1 e2) rfl CO fun _ => rfl
  rw [e1, e2] at q
  rw [hK, hM]
  exact q
def m__law_four_due (cap : Cap) : Sv := (sSeq (sRet (eRow (eCons (eLc (two (eRow (eCons (evCallF (eCons (eVar 1) eNil) (fun _ => cap) f__law_four_fault) eNil) (bltOp .repr)) (eRow (eCons (eVar 2) eNil) (bltOp .repr)) (cmpOp .eq)) (.tup [(.nm 1), (.nm 2)]) (fun _ st => .ok true st) (iSeq (eVar 0)) [1, 2]) eNil) (bltOp .all)))
  sNx)
theorem ev__law_four_due : f__law_four_due = fun cap ps st => if ps.length = 1 ∧ 1 ≤ 3 then endDef (m__law_four_due cap (start' 3 ps) st) else .stuck := by kernel_rfl
/-! _law_gcd -/
def g__law_gcd : List (Str × GK) := [("abs", .blt .abs), ("int", .blt .int), ("range", .rng)]
def c__law_gcd (cap : Cap) : Cv.Ctx := { N := ["one", "two", "lap"], sc := defScope (top 34), top := true, k := 0, glo := fun x => g__law_gcd.lookup x, exm := exmF errL, cap := fun _ => cap, mkr := none }
def f__law_gcd (cap : Cap) : Fun' := evDef 40 (c__law_gcd cap) 2 (defBody (top 34))
theorem ok__law_gcd (S : Says w h K mg) {P : Program} {G : Gc} (hK : G.K = K) (hM : G.mg = mg) (base : Heap) : GkOk P w G base "_law_gcd" (.fn 1 f__law_gcd) := by
  obtain ⟨fd, F⟩ := S.c.t.d.def_ 24 (d := mkD "_law_gcd" 34) rfl
  refine ⟨_, by rw [hM]; exact He.glo_ok S.KX S.N (S.c.t.d.fact 24 (f := .glo "_law_gcd") rfl), by rw [hK]; exact F.kp, fun G' base e1 e2 CO => ?_⟩
  rw [hK] at e1
  rw [hM] at e2
  have q := fng_def (P := P) (w := w) (G := G') (base := base) (c := c__law_gcd (capOf G')) (ps := ["one", "two"]) 40 (by rw [e1]; exact F) (by kernel_rfl) rfl (fun dV kV doc pm an cdv ct us h0 hl => by subst h0; exact (match us, hl with | [_, _], _ => rfl)) (gall (gcons (.inl ⟨by rw [e2]; exact S.no_abs, bt_abs, by decide⟩) (gcons (.inl ⟨by rw [e2]; exact S.no_int, bt_int, by decide⟩) (gcons ⟨rfl, by rw [e2]; exact S.no_range⟩ gnil)))) (S.exm e1 e2) rfl CO fun _ => rfl
  rw [e1, e2] at q
  rw [hK, hM]
  exact q
def m__law_gcd (cap : Cap) : Sv := (sSeq (sPar 0 1 (eCons (eRow (eCons (eVar 0) eNil) (bltOp .abs)) (eCons (eRow (eCons (eVar 1) eNil) (bltOp .abs)) eNil)))
  (sSeq (sFor (.nm 2) (iRange1 (eCons (two (eCon (.int 4)) (two (eCon (.int 2)) (eMth .bits (eRow (eCons (eVar 1) eNil) (bltOp .int)) eNil) (binOp .mul)) (binOp .add)) eNil)) (sSeq (sIf (two (eVar 1) (eCon (.int 0)) (cmpOp .eq)) (sSeq (sFl .bk)
  sNx) sNx)
  (sSeq (sPar 0 1 (eCons (eVar 1) (eCons (two (eRow (eCons (eVar 0) eNil) (bltOp .int)) (eVar 1) (binOp .mod)) eNil)))
  sNx)))
  (sSeq (sRet (eVar 0))
  sNx)))
theorem ev__law_gcd : f__law_gcd = fun cap ps st => if ps.length = 2 ∧ 2 ≤ 3 then endDef (m__law_gcd cap (start' 3 ps) st) else .stuck := by kernel_rfl
/-! _law_q -/
def g__law_q : List (Str × GK) := [("_law_gcd", .fn 1 f__law_gcd)]
def c__law_q (cap : Cap) : Cv.Ctx := { N := ["top", "bottom", "by"], sc := defScope (top 35), top := true, k := 1, glo := fun x => g__law_q.lookup x, exm := exmF errL, cap := fun _ => cap, mkr := none }
def f__law_q (cap : Cap) : Fun' := evDef 40 (c__law_q cap) 2 (defBody (top 35))
theorem ok__law_q (S : Says w h K mg) {P : Program} {G : Gc} (hK : G.K = K) (hM : G.mg = mg) (base : Heap) : GkOk P w G base "_law_q" (.fn 2 f__law_q) := by
  obtain ⟨fd, F⟩ := S.c.t.d.def_ 25 (d := mkD "_law_q" 35) rfl
  refine ⟨_, by rw [hM]; exact He.glo_ok S.KX S.N (S.c.t.d.fact 25 (f := .glo "_law_q") rfl), by rw [hK]; exact F.kp, fun G' base e1 e2 CO => ?_⟩
  rw [hK] at e1
  rw [hM] at e2
  have q := fng_def (P := P) (w := w) (G := G') (base := base) (c := c__law_q (capOf G')) (ps := ["top", "bottom"]) 40 (by rw [e1]; exact F) (by kernel_rfl) rfl (fun dV kV doc pm an cdv ct us h0 hl => by subst h0; exact (match us, hl with | [_, _], _ => rfl)) (gall (gcons (ok__law_gcd S e1 e2 base) gnil)) (S.exm e1 e2) rfl CO fun _ => rfl
  rw [e1, e2] at q
  rw [hK, hM]
  exact q
def m__law_q (cap : Cap) : Sv := (sSeq (sAsg (evCallF (eCons (eVar 0) (eCons (eVar 1) eNil)) (fun _ => cap) f__law_gcd) (.nm 2))
  (sSeq (sAsg (eIte (two (eVar 1) (eCon (.int 0)) (cmpOp .lt)) (one (eVar 2) negOp) (eVar 2)) (.nm 2))
  (sSeq (sRet (eRow (eCons (two (eVar 0) (eVar 2) (binOp .fdiv)) (eCons (two (eVar 1) (eVar 2) (binOp .fdiv)) eNil)) mkTup))
  sNx)))
theorem ev__law_q : f__law_q = fun cap ps st => if ps.length = 2 ∧ 2 ≤ 3 then endDef (m__law_q cap (start' 3 ps) st) else .stuck := by kernel_rfl
/-! _law_ratio -/
def g__law_ratio : List (Str × GK) := [("_law_draw", .fn 1 f__law_draw), ("_law_pick", .fn 2 f__law_pick), ("_law_q", .fn 2 f__law_q)]
def c__law_ratio (cap : Cap) : Cv.Ctx := { N := ["pen", "most"], sc := defScope (top 46), top := true, k := 2, glo := fun x => g__law_ratio.lookup x, exm := exmF errL, cap := fun _ => cap, mkr := none }
def f__law_ratio (cap : Cap) : Fun' := evDef 40 (c__law_ratio cap) 2 (defBody (top 46))
theorem ok__law_ratio (S : Says w h K mg) {P : Program} {G : Gc} (hK : G.K = K) (hM : G.mg = mg) (base : Heap) : GkOk P w G base "_law_ratio" (.fn 3 f__law_ratio) := by
  obtain ⟨fd, F⟩ := S.c.t.d.def_ 26 (d := mkD "_law_ratio" 46) rfl
  refine ⟨_, by rw [hM]; exact He.glo_ok S.KX S.N (S.c.t.d.fact 26 (f := .glo "_law_ratio") rfl), by rw [hK]; exact F.kp, fun G' base e1 e2 CO => ?_⟩
  rw [hK] at e1
  rw [hM] at e2
  have q := fng_def (P := P) (w := w) (G := G') (base := base) (c := c__law_ratio (capOf G')) (ps := ["pen", "most"]) 40 (by rw [e1]; exact F) (by kernel_rfl) rfl (fun dV kV doc pm an cdv ct us h0 hl => by subst h0; exact (match us, hl with | [_, _], _ => rfl)) (gall (gcons (ok__law_draw S e1 e2 base) (gcons (ok__law_pick S e1 e2 base) (gcons (ok__law_q S e1 e2 base) gnil)))) (S.exm e1 e2) rfl CO fun _ => rfl
  rw [e1, e2] at q
  rw [hK, hM]
  exact q
def m__law_ratio (cap : Cap) : Sv := (sSeq (sRet (evCallF (eCons (two (evCallF (eCons (eVar 0) (eCons (two (two (eCon (.int 2)) (eVar 1) (binOp .mul)) (eCon (.int 1)) (binOp .add)) eNil)) (fun _ => cap) f__law_draw) (eVar 1) (binOp .sub)) (eCons (evCallF (eCons (eVar 0) (eCons (eRow (eCons (eCon (.int 1)) (eCons (eCon (.int 1)) (eCons (eCon (.int 1)) (eCons (eCon (.int 2)) (eCons (eCon (.int 3)) eNil))))) mkLst) eNil)) (fun _ => cap) f__law_pick) eNil)) (fun _ => cap) f__law_q))
  sNx)
theorem ev__law_ratio : f__law_ratio = fun cap ps st => if ps.length = 2 ∧ 2 ≤ 2 then endDef (m__law_ratio cap (start' 2 ps) st) else .stuck := by kernel_rfl
/-! _law_free_point -/
def g__law_free_point : List (Str × GK) := [("_law_ratio", .fn 3 f__law_ratio)]
def c__law_free_point (cap : Cap) : Cv.Ctx := { N := ["pen"], sc := defScope (top 50), top := true, k := 3, glo := fun x => g__law_free_point.lookup x, exm := exmF errL, cap := fun _ => cap, mkr := none }
def f__law_free_point (cap : Cap) : Fun' := evDef 40 (c__law_free_point cap) 1 (defBody (top 50))
theorem ok__law_free_point (S : Says w h K mg) {P : Program} {G : Gc} (hK : G.K = K) (hM : G.mg = mg) (base : Heap) : GkOk P w G base "_law_free_point" (.fn 4 f__law_free_point) := by
  obtain ⟨fd, F⟩ := S.c.t.d.def_ 27 (d := mkD "_law_free_point" 50) rfl
  refine ⟨_, by rw [hM]; exact He.glo_ok S.KX S.N (S.c.t.d.fact 27 (f := .glo "_law_free_point") rfl), by rw [hK]; exact F.kp, fun G' base e1 e2 CO => ?_⟩
  rw [hK] at e1
  rw [hM] at e2
  have q := fng_def (P := P) (w := w) (G := G') (base := base) (c := c__law_free_point (capOf G')) (ps := ["pen"]) 40 (by rw [e1]; exact F) (by kernel_rfl) rfl (fun dV kV doc pm an cdv ct us h0 hl => by subst h0; exact (match us, hl with | [_], _ => rfl)) (gall (gcons (ok__law_ratio S e1 e2 base) gnil)) (S.exm e1 e2) rfl CO fun _ => rfl
  rw [e1, e2] at q
  rw [hK, hM]
  exact q
def m__law_free_point (cap : Cap) : Sv := (sSeq (sRet (eRow (eCons (evCallF (eCons (eVar 0) (eCons (eCon (.int 4)) eNil)) (fun _ => cap) f__law_ratio) (eCons (evCallF (eCons (eVar 0) (eCons (eCon (.int 4)) eNil)) (fun _ => cap) f__law_ratio) eNil)) mkTup))
  sNx)
theorem ev__law_free_point : f__law_free_point = fun cap ps st => if ps.length = 1 ∧ 1 ≤ 1 then endDef (m__law_free_point cap (start' 1 ps) st) else .stuck := by kernel_rfl
/-! _law_turn -/
def g__law_turn : List (Str × GK) := []
def c__law_turn (cap : Cap) : Cv.Ctx := { N := ["ratio"], sc := defScope (top 42), top := true, k := 0, glo := fun x => g__law_turn.lookup x, exm := exmF errL, cap := fun _ => cap, mkr := none }
def f__law_turn (cap : Cap) : Fun' := evDef 40 (c__law_turn cap) 1 (defBody (top 42))
theorem ok__law_turn (S : Says w h K mg) {P : Program} {G : Gc} (hK : G.K = K) (hM : G.mg = mg) (base : Heap) : GkOk P w G base "_law_turn" (.fn 1 f__law_turn) := by
  obtain ⟨fd, F⟩ := S.c.t.d.def_ 28 (d := mkD "_law_turn" 42) rfl
  refine ⟨_, by rw [hM]; exact He.glo_ok S.KX S.N (S.c.t.d.fact 28 (f := .glo "_law_turn") rfl), by rw [hK]; exact F.kp, fun G' base e1 e2 CO => ?_⟩
  rw [hK] at e1
  rw [hM] at e2
  have q := fng_def (P := P) (w := w) (G := G') (base := base) (c := c__law_turn (capOf G')) (ps := ["ratio"]) 40 (by rw [e1]; exact F) (by kernel_rfl) rfl (fun dV kV doc pm an cdv ct us h0 hl => by subst h0; exact (match us, hl with | [_], _ => rfl)) (gall gnil) (S.exm e1 e2) rfl CO fun _ => rfl
  rw [e1, e2] at q
  rw [hK, hM]
  exact q
def m__law_turn (cap : Cap) : Sv := (sSeq (sRet (eRow (eCons (one (two (eVar 0) (eCon (.int 0)) idxOp) negOp) (eCons (two (eVar 0) (eCon (.int 1)) idxOp) eNil)) mkTup))
  sNx)
theorem ev__law_turn : f__law_turn = fun cap ps st => if ps.length = 1 ∧ 1 ≤ 1 then endDef (m__law_turn cap (start' 1 ps) st) else .stuck := by kernel_rfl
/-! _law_half_turned -/
def g__law_half_turned : List (Str × GK) := [("_law_turn", .fn 1 f__law_turn), ("tuple", .blt .tuple)]
def c__law_half_turned (cap : Cap) : Cv.Ctx := { N := ["corners", "point"], sc := defScope (top 52), top := true, k := 1, glo := fun x => g__law_half_turned.lookup x, exm := exmF errL, cap := fun _ => cap, mkr := none }
def f__law_half_turned (cap : Cap) : Fun' := evDef 40 (c__law_half_turned cap) 1 (defBody (top 52))
theorem ok__law_half_turned (S : Says w h K mg) {P : Program} {G : Gc} (hK : G.K = K) (hM : G.mg = mg) (base : Heap) : GkOk P w G base "_law_half_turned" (.fn 2 f__law_half_turned) := by
  obtain ⟨fd, F⟩ := S.c.t.d.def_ 29 (d := mkD "_law_half_turned" 52) rfl
  refine ⟨_, by rw [hM]; exact He.glo_ok S.KX S.N (S.c.t.d.fact 29 (f := .glo "_law_half_turned") rfl), by rw [hK]; exact F.kp, fun G' base e1 e2 CO => ?_⟩
  rw [hK] at e1
  rw [hM] at e2
  have q := fng_def (P := P) (w := w) (G := G') (base := base) (c := c__law_half_turned (capOf G')) (ps := ["corners"]) 40 (by rw [e1]; exact F) (by kernel_rfl) rfl (fun dV kV doc pm an cdv ct us h0 hl => by subst h0; exact (match us, hl with | [_], _ => rfl)) (gall (gcons (ok__law_turn S e1 e2 base) (gcons (.inl ⟨by rw [e2]; exact S.no_tuple, bt_tuple, by decide⟩) gnil))) (S.exm e1 e2) rfl CO fun _ => rfl
  rw [e1, e2] at q
  rw [hK, hM]
  exact q
def m__law_half_turned (cap : Cap) : Sv := (sSeq (sRet (eRow (eCons (eLc (eRow (eCons (evCallF (eCons (two (eVar 1) (eCon (.int 0)) idxOp) eNil) (fun _ => cap) f__law_turn) (eCons (evCallF (eCons (two (eVar 1) (eCon (.int 1)) idxOp) eNil) (fun _ => cap) f__law_turn) eNil)) mkTup) (.nm 1) (fun _ st => .ok true st) (iSeq (eVar 0)) [1]) eNil) (bltOp .tuple)))
  sNx)
theorem ev__law_half_turned : f__law_half_turned = fun cap ps st => if ps.length = 1 ∧ 1 ≤ 2 then endDef (m__law_half_turned cap (start' 2 ps) st) else .stuck := by kernel_rfl
/-! _law_handed -/
def g__law_handed : List (Str × GK) := [("_law_draw", .fn 1 f__law_draw), ("_law_pick", .fn 2 f__law_pick)]
def c__law_handed (cap : Cap) : Cv.Ctx := { N := ["pen", "ratio", "by"], sc := defScope (top 40), top := true, k := 2, glo := fun x => g__law_handed.lookup x, exm := exmF errL, cap := fun _ => cap, mkr := none }
def f__law_handed (cap : Cap) : Fun' := evDef 40 (c__law_handed cap) 2 (defBody (top 40))
theorem ok__law_handed (S : Says w h K mg) {P : Program} {G : Gc} (hK : G.K = K) (hM : G.mg = mg) (base : Heap) : GkOk P w G base "_law_handed" (.fn 3 f__law_handed) := by
  obtain ⟨fd, F⟩ := S.c.t.d.def_ 30 (d := mkD "_law_handed" 40) rfl
  refine ⟨_, by rw [hM]; exact He.glo_ok S.KX S.N (S.c.t.d.fact 30 (f := .glo "_law_handed") rfl), by rw [hK]; exact F.kp, fun G' base e1 e2 CO => ?_⟩
  rw [hK] at e1
  rw [hM] at e2
  have q := fng_def (P := P) (w := w) (G := G') (base := base) (c := c__law_handed (capOf G')) (ps := ["pen", "ratio"]) 40 (by rw [e1]; exact F) (by kernel_rfl) rfl (fun dV kV doc pm an cdv ct us h0 hl => by subst h0; exact (match us, hl with | [_, _], _ => rfl)) (gall (gcons (ok__law_draw S e1 e2 base) (gcons (ok__law_pick S e1 e2 base) gnil))) (S.exm e1 e2) rfl CO fun _ => rfl
  rw [e1, e2] at q
  rw [hK, hM]
  exact q
def m__law_handed (cap : Cap) : Sv := (sSeq (sIf (eAnd (two (two (eVar 1) (eCon (.int 1)) idxOp) (eCon (.int 1)) (cmpOp .eq)) (two (evCallF (eCons (eVar 0) (eCons (eCon (.int 2)) eNil)) (fun _ => cap) f__law_draw) (eCon (.int 0)) (cmpOp .eq))) (sSeq (sRet (two (eVar 1) (eCon (.int 0)) idxOp))
  sNx) sNx)
  (sSeq (sAsg (evCallF (eCons (eVar 0) (eCons (eRow (eCons (eCon (.int 1)) (eCons (eCon (.int 1)) (eCons (eCon (.int 2)) (eCons (eCon (.int 5)) eNil)))) mkLst) eNil)) (fun _ => cap) f__law_pick) (.nm 2))
  (sSeq (sRet (evCallF (eCons (eVar 0) (eCons (eRow (eCons (eRow (eCons (two (two (eVar 1) (eCon (.int 0)) idxOp) (eVar 2) (binOp .mul)) (eCons (two (two (eVar 1) (eCon (.int 1)) idxOp) (eVar 2) (binOp .mul)) eNil)) mkTup) (eCons (eRow (eCons (two (two (eVar 1) (eCon (.int 0)) idxOp) (eVar 2) (binOp .mul)) (eCons (two (two (eVar 1) (eCon (.int 1)) idxOp) (eVar 2) (binOp .mul)) eNil)) mkLst) eNil)) mkLst) eNil)) (fun _ => cap) f__law_pick))
  sNx)))
theorem ev__law_handed : f__law_handed = fun cap ps st => if ps.length = 2 ∧ 2 ≤ 3 then endDef (m__law_handed cap (start' 3 ps) st) else .stuck := by kernel_rfl
/-! _law_handed_row -/
def g__law_handed_row : List (Str × GK) := [("_law_handed", .fn 3 f__law_handed), ("_law_pick", .fn 2 f__law_pick), ("tuple", .blt .tuple)]
def c__law_handed_row (cap : Cap) : Cv.Ctx := { N := ["pen", "row", "found", "item"], sc := defScope (top 41), top := true, k := 3, glo := fun x => g__law_handed_row.lookup x, exm := exmF errL, cap := fun _ => cap, mkr := none }
def f__law_handed_row (cap : Cap) : Fun' := evDef 40 (c__law_handed_row cap) 2 (defBody (top 41))
theorem ok__law_handed_row (S : Says w h K mg) {P : Program} {G : Gc} (hK : G.K = K) (hM : G.mg = mg) (base : Heap) : GkOk P w G base "_law_handed_row" (.fn 4 f__law_handed_row) := by
  obtain ⟨fd, F⟩ := S.c.t.d.def_ 31 (d := mkD "_law_handed_row" 41) rfl
  refine ⟨_, by rw [hM]; exact He.glo_ok S.KX S.N (S.c.t.d.fact 31 (f := .glo "_law_handed_row") rfl), by rw [hK]; exact F.kp, fun G' base e1 e2 CO => ?_⟩
  rw [hK] at e1
  rw [hM] at e2
  have q := fng_def (P := P) (w := w) (G := G') (base := base) (c := c__law_handed_row (capOf G')) (ps := ["pen", "row"]) 40 (by rw [e1]; exact F) (by kernel_rfl) rfl (fun dV kV doc pm an cdv ct us h0 hl => by subst h0; exact (match us, hl with | [_, _], _ => rfl)) (gall (gcons (ok__law_handed S e1 e2 base) (gcons (ok__law_pick S e1 e2 base) (gcons (.inl ⟨by rw [e2]; exact S.no_tuple, bt_tuple, by decide⟩) gnil)))) (S.exm e1 e2) rfl CO fun _ => rfl
  rw [e1, e2] at q
  rw [hK, hM]
  exact q
def m__law_handed_row (cap : Cap) : Sv := (sSeq (sAsg (eLc (evCallF (eCons (eVar 0) (eCons (eVar 3) eNil)) (fun _ => cap) f__law_handed) (.nm 3) (fun _ st => .ok true st) (iSeq (eVar 1)) [3]) (.nm 2))
  (sSeq (sRet (evCallF (eCons (eVar 0) (eCons (eRow (eCons (eRow (eCons (eVar 2) eNil) (bltOp .tuple)) (eCons (eVar 2) eNil)) mkLst) eNil)) (fun _ => cap) f__law_pick))
  sNx))
theorem ev__law_handed_row : f__law_handed_row = fun cap ps st => if ps.length = 2 ∧ 2 ≤ 4 then endDef (m__law_handed_row cap (start' 4 ps) st) else .stuck := by kernel_rfl
/-! _law_minus -/
def g__law_minus : List (Str × GK) := [("_law_q", .fn 2 f__law_q)]
def c__law_minus (cap : Cap) : Cv.Ctx := { N := ["one", "two"], sc := defScope (top 39), top := true, k := 2, glo := fun x => g__law_minus.lookup x, exm := exmF errL, cap := fun _ => cap, mkr := none }
def f__law_minus (cap : Cap) : Fun' := evDef 40 (c__law_minus cap) 2 (defBody (top 39))
theorem ok__law_minus (S : Says w h K mg) {P : Program} {G : Gc} (hK : G.K = K) (hM : G.mg = mg) (base : Heap) : GkOk P w G base "_law_minus" (.fn 3 f__law_minus) := by
  obtain ⟨fd, F⟩ := S.c.t.d.def_ 32 (d := mkD "_law_minus" 39) rfl
  refine ⟨_, by rw [hM]; exact He.glo_ok S.KX S.N (S.c.t.d.fact 32 (f := .glo "_law_minus") rfl), by rw [hK]; exact F.kp, fun G' base e1 e2 CO => ?_⟩
  rw [hK] at e1
  rw [hM] at e2
  have q := fng_def (P := P) (w := w) (G := G') (base := base) (c := c__law_minus (capOf G')) (ps := ["one", "two"]) 40 (by rw [e1]; exact F) (by kernel_rfl) rfl (fun dV kV doc pm an cdv ct us h0 hl => by subst h0; exact (match us, hl with | [_, _], _ => rfl)) (gall (gcons (ok__law_q S e1 e2 base) gnil)) (S.exm e1 e2) rfl CO fun _ => rfl
  rw [e1, e2] at q
  rw [hK, hM]
  exact q
def m__law_minus (cap : Cap) : Sv := (sSeq (sRet (evCallF (eCons (two (two (two (eVar 0) (eCon (.int 0)) idxOp) (two (eVar 1) (eCon (.int 1)) idxOp) (binOp .mul)) (two (two (eVar 1) (eCon (.int 0)) idxOp) (two (eVar 0) (eCon (.int 1)) idxOp) (binOp .mul)) (binOp .sub)) (eCons (two (two (eVar 0) (eCon (.int 1)) idxOp) (two (eVar 1) (eCon (.int 1)) idxOp) (binOp .mul)) eNil)) (fun _ => cap) f__law_q))
  sNx)
theorem ev__law_minus : f__law_minus = fun cap ps st => if ps.length = 2 ∧ 2 ≤ 2 then endDef (m__law_minus cap (start' 2 ps) st) else .stuck := by kernel_rfl
/-! _law_plus -/
def g__law_plus : List (Str × GK) := [("_law_q", .fn 2 f__law_q)]
def c__law_plus (cap : Cap) : Cv.Ctx := { N := ["one", "two"], sc := defScope (top 36), top := true, k := 2, glo := fun x => g__law_plus.lookup x, exm := exmF errL, cap := fun _ => cap, mkr := none }
def f__law_plus (cap : Cap) : Fun' := evDef 40 (c__law_plus cap) 2 (defBody (top 36))
theorem ok__law_plus (S : Says w h K mg) {P : Program} {G : Gc} (hK : G.K = K) (hM : G.mg = mg) (base : Heap) : GkOk P w G base "_law_plus" (.fn 3 f__law_plus) := by
  obtain ⟨fd, F⟩ := S.c.t.d.def_ 33 (d := mkD "_law_plus" 36) rfl
  refine ⟨_, by rw [hM]; exact He.glo_ok S.KX S.N (S.c.t.d.fact 33 (f := .glo "_law_plus") rfl), by rw [hK]; exact F.kp, fun G' base e1 e2 CO => ?_⟩
  rw [hK] at e1
  rw [hM] at e2
  have q := fng_def (P := P) (w := w) (G := G') (base := base) (c := c__law_plus (capOf G')) (ps := ["one", "two"]) 40 (by rw [e1]; exact F) (by kernel_rfl) rfl (fun dV kV doc pm an cdv ct us h0 hl => by subst h0; exact (match us, hl with | [_, _], _ => rfl)) (gall (gcons (ok__law_q S e1 e2 base) gnil)) (S.exm e1 e2) rfl CO fun _ => rfl
  rw [e1, e2] at q
  rw [hK, hM]
  exact q
def m__law_plus (cap : Cap) : Sv := (sSeq (sRet (evCallF (eCons (two (two (two (eVar 0) (eCon (.int 0)) idxOp) (two (eVar 1) (eCon (.int 1)) idxOp) (binOp .mul)) (two (two (eVar 1) (eCon (.int 0)) idxOp) (two (eVar 0) (eCon (.int 1)) idxOp) (binOp .mul)) (binOp .add)) (eCons (two (two (eVar 0) (eCon (.int 1)) idxOp) (two (eVar 1) (eCon (.int 1)) idxOp) (binOp .mul)) eNil)) (fun _ => cap) f__law_q))
  sNx)
theorem ev__law_plus : f__law_plus = fun cap ps st => if ps.length = 2 ∧ 2 ≤ 2 then endDef (m__law_plus cap (start' 2 ps) st) else .stuck := by kernel_rfl
/-! _law_moved_by -/
def g__law_moved_by : List (Str × GK) := [("_law_plus", .fn 3 f__law_plus), ("tuple", .blt .tuple)]
def c__law_moved_by (cap : Cap) : Cv.Ctx := { N := ["corners", "move", "point"], sc := defScope (top 51), top := true, k := 3, glo := fun x => g__law_moved_by.lookup x, exm := exmF errL, cap := fun _ => cap, mkr := none }
def f__law_moved_by (cap : Cap) : Fun' := evDef 40 (c__law_moved_by cap) 2 (defBody (top 51))
theorem ok__law_moved_by (S : Says w h K mg) {P : Program} {G : Gc} (hK : G.K = K) (hM : G.mg = mg) (base : Heap) : GkOk P w G base "_law_moved_by" (.fn 4 f__law_moved_by) := by
  obtain ⟨fd, F⟩ := S.c.t.d.def_ 34 (d := mkD "_law_moved_by" 51) rfl
  refine ⟨_, by rw [hM]; exact He.glo_ok S.KX S.N (S.c.t.d.fact 34 (f := .glo "_law_moved_by") rfl), by rw [hK]; exact F.kp, fun G' base e1 e2 CO => ?_⟩
  rw [hK] at e1
  rw [hM] at e2
  have q := fng_def (P := P) (w := w) (G := G') (base := base) (c := c__law_moved_by (capOf G')) (ps := ["corners", "move"]) 40 (by rw [e1]; exact F) (by kernel_rfl) rfl (fun dV kV doc pm an cdv ct us h0 hl => by subst h0; exact (match us, hl with | [_, _], _ => rfl)) (gall (gcons (ok__law_plus S e1 e2 base) (gcons (.inl ⟨by rw [e2]; exact S.no_tuple, bt_tuple, by decide⟩) gnil))) (S.exm e1 e2) rfl CO fun _ => rfl
  rw [e1, e2] at q
  rw [hK, hM]
  exact q
def m__law_moved_by (cap : Cap) : Sv := (sSeq (sRet (eRow (eCons (eLc (eRow (eCons (evCallF (eCons (two (eVar 2) (eCon (.int 0)) idxOp) (eCons (two (eVar 1) (eCon (.int 0)) idxOp) eNil)) (fun _ => cap) f__law_plus) (eCons (evCallF (eCons (two (eVar 2) (eCon (.int 1)) idxOp) (eCons (two (eVar 1) (eCon (.int 1)) idxOp) eNil)) (fun _ => cap) f__law_plus) eNil)) mkTup) (.nm 2) (fun _ st => .ok true st) (iSeq (eVar 0)) [2]) eNil) (bltOp .tuple)))
  sNx)
theorem ev__law_moved_by : f__law_moved_by = fun cap ps st => if ps.length = 2 ∧ 2 ≤ 3 then endDef (m__law_moved_by cap (start' 3 ps) st) else .stuck := by kernel_rfl
/-! _law_less -/
def g__law_less : List (Str × GK) := []
def c__law_less (cap : Cap) : Cv.Ctx := { N := ["one", "two"], sc := defScope (top 38), top := true, k := 0, glo := fun x => g__law_less.lookup x, exm := exmF errL, cap := fun _ => cap, mkr := none }
def f__law_less (cap : Cap) : Fun' := evDef 40 (c__law_less cap) 2 (defBody (top 38))
theorem ok__law_less (S : Says w h K mg) {P : Program} {G : Gc} (hK : G.K = K) (hM : G.mg = mg) (base : Heap) : GkOk P w G base "_law_less" (.fn 1 f__law_less) := by
  obtain ⟨fd, F⟩ := S.c.t.d.def_ 35 (d := mkD "_law_less" 38) rfl
  refine ⟨_, by rw [hM]; exact He.glo_ok S.KX S.N (S.c.t.d.fact 35 (f := .glo "_law_less") rfl), by rw [hK]; exact F.kp, fun G' base e1 e2 CO => ?_⟩
  rw [hK] at e1
  rw [hM] at e2
  have q := fng_def (P := P) (w := w) (G := G') (base := base) (c := c__law_less (capOf G')) (ps := ["one", "two"]) 40 (by rw [e1]; exact F) (by kernel_rfl) rfl (fun dV kV doc pm an cdv ct us h0 hl => by subst h0; exact (match us, hl with | [_, _], _ => rfl)) (gall gnil) (S.exm e1 e2) rfl CO fun _ => rfl
  rw [e1, e2] at q
  rw [hK, hM]
  exact q
def m__law_less (cap : Cap) : Sv := (sSeq (sRet (two (two (two (eVar 0) (eCon (.int 0)) idxOp) (two (eVar 1) (eCon (.int 1)) idxOp) (binOp .mul)) (two (two (eVar 1) (eCon (.int 0)) idxOp) (two (eVar 0) (eCon (.int 1)) idxOp) (binOp .mul)) (cmpOp .lt)))
  sNx)
theorem ev__law_less : f__law_less = fun cap ps st => if ps.length = 2 ∧ 2 ≤ 2 then endDef (m__law_less cap (start' 2 ps) st) else .stuck := by kernel_rfl
/-! _law_sorted -/
def g__law_sorted : List (Str × GK) := [("_law_less", .fn 1 f__law_less), ("len", .blt .len)]
def c__law_sorted (cap : Cap) : Cv.Ctx := { N := ["ratios", "found", "ratio", "k"], sc := defScope (top 45), top := true, k := 1, glo := fun x => g__law_sorted.lookup x, exm := exmF errL, cap := fun _ => cap, mkr := none }
def f__law_sorted (cap : Cap) : Fun' := evDef 40 (c__law_sorted cap) 1 (defBody (top 45))
theorem ok__law_sorted (S : Says w h K mg) {P : Program} {G : Gc} (hK : G.K = K) (hM : G.mg = mg) (base : Heap) : GkOk P w G base "_law_sorted" (.fn 2 f__law_sorted) := by
  obtain ⟨fd, F⟩ := S.c.t.d.def_ 36 (d := mkD "_law_sorted" 45) rfl
  refine ⟨_, by rw [hM]; exact He.glo_ok S.KX S.N (S.c.t.d.fact 36 (f := .glo "_law_sorted") rfl), by rw [hK]; exact F.kp, fun G' base e1 e2 CO => ?_⟩
  rw [hK] at e1
  rw [hM] at e2
  have q := fng_def (P := P) (w := w) (G := G') (base := base) (c := c__law_sorted (capOf G')) (ps := ["ratios"]) 40 (by rw [e1]; exact F) (by kernel_rfl) rfl (fun dV kV doc pm an cdv ct us h0 hl => by subst h0; exact (match us, hl with | [_], _ => rfl)) (gall (gcons (ok__law_less S e1 e2 base) (gcons (.inl ⟨by rw [e2]; exact S.no_len, bt_len, by decide⟩) gnil))) (S.exm e1 e2) rfl CO fun _ => rfl
  rw [e1, e2] at q
  rw [hK, hM]
  exact q
def m__law_sorted (cap : Cap) : Sv := (sSeq (sAsg (eRow eNil mkLst) (.nm 1))
  (sSeq (sFor (.nm 2) (iSeq (eVar 0)) (sSeq (sAsg (eCon (.int 0)) (.nm 3))
  (sSeq (whileLoop (eAnd (two (eVar 3) (eRow (eCons (eVar 1) eNil) (bltOp .len)) (cmpOp .lt)) (evCallF (eCons (two (eVar 1) (eVar 3) idxOp) (eCons (eVar 2) eNil)) (fun _ => cap) f__law_less)) (sSeq (sAsg (two (eVar 3) (eCon (.int 1)) (binOp .add)) (.nm 3))
  sNx) FU)
  (sSeq (sIf (eOr (two (eVar 3) (eRow (eCons (eVar 1) eNil) (bltOp .len)) (cmpOp .eq)) (two (two (eVar 1) (eVar 3) idxOp) (eVar 2) (cmpOp .ne))) (sSeq (sExp (eMthL .insert (eVar 1) (eCons (eVar 3) (eCons (eVar 2) eNil))))
  sNx) sNx)
  sNx))))
  (sSeq (sRet (eVar 1))
  sNx)))
theorem ev__law_sorted : f__law_sorted = fun cap ps st => if ps.length = 1 ∧ 1 ≤ 4 then endDef (m__law_sorted cap (start' 4 ps) st) else .stuck := by kernel_rfl
/-! _law_times -/
def g__law_times : List (Str × GK) := [("_law_q", .fn 2 f__law_q)]
def c__law_times (cap : Cap) : Cv.Ctx := { N := ["one", "two"], sc := defScope (top 37), top := true, k := 2, glo := fun x => g__law_times.lookup x, exm := exmF errL, cap := fun _ => cap, mkr := none }
def f__law_times (cap : Cap) : Fun' := evDef 40 (c__law_times cap) 2 (defBody (top 37))
theorem ok__law_times (S : Says w h K mg) {P : Program} {G : Gc} (hK : G.K = K) (hM : G.mg = mg) (base : Heap) : GkOk P w G base "_law_times" (.fn 3 f__law_times) := by
  obtain ⟨fd, F⟩ := S.c.t.d.def_ 37 (d := mkD "_law_times" 37) rfl
  refine ⟨_, by rw [hM]; exact He.glo_ok S.KX S.N (S.c.t.d.fact 37 (f := .glo "_law_times") rfl), by rw [hK]; exact F.kp, fun G' base e1 e2 CO => ?_⟩
  rw [hK] at e1
  rw [hM] at e2
  have q := fng_def (P := P) (w := w) (G := G') (base := base) (c := c__law_times (capOf G')) (ps := ["one", "two"]) 40 (by rw [e1]; exact F) (by kernel_rfl) rfl (fun dV kV doc pm an cdv ct us h0 hl => by subst h0; exact (match us, hl with | [_, _], _ => rfl)) (gall (gcons (ok__law_q S e1 e2 base) gnil)) (S.exm e1 e2) rfl CO fun _ => rfl
  rw [e1, e2] at q
  rw [hK, hM]
  exact q
def m__law_times (cap : Cap) : Sv := (sSeq (sRet (evCallF (eCons (two (two (eVar 0) (eCon (.int 0)) idxOp) (two (eVar 1) (eCon (.int 0)) idxOp) (binOp .mul)) (eCons (two (two (eVar 0) (eCon (.int 1)) idxOp) (two (eVar 1) (eCon (.int 1)) idxOp) (binOp .mul)) eNil)) (fun _ => cap) f__law_q))
  sNx)
theorem ev__law_times : f__law_times = fun cap ps st => if ps.length = 2 ∧ 2 ≤ 2 then endDef (m__law_times cap (start' 2 ps) st) else .stuck := by kernel_rfl
/-! _law_turn_of -/
def g__law_turn_of : List (Str × GK) := [("_law_minus", .fn 3 f__law_minus), ("_law_times", .fn 3 f__law_times)]
def c__law_turn_of (cap : Cap) : Cv.Ctx := { N := ["a", "b", "c"], sc := defScope (top 43), top := true, k := 3, glo := fun x => g__law_turn_of.lookup x, exm := exmF errL, cap := fun _ => cap, mkr := none }
def f__law_turn_of (cap : Cap) : Fun' := evDef 40 (c__law_turn_of cap) 3 (defBody (top 43))
theorem ok__law_turn_of (S : Says w h K mg) {P : Program} {G : Gc} (hK : G.K = K) (hM : G.mg = mg) (base : Heap) : GkOk P w G base "_law_turn_of" (.fn 4 f__law_turn_of) := by
  obtain ⟨fd, F⟩ := S.c.t.d.def_ 38 (d := mkD "_law_turn_of" 43) rfl
  refine ⟨_, by rw [hM]; exact He.glo_ok S.KX S.N (S.c.t.d.fact 38 (f := .glo "_law_turn_of") rfl), by rw [hK]; exact F.kp, fun G' base e1 e2 CO => ?_⟩
  rw [hK] at e1
  rw [hM] at e2
  have q := fng_def (P := P) (w := w) (G := G') (base := base) (c := c__law_turn_of (capOf G')) (ps := ["a", "b", "c"]) 40 (by rw [e1]; exact F) (by kernel_rfl) rfl (fun dV kV doc pm an cdv ct us h0 hl => by subst h0; exact (match us, hl with | [_, _, _], _ => rfl)) (gall (gcons (ok__law_minus S e1 e2 base) (gcons (ok__law_times S e1 e2 base) gnil))) (S.exm e1 e2) rfl CO fun _ => rfl
  rw [e1, e2] at q
  rw [hK, hM]
  exact q
def m__law_turn_of (cap : Cap) : Sv := (sSeq (sRet (two (evCallF (eCons (evCallF (eCons (evCallF (eCons (two (eVar 1) (eCon (.int 0)) idxOp) (eCons (two (eVar 0) (eCon (.int 0)) idxOp) eNil)) (fun _ => cap) f__law_minus) (eCons (evCallF (eCons (two (eVar 2) (eCon (.int 1)) idxOp) (eCons (two (eVar 0) (eCon (.int 1)) idxOp) eNil)) (fun _ => cap) f__law_minus) eNil)) (fun _ => cap) f__law_times) (eCons (evCallF (eCons (evCallF (eCons (two (eVar 1) (eCon (.int 1)) idxOp) (eCons (two (eVar 0) (eCon (.int 1)) idxOp) eNil)) (fun _ => cap) f__law_minus) (eCons (evCallF (eCons (two (eVar 2) (eCon (.int 0)) idxOp) (eCons (two (eVar 0) (eCon (.int 0)) idxOp) eNil)) (fun _ => cap) f__law_minus) eNil)) (fun _ => cap) f__law_times) eNil)) (fun _ => cap) f__law_minus) (eCon (.int 0)) idxOp))
  sNx)
theorem ev__law_turn_of : f__law_turn_of = fun cap ps st => if ps.length = 3 ∧ 3 ≤ 3 then endDef (m__law_turn_of cap (start' 3 ps) st) else .stuck := by kernel_rfl
/-! _law_on_edge -/
def g__law_on_edge : List (Str × GK) := [("_law_less", .fn 1 f__law_less), ("_law_sorted", .fn 2 f__law_sorted), ("_law_turn_of", .fn 4 f__law_turn_of), ("any", .blt .any)]
def c__law_on_edge (cap : Cap) : Cv.Ctx := { N := ["point", "a", "b", "spans", "k"], sc := defScope (top 44), top := true, k := 4, glo := fun x => g__law_on_edge.lookup x, exm := exmF errL, cap := fun _ => cap, mkr := none }
def f__law_on_edge (cap : Cap) : Fun' := evDef 40 (c__law_on_edge cap) 3 (defBody (top 44))
theorem ok__law_on_edge (S : Says w h K mg) {P : Program} {G : Gc} (hK : G.K = K) (hM : G.mg = mg) (base : Heap) : GkOk P w G base "_law_on_edge" (.fn 5 f__law_on_edge) := by
  obtain ⟨fd, F⟩ := S.c.t.d.def_ 39 (d := mkD "_law_on_edge" 44) rfl
  refine ⟨_, by rw [hM]; exact He.glo_ok S.KX S.N (S.c.t.d.fact 39 (f := .glo "_law_on_edge") rfl), by rw [hK]; exact F.kp, fun G' base e1 e2 CO => ?_⟩
  rw [hK] at e1
  rw [hM] at e2
  have q := fng_def (P := P) (w := w) (G := G') (base := base) (c := c__law_on_edge (capOf G')) (ps := ["point", "a", "b"]) 40 (by rw [e1]; exact F) (by kernel_rfl) rfl (fun dV kV doc pm an cdv ct us h0 hl => by subst h0; exact (match us, hl with | [_, _, _], _ => rfl)) (gall (gcons (ok__law_less S e1 e2 base) (gcons (ok__law_sorted S e1 e2 base) (gcons (ok__law_turn_of S e1 e2 base) (gcons (.inl ⟨by rw [e2]; exact S.no_any, bt_any, by decide⟩) gnil))))) (S.exm e1 e2) rfl CO fun _ => rfl
  rw [e1, e2] at q
  rw [hK, hM]
  exact q
def m__law_on_edge (cap : Cap) : Sv := (sSeq (sIf (two (evCallF (eCons (eVar 1) (eCons (eVar 2) (eCons (eVar 0) eNil))) (fun _ => cap) f__law_turn_of) (eCon (.int 0)) (cmpOp .ne)) (sSeq (sRet (eCon (.bl false)))
  sNx) sNx)
  (sSeq (sAsg (eLc (evCallF (eCons (eRow (eCons (two (eVar 1) (eVar 4) idxOp) (eCons (two (eVar 2) (eVar 4) idxOp) eNil)) mkLst) eNil) (fun _ => cap) f__law_sorted) (.nm 4) (fun _ st => .ok true st) (iSeq (eRow (eCons (eCon (.int 0)) (eCons (eCon (.int 1)) eNil)) mkTup)) [4]) (.nm 3))
  (sSeq (sRet (one (eRow (eCons (eLc (eOr (evCallF (eCons (two (eVar 0) (eVar 4) idxOp) (eCons (two (two (eVar 3) (eVar 4) idxOp) (eCon (.int 0)) idxOp) eNil)) (fun _ => cap) f__law_less) (evCallF (eCons (two (two (eVar 3) (eVar 4) idxOp) (one (eCon (.int 1)) negOp) idxOp) (eCons (two (eVar 0) (eVar 4) idxOp) eNil)) (fun _ => cap) f__law_less)) (.nm 4) (fun _ st => .ok true st) (iSeq (eRow (eCons (eCon (.int 0)) (eCons (eCon (.int 1)) eNil)) mkTup)) [4]) eNil) (bltOp .any)) notOp))
  sNx)))
theorem ev__law_on_edge : f__law_on_edge = fun cap ps st => if ps.length = 3 ∧ 3 ≤ 5 then endDef (m__law_on_edge cap (start' 5 ps) st) else .stuck := by kernel_rfl
/-! _law_pen -/
def g__law_pen : List (Str × GK) := [("int", .blt .int), ("list", .blt .list)]
def c__law_pen (cap : Cap) : Cv.Ctx := { N := ["script", "fold", "cell"], sc := defScope (top 31), top := true, k := 0, glo := fun x => g__law_pen.lookup x, exm := exmF errL, cap := fun _ => cap, mkr := none }
def f__law_pen (cap : Cap) : Fun' := evDef 40 (c__law_pen cap) 1 (defBody (top 31))
theorem ok__law_pen (S : Says w h K mg) {P : Program} {G : Gc} (hK : G.K = K) (hM : G.mg = mg) (base : Heap) : GkOk P w G base "_law_pen" (.fn 1 f__law_pen) := by
  obtain ⟨fd, F⟩ := S.c.t.d.def_ 40 (d := mkD "_law_pen" 31) rfl
  refine ⟨_, by rw [hM]; exact He.glo_ok S.KX S.N (S.c.t.d.fact 40 (f := .glo "_law_pen") rfl), by rw [hK]; exact F.kp, fun G' base e1 e2 CO => ?_⟩
  rw [hK] at e1
  rw [hM] at e2
  have q := fng_def (P := P) (w := w) (G := G') (base := base) (c := c__law_pen (capOf G')) (ps := ["script"]) 40 (by rw [e1]; exact F) (by kernel_rfl) rfl (fun dV kV doc pm an cdv ct us h0 hl => by subst h0; exact (match us, hl with | [_], _ => rfl)) (gall (gcons (.inl ⟨by rw [e2]; exact S.no_int, bt_int, by decide⟩) (gcons (.inl ⟨by rw [e2]; exact S.no_list, bt_list, by decide⟩) gnil))) (S.exm e1 e2) rfl CO fun _ => rfl
  rw [e1, e2] at q
  rw [hK, hM]
  exact q
def m__law_pen (cap : Cap) : Sv := (sSeq (sAsg (eCon (.int 0)) (.nm 1))
  (sSeq (sFor (.nm 2) (iSeq (eVar 0)) (sSeq (sAsg (two (eRow (eCons (two (two (eVar 1) (eCon (.int 193)) (binOp .mul)) (eVar 2) (binOp .add)) eNil) (bltOp .int)) (eCon (.int 999999131)) (binOp .mod)) (.nm 1))
  sNx))
  (sSeq (sRet (eDsp [((eCon (.str "cells")), (eRow (eCons (eVar 0) eNil) (bltOp .list))), ((eCon (.str "at")), (eCon (.int 0))), ((eCon (.str "digits")), (eCon (.int 0))), ((eCon (.str "count")), (eCon (.int 0))), ((eCon (.str "fold")), (eVar 1))]))
  sNx)))
theorem ev__law_pen : f__law_pen = fun cap ps st => if ps.length = 1 ∧ 1 ≤ 3 then endDef (m__law_pen cap (start' 3 ps) st) else .stuck := by kernel_rfl
/-! _law_says -/
def g__law_says : List (Str × GK) := [("bool", .ty "bool"), ("isinstance", .blt .isi)]
def c__law_says (cap : Cap) : Cv.Ctx := { N := ["told_v", "due"], sc := defScope (top 47), top := true, k := 0, glo := fun x => g__law_says.lookup x, exm := exmF errL, cap := fun _ => cap, mkr := none }
def f__law_says (cap : Cap) : Fun' := evDef 40 (c__law_says cap) 2 (defBody (top 47))
theorem ok__law_says (S : Says w h K mg) {P : Program} {G : Gc} (hK : G.K = K) (hM : G.mg = mg) (base : Heap) : GkOk P w G base "_law_says" (.fn 1 f__law_says) := by
  obtain ⟨fd, F⟩ := S.c.t.d.def_ 41 (d := mkD "_law_says" 47) rfl
  refine ⟨_, by rw [hM]; exact He.glo_ok S.KX S.N (S.c.t.d.fact 41 (f := .glo "_law_says") rfl), by rw [hK]; exact F.kp, fun G' base e1 e2 CO => ?_⟩
  rw [hK] at e1
  rw [hM] at e2
  have q := fng_def (P := P) (w := w) (G := G') (base := base) (c := c__law_says (capOf G')) (ps := ["told_v", "due"]) 40 (by rw [e1]; exact F) (by kernel_rfl) rfl (fun dV kV doc pm an cdv ct us h0 hl => by subst h0; exact (match us, hl with | [_, _], _ => rfl)) (gall (gcons ⟨by rw [e2]; exact S.no_bool, bt_bool, by decide⟩ (gcons (.inl ⟨by rw [e2]; exact S.no_isinstance, bt_isinstance, by decide⟩) gnil))) (S.exm e1 e2) rfl CO fun _ => rfl
  rw [e1, e2] at q
  rw [hK, hM]
  exact q
def m__law_says (cap : Cap) : Sv := (sSeq (sRet (eAnd (eRow (eCons (eVar 0) (eCons (eCon (.ty "bool")) eNil)) (bltOp .isi)) (two (eVar 0) (eVar 1) (cmpOp .eq))))
  sNx)
theorem ev__law_says : f__law_says = fun cap ps st => if ps.length = 2 ∧ 2 ≤ 2 then endDef (m__law_says cap (start' 2 ps) st) else .stuck := by kernel_rfl
/-! law -/
def g_law : List (Str × GK) := [("_law_bad_point", .fn 3 f__law_bad_point), ("_law_draw", .fn 1 f__law_draw), ("_law_four_due", .fn 9 f__law_four_due), ("_law_free_point", .fn 4 f__law_free_point), ("_law_half_turned", .fn 2 f__law_half_turned), ("_law_handed_row", .fn 4 f__law_handed_row), ("_law_minus", .fn 3 f__law_minus), ("_law_moved_by", .fn 4 f__law_moved_by), ("_law_on_edge", .fn 5 f__law_on_edge), ("_law_pen", .fn 1 f__law_pen), ("_law_pick", .fn 2 f__law_pick), ("_law_plus", .fn 3 f__law_plus), ("_law_says", .fn 1 f__law_says), ("_law_times", .fn 3 f__law_times), ("_law_turn_of", .fn 4 f__law_turn_of), ("is_between", .fn 6 f_is_between), ("range", .rng), ("repr", .blt .repr), ("tuple", .blt .tuple), ("turn_of", .fn 5 f_turn_of), ("zip", .zip)]
def lamq : Str := "law.<locals>.<lambda>"
def c_law : Cv.Ctx := { N := ["script", "pen", "lap", "one", "other", "point", "by", "a", "b", "side", "due", "move", "led", "spot", "back", "bad", "work", "tries"], sc := defScope (top 54), top := true, k := 9, glo := fun x => g_law.lookup x, exm := exmF errL, cap := fun η => capM (defScope (top 54)) ["script", "pen", "lap", "one", "other", "point", "by", "a", "b", "side", "due", "move", "led", "spot", "back", "bad", "work", "tries"] η, mkr := some lamq }
def f_law : Fun' := evDef 40 c_law 1 (defBody (top 54))
def lams : List (Arguments × Expr × Scope) := (defBody (top 54)).flatMap (lamsS 20)
def lam (i : Nat) : Arguments × Expr × Scope := lams.getD i (⟨[], [], none, [], [], none, []⟩, .Constant .none 0 ⟨0, 0, 0, 0⟩, default)
theorem fn_law (S : Says w h K mg) {P : Program} {fa : Addr} {base : Heap} (hfa : mg "law" = some (.ref fa)) (B : LamX.TabB base mg (He.cT K ("law", none)).1 (He.cT K ("law", none)).2) : FnG P w K mg base 10 fa (spM K mg (He.cT K ("law", none)).2 lamq f_law) := by
  obtain ⟨fd, F⟩ := S.c.t.d.def_ 42 (d := mkD "law" 54) rfl
  have e := hfa.symm.trans (He.glo_ok S.KX S.N (S.c.t.d.fact 42 (f := .glo "law") rfl))
  cases e
  refine fng_law (c := c_law) (ps := ["script"]) 40 F (by kernel_rfl) rfl (fun dV kV doc pm an cdv ct us h0 hl => by subst h0; exact (match us, hl with | [_], _ => rfl)) (fun G e1 e2 => gall (gcons (ok__law_bad_point S e1 e2 base) (gcons (ok__law_draw S e1 e2 base) (gcons (ok__law_four_due S e1 e2 base) (gcons (ok__law_free_point S e1 e2 base) (gcons (ok__law_half_turned S e1 e2 base) (gcons (ok__law_handed_row S e1 e2 base) (gcons (ok__law_minus S e1 e2 base) (gcons (ok__law_moved_by S e1 e2 base) (gcons (ok__law_on_edge S e1 e2 base) (gcons (ok__law_pen S e1 e2 base) (gcons (ok__law_pick S e1 e2 base) (gcons (ok__law_plus S e1 e2 base) (gcons (ok__law_says S e1 e2 base) (gcons (ok__law_times S e1 e2 base) (gcons (ok__law_turn_of S e1 e2 base) (gcons (ok_is_between S e1 e2 base) (gcons ⟨rfl, by rw [e2]; exact S.no_range⟩ (gcons (.inl ⟨by rw [e2]; exact S.no_repr, bt_repr, by decide⟩) (gcons (.inl ⟨by rw [e2]; exact S.no_tuple, bt_tuple, by decide⟩) (gcons (ok_turn_of S e1 e2 base) (gcons ⟨rfl, by rw [e2]; exact S.no_zip⟩ gnil)))))))))))))))))))))) (fun G e1 e2 => S.exm e1 e2) rfl (by kernel_rfl) (fun _ => rfl) (fun oc od dV kV doc pm an cdv ct osl lk hcd => code_at (p := ("law", none)) lk hcd) B
def m_law : Sv := (sSeq (sAsg (evCallF (eCons (eVar 0) eNil) (fun η => capM (defScope (top 54)) ["script", "pen", "lap", "one", "other", "point", "by", "a", "b", "side", "due", "move", "led", "spot", "back", "bad", "work", "tries"] η) f__law_pen) (.nm 1))
  (sSeq (sFor (.nm 2) (iRange1 (eCons (eCon (.int 4)) eNil)) (sSeq (sAsg (eRow (eCons (evCallF (eCons (eVar 1) eNil) (fun η => capM (defScope (top 54)) ["script", "pen", "lap", "one", "other", "point", "by", "a", "b", "side", "due", "move", "led", "spot", "back", "bad", "work", "tries"] η) f__law_free_point) (eCons (evCallF (eCons (eVar 1) eNil) (fun η => capM (defScope (top 54)) ["script", "pen", "lap", "one", "other", "point", "by", "a", "b", "side", "due", "move", "led", "spot", "back", "bad", "work", "tries"] η) f__law_free_point) (eCons (evCallF (eCons (eVar 1) eNil) (fun η => capM (defScope (top 54)) ["script", "pen", "lap", "one", "other", "point", "by", "a", "b", "side", "due", "move", "led", "spot", "back", "bad", "work", "tries"] η) f__law_free_point) eNil))) mkTup) (.tup [(.nm 3), (.nm 4), (.nm 5)]))
  (sSeq (sIf (two (evCallF (eCons (eVar 1) (eCons (eCon (.int 3)) eNil)) (fun η => capM (defScope (top 54)) ["script", "pen", "lap", "one", "other", "point", "by", "a", "b", "side", "due", "move", "led", "spot", "back", "bad", "work", "tries"] η) f__law_draw) (eCon (.int 0)) (cmpOp .eq)) (sSeq (sAsg (evCallF (eCons (eVar 1) (eCons (eRow (eCons (eRow (eCons (eCon (.int 0)) (eCons (eCon (.int 1)) eNil)) mkTup) (eCons (eRow (eCons (eCon (.int 1)) (eCons (eCon (.int 1)) eNil)) mkTup) (eCons (eRow (eCons (eCon (.int 1)) (eCons (eCon (.int 2)) eNil)) mkTup) (eCons (eRow (eCons (eCon (.int 2)) (eCons (eCon (.int 1)) eNil)) mkTup) (eCons (eRow (eCons (one (eCon (.int 1)) negOp) (eCons (eCon (.int 1)) eNil)) mkTup) eNil))))) mkLst) eNil)) (fun η => capM (defScope (top 54)) ["script", "pen", "lap", "one", "other", "point", "by", "a", "b", "side", "due", "move", "led", "spot", "back", "bad", "work", "tries"] η) f__law_pick) (.nm 6))
  (sSeq (sAsg (eRow (eCons (eLc (evCallF (eCons (eVar 7) (eCons (evCallF (eCons (eVar 6) (eCons (evCallF (eCons (eVar 8) (eCons (eVar 7) eNil)) (fun _ => []) f__law_minus) eNil)) (fun _ => []) f__law_times) eNil)) (fun _ => []) f__law_plus) (.tup [(.nm 7), (.nm 8)]) (fun _ st => .ok true st) (iZip2 (eCons (eVar 3) (eCons (eVar 4) eNil))) [7, 8]) eNil) (bltOp .tuple)) (.nm 5))
  sNx)) sNx)
  (sSeq (sAsg (evCallF (eCons (eVar 3) (eCons (eVar 4) (eCons (eVar 5) eNil))) (fun η => capM (defScope (top 54)) ["script", "pen", "lap", "one", "other", "point", "by", "a", "b", "side", "due", "move", "led", "spot", "back", "bad", "work", "tries"] η) f__law_turn_of) (.nm 9))
  (sSeq (sAsg (two (two (eVar 9) (eCon (.int 0)) (cmpOp .gt)) (two (eVar 9) (eCon (.int 0)) (cmpOp .lt)) (binOp .sub)) (.nm 10))
  (sSeq (sIf (two (eRow (eCons (evCallF (eCons (evCallF (eCons (eVar 1) (eCons (eVar 3) eNil)) (fun η => capM (defScope (top 54)) ["script", "pen", "lap", "one", "other", "point", "by", "a", "b", "side", "due", "move", "led", "spot", "back", "bad", "work", "tries"] η) f__law_handed_row) (eCons (evCallF (eCons (eVar 1) (eCons (eVar 4) eNil)) (fun η => capM (defScope (top 54)) ["script", "pen", "lap", "one", "other", "point", "by", "a", "b", "side", "due", "move", "led", "spot", "back", "bad", "work", "tries"] η) f__law_handed_row) (eCons (evCallF (eCons (eVar 1) (eCons (eVar 5) eNil)) (fun η => capM (defScope (top 54)) ["script", "pen", "lap", "one", "other", "point", "by", "a", "b", "side", "due", "move", "led", "spot", "back", "bad", "work", "tries"] η) f__law_handed_row) eNil))) (fun η => capM (defScope (top 54)) ["script", "pen", "lap", "one", "other", "point", "by", "a", "b", "side", "due", "move", "led", "spot", "back", "bad", "work", "tries"] η) f_turn_of) eNil) (bltOp .repr)) (eRow (eCons (eVar 10) eNil) (bltOp .repr)) (cmpOp .ne)) (sSeq (sRet (eCon (.bl false)))
  sNx) sNx)
  (sSeq (sIf (one (evCallF (eCons (evCallF (eCons (evCallF (eCons (eVar 1) (eCons (eVar 3) eNil)) (fun η => capM (defScope (top 54)) ["script", "pen", "lap", "one", "other", "point", "by", "a", "b", "side", "due", "move", "led", "spot", "back", "bad", "work", "tries"] η) f__law_handed_row) (eCons (evCallF (eCons (eVar 1) (eCons (eVar 4) eNil)) (fun η => capM (defScope (top 54)) ["script", "pen", "lap", "one", "other", "point", "by", "a", "b", "side", "due", "move", "led", "spot", "back", "bad", "work", "tries"] η) f__law_handed_row) (eCons (eVar 5) eNil))) (fun η => capM (defScope (top 54)) ["script", "pen", "lap", "one", "other", "point", "by", "a", "b", "side", "due", "move", "led", "spot", "back", "bad", "work", "tries"] η) f_is_between) (eCons (evCallF (eCons (eVar 5) (eCons (eVar 3) (eCons (eVar 4) eNil))) (fun η => capM (defScope (top 54)) ["script", "pen", "lap", "one", "other", "point", "by", "a", "b", "side", "due", "move", "led", "spot", "back", "bad", "work", "tries"] η) f__law_on_edge) eNil)) (fun η => capM (defScope (top 54)) ["script", "pen", "lap", "one", "other", "point", "by", "a", "b", "side", "due", "move", "led", "spot", "back", "bad", "work", "tries"] η) f__law_says) notOp) (sSeq (sRet (eCon (.bl false)))
  sNx) sNx)
  (sSeq (sIf (eOr (two (evCallF (eCons (eVar 4) (eCons (eVar 3) (eCons (eVar 5) eNil))) (fun η => capM (defScope (top 54)) ["script", "pen", "lap", "one", "other", "point", "by", "a", "b", "side", "due", "move", "led", "spot", "back", "bad", "work", "tries"] η) f_turn_of) (one (eVar 10) negOp) (cmpOp .ne)) (eOr (two (evCallF (eCons (eVar 4) (eCons (eVar 5) (eCons (eVar 3) eNil))) (fun η => capM (defScope (top 54)) ["script", "pen", "lap", "one", "other", "point", "by", "a", "b", "side", "due", "move", "led", "spot", "back", "bad", "work", "tries"] η) f_turn_of) (eVar 10) (cmpOp .ne)) (eOr (two (evCallF (eCons (eVar 3) (eCons (eVar 3) (eCons (eVar 5) eNil))) (fun η => capM (defScope (top 54)) ["script", "pen", "lap", "one", "other", "point", "by", "a", "b", "side", "due", "move", "led", "spot", "back", "bad", "work", "tries"] η) f_turn_of) (eCon (.int 0)) (cmpOp .ne)) (two (evCallF (eCons (eVar 3) (eCons (eVar 4) (eCons (eVar 3) eNil))) (fun η => capM (defScope (top 54)) ["script", "pen", "lap", "one", "other", "point", "by", "a", "b", "side", "due", "move", "led", "spot", "back", "bad", "work", "tries"] η) f_is_between) (eCon (.bl true)) (cmpOp .isnot))))) (sSeq (sRet (eCon (.bl false)))
  sNx) sNx)
  (sSeq (sAsg (evCallF (eCons (eVar 1) eNil) (fun η => capM (defScope (top 54)) ["script", "pen", "lap", "one", "other", "point", "by", "a", "b", "side", "due", "move", "led", "spot", "back", "bad", "work", "tries"] η) f__law_free_point) (.nm 11))
  (sSeq (sAsg (eLc (two (evCallF (eCons (eRow (eCons (eVar 13) eNil) mkTup) (eCons (eVar 11) eNil)) (fun _ => []) f__law_moved_by) (eCon (.int 0)) idxOp) (.nm 13) (fun _ st => .ok true st) (iSeq (eRow (eCons (eVar 3) (eCons (eVar 4) (eCons (eVar 5) eNil))) mkTup)) [13]) (.nm 12))
  (sSeq (sAsg (eLc (two (evCallF (eCons (eRow (eCons (eVar 13) eNil) mkTup) eNil) (fun _ => []) f__law_half_turned) (eCon (.int 0)) idxOp) (.nm 13) (fun _ st => .ok true st) (iSeq (eRow (eCons (eVar 3) (eCons (eVar 4) (eCons (eVar 5) eNil))) mkTup)) [13]) (.nm 14))
  (sSeq (sIf (eOr (two (evCallF (eCons (two (eVar 12) (eCon (.int 0)) idxOp) (eCons (two (eVar 12) (eCon (.int 1)) idxOp) (eCons (two (eVar 12) (eCon (.int 2)) idxOp) eNil))) (fun η => capM (defScope (top 54)) ["script", "pen", "lap", "one", "other", "point", "by", "a", "b", "side", "due", "move", "led", "spot", "back", "bad", "work", "tries"] η) f_turn_of) (eVar 10) (cmpOp .ne)) (eOr (two (evCallF (eCons (two (eVar 14) (eCon (.int 0)) idxOp) (eCons (two (eVar 14) (eCon (.int 1)) idxOp) (eCons (two (eVar 14) (eCon (.int 2)) idxOp) eNil))) (fun η => capM (defScope (top 54)) ["script", "pen", "lap", "one", "other", "point", "by", "a", "b", "side", "due", "move", "led", "spot", "back", "bad", "work", "tries"] η) f_turn_of) (eVar 10) (cmpOp .ne)) (two (evCallF (eCons (eVar 4) (eCons (eVar 3) (eCons (eVar 5) eNil))) (fun η => capM (defScope (top 54)) ["script", "pen", "lap", "one", "other", "point", "by", "a", "b", "side", "due", "move", "led", "spot", "back", "bad", "work", "tries"] η) f_is_between) (evCallF (eCons (eVar 3) (eCons (eVar 4) (eCons (eVar 5) eNil))) (fun η => capM (defScope (top 54)) ["script", "pen", "lap", "one", "other", "point", "by", "a", "b", "side", "due", "move", "led", "spot", "back", "bad", "work", "tries"] η) f_is_between) (cmpOp .ne)))) (sSeq (sRet (eCon (.bl false)))
  sNx) sNx)
  sNx))))))))))))
  (sSeq (sAsg (evCallF (eCons (eVar 1) eNil) (fun η => capM (defScope (top 54)) ["script", "pen", "lap", "one", "other", "point", "by", "a", "b", "side", "due", "move", "led", "spot", "back", "bad", "work", "tries"] η) f__law_bad_point) (.nm 15))
  (sSeq (sFor (.nm 16) (iSeq (eRow (eCons (eCon (.gl "turn_of")) (eCons (eCon (.gl "is_between")) eNil)) mkTup)) (sSeq (sAsg (eRow (eCons (eRow (eCons (eLam lamq (lam 0)) (eCons (eRow (eCons (eCon (.str "row")) (eCons (eVar 15) eNil)) mkTup) eNil)) mkTup) eNil) mkLst) (.nm 17))
  (sSeq (sExp (eMthL .append (eVar 17) (eCons (eRow (eCons (eLam lamq (lam 1)) (eCons (eRow (eCons (eCon (.str "row")) (eCons (eVar 15) eNil)) mkTup) eNil)) mkTup) eNil)))
  (sSeq (sExp (eMthL .append (eVar 17) (eCons (eRow (eCons (eLam lamq (lam 2)) (eCons (eRow (eCons (eCon (.str "row")) (eCons (eVar 15) eNil)) mkTup) eNil)) mkTup) eNil)))
  (sSeq (sIf (one (evCallF (eCons (eVar 17) eNil) (fun η => capM (defScope (top 54)) ["script", "pen", "lap", "one", "other", "point", "by", "a", "b", "side", "due", "move", "led", "spot", "back", "bad", "work", "tries"] η) f__law_four_due) notOp) (sSeq (sRet (eCon (.bl false)))
  sNx) sNx)
  sNx)))))
  (sSeq (sRet (eCon (.bl true)))
  sNx)))))
theorem ev_law : f_law = fun ps st => if ps.length = 1 ∧ 1 ≤ 18 then endDef (m_law (start' 18 ps) st) else .stuck := by kernel_rfl
end
end Cut
/-! ### runs by rules -/
namespace Cv
open L2 PySem PySem.Spec PyProof.Rows
section
variable {α : Type} {a b c : Ev PV} {η η' : Env'} {st s1 s2 : Sto} {f : PV → PV → Sto → Res PV} {g : PV → Sto → Res PV} {p q : PV} {ps : List PV} {i j : Int} {k : Bool} {res : Res PV} {sr r0 : SR} {m n : Sv} {x : Str} {fs : List (Str × PV)}
theorem r_two (h1 : a η st = .ok p s1) (h2 : b η s1 = .ok q s2) (h3 : f p q s2 = res) : two a b f η st = res := by unfold two; rw [h1, Res.ok_bind, h2, Res.ok_bind, h3]
theorem r_one (h1 : a η st = .ok p s1) (h2 : g p s1 = res) : one a g η st = res := by unfold one; rw [h1, Res.ok_bind, h2]
theorem r_var {k : Nat} (h : η[k]? = some (some p)) : eVar k η st = .ok p st := by unfold eVar; rw [h]
theorem r_con : eCon p η st = .ok p st := rfl
theorem r_row {r : Ev (List PV)} {h : List PV → Sto → Res PV} (h1 : r η st = .ok ps s1) (h2 : h ps s1 = res) : eRow r h η st = res := by unfold eRow; rw [h1, Res.ok_bind, h2]
theorem r_nil : eNil η st = .ok [] st := rfl
theorem r_cons {r : Ev (List PV)} (h1 : a η st = .ok p s1) (h2 : r η s1 = .ok ps s2) : eCons a r η st = .ok (p :: ps) s2 := by unfold eCons; rw [h1, Res.ok_bind, h2, Res.ok_bind]
theorem r_callF {r : Ev (List PV)} {cap : Env' → Cap} {g : Cap → Fun'} (h1 : r η st = .ok ps s1) (h2 : g (cap η) ps s1 = res) : evCallF r cap g η st = res := by unfold evCallF; rw [h1, Res.ok_bind, h2]
theorem r_and (h1 : a η st = .ok (.bl k) s1) (h2 : (if k = true then b η s1 else .ok (.bl false) s1) = res) : eAnd a b η st = res := by unfold eAnd; rw [h1, ← h2]; cases k <;> rfl
theorem r_or (h1 : a η st = .ok (.bl k) s1) (h2 : (if k = true then .ok (.bl true) s1 else b η s1) = res) : eOr a b η st = res := by unfold eOr; rw [h1, ← h2]; cases k <;> rfl
theorem r_and2 {l : Bool} (h1 : a η st = .ok (.bl k) st) (h2 : b η st = .ok (.bl l) st) : eAnd a b η st = .ok (.bl (k && l)) st := r_and h1 (by rw [h2]; cases k <;> rfl)
theorem r_or2 {l : Bool} (h1 : a η st = .ok (.bl k) st) (h2 : b η st = .ok (.bl l) st) : eOr a b η st = .ok (.bl (k || l)) st := r_or h1 (by rw [h2]; cases k <;> rfl)
theorem r_ite (h1 : eT c η st = .ok k s1) (h2 : (if k = true then a η s1 else b η s1) = res) : eIte c a b η st = res := by unfold eIte; rw [h1, ← h2]; rfl
theorem r_t {rb : Res Bool} (h1 : a η st = .ok p s1) (h2 : truR p s1 = rb) : eT a η st = rb := by unfold eT; rw [h1, Res.ok_bind, h2]
theorem r_not (h : truR p st = .ok k s1) : notOp p st = .ok (.bl (!k)) s1 := by unfold notOp; rw [h, Res.ok_bind]
theorem r_trb : truR (.bl k) st = .ok k st := rfl
theorem r_seq (h1 : m η st = r0) (h2 : r0.then n = sr) : sSeq m n η st = sr := by unfold sSeq; rw [h1, h2]
theorem r_then_nx (h : n η st = sr) : (SR.ok .nx η st).then n = sr := h
theorem r_then_rt : (SR.ok (.rt p) η st).then n = .ok (.rt p) η st := rfl
theorem r_then_bk : (SR.ok .bk η st).then n = .ok .bk η st := rfl
theorem r_then_ct : (SR.ok .ct η st).then n = .ok .ct η st := rfl
theorem r_then_exn : (SR.exn x fs η st).then n = .exn x fs η st := rfl
theorem r_ret (h : a η st = .ok p s1) : sRet a η st = .ok (.rt p) η s1 := by unfold sRet; rw [h]; rfl
theorem r_ret_x (h : a η st = .exn x fs s1) : sRet a η st = .exn x fs η s1 := by unfold sRet; rw [h]; rfl
theorem r_nx : sNx η st = .ok .nx η st := rfl
theorem r_fl {f : Fl} : sFl f η st = .ok f η st := rfl
theorem r_exp (h : a η st = .ok p s1) : sExp a η st = .ok .nx η s1 := by unfold sExp; rw [h]; rfl
theorem r_if (h1 : eT c η st = .ok k s1) (h2 : (if k = true then m η s1 else n η s1) = sr) : sIf c m n η st = sr := by unfold sIf; rw [h1, ← h2]; rfl
theorem r_set {k : Nat} (h : a η st = .ok p s1) (h2 : η.set k (some p) = η') : sAsg a (.nm k) η st = .ok .nx η' s1 := by unfold sAsg; rw [h, ← h2]; rfl
theorem r_set_x {k : Nat} (h : a η st = .exn x fs s1) : sAsg a (.nm k) η st = .exn x fs η s1 := by unfold sAsg; rw [h]; rfl
theorem r_asg {t : CT} (h : a η st = .ok p s1) (h2 : asg s1 t p η = some η') : sAsg a t η st = .ok .nx η' s1 := by
  unfold sAsg; rw [h]
  show (match asg s1 t p η with | some η' => SR.ok .nx η' s1 | none => .stuck) = _
  rw [h2]
theorem r_par {i j : Nat} {r : Ev (List PV)} {η2 : Env'} (h : r η st = .ok [p, q] s1) (h2 : η.set i (some p) = η') (h3 : η'.set j (some q) = η2) : sPar i j r η st = .ok .nx η2 s1 := by unfold sPar; rw [h, ← h3, ← h2]; rfl
theorem r_end (h : r0 = .ok (.rt p) η st) : endDef r0 = .ok p st := by rw [h]; rfl
theorem r_end_nx (h : r0 = .ok .nx η st) : endDef r0 = .ok .non st := by rw [h]; rfl
theorem r_end_x (h : r0 = .exn x fs η st) : endDef r0 = .exn x fs st := by rw [h]; rfl
theorem r_sz {α : Type} {a v : α} {l : List α} : (a :: l).set 0 v = v :: l := rfl
theorem r_ss {α : Type} {a v : α} {l l' : List α} {n : Nat} (h : l.set n v = l') : (a :: l).set (n + 1) v = a :: l' := by rw [← h]; rfl
theorem r_tup {xs : List PV} (h : Nat.ble xs.length 1000000 = true) : mkTup xs st = .ok (.tup xs) st := if_pos (Nat.le_of_ble_eq_true h)
theorem r_lst {xs : List PV} (h : Nat.ble xs.length 1000000 = true) : mkLst xs st = .ok (.loc st.length) (st ++ [.lst xs]) := if_pos (Nat.le_of_ble_eq_true h)
theorem r_T {α : Type} {x y z : α} (h : k = true) (e : x = z) : (if k = true then x else y) = z := by rw [if_pos h, e]
theorem r_F {α : Type} {x y z : α} (h : k = false) (e : y = z) : (if k = true then x else y) = z := by rw [if_neg (by rw [h]; decide), e]
theorem ix_items {xs : List PV} {x y : PV} {k : Nat} (h0 : items st y = some xs) (h : xs[k]? = some x) : idxOp y (.int (k : Int)) st = .ok x st := by
  have lt := (List.getElem?_eq_some_iff.mp h).1
  have e2 : atI xs (k : Int) = some x := by
    unfold atI L2.ixN
    rw [if_pos (by omega),
          if_pos (by omega)]
    simpa using h
  show (match items st y with | some xs => rb (atI xs k) st | none => dIdx y (.inl k) st) = _
  rw [h0]
  show rb (atI xs k) st = _
  rw [e2]
  rfl
theorem r_ix0 {x : PV} {xs : List PV} : idxOp (.tup (x :: xs)) (.int 0) st = .ok x st := ix_items (k := 0) rfl rfl
theorem r_ix1 {x y : PV} {xs : List PV} : idxOp (.tup (x :: y :: xs)) (.int 1) st = .ok y st := ix_items (k := 1) rfl rfl
theorem r_ix2 {x y z : PV} {xs : List PV} : idxOp (.tup (x :: y :: z :: xs)) (.int 2) st = .ok z st := ix_items (k := 2) rfl rfl
theorem r_items {l : Nat} {xs : List PV} (h : st[l]? = some (.lst xs)) : items st (.loc l) = some xs := by
  show (match st[l]? with | some (.lst xs) => some xs | _ => none) = _
  rw [h]
theorem r_lx0 {l : Nat} {x : PV} {xs : List PV} (h : st[l]? = some (.lst (x :: xs))) : idxOp (.loc l) (.int 0) st = .ok x st := ix_items (k := 0) (r_items h) rfl
theorem r_lx1 {l : Nat} {x y : PV} {xs : List PV} (h : st[l]? = some (.lst (x :: y :: xs))) : idxOp (.loc l) (.int 1) st = .ok y st := ix_items (k := 1) (r_items h) rfl
theorem r_lx2 {l : Nat} {x y z : PV} {xs : List PV} (h : st[l]? = some (.lst (x :: y :: z :: xs))) : idxOp (.loc l) (.int 2) st = .ok z st := ix_items (k := 2) (r_items h) rfl
theorem r_add : binOp .add (.int i) (.int j) st = .ok (.int (i + j)) st := rfl
theorem r_sub : binOp .sub (.int i) (.int j) st = .ok (.int (i - j)) st := rfl
theorem r_subB {k l : Bool} : binOp .sub (.bl k) (.bl l) st = .ok (.int (b2i k - b2i l)) st := rfl
theorem r_neg : negOp (.int i) st = .ok (.int (-i)) st := rfl
theorem r_lt : cmpOp .lt (.int i) (.int j) st = .ok (.bl (decide (i < j))) st := rfl
theorem r_le : cmpOp .le (.int i) (.int j) st = .ok (.bl (decide (i ≤ j))) st := rfl
theorem r_gt : cmpOp .gt (.int i) (.int j) st = .ok (.bl (decide (j < i))) st := rfl
theorem r_ge : cmpOp .ge (.int i) (.int j) st = .ok (.bl (decide (j ≤ i))) st := rfl
theorem dat_i {st : Sto} : dat st (.int i) = some (.int i) := by
  unfold dat toD
  simp [SeqAt.shaped, PyData.canLay0, PyData.depth]
theorem r_eq : cmpOp .eq (.int i) (.int j) st = .ok (.bl (decide (i = j))) st := by
  show (match (match dat st (.int i), dat st (.int j) with | some d, some e => some (PyData.eqv d e) | _, _ => none) with | some b => Res.ok (PV.bl b) st | none => .stuck) = _
  rw [dat_i, dat_i]
  show Res.ok (PV.bl (i == j)) st = _
  by_cases h : i = j <;> simp [h]
theorem r_ne : cmpOp .ne (.int i) (.int j) st = .ok (.bl (!decide (i = j))) st := by
  show (match ((match dat st (.int i), dat st (.int j) with | some d, some e => some (PyData.eqv d e) | _, _ => none).map not) with | some b => Res.ok (PV.bl b) st | none => .stuck) = _
  rw [dat_i, dat_i]
  show Res.ok (PV.bl (!(i == j))) st = _
  by_cases h : i = j <;> simp [h]
theorem r_eqB {k l : Bool} : cmpOp .eq (.bl k) (.bl l) st = .ok (.bl (decide (k = l))) st := by cases k <;> cases l <;> kernel_rfl
theorem r_neB {k l : Bool} : cmpOp .ne (.bl k) (.bl l) st = .ok (.bl (!decide (k = l))) st := by cases k <;> cases l <;> kernel_rfl
theorem r_eqS {x y : Str} : cmpOp .eq (.str x) (.str y) st = .ok (.bl (decide (x = y))) st := rfl
theorem r_neS {x y : Str} : cmpOp .ne (.str x) (.str y) st = .ok (.bl (!decide (x = y))) st := rfl
theorem r_isB {k l : Bool} : cmpOp .is (.bl k) (.bl l) st = .ok (.bl (decide (k = l))) st := rfl
theorem r_isnB {k l : Bool} : cmpOp .isnot (.bl k) (.bl l) st = .ok (.bl (!decide (k = l))) st := rfl
theorem r_lenT {xs : List PV} : bltOp .len [.tup xs] st = .ok (.int (xs.length : Nat)) st := rfl
theorem r_lenL {l : Nat} {xs : List PV} (h : st[l]? = some (.lst xs)) : bltOp .len [.loc l] st = .ok (.int (xs.length : Nat)) st := by
  show rb ((match st[l]? with | some (.lst xs) => some xs.length | some (.dct xs) => some xs.length | _ => none).map fun n : Nat => PV.int (n : Int)) st = _
  rw [h]
  rfl
theorem r_tupL {l : Nat} {xs : List PV} (h : st[l]? = some (.lst xs)) : bltOp .tuple [.loc l] st = .ok (.tup xs) st := by
  show rb ((items st (.loc l)).map .tup) st = _
  rw [r_items h]
  rfl
end
theorem r_ok {α : Type} {x : α} {st : Sto} : Res.ok x st = Res.ok x st := rfl
theorem r_asm {α : Type} {x y : Res α} (h : x = y) : x = y := h
/-! a side condition -/
end Cv
/-! ### stores that grow, comprehensions -/
namespace Cv
open L2 PySem PySem.Spec PyProof.Rows
def Ext (st st' : Sto) : Prop := ∀ (k : Nat) (x : SO), st[k]? = some x → st'[k]? = some x
section
variable {st st' st2 : Sto} {n : Nat} {o : SO}
theorem Ext.refl : Ext st st := fun _ _ h => h
theorem Ext.trans (a : Ext st st') (b : Ext st' st2) : Ext st st2 := fun k x h => b k x (a k x h)
theorem Ext.push {l : List SO} : Ext st (st ++ l) := fun k x h => by
  rw [List.getElem?_append_left (List.getElem?_eq_some_iff.mp h).1]; exact h
theorem Ext.set (a : Ext st st') (h : st.length ≤ n) : Ext st (st'.set n o) := fun k x e => by
  have := (List.getElem?_eq_some_iff.mp e).1
  rw [List.getElem?_set_ne (by omega)]
  exact a k x e
theorem push_at : (st ++ [o])[st.length]? = some o := by simp
theorem set_at {x y : SO} (h : st[n]? = some x) : (st.set n y)[n]? = some y := by
  have := (List.getElem?_eq_some_iff.mp h).1
  rw [List.getElem?_set_self this]
end
/-- item by item -/
inductive A2 (P : PV → PV → Prop) : List PV → List PV → Prop
  | nil : A2 P [] []
  | cons {x y : PV} {xs ys : List PV} : P x y → A2 P xs ys → A2 P (x :: xs) (y :: ys)
theorem A2.length {P : PV → PV → Prop} : ∀ {xs ys : List PV}, A2 P xs ys → xs.length = ys.length
  | _, _, .nil => rfl
  | _, _, .cons _ r => by simp [A2.length r]
section
variable {elt : Ev PV} {t : CT} {ifs : Ev Bool} {it : Ev Src} {vs : List Nat} {η η0 η1 : Env'} {st s1 s2 : Sto} {s : Src} {d k i : Nat} {x y : PV} {acc xs ys : List PV} {res : Res Unit}
theorem lc_step (h1 : srcAt st s i = some (some x)) (h2 : asg st t x η = some η1) (h3 : ifs η1 st = .ok true s1) (h4 : elt η1 s1 = .ok y s2) (h5 : s2[d]? = some (.lst acc)) (h6 : acc.length < 1000000)
    (h : lcLoop elt t ifs s η d k (i + 1) (s2.set d (.lst (acc ++ [y]))) = res) : lcLoop elt t ifs s η d (k + 1) i st = res := by
  show (match srcAt st s i with
    | none => Res.stuck
    | some none => .ok () st
    | some (some x) => match asg st t x η with
      | none => .stuck
      | some η1 => match ifs η1 st with
        | .ok false st => lcLoop elt t ifs s η d k (i + 1) st
        | .ok true st => match elt η1 st with
          | .ok y st => match st[d]? with
            | some (.lst acc) => if acc.length < LIM then lcLoop elt t ifs s η d k (i + 1) (st.set d (.lst (acc ++ [y]))) else .stuck
            | _ => .stuck
          | _ => .stuck
        | _ => .stuck) = _
  rw [h1]
  show (match asg st t x η with
      | none => Res.stuck
      | some η1 => match ifs η1 st with
        | .ok false st => lcLoop elt t ifs s η d k (i + 1) st
        | .ok true st => match elt η1 st with
          | .ok y st => match st[d]? with
            | some (.lst acc) => if acc.length < LIM then lcLoop elt t ifs s η d k (i + 1) (st.set d (.lst (acc ++ [y]))) else .stuck
            | _ => .stuck
          | _ => .stuck
        | _ => .stuck) = _
  rw [h2]
  show (match ifs η1 st with
        | .ok false st => lcLoop elt t ifs s η d k (i + 1) st
        | .ok true st => match elt η1 st with
          | .ok y st => match st[d]? with
            | some (.lst acc) => if acc.length < LIM then lcLoop elt t ifs s η d k (i + 1) (st.set d (.lst (acc ++ [y]))) else .stuck
            | _ => .stuck
          | _ => .stuck
        | _ => .stuck) = _
  rw [h3]
  show (match elt η1 s1 with
          | .ok y st => match st[d]? with
            | some (.lst acc) => if acc.length < LIM then lcLoop elt t ifs s η d k (i + 1) (st.set d (.lst (acc ++ [y]))) else .stuck
            | _ => .stuck
          | _ => Res.stuck) = _
  rw [h4]
  show (match s2[d]? with
            | some (.lst acc) => if acc.length < LIM then lcLoop elt t ifs s η d k (i + 1) (s2.set d (.lst (acc ++ [y]))) else .stuck
            | _ => Res.stuck) = _
  rw [h5]
  show (if acc.length < LIM then lcLoop elt t ifs s η d k (i + 1) (s2.set d (.lst (acc ++ [y]))) else .stuck) = _
  rw [if_pos (show acc.length < LIM from h6), h]
theorem lc_stop (h1 : srcAt st s i = some none) : lcLoop elt t ifs s η d (k + 1) i st = .ok () st := by
  show (match srcAt st s i with
    | none => Res.stuck
    | some none => .ok () st
    | some (some x) => match asg st t x η with
      | none => .stuck
      | some η1 => match ifs η1 st with
        | .ok false st => lcLoop elt t ifs s η d k (i + 1) st
        | .ok true st => match elt η1 st with
          | .ok y st => match st[d]? with
            | some (.lst acc) => if acc.length < LIM then lcLoop elt t ifs s η d k (i + 1) (st.set d (.lst (acc ++ [y]))) else .stuck
            | _ => .stuck
          | _ => .stuck
        | _ => .stuck) = _
  rw [h1]
theorem r_lc (h1 : it η st = .ok s s1) (h2 : lcLoop elt t ifs s (wipeP η vs) s1.length FU 0 (s1 ++ [.lst []]) = .ok () s2) : eLc elt t ifs it vs η st = .ok (.loc s1.length) s2 := by
  unfold eLc
  rw [h1, Res.ok_bind, h2, Res.ok_bind]
/-- every item, where the store grows -/
def Elem (elt : Ev PV) (t : CT) (η : Env') (st : Sto) (x y : PV) : Prop := ∀ s, Ext st s → ∃ η1 s', asg s t x η = some η1 ∧ elt η1 s = .ok y s' ∧ Ext s s'
theorem lc_loop {full : List PV} (hs : ∀ s', Ext st s' → ∀ i, srcAt s' s i = some full[i]?) (hd : d = st.length) : ∀ (xs ys acc : List PV) (i k : Nat) (s0 : Sto), A2 (Elem elt t η st) xs ys → full.drop i = xs → Ext st s0 → s0[d]? = some (.lst acc) → xs.length < k → acc.length + xs.length < 900000 →
    ∃ s', lcLoop elt t (fun _ st => .ok true st) s η d k i s0 = .ok () s' ∧ Ext st s' ∧ s'[d]? = some (.lst (acc ++ ys))
  | [], _, acc, i, 0, s0, _, _, _, _, hk, _ => by simp at hk
  | [], _, acc, i, k + 1, s0, .nil, hx, e, ha, hk, _ => by
    refine ⟨s0, lc_stop ?_, e, by simpa using ha⟩
    rw [hs s0 e i]
    have := List.drop_eq_nil_iff.mp hx
    rw [List.getElem?_eq_none this]
  | x :: xs, _, acc, i, 0, s0, _, _, _, _, hk, _ => by simp at hk
  | x :: xs, _, acc, i, k + 1, s0, .cons (y := y) (ys := ys) h r, hx, e, ha, hk, hl => by
    have hi : full[i]? = some x := by
      have := congrArg (fun l => l[0]?) hx
      simpa using this
    have hx2 : full.drop (i + 1) = xs := by
      have := congrArg List.tail hx
      simpa using this
    obtain ⟨η1, s1, a1, a2, a3⟩ := h s0 e
    have e1 : Ext st (s1.set d (.lst (acc ++ [y]))) := (e.trans a3).set (by omega)
    have l1 : (x :: xs).length = xs.length + 1 := rfl
    obtain ⟨s', b1, b2, b3⟩ := lc_loop hs hd xs ys (acc ++ [y]) (i + 1) k (s1.set d (.lst (acc ++ [y]))) r hx2 e1 (set_at (a3 _ _ ha)) (by omega) (by simp; omega)
    exact ⟨s', lc_step (by rw [hs s0 e i, hi]) a1 rfl a2 (a3 _ _ ha) (by omega) b1, b2, by simpa using b3⟩
theorem lc_ext (h1 : it η st = .ok s st) (hs : ∀ s', Ext st s' → ∀ i, srcAt s' s i = some xs[i]?) (h : A2 (Elem elt t (wipeP η vs) st) xs ys) (hl : xs.length < 900000) : ∃ s', eLc elt t (fun _ st => .ok true st) it vs η st = .ok (.loc st.length) s' ∧ Ext st s' ∧ s'[st.length]? = some (.lst ys) := by
  obtain ⟨s', a, b, c⟩ := lc_loop hs rfl xs ys [] 0 FU (st ++ [.lst []]) h rfl Ext.push push_at (by unfold FU; omega) (by simpa using hl)
  exact ⟨s', r_lc h1 a, b, c⟩
theorem src_items {p : PV} (h : ∀ s', Ext st s' → items s' p = some xs) : ∀ s', Ext st s' → ∀ i, srcAt s' (.seq p) i = some xs[i]? := fun s' e i => by
  show (items s' p).map (fun xs => xs[i]?) = _
  rw [h s' e]
  rfl
theorem r_iseq {m : Ev PV} {p : PV} (h : m η st = .ok p s1) (hi : items s1 p = some xs) : iSeq m η st = .ok (.seq p) s1 := by
  unfold iSeq
  rw [h, Res.ok_bind]
  show (match items s1 p with | some _ => Res.ok (Src.seq p) s1 | none => .stuck) = _
  rw [hi]
end
end Cv
/-! ### loops, writes, errors passed on -/
namespace Cv
open L2 PySem PySem.Spec PyProof.Rows
section
variable {η η1 η2 : Env'} {st s s1 s2 s3 : Sto} {m : Sv} {t : Ev PV} {a : Ev PV} {r : Ev (List PV)} {p : PV} {ps xs : List PV} {x : Str} {fs : List (Str × PV)} {res : Res PV} {sr : SR} {i : Nat} {src : Src} {ct : CT} {it : Ev Src}
theorem r_wh_f {k : Nat} (h : eT t η st = .ok false s) : whileLoop t m (k + 1) η st = .ok .nx η s := by
  show SR.of (eT t η st) η _ = _
  rw [h]
  rfl
theorem r_wh_t {k : Nat} (h : eT t η st = .ok true s1) (h2 : m η s1 = .ok .nx η2 s2) (h3 : whileLoop t m k η2 s2 = sr) : whileLoop t m (k + 1) η st = sr := by
  show SR.of (eT t η st) η _ = _
  rw [h, ← h3]
  show (if true = true then (match m η s1 with
      | .ok .nx η st => whileLoop t m k η st
      | .ok .ct η st => whileLoop t m k η st
      | .ok .bk η st => .ok .nx η st
      | r => r) else .ok .nx η s1) = _
  rw [if_pos rfl, h2]
theorem while0 (h : eT t η st = .ok false s) : whileLoop t m FU η st = .ok .nx η s := r_wh_f (k := 999999) h
theorem while1 (h : eT t η st = .ok true s1) (h2 : m η s1 = .ok .nx η2 s2) (h3 : eT t η2 s2 = .ok false s) : whileLoop t m FU η st = .ok .nx η2 s := r_wh_t (k := 999999) h h2 (r_wh_f (k := 999998) h3)
theorem r_fgo {k : Nat} {x : PV} (h1 : srcAt st src i = some (some x)) (h2 : asg st ct x η = some η1) (h3 : m η1 st = .ok .nx η2 s) (h4 : forLoop ct src m k (i + 1) η2 s = sr) : forLoop ct src m (k + 1) i η st = sr := by
  rw [← h4]
  show (match srcAt st src i with | none => SR.stuck | some none => .ok .nx η st | some (some x) => (match asg st ct x η with | none => .stuck | some η => (match m η st with | .ok .nx η st => forLoop ct src m k (i + 1) η st | .ok .ct η st => forLoop ct src m k (i + 1) η st | .ok .bk η st => .ok .nx η st | r => r))) = _
  rw [h1]
  dsimp only
  rw [h2]
  dsimp only
  rw [h3]
theorem r_fend {k : Nat} (h1 : srcAt st src i = some none) : forLoop ct src m (k + 1) i η st = .ok .nx η st := by
  show (match srcAt st src i with | none => SR.stuck | some none => .ok .nx η st | some (some x) => (match asg st ct x η with | none => .stuck | some η => (match m η st with | .ok .nx η st => forLoop ct src m k (i + 1) η st | .ok .ct η st => forLoop ct src m k (i + 1) η st | .ok .bk η st => .ok .nx η st | r => r))) = _
  rw [h1]
theorem r_for (h1 : it η st = .ok src s1) (h2 : forLoop ct src m FU 0 η s1 = sr) : sFor ct it m η st = sr := by
  unfold sFor
  rw [h1]
  exact h2
theorem r_insert {n : Nat} {k : Int} {y : PV} (h : s[n]? = some (.lst xs)) (hl : xs.length < 1000000) (h0 : 0 ≤ k) (h1 : k < 1000000) : mthOp .insert (.loc n) [.int k, y] s = .ok .non (s.set n (.lst (xs.take k.toNat ++ [y] ++ xs.drop k.toNat))) := by
  show (match s[n]? with
      | some (.lst xs) => if xs.length < LIM ∧ 0 ≤ k ∧ k < 1000000000 then Res.ok PV.non (s.set n (.lst (xs.take k.toNat ++ [y] ++ xs.drop k.toNat))) else .stuck
      | _ => .stuck) = _
  rw [h]
  show (if xs.length < LIM ∧ 0 ≤ k ∧ k < 1000000000 then Res.ok PV.non (s.set n (.lst (xs.take k.toNat ++ [y] ++ xs.drop k.toNat))) else .stuck) = _
  rw [if_pos ⟨hl, h0, by omega⟩]
theorem r_append {n : Nat} {y : PV} (h : s[n]? = some (.lst xs)) (hl : xs.length < 1000000) : mthOp .append (.loc n) [y] s = .ok .non (s.set n (.lst (xs ++ [y]))) := by
  show (match s[n]? with
      | some (.lst xs) => if xs.length < LIM then Res.ok PV.non (s.set n (.lst (xs ++ [y]))) else .stuck
      | _ => .stuck) = _
  rw [h]
  show (if xs.length < LIM then Res.ok PV.non (s.set n (.lst (xs ++ [y]))) else .stuck) = _
  rw [if_pos (show xs.length < LIM from hl)]
theorem r_mthL {mi : MI} {n : Nat} (h1 : a η st = .ok (.loc n) s1) (hl : s1[n]? = some (.lst xs)) (h2 : r η s1 = .ok ps s2) (h3 : mthOp mi (.loc n) ps s2 = res) : eMthL mi a r η st = res := by
  unfold eMthL
  rw [h1, Res.ok_bind]
  have il : isList s1 (.loc n) = true := by
    show (match s1[n]? with | some (.lst _) => true | _ => false) = _
    rw [hl]
  rw [if_pos il, h2, Res.ok_bind, h3]
/-- the last item -/
theorem r_lxm {l : Nat} {y : PV} (h : s[l]? = some (.lst xs)) (e : xs.getLast? = some y) : idxOp (.loc l) (.int (-1)) s = .ok y s := by
  have ne : xs ≠ [] := by rintro rfl; simp at e
  have l0 : 0 < xs.length := List.length_pos_iff.mpr ne
  have e2 : atI xs (-1) = some y := by
    unfold atI L2.ixN
    rw [if_neg (by decide), if_pos (by omega)]
    show xs[(-1 + (xs.length : Int)).toNat]? = _
    rw [show (-1 + (xs.length : Int)).toNat = xs.length - 1 from by omega, ← List.getLast?_eq_getElem?]
    exact e
  show (match items s (.loc l) with | some xs => rb (atI xs (-1)) s | none => dIdx (.loc l) (.inl (-1)) s) = _
  rw [r_items h]
  show rb (atI xs (-1)) s = _
  rw [e2]
  rfl
theorem r_cons_x (h : a η st = .exn x fs s) : eCons a r η st = .exn x fs s := by unfold eCons; rw [h]; rfl
theorem r_cons_y (h1 : a η st = .ok p s1) (h : r η s1 = .exn x fs s) : eCons a r η st = .exn x fs s := by unfold eCons; rw [h1, Res.ok_bind, h]; rfl
theorem r_callF_x {cap : Env' → Cap} {g : Cap → Fun'} (h : r η st = .exn x fs s) : evCallF r cap g η st = .exn x fs s := by unfold evCallF; rw [h]; rfl
end
end Cv
namespace Cut
open PySem PySem.Spec PyProof.Rows L2 Cv
/-! ### the pen -/
abbrev kC : Key := .inr "cells"
abbrev kA : Key := .inr "at"
abbrev kD : Key := .inr "digits"
abbrev kN : Key := .inr "count"
abbrev kF : Key := .inr "fold"
def penL (m : Nat) (a d c f : Int) : List (Key × PV) := [(kC, .loc m), (kA, .int a), (kD, .int d), (kN, .int c), (kF, .int f)]
section
variable {m : Nat} {a d c f x : Int}
theorem fC : findK (penL m a d c f) kC = some (.loc m) := by kernel_rfl
theorem fA : findK (penL m a d c f) kA = some (.int a) := by kernel_rfl
theorem fD : findK (penL m a d c f) kD = some (.int d) := by kernel_rfl
theorem fN : findK (penL m a d c f) kN = some (.int c) := by kernel_rfl
theorem fF : findK (penL m a d c f) kF = some (.int f) := by kernel_rfl
theorem pA : putP (penL m a d c f) kA (.int x) = penL m x d c f := by kernel_rfl
theorem pD : putP (penL m a d c f) kD (.int x) = penL m a x c f := by kernel_rfl
theorem pN : putP (penL m a d c f) kN (.int x) = penL m a d x f := by kernel_rfl
theorem pF : putP (penL m a d c f) kF (.int x) = penL m a d c x := by kernel_rfl
end
/-- the pen at n, its cells at m -/
structure Pen (st : Sto) (n m : Nat) (xs : List Int) (a d c f : Int) : Prop where
  hn : st[n]? = some (.dct (penL m a d c f))
  hm : st[m]? = some (.lst (xs.map .int))
  a0 : 0 ≤ a
  d0 : 0 ≤ d
  c0 : 0 ≤ c
  f0 : 0 ≤ f
  f1 : f < 2147483648
section
variable {st : Sto} {n m : Nat} {xs : List Int} {a d c f x : Int}
theorem Pen.lt (P : Pen st n m xs a d c f) : n < st.length := (List.getElem?_eq_some_iff.mp P.hn).1
theorem Pen.ne (P : Pen st n m xs a d c f) : n ≠ m := fun e => by
  have h1 := P.hn
  have h2 := P.hm
  rw [e, h2] at h1
  cases h1
theorem Pen.set {a' d' c' f' : Int} (P : Pen st n m xs a d c f) (h1 : 0 ≤ a') (h2 : 0 ≤ d') (h3 : 0 ≤ c') (h4 : 0 ≤ f') (h5 : f' < 2147483648) : Pen (st.set n (.dct (penL m a' d' c' f'))) n m xs a' d' c' f' :=
  ⟨by rw [List.getElem?_set_self P.lt], by rw [List.getElem?_set_ne P.ne]; exact P.hm, h1, h2, h3, h4, h5⟩
theorem Pen.get (P : Pen st n m xs a d c f) {k : Str} {p : PV} (h : findK (penL m a d c f) (.inr k) = some p) : idxOp (.loc n) (.str k) st = .ok p st := by
  show (match st[n]? with | some (.dct ks) => (match findK ks (.inr k) with | some p => Res.ok p st | none => .stuck) | _ => .stuck) = _
  rw [P.hn]
  show (match findK (penL m a d c f) (.inr k) with | some p => Res.ok p st | none => .stuck) = _
  rw [h]
theorem Pen.put (P : Pen st n m xs a d c f) {k : Str} {p : PV} {l : List (Key × PV)} (h : putP (penL m a d c f) (.inr k) p = l) : putOp (.loc n) (.str k) p st = some (st.set n (.dct l)) := by
  show (match st[n]? with | some (.dct ks) => if ks.length < LIM then some (st.set n (.dct (putP ks (.inr k) p))) else none | _ => none) = _
  rw [P.hn]
  show (if (penL m a d c f).length < LIM then some (st.set n (.dct (putP (penL m a d c f) (.inr k) p))) else none) = _
  rw [h, if_pos (by show 5 < 1000000; decide)]
end
theorem log_le {i : Int} {k : Nat} (h : i.natAbs < 2 ^ k) : i.natAbs.log2 ≤ k := by
  by_cases z : i.natAbs = 0
  · rw [z]; simp
  · exact Nat.le_of_lt ((Nat.log2_lt z).mpr h)
theorem mul_ok {i j : Int} (h1 : i.natAbs < 2 ^ 400000) (h2 : j.natAbs < 2 ^ 400000) {st : Sto} : binOp .mul (.int i) (.int j) st = .ok (.int (i * j)) st := by
  show (if ckMul i j = true then _ else _) = _
  rw [if_pos]
  unfold ckMul
  have a := log_le h1
  have b := log_le h2
  exact decide_eq_true
        (by omega)
end Cut
namespace Cut
open PySem PySem.Spec PyProof.Rows L2 Cv
section
variable {η η' : Env'} {st st' : Sto} {m n : Sv} {p q : PV} {i j : Int}
theorem of_eq {α : Type} {r : Res α} {x : α} {f : α → Sto → SR} (h : r = .ok x st') : SR.of r η f = f x st' := by rw [h]; rfl
theorem seq_nx (h : m η st = .ok .nx η' st') : sSeq m n η st = n η' st' := by unfold sSeq SR.then; rw [h]
theorem seq_rt (h : m η st = .ok (.rt p) η' st') : sSeq m n η st = .ok (.rt p) η' st' := by unfold sSeq SR.then; rw [h]
theorem if_eq {t : Ev PV} {b : Bool} (h : eT t η st = .ok b st') : sIf t m n η st = if b then m η st' else n η st' := by unfold sIf SR.of; rw [h]
theorem ret_eq {e : Ev PV} (h : e η st = .ok p st') : sRet e η st = .ok (.rt p) η st' := by unfold sRet SR.of; rw [h]
theorem set_eq {e : Ev PV} {k : Nat} (h : e η st = .ok p st') : sAsg e (.nm k) η st = .ok .nx (η.set k (some p)) st' := by unfold sAsg SR.of; rw [h]; rfl
theorem two_eq {a b : Ev PV} {f : PV → PV → Sto → Res PV} {st2 : Sto} (h1 : a η st = .ok p st') (h2 : b η st' = .ok q st2) : two a b f η st = f p q st2 := by unfold two; rw [h1, Res.ok_bind, h2, Res.ok_bind]
theorem var_eq {k : Nat} (h : η[k]? = some (some p)) : eVar k η st = .ok p st := by unfold eVar; rw [h]
theorem con_eq : eCon p η st = .ok p st := rfl
theorem row1_eq {a : Ev PV} {f : List PV → Sto → Res PV} (h : a η st = .ok p st') : eRow (eCons a eNil) f η st = f [p] st' := by unfold eRow eCons eNil; rw [h]; rfl
theorem dat_int {st : Sto} : dat st (.int i) = some (.int i) := by
  unfold dat toD
  simp [SeqAt.shaped, PyData.canLay0, PyData.depth]
theorem cmp_eq : cmpOp .eq (.int i) (.int j) st = .ok (.bl (decide (i = j))) st := by
  show (match (match dat st (.int i), dat st (.int j) with | some d, some e => some (PyData.eqv d e) | _, _ => none) with | some b => Res.ok (PV.bl b) st | none => .stuck) = _
  rw [dat_int, dat_int]
  show Res.ok (PV.bl (i == j)) st = _
  by_cases h : i = j <;> simp [h]
theorem cmp_lt : cmpOp .lt (.int i) (.int j) st = .ok (.bl (decide (i < j))) st := rfl
theorem cmp_le : cmpOp .le (.int i) (.int j) st = .ok (.bl (decide (i ≤ j))) st := rfl
theorem cmp_gt : cmpOp .gt (.int i) (.int j) st = .ok (.bl (decide (i > j))) st := rfl
theorem cmp_ge : cmpOp .ge (.int i) (.int j) st = .ok (.bl (decide (i ≥ j))) st := rfl
theorem add_ok : binOp .add (.int i) (.int j) st = .ok (.int (i + j)) st := rfl
theorem sub_ok : binOp .sub (.int i) (.int j) st = .ok (.int (i - j)) st := rfl
theorem mod_ok (h : 0 < j) : binOp .mod (.int i) (.int j) st = .ok (.int (i % j)) st := by
  show (if 0 < j then _ else _) = _
  rw [if_pos h]
theorem int_ok : bltOp .int [.int i] st = .ok (.int i) st := rfl
theorem div_ok (h : 0 < j) (h2 : j.natAbs < 2 ^ 8000) : binOp .fdiv (.int i) (.int j) st = .ok (.int (i / j)) st := by
  show (if ckDiv j = true then _ else _) = _
  rw [if_pos]
  unfold ckDiv
  have := log_le h2
  exact decide_eq_true ⟨h, by omega⟩
theorem pow_ok {k : Nat} (h : i.natAbs < 2 ^ 64) (hk : k ≤ 1000000) : binOp .pow (.int i) (.int (k : Int)) st = .ok (.int (i ^ k)) st := by
  show (if ckPow i (k : Int) = true then _ else _) = _
  rw [if_pos]
  · simp
  · unfold ckPow
    exact decide_eq_true ⟨by omega, by omega, h⟩
theorem tru_bl {b : Bool} : truR (.bl b) st = .ok b st := rfl
theorem eT_eq {e : Ev PV} {b : Bool} (h : e η st = .ok (.bl b) st') : eT e η st = .ok b st' := by unfold eT; rw [h]; rfl
end
section
variable {η : Env'} {st : Sto} {n m : Nat} {xs : List Int} {a d c f x : Int}
theorem pget (h0 : η[0]? = some (some (.loc n))) (P : Pen st n m xs a d c f) {k : Str} {p : PV} (h : findK (penL m a d c f) (.inr k) = some p) : two (eVar 0) (eCon (.str k)) idxOp η st = .ok p st := by
  rw [two_eq (var_eq h0) con_eq]; exact P.get h
theorem pput (h0 : η[0]? = some (some (.loc n))) (P : Pen st n m xs a d c f) {k : Str} {p : PV} {l : List (Key × PV)} {e : Ev PV} (he : e η st = .ok p st) (h : putP (penL m a d c f) (.inr k) p = l) : sPut e (eVar 0) (eCon (.str k)) η st = .ok .nx η (st.set n (.dct l)) := by
  show SR.of (e η st) η (fun v st => SR.of (eVar 0 η st) η fun d st => SR.of (eCon (.str k) η st) η fun k st => match putOp d k v st with | some st => SR.ok .nx η st | none => .stuck) = _
  rw [of_eq he, of_eq (var_eq h0), of_eq con_eq, P.put h]
end
end Cut
namespace Cut
open PySem PySem.Spec PyProof.Rows L2 Cv
section
variable {st : Sto} {n m : Nat} {xs : List Int} {a d c f many : Int} {cap : Cap}
theorem len_list {η : Env'} (h : ∀ (p : PV), p = .loc m → st[m]? = some (.lst (xs.map .int)) → True) : True := trivial
theorem len_cells (hm : st[m]? = some (.lst (xs.map .int))) : bltOp .len [.loc m] st = .ok (.int xs.length) st := by
  show rb ((match st[m]? with | some (.lst xs) => some xs.length | some (.dct xs) => some xs.length | _ => none).map fun n : Nat => PV.int (n : Int)) st = _
  rw [hm]
  show Res.ok (PV.int ((xs.map PV.int).length : Nat)) st = _
  rw [List.length_map]
theorem cell_at (hm : st[m]? = some (.lst (xs.map .int))) {i : Int} (h0 : 0 ≤ i) (h1 : i < xs.length) : ∃ z, xs[i.toNat]? = some z ∧ idxOp (.loc m) (.int i) st = .ok (.int z) st := by
  have lt : i.toNat < xs.length := by omega
  refine ⟨xs[i.toNat], List.getElem?_eq_getElem lt, ?_⟩
  have e : items st (.loc m) = some (xs.map .int) := by
    show (match st[m]? with | some (.lst xs) => some xs | _ => none) = _
    rw [hm]
  have e2 : atI (xs.map PV.int) i = some (.int xs[i.toNat]) := by
    unfold atI L2.ixN
    rw [if_pos h0, if_pos (by rw [List.length_map]; omega)]
    simp [List.getElem?_eq_getElem lt]
  show (match items st (.loc m) with | some xs => rb (atI xs i) st | none => dIdx (.loc m) (.inl i) st) = _
  rw [e]
  show rb (atI (xs.map PV.int) i) st = _
  rw [e2]
  rfl
/-- the pen's end: a number below many -/
def Drawn (st : Sto) (n m : Nat) (xs : List Int) (c many : Int) (r : Res PV) : Prop := ∃ (z a' d' f' : Int), 0 ≤ z ∧ z < many ∧ r = .ok (.int z) (st.set n (.dct (penL m a' d' c f'))) ∧ 0 ≤ a' ∧ 0 ≤ d' ∧ 0 ≤ f' ∧ f' < 2147483648
/-- the last lines -/
theorem draw_tail (P : Pen st n m xs a d c f) {t : Option PV} (h1 : 1 ≤ many) (h2 : many < 1073741824) (hc : c < 1099511627776) : ∃ z d' : Int, 0 ≤ z ∧ z < many ∧ 0 ≤ d' ∧ ∃ st' η', st' = st.set n (.dct (penL m a d' c f)) ∧
    (sSeq (sIf (two (two (eVar 0) (eCon (.str "digits")) idxOp) (eCon (.int 0)) (cmpOp .gt)) (sSeq (sAsg (two (eRow (eCons (two (eVar 0) (eCon (.str "digits")) idxOp) eNil) (bltOp .int)) (eVar 1) (binOp .mod)) (.nm 3))
  (sSeq (sPut (two (two (eVar 0) (eCon (.str "digits")) idxOp) (eVar 1) (binOp .fdiv)) (eVar 0) (eCon (.str "digits")))
  (sSeq (sRet (eVar 3))
  sNx))) sNx)
  (sSeq (sAsg (two (two (two (eVar 0) (eCon (.str "fold")) idxOp) (two (two (eVar 0) (eCon (.str "count")) idxOp) (eCon (.int 6317)) (binOp .mul)) (binOp .add)) (eCon (.int 191)) (binOp .add)) (.nm 4))
  (sSeq (sRet (two (two (eRow (eCons (two (two (eVar 4) (eCon (.int 53)) (binOp .pow)) (eCon (.int 2305843009213693951)) (binOp .mod)) eNil) (bltOp .int)) (eCon (.int 2048)) (binOp .fdiv)) (eVar 1) (binOp .mod)))
  sNx))) [some (.loc n), some (.int many), t, none, none] st = .ok (.rt (.int z)) η' st' := by
  have many0 : (0 : Int) < many := by omega
  have dz : (many.natAbs : Nat) < 2 ^ 8000 := Nat.lt_of_lt_of_le (by omega : many.natAbs < 2 ^ 30) (Nat.pow_le_pow_right (by decide) (by decide))
  by_cases hd : d > 0
  · refine ⟨d % many, d / many, Int.emod_nonneg _ (by omega), Int.emod_lt_of_pos _ many0, Int.ediv_nonneg (by omega) (by omega), _, [some (.loc n), some (.int many), t, some (.int (d % many)), none], rfl, ?_⟩
    refine seq_rt (st' := st.set n (.dct (penL m a (d / many) c f))) (η' := [some (.loc n), some (.int many), t, some (.int (d % many)), none]) ?_
    rw [if_eq (b := true) (st' := st) (eT_eq (by rw [two_eq (pget rfl P fD) con_eq, cmp_gt]; simp [hd]))]
    rw [if_pos rfl]
    rw [seq_nx (set_eq (k := 3) (p := .int (d % many)) (st' := st) (by rw [two_eq (row1_eq (pget rfl P fD) |>.trans int_ok) (var_eq rfl)]; exact mod_ok many0))]
    rw [seq_nx (pput (p := .int (d / many)) rfl P (by rw [two_eq (pget rfl P fD) (var_eq rfl)]; exact div_ok many0 dz) pD)]
    exact seq_rt (ret_eq (var_eq rfl))
  · have d0 : d = 0 := by have := P.d0; omega
    have c0 := P.c0
    have f0 := P.f0
    have f1 := P.f1
    have eS : st.set n (.dct (penL m a d c f)) = st := by
      refine List.ext_getElem? fun j =>
            ?_
      by_cases h : n = j
      · subst h; rw [List.getElem?_set_self P.lt, P.hn]
      · rw [List.getElem?_set_ne h]
    refine ⟨(f + c * 6317 + 191) ^ 53 % 2305843009213693951 / 2048 % many, d, Int.emod_nonneg _ (by omega), Int.emod_lt_of_pos _ many0, P.d0, _, [some (.loc n), some (.int many), t, none, some (.int (f + c * 6317 + 191))], rfl, ?_⟩
    rw [seq_nx (st' := st) (η' := [some (.loc n), some (.int many), t, none, none]) (by
      rw [if_eq (b := false) (st' := st) (eT_eq (by rw [two_eq (pget rfl P fD) con_eq, cmp_gt]; simp [d0]))]
      rfl)]
    rw [seq_nx (set_eq (k := 4) (p := .int (f + c * 6317 + 191)) (st' := st) (by
      rw [two_eq (p := .int (f + c * 6317)) (st' := st) (by
        rw [two_eq (pget rfl P fF) (q := .int (c * 6317)) (st2 := st) (by
          rw [two_eq (pget rfl P fN) con_eq]
          exact mul_ok (Nat.lt_of_lt_of_le (by omega : c.natAbs < 2 ^ 64) (Nat.pow_le_pow_right (by decide) (by decide))) (Nat.lt_of_lt_of_le (by decide : (6317 : Int).natAbs < 2 ^ 64) (Nat.pow_le_pow_right (by decide) (by decide))))]
        rfl) con_eq]
      rfl))]
    rw [eS]
    refine seq_rt (ret_eq ?_)
    have e1 : two (two (eVar 4) (eCon (.int 53)) (binOp .pow)) (eCon (.int 2305843009213693951)) (binOp .mod) [some (.loc n), some (.int many), t, none, some (.int (f + c * 6317 + 191))] st = .ok (.int ((f + c * 6317 + 191) ^ 53 % 2305843009213693951)) st := by
      rw [two_eq (p := .int ((f + c * 6317 + 191) ^ 53)) (st' := st) (by rw [two_eq (var_eq rfl) con_eq]; exact pow_ok (k := 53) (by omega) (by decide)) con_eq]
      exact mod_ok (by decide)
    have e2 : two (eRow (eCons (two (two (eVar 4) (eCon (.int 53)) (binOp .pow)) (eCon (.int 2305843009213693951)) (binOp .mod)) eNil) (bltOp .int)) (eCon (.int 2048)) (binOp .fdiv) [some (.loc n), some (.int many), t, none, some (.int (f + c * 6317 + 191))] st = .ok (.int ((f + c * 6317 + 191) ^ 53 % 2305843009213693951 / 2048)) st := by
      rw [two_eq ((row1_eq e1).trans int_ok) con_eq]
      exact div_ok (by decide) (Nat.lt_of_lt_of_le (by decide : (2048 : Int).natAbs < 2 ^ 64) (Nat.pow_le_pow_right (by decide) (by decide)))
    show two _ (eVar 1) (binOp .mod) [some (.loc n), some (.int many), t, none, some (.int (f + c * 6317 + 191))] st = _
    rw [two_eq e2 (var_eq rfl)]
    exact mod_ok many0
theorem eT_and2 {ma mb : Ev PV} {η : Env'} {st : Sto} {b b' : Bool} (h1 : ma η st = .ok (.bl b) st) (h2 : b = true → mb η st = .ok (.bl b') st) : eT (eAnd ma mb) η st = .ok (b && b') st := by
  rw [eT_and, eT_eq h1]
  cases b with
  | true =>
    show eT mb η st = _
    rw [eT_eq (h2 rfl)]
    rfl
  | false => rfl
theorem set_set {x y : SO} : (st.set n x).set n y = st.set n y := List.set_set ..
theorem drawn_of {r : Res PV} (P : Pen st n m xs a d c f) {t : Option PV} {st0 : Sto} {l : SO} (h1 : 1 ≤ many) (h2 : many < 1073741824) (hc : c < 1099511627776) (e0 : st = st0.set n l)
    (h : ∀ z η' st', (sSeq (sIf (two (two (eVar 0) (eCon (.str "digits")) idxOp) (eCon (.int 0)) (cmpOp .gt)) (sSeq (sAsg (two (eRow (eCons (two (eVar 0) (eCon (.str "digits")) idxOp) eNil) (bltOp .int)) (eVar 1) (binOp .mod)) (.nm 3))
  (sSeq (sPut (two (two (eVar 0) (eCon (.str "digits")) idxOp) (eVar 1) (binOp .fdiv)) (eVar 0) (eCon (.str "digits")))
  (sSeq (sRet (eVar 3))
  sNx))) sNx)
  (sSeq (sAsg (two (two (two (eVar 0) (eCon (.str "fold")) idxOp) (two (two (eVar 0) (eCon (.str "count")) idxOp) (eCon (.int 6317)) (binOp .mul)) (binOp .add)) (eCon (.int 191)) (binOp .add)) (.nm 4))
  (sSeq (sRet (two (two (eRow (eCons (two (two (eVar 4) (eCon (.int 53)) (binOp .pow)) (eCon (.int 2305843009213693951)) (binOp .mod)) eNil) (bltOp .int)) (eCon (.int 2048)) (binOp .fdiv)) (eVar 1) (binOp .mod)))
  sNx))) [some (.loc n), some (.int many), t, none, none] st = .ok (.rt (.int z)) η' st' → r = .ok (.int z) st') : Drawn st0 n m xs c many r := by
  obtain ⟨z, d', z0, z1, hd, st', η', e, q⟩ := draw_tail P (t := t) h1 h2 hc
  refine ⟨z, a, d', f, z0, z1, ?_, P.a0, hd, P.f0, P.f1⟩
  rw [h z η' st' q, e, e0, set_set]
theorem draw_ok (P : Pen st n m xs a d c f) (h1 : 1 ≤ many) (h2 : many < 1073741824) (hc : c < 1099511627775) : Drawn st n m xs (c + 1) many (f__law_draw cap [.loc n, .int many] st) := by
  rw [ev__law_draw]
  show Drawn st n m xs (c + 1) many (if [PV.loc n, PV.int many].length = 2 ∧ 2 ≤ 5 then endDef (m__law_draw cap (start' 5 [.loc n, .int many]) st) else .stuck)
  rw [if_pos ⟨rfl, by decide⟩]
  show Drawn st n m xs (c + 1) many (endDef (m__law_draw cap [some (.loc n), some (.int many), none, none, none] st))
  have c0 := P.c0
  have P1 := P.set (a' := a) (d' := d) (c' := c + 1) (f' := f) P.a0 P.d0 (by omega) P.f0 P.f1
  unfold m__law_draw
  rw [seq_nx (pput (p := .int (c + 1)) rfl P (by rw [two_eq (pget rfl P fN) con_eq]; rfl) pN)]
  generalize e1 : st.set n (.dct (penL m a d (c + 1) f)) = st1 at P1
  have cond := eT_and2 (η := [some (.loc n), some (.int many), none, none, none]) (st := st1) (b := decide (d = 0)) (b' := decide (a < (xs.length : Int)))
    (ma := two (two (eVar 0) (eCon (.str "digits")) idxOp) (eCon (.int 0)) (cmpOp .eq)) (mb := two (two (eVar 0) (eCon (.str "at")) idxOp) (eRow (eCons (two (eVar 0) (eCon (.str "cells")) idxOp) eNil) (bltOp .len)) (cmpOp .lt))
    (by rw [two_eq (pget rfl P1 fD) con_eq]; exact cmp_eq) (fun _ => by rw [two_eq (pget rfl P1 fA) ((row1_eq (pget rfl P1 fC)).trans (len_cells P1.hm))]; rfl)
  by_cases hb : d = 0 ∧ a < (xs.length : Int)
  · -- a cell is taken
    obtain ⟨z, hz, ez⟩ := cell_at P1.hm P1.a0 hb.2
    have P2 := P1.set (a' := a + 1) (d' := d) (c' := c + 1) (f' := f) (by have := P.a0; omega) P.d0 (by omega) P.f0 P.f1
    have head : ∀ {S1 S2 : Sv} {R : Sv}, sSeq (sIf (eAnd (two (two (eVar 0) (eCon (.str "digits")) idxOp) (eCon (.int 0)) (cmpOp .eq)) (two (two (eVar 0) (eCon (.str "at")) idxOp) (eRow (eCons (two (eVar 0) (eCon (.str "cells")) idxOp) eNil) (bltOp .len)) (cmpOp .lt))) S1 S2) R [some (.loc n), some (.int many), none, none, none] st1 = (S1 [some (.loc n), some (.int many), none, none, none] st1).then R := by
      intro S1 S2 R
      show (sIf _ S1 S2 _ st1).then R = _
      rw [if_eq cond]
      simp [hb.1, hb.2]
    rw [head]
    rw [seq_nx (set_eq (k := 2) (p := .int z) (st' := st1) (by rw [two_eq (pget rfl P1 fC) (pget rfl P1 fA)]; exact ez))]
    simp only [List.set_cons_succ, List.set_cons_zero]
    rw [seq_nx (pput (η := [some (.loc n), some (.int many), some (.int z), none, none]) (p := .int (a + 1)) rfl P1 (by rw [two_eq (pget rfl P1 fA) con_eq]; rfl) pA)]
    generalize e2 : st1.set n (.dct (penL m (a + 1) d (c + 1) f)) = st2 at P2
    have pw : two (eCon (.int 10)) (eCon (.int 18)) (binOp .pow) [some (.loc n), some (.int many), some (.int z), none, none] st2 = .ok (.int (10 ^ 18)) st2 := by
      rw [two_eq con_eq con_eq]
      exact pow_ok (k := 18) (by decide) (by decide)
    have cg : eT (two (eVar 2) (two (eCon (.int 10)) (eCon (.int 18)) (binOp .pow)) (cmpOp .ge)) [some (.loc n), some (.int many), some (.int z), none, none] st2 = .ok (decide (z ≥ 10 ^ 18)) st2 := eT_eq (by rw [two_eq (var_eq rfl) pw, cmp_ge])
    by_cases hg : z ≥ 10 ^ 18
    · have P3 := P2.set (a' := a + 1) (d' := z - 10 ^ 18) (c' := c + 1) (f' := f) P2.a0 (by omega) P2.c0 P2.f0 P2.f1
      rw [seq_nx (η' := [some (.loc n), some (.int many), some (.int z), none, none]) (st' := st2.set n (.dct (penL m (a + 1) (z - 10 ^ 18) (c + 1) f))) (by
        rw [if_eq cg, if_pos (by simpa using hg)]
        rw [seq_nx (pput (p := .int (z - 10 ^ 18)) rfl P2 (by rw [two_eq (var_eq rfl) pw]; rfl) pD)]
        rfl)]
      refine drawn_of (st0 := st) P3 (t := some (.int z)) h1 h2 (by omega) (by rw [← e2, ← e1, set_set, set_set]) fun y η' st' q => ?_
      show endDef (_) = _
      exact congrArg endDef q
    · have P3 := P2.set (a' := a + 1) (d' := d) (c' := c + 1) (f' := (f * 31013 + z) % 2147482909) P2.a0 P2.d0 P2.c0 (Int.emod_nonneg _ (by decide)) (Int.lt_trans (Int.emod_lt_of_pos _ (by decide)) (by decide))
      have f0 := P.f0
      have f1 := P.f1
      rw [seq_nx (η' := [some (.loc n), some (.int many), some (.int z), none, none]) (st' := st2.set n (.dct (penL m (a + 1) d (c + 1) ((f * 31013 + z) % 2147482909)))) (by
        rw [if_eq cg, if_neg (by simpa using hg)]
        rw [seq_nx (pput (p := .int ((f * 31013 + z) % 2147482909)) rfl P2 (by
          rw [two_eq (p := .int (f * 31013 + z)) (st' := st2) ((row1_eq (p := .int (f * 31013 + z)) (st' := st2) (by
            rw [two_eq (p := .int (f * 31013)) (st' := st2) (by
              rw [two_eq (pget rfl P2 fF) con_eq]
              exact mul_ok (Nat.lt_of_lt_of_le (by omega : f.natAbs < 2 ^ 64) (Nat.pow_le_pow_right (by decide) (by decide))) (Nat.lt_of_lt_of_le (by decide : (31013 : Int).natAbs < 2 ^ 64) (Nat.pow_le_pow_right (by decide) (by decide)))) (var_eq rfl)]
            rfl)).trans int_ok) con_eq]
          exact mod_ok (by decide)) pF)]
        rfl)]
      refine drawn_of (st0 := st) P3 (t := some (.int z)) h1 h2 (by omega) (by rw [← e2, ← e1, set_set, set_set]) fun y η' st' q => ?_
      exact congrArg endDef q
  · have nb : (decide (d = 0) && decide (a < (xs.length : Int))) = false := by
      rw [Bool.and_eq_false_iff]
      by_cases h : d = 0
      · exact .inr (decide_eq_false fun z => hb ⟨h, z⟩)
      · exact .inl (decide_eq_false h)
    rw [seq_nx (η' := [some (.loc n), some (.int many), none, none, none]) (st' := st1) (by rw [if_eq cond, nb]; rfl)]
    refine drawn_of (st0 := st) P1 (t := none) h1 h2 (by omega) e1.symm fun y η' st' q => ?_
    exact congrArg endDef q
end
end Cut
namespace Cut
open PySem PySem.Spec PyProof.Rows L2 Cv
section
variable {st : Sto} {cap : Cap}
theorem abs_ok {i : Int} : bltOp .abs [.int i] st = .ok (.int (i.natAbs : Nat)) st := by
  show Res.ok (PV.int (if i < 0 then -i else i)) st = _
  congr 2
  split <;> omega
theorem par_eq {i j : Nat} {e : Ev (List PV)} {p q : PV} {η : Env'} {st' : Sto} (h : e η st = .ok [p, q] st') : sPar i j e η st = .ok .nx ((η.set i (some p)).set j (some q)) st' := by
  unfold sPar SR.of; rw [h]
theorem cons2_eq {a b : Ev PV} {p q : PV} {η : Env'} {st1 st2 : Sto} (h1 : a η st = .ok p st1) (h2 : b η st1 = .ok q st2) : eCons a (eCons b eNil) η st = .ok [p, q] st2 := by
  unfold eCons eNil
  rw [h1, Res.ok_bind, h2]
  rfl
theorem for_go {t : CT} {s : Src} {m : Sv} {k i : Nat} {x : PV} {η η1 η2 : Env'} {st' : Sto} (h1 : srcAt st s i = some (some x)) (h2 : asg st t x η = some η1) (h3 : m η1 st = .ok .nx η2 st') : forLoop t s m (k + 1) i η st = forLoop t s m k (i + 1) η2 st' := by
  show (match srcAt st s i with | none => SR.stuck | some none => .ok .nx η st | some (some x) => (match asg st t x η with | none => .stuck | some η => (match m η st with | .ok .nx η st => forLoop t s m k (i + 1) η st | .ok .ct η st => forLoop t s m k (i + 1) η st | .ok .bk η st => .ok .nx η st | r => r))) = _
  rw [h1]
  dsimp only
  rw [h2]
  dsimp only
  rw [h3]
theorem for_bk {t : CT} {s : Src} {m : Sv} {k i : Nat} {x : PV} {η η1 η2 : Env'} {st' : Sto} (h1 : srcAt st s i = some (some x)) (h2 : asg st t x η = some η1) (h3 : m η1 st = .ok .bk η2 st') : forLoop t s m (k + 1) i η st = .ok .nx η2 st' := by
  show (match srcAt st s i with | none => SR.stuck | some none => .ok .nx η st | some (some x) => (match asg st t x η with | none => .stuck | some η => (match m η st with | .ok .nx η st => forLoop t s m k (i + 1) η st | .ok .ct η st => forLoop t s m k (i + 1) η st | .ok .bk η st => .ok .nx η st | r => r))) = _
  rw [h1]
  dsimp only
  rw [h2]
  dsimp only
  rw [h3]
theorem for_end {t : CT} {s : Src} {m : Sv} {k i : Nat} {η : Env'} (h1 : srcAt st s i = some none) : forLoop t s m (k + 1) i η st = .ok .nx η st := by
  show (match srcAt st s i with | none => SR.stuck | some none => .ok .nx η st | some (some x) => (match asg st t x η with | none => .stuck | some η => (match m η st with | .ok .nx η st => forLoop t s m k (i + 1) η st | .ok .ct η st => forLoop t s m k (i + 1) η st | .ok .bk η st => .ok .nx η st | r => r))) = _
  rw [h1]
theorem rng_at {lo : Int} {N i : Nat} (h : i < N) : srcAt st (.rng lo N) i = some (some (.int (lo + i))) := by
  show some (if i < N then some (PV.int (lo + i)) else none) = _
  rw [if_pos h]
theorem rng_end {lo : Int} {N : Nat} : srcAt st (.rng lo N) N = some none := by
  show some (if N < N then some (PV.int (lo + N)) else none) = _
  rw [if_neg (Nat.lt_irrefl _)]
/-- Euclid's loop -/
def gcdBody : Sv := sSeq (sIf (two (eVar 1) (eCon (.int 0)) (cmpOp .eq)) (sSeq (sFl .bk) sNx) sNx) (sSeq (sPar 0 1 (eCons (eVar 1) (eCons (two (eRow (eCons (eVar 0) eNil) (bltOp .int)) (eVar 1) (binOp .mod)) eNil))) sNx)
theorem gcd_stop {x i : Int} {t : Option PV} : gcdBody [some (.int x), some (.int 0), t] st = .ok .bk [some (.int x), some (.int 0), t] st := by
  unfold gcdBody
  have e : sIf (two (eVar 1) (eCon (.int 0)) (cmpOp .eq)) (sSeq (sFl .bk) sNx) sNx [some (.int x), some (.int 0), t] st = .ok .bk [some (.int x), some (.int 0), t] st := by
    rw [if_eq (b := true) (st' := st) (eT_eq (by rw [two_eq (var_eq rfl) con_eq, cmp_eq]; rfl))]
    rfl
  unfold sSeq SR.then
  unfold sSeq SR.then at e
  rw [e]
theorem gcd_turn {x y : Int} (h : 0 < y) {t : Option PV} : gcdBody [some (.int x), some (.int y), t] st = .ok .nx [some (.int y), some (.int (x % y)), t] st := by
  unfold gcdBody
  rw [seq_nx (η' := [some (.int x), some (.int y), t]) (st' := st) (by
    rw [if_eq (b := false) (st' := st) (eT_eq (by rw [two_eq (var_eq rfl) con_eq, cmp_eq]; simp; omega))]
    rfl)]
  rw [seq_nx (par_eq (p := .int y) (q := .int (x % y)) (st' := st) (cons2_eq (var_eq rfl) (by rw [two_eq ((row1_eq (var_eq rfl)).trans int_ok) (var_eq rfl)]; exact mod_ok h)))]
  rfl
theorem gcd_loop : ∀ (L : Nat) (x y : Nat) (i N k : Nat) (t : Option PV), y < 2 ^ L → i + (2 * L + 1) ≤ N → N < i + k → ∃ t' , forLoop (.nm 2) (.rng 0 N) gcdBody k i [some (.int (x : Int)), some (.int (y : Int)), t] st = .ok .nx [some (.int ((Nat.gcd x y : Nat) : Int)), some (.int 0), t'] st
  | L, x, y, i, N, 0, t, h, hN, hk => by omega
  | L, x, y, i, N, k + 1, t, h, hN, hk => by
    by_cases y0 : y = 0
    · subst y0
      refine ⟨some (.int (0 + i)), ?_⟩
      rw [for_bk (η2 := [some (.int (x : Int)), some (.int ((0 : Nat) : Int)), some (.int (0 + i))]) (st' := st) (rng_at (by omega)) rfl (gcd_stop (i := 0))]
      simp
    · cases L with
      | zero => simp at h; omega
      | succ L =>
        have yp : (0 : Int) < (y : Int) := by omega
        have e1 := for_go (t := .nm 2) (s := .rng 0 N) (m := gcdBody) (k := k) (i := i) (η := [some (.int (x : Int)), some (.int (y : Int)), t]) (rng_at (st := st) (lo := 0) (N := N) (i := i) (by omega)) rfl (gcd_turn (x := x) (t := some (.int (0 + i))) yp)
        rw [e1]
        have em : ((x : Int) % (y : Int)) = ((x % y : Nat) : Int) := by simp
        rw [em]
        cases k with
        | zero => omega
        | succ k =>
          by_cases r0 : x % y = 0
          · rw [r0]
            refine ⟨some (.int (0 + (i + 1 : Nat))), ?_⟩
            rw [for_bk (η2 := [some (.int (y : Int)), some (.int ((0 : Nat) : Int)), some (.int (0 + (i + 1 : Nat)))]) (st' := st) (rng_at (by omega)) rfl (gcd_stop (i := 0))]
            have g : Nat.gcd x y = y := by rw [Nat.gcd_comm, Nat.gcd_rec, r0]; simp
            rw [g]
            rfl
          · have rp : (0 : Int) < ((x % y : Nat) : Int) := by omega
            have e2 := for_go (t := .nm 2) (s := .rng 0 N) (m := gcdBody) (k := k) (i := i + 1) (η := [some (.int (y : Int)), some (.int ((x % y : Nat) : Int)), some (.int (0 + i))]) (rng_at (st := st) (lo := 0) (N := N) (i := i + 1) (by omega)) rfl (gcd_turn (x := y) (t := some (.int (0 + (i + 1 : Nat)))) rp)
            rw [e2]
            have em2 : ((y : Int) % ((x % y : Nat) : Int)) = ((y % (x % y) : Nat) : Int) := by simp
            rw [em2]
            have lt1 : x % y < y := Nat.mod_lt _ (by omega)
            have lt2 : y % (x % y) < x % y := Nat.mod_lt _ (by omega)
            have hd : x % y + y % (x % y) ≤ y := by
              have q := Nat.div_add_mod y (x % y)
              have q1 : 1 ≤ y / (x % y) := (Nat.le_div_iff_mul_le (by omega)).mpr (by omega)
              have := Nat.mul_le_mul_left (x % y) q1
              omega
            have hp : 2 ^ (L + 1) = 2 * 2 ^ L := by rw [Nat.pow_succ, Nat.mul_comm]
            obtain ⟨t', q⟩ := gcd_loop L (x % y) (y % (x % y)) (i + 1 + 1) N k (some (.int (0 + (i + 1 : Nat)))) (by omega) (by omega) (by omega)
            refine ⟨t', ?_⟩
            rw [q]
            have g : Nat.gcd (x % y) (y % (x % y)) = Nat.gcd x y := by
              rw [Nat.gcd_comm x y, Nat.gcd_rec y x, Nat.gcd_rec (x % y) y, Nat.gcd_comm]
            rw [g]
end
end Cut
namespace Cut
open PySem PySem.Spec PyProof.Rows L2 Cv
section
variable {st : Sto} {cap : Cap}
theorem bits_lt (y : Nat) : y < 2 ^ (Builtin.Int.intBits (y : Int)) := by
  unfold Builtin.Int.intBits
  by_cases h : y = 0
  · subst h; simp
  · rw [if_neg (by simp; omega)]
    simp only [Int.natAbs_natCast]
    exact Nat.lt_log2_self
theorem bits_le {y : Nat} {k : Nat} (h : y < 2 ^ k) : Builtin.Int.intBits (y : Int) ≤ k := by
  unfold Builtin.Int.intBits
  by_cases z : y = 0
  · subst z; simp
  · rw [if_neg (by simp; omega)]
    simp only [Int.natAbs_natCast]
    exact (Nat.log2_lt z).mpr h
theorem cons1_eq {a : Ev PV} {p : PV} {η : Env'} {st1 : Sto} (h : a η st = .ok p st1) : eCons a eNil η st = .ok [p] st1 := by
  unfold eCons eNil
  rw [h]
  rfl
theorem rng1_eq {e : Ev PV} {j : Int} {η : Env'} {st1 : Sto} (h : e η st = .ok (.int j) st1) (hs : small j = true) : iRange1 (eCons e eNil) η st = .ok (.rng 0 j.toNat) st1 := by
  unfold iRange1
  rw [cons1_eq h]
  show (if small j = true then Res.ok (Src.rng 0 j.toNat) st1 else .stuck) = _
  rw [if_pos hs]
theorem gcd_ok {a b : Int} (hb : b.natAbs < 2 ^ 400) : f__law_gcd cap [.int a, .int b] st = .ok (.int ((Nat.gcd a.natAbs b.natAbs : Nat) : Int)) st := by
  rw [ev__law_gcd]
  show (if [PV.int a, PV.int b].length = 2 ∧ 2 ≤ 3 then endDef (m__law_gcd cap (start' 3 [.int a, .int b]) st) else .stuck) = _
  rw [if_pos ⟨rfl, by decide⟩]
  show endDef (m__law_gcd cap [some (.int a), some (.int b), none] st) = _
  unfold m__law_gcd
  rw [seq_nx (par_eq (p := .int (a.natAbs : Nat)) (q := .int (b.natAbs : Nat)) (st' := st) (cons2_eq ((row1_eq (var_eq rfl)).trans abs_ok) ((row1_eq (var_eq rfl)).trans abs_ok)))]
  simp only [List.set_cons_succ, List.set_cons_zero]
  have hB := bits_le hb
  obtain ⟨t', q⟩ := gcd_loop (Builtin.Int.intBits (b.natAbs : Int)) a.natAbs b.natAbs 0 (4 + 2 * Builtin.Int.intBits (b.natAbs : Int)) FU none (bits_lt _) (by omega) (by show _ < 0 + 1000000; omega) (st := st)
  have it : iRange1 (eCons (two (eCon (.int 4)) (two (eCon (.int 2)) (eMth .bits (eRow (eCons (eVar 1) eNil) (bltOp .int)) eNil) (binOp .mul)) (binOp .add)) eNil) [some (.int (a.natAbs : Nat)), some (.int (b.natAbs : Nat)), none] st = .ok (.rng 0 (4 + 2 * Builtin.Int.intBits (b.natAbs : Int))) st := by
    have e1 : eMth .bits (eRow (eCons (eVar 1) eNil) (bltOp .int)) eNil [some (.int (a.natAbs : Nat)), some (.int (b.natAbs : Nat)), none] st = .ok (.int (Builtin.Int.intBits (b.natAbs : Int) : Nat)) st := by
      unfold eMth
      rw [(row1_eq (var_eq rfl)).trans int_ok]
      rfl
    have e2 : two (eCon (.int 4)) (two (eCon (.int 2)) (eMth .bits (eRow (eCons (eVar 1) eNil) (bltOp .int)) eNil) (binOp .mul)) (binOp .add) [some (.int (a.natAbs : Nat)), some (.int (b.natAbs : Nat)), none] st = .ok (.int (4 + 2 * (Builtin.Int.intBits (b.natAbs : Int) : Nat))) st := by
      rw [two_eq con_eq (q := .int (2 * (Builtin.Int.intBits (b.natAbs : Int) : Nat))) (st2 := st) (by
        rw [two_eq con_eq e1]
        exact mul_ok (Nat.lt_of_lt_of_le (by decide : (2 : Int).natAbs < 2 ^ 64) (Nat.pow_le_pow_right (by decide) (by decide))) (Nat.lt_of_lt_of_le (by omega : ((Builtin.Int.intBits (b.natAbs : Int) : Nat) : Int).natAbs < 2 ^ 64) (Nat.pow_le_pow_right (by decide) (by decide))))]
      rfl
    rw [rng1_eq e2 (by unfold small; exact decide_eq_true (by omega))]
    congr 2
  rw [seq_nx (η' := [some (.int ((Nat.gcd a.natAbs b.natAbs : Nat) : Int)), some (.int 0), t']) (st' := st) (by
    show SR.of (iRange1 _ _ st) _ _ = _
    rw [of_eq it]
    exact q)]
  exact congrArg endDef (seq_rt (ret_eq (var_eq rfl)))
abbrev pr (x : Rat) : PV := .tup [.int x.num, .int x.den]
theorem gcdI {t : Int} {b : Nat} : ((Nat.gcd t.natAbs (b : Int).natAbs : Nat) : Int) = ((b.gcd t.natAbs : Nat) : Int) := by rw [Int.natAbs_natCast, Nat.gcd_comm]
theorem gcd_pos {t : Int} {b : Nat} (h : b ≠ 0) : 0 < b.gcd t.natAbs := Nat.gcd_pos_of_pos_left _ (by omega)
theorem gcd_le {t : Int} {b : Nat} (h : b ≠ 0) : b.gcd t.natAbs ≤ b := Nat.gcd_le_left _ (by omega)
theorem div_by {t z : Int} {b : Nat} (h : b ≠ 0) (hb : b < 2 ^ 400) : binOp .fdiv (.int z) (.int ((b.gcd t.natAbs : Nat) : Int)) st = .ok (.int (z / ((b.gcd t.natAbs : Nat) : Int))) st := by
  have g0 := gcd_pos (t := t) h
  have g1 := gcd_le (t := t) h
  exact div_ok (by omega) (by rw [Int.natAbs_natCast]; exact Nat.lt_of_lt_of_le (Nat.lt_of_le_of_lt g1 hb) (Nat.pow_le_pow_right (by decide) (by decide)))
theorem pr_mk {t : Int} {b : Nat} (h : b ≠ 0) : pr (mkRat t b) = .tup [.int (t / ((b.gcd t.natAbs : Nat) : Int)), .int ((b : Int) / ((b.gcd t.natAbs : Nat) : Int))] := by
  unfold pr
  rw [Rat.num_mkRat, Rat.den_mkRat, if_neg h, if_neg h, Int.natCast_ediv]
theorem tup2_eq {a b : Ev PV} {p q : PV} {η : Env'} {st1 st2 : Sto} (h1 : a η st = .ok p st1) (h2 : b η st1 = .ok q st2) : eRow (eCons a (eCons b eNil)) mkTup η st = .ok (.tup [p, q]) st2 := by
  unfold eRow
  rw [cons2_eq h1 h2]
  show (if [p, q].length ≤ LIM then Res.ok (PV.tup [p, q]) st2 else .stuck) = _
  rw [if_pos (by show 2 ≤ 1000000; decide)]
theorem callF2_eq {a b : Ev PV} {p q : PV} {η : Env'} {st1 st2 : Sto} {cp : Env' → Cap} {g : Cap → Fun'} (h1 : a η st = .ok p st1) (h2 : b η st1 = .ok q st2) : evCallF (eCons a (eCons b eNil)) cp g η st = g (cp η) [p, q] st2 := by
  unfold evCallF
  rw [cons2_eq h1 h2]
  rfl
theorem callF1_eq {a : Ev PV} {p : PV} {η : Env'} {st1 : Sto} {cp : Env' → Cap} {g : Cap → Fun'} (h1 : a η st = .ok p st1) : evCallF (eCons a eNil) cp g η st = g (cp η) [p] st1 := by
  unfold evCallF eCons eNil
  rw [h1]
  rfl
theorem ite_eq {c a b : Ev PV} {k : Bool} {η : Env'} {st1 : Sto} (h : eT c η st = .ok k st1) : eIte c a b η st = if k then a η st1 else b η st1 := by
  unfold eIte
  rw [h]
  rfl
theorem neg_eq {a : Ev PV} {i : Int} {η : Env'} {st1 : Sto} (h : a η st = .ok (.int i) st1) : one a negOp η st = .ok (.int (-i)) st1 := by
  unfold one
  rw [h]
  rfl
theorem q_ok {t : Int} {b : Nat} (h : b ≠ 0) (hb : b < 2 ^ 400) : f__law_q cap [.int t, .int b] st = .ok (pr (mkRat t b)) st := by
  rw [ev__law_q]
  show endDef (m__law_q cap [some (.int t), some (.int b), none] st) = _
  unfold m__law_q
  rw [seq_nx (set_eq (k := 2) (p := .int ((b.gcd t.natAbs : Nat) : Int)) (st' := st) (by rw [callF2_eq (var_eq rfl) (var_eq rfl)]; rw [gcd_ok (by simpa using hb), gcdI]))]
  simp only [List.set_cons_succ, List.set_cons_zero]
  rw [seq_nx (set_eq (k := 2) (p := .int ((b.gcd t.natAbs : Nat) : Int)) (st' := st) (by
    rw [ite_eq (k := false) (st1 := st) (eT_eq (by rw [two_eq (var_eq rfl) con_eq, cmp_lt, decide_eq_false (by omega)]))]
    rw [if_neg (by decide)]
    exact var_eq rfl))]
  simp only [List.set_cons_succ, List.set_cons_zero]
  rw [pr_mk h]
  exact congrArg endDef (seq_rt (ret_eq (tup2_eq (by rw [two_eq (var_eq rfl) (var_eq rfl)]; exact div_by h hb) (by rw [two_eq (var_eq rfl) (var_eq rfl)]; exact div_by h hb))))
theorem lowest_ok {t : Int} {b : Nat} (h : b ≠ 0) (hb : b < 2 ^ 400) : f_lowest cap [.int t, .int b] st = .ok (pr (mkRat t b)) st := by
  rw [ev_lowest]
  show endDef (m_lowest cap [some (.int t), some (.int b), none] st) = _
  unfold m_lowest
  have g : eRow (eCons (eVar 0) (eCons (eVar 1) eNil)) (bltOp .gcd) [some (.int t), some (.int b), none] st = .ok (.int ((b.gcd t.natAbs : Nat) : Int)) st := by
    unfold eRow
    rw [cons2_eq (var_eq rfl) (var_eq rfl), ← gcdI]
    rfl
  rw [seq_nx (set_eq (k := 2) (p := .int ((b.gcd t.natAbs : Nat) : Int)) (st' := st) (by
    rw [ite_eq (k := true) (st1 := st) (eT_eq (by rw [two_eq (var_eq rfl) con_eq, cmp_gt, decide_eq_true (by omega)]))]
    rw [if_pos rfl]
    exact g))]
  simp only [List.set_cons_succ, List.set_cons_zero]
  rw [pr_mk h]
  exact congrArg endDef (seq_rt (ret_eq (tup2_eq (by rw [two_eq (var_eq rfl) (var_eq rfl)]; exact div_by h hb) (by rw [two_eq (var_eq rfl) (var_eq rfl)]; exact div_by h hb))))
end
end Cut
namespace Cut
/-! ### rationals -/
class QB (k : outParam Nat) (x : Rat) : Prop where
  n : x.num.natAbs < 2 ^ k
  d : x.den < 2 ^ k
theorem QB.up {k l : Nat} {x : Rat} (h : QB k x) (e : k ≤ l) : QB l x :=
  ⟨Nat.lt_of_lt_of_le h.n (Nat.pow_le_pow_right (by decide) e), Nat.lt_of_lt_of_le h.d (Nat.pow_le_pow_right (by decide) e)⟩
theorem mk_num_le (t : Int) {b : Nat} (h : b ≠ 0) : (mkRat t b).num.natAbs ≤ t.natAbs := by
  rw [Rat.num_mkRat, if_neg h, Int.natAbs_ediv_of_dvd]
  · exact Nat.div_le_self _ _
  · exact Int.ofNat_dvd_left.mpr (Nat.gcd_dvd_right _ _)
theorem mk_den_le (t : Int) {b : Nat} (h : b ≠ 0) : (mkRat t b).den ≤ b := by
  rw [Rat.den_mkRat, if_neg h]
  exact Nat.div_le_self _ _
theorem qb_mk {t : Int} {b k : Nat} (h : b ≠ 0) (h1 : t.natAbs < 2 ^ k) (h2 : b < 2 ^ k) : QB k (mkRat t b) :=
  ⟨Nat.lt_of_le_of_lt (mk_num_le t h) h1, Nat.lt_of_le_of_lt (mk_den_le t h) h2⟩
theorem mul_lt_pow {a b k l : Nat} (h1 : a < 2 ^ k) (h2 : b < 2 ^ l) : a * b < 2 ^ (k + l) := by
  rw [Nat.pow_add]
  exact Nat.mul_lt_mul'' h1 h2
theorem dd {x y : Rat} : x.den * y.den ≠ 0 := Nat.mul_ne_zero x.den_nz y.den_nz
section
variable {k l : Nat} {x y : Rat}
theorem QB.cross1 [hx : QB k x] [hy : QB l y] : (x.num * (y.den : Int)).natAbs < 2 ^ (k + l) := by
  rw [Int.natAbs_mul]; exact mul_lt_pow hx.n (by simpa using hy.d)
theorem QB.cross2 [hx : QB k x] [hy : QB l y] : (y.num * (x.den : Int)).natAbs < 2 ^ (k + l) := by
  rw [Int.natAbs_mul, Nat.mul_comm]; exact mul_lt_pow (by simpa using hx.d) hy.n
instance QB.add [hx : QB k x] [hy : QB l y] : QB (k + l + 1) (x + y) := by
  rw [Rat.add_def']
  have a := QB.cross1 (x := x) (y := y)
  have b := QB.cross2 (x := x) (y := y)
  have c := mul_lt_pow hx.d hy.d
  refine qb_mk dd ?_ ?_ <;> rw [Nat.pow_succ] <;> omega
instance QB.sub [hx : QB k x] [hy : QB l y] : QB (k + l + 1) (x - y) := by
  rw [Rat.sub_def']
  have a := QB.cross1 (x := x) (y := y)
  have b := QB.cross2 (x := x) (y := y)
  have c := mul_lt_pow hx.d hy.d
  refine qb_mk dd ?_ ?_ <;> rw [Nat.pow_succ] <;> omega
instance QB.mul [hx : QB k x] [hy : QB l y] : QB (k + l) (x * y) := by
  rw [Rat.mul_def']
  have c := mul_lt_pow hx.d hy.d
  refine qb_mk dd ?_ c
  rw [Int.natAbs_mul]
  exact mul_lt_pow hx.n hy.n
instance QB.neg [hx : QB k x] : QB k (-x) := ⟨by rw [Rat.neg_num]; simpa using hx.n, by rw [Rat.neg_den]; exact hx.d⟩
end
theorem rat_pos {x : Rat} : 0 < x.num ↔ 0 < x := by
  rw [Rat.lt_iff]; simp
theorem rat_neg {x : Rat} : x.num < 0 ↔ x < 0 := by
  rw [Rat.lt_iff]; simp
/-- the sign -/
def sgn (x : Rat) : Int := if x = 0 then 0 else if 0 < x then 1 else -1
theorem sgn_num (x : Rat) : sgn x = if x.num = 0 then 0 else if 0 < x.num then 1 else -1 := by
  unfold sgn
  simp only [Rat.num_eq_zero, rat_pos]
abbrev Pt := Rat × Rat
/-- the turn of three points -/
def crs (a b c : Pt) : Rat := (b.1 - a.1) * (c.2 - a.2) - (b.2 - a.2) * (c.1 - a.1)
def dt (p a b : Pt) : Rat := (p.1 - a.1) * (p.1 - b.1) + (p.2 - a.2) * (p.2 - b.2)
def mv (p m : Pt) : Pt := (p.1 + m.1, p.2 + m.2)
def ht (p : Pt) : Pt := (-p.1, -p.2)
theorem sgn_neg (x : Rat) : sgn (-x) = -sgn x := by
  unfold sgn
  grind
theorem crs_swap (a b c : Pt) : crs b a c = - crs a b c := by unfold crs; grind
theorem crs_swap2 (a b c : Pt) : crs b c a = crs a b c := by unfold crs; grind
theorem crs_same (a c : Pt) : crs a a c = 0 := by unfold crs; grind
theorem crs_mv (a b c m : Pt) : crs (mv a m) (mv b m) (mv c m) = crs a b c := by unfold crs mv; grind
theorem crs_ht (a b c : Pt) : crs (ht a) (ht b) (ht c) = crs a b c := by unfold crs ht; grind
theorem sgn_zero {x : Rat} : sgn x = 0 ↔ x = 0 := by unfold sgn; grind
/-- p stands on the way from a to b -/
def btw (a b p : Pt) : Prop := crs a b p = 0 ∧ dt p a b ≤ 0
theorem btw_swap (a b p : Pt) : btw b a p ↔ btw a b p := by
  unfold btw
  rw [crs_swap]
  unfold dt
  grind
def mn (a b : Rat) : Rat := if a ≤ b then a else b
def mx (a b : Rat) : Rat := if a ≤ b then b else a
def inB (a b p : Rat) : Prop := ¬ p < mn a b ∧ ¬ mx a b < p
theorem inB_iff {a b p : Rat} : inB a b p ↔ (p - a) * (p - b) ≤ 0 := by
  unfold inB mn mx
  have h1 : (p - a) * (p - b) ≤ 0 ↔ ((a ≤ p ∧ p ≤ b) ∨ (b ≤ p ∧ p ≤ a)) := by
    constructor
    · intro h
      by_cases h1 : a ≤ p
      · by_cases h2 : p ≤ b
        · exact .inl ⟨h1, h2⟩
        · by_cases h3 : p ≤ a
          · exact .inr ⟨by grind, h3⟩
          · exact absurd h (Rat.not_le.mpr (Rat.mul_pos (by grind) (by grind)))
      · by_cases h2 : b ≤ p
        · exact .inr ⟨h2, by grind⟩
        · exact absurd h (Rat.not_le.mpr (by
            have := Rat.mul_pos (show 0 < a - p by grind) (show 0 < b - p by grind)
            grind))
    · rintro (⟨h1, h2⟩ | ⟨h1, h2⟩)
      · have := Rat.mul_nonneg (show 0 ≤ p - a by grind) (show 0 ≤ b - p by grind)
        grind
      · have := Rat.mul_nonneg (show 0 ≤ a - p by grind) (show 0 ≤ p - b by grind)
        grind
  rw [h1]
  grind
theorem sq_nn (x : Rat) : 0 ≤ x * x := by
  by_cases h : 0 ≤ x
  · exact Rat.mul_nonneg h h
  · have := Rat.mul_nonneg (show 0 ≤ -x by grind) (show 0 ≤ -x by grind)
    grind
theorem col_one {u v d e : Rat} (hc : d * v = e * u) (h : u * (u - d) + v * (v - e) ≤ 0) : u * (u - d) ≤ 0 := by
  by_cases z : u * (u - d) ≤ 0
  · exact z
  · exfalso
    have p : 0 < u * (u - d) := by grind
    have n : 0 < -(v * (v - e)) := by grind
    have k : (e * e) * (u * (u - d)) = (d * d) * (v * (v - e)) := by grind
    by_cases he : e = 0
    · by_cases hd : d = 0
      · have q := sq_nn v
        rw [he] at n
        have : v * (v - 0) = v * v := by grind
        rw [this] at n
        grind
      · have d2 : 0 < d * d := by
          have := sq_nn d
          have : d * d ≠ 0 := by grind
          grind
        have := Rat.mul_pos d2 n
        grind
    · have e2 : 0 < e * e := by
        have := sq_nn e
        have : e * e ≠ 0 := by grind
        grind
      have q := Rat.mul_pos e2 p
      have := Rat.mul_nonneg (sq_nn d) (show 0 ≤ -(v * (v - e)) by grind)
      grind
theorem btw_iff (a b p : Pt) : btw a b p ↔ crs a b p = 0 ∧ inB a.1 b.1 p.1 ∧ inB a.2 b.2 p.2 := by
  rw [inB_iff, inB_iff]
  unfold btw crs dt
  constructor
  · rintro ⟨h1, h2⟩
    refine ⟨h1, ?_, ?_⟩
    · have := col_one (u := p.1 - a.1) (v := p.2 - a.2) (d := b.1 - a.1) (e := b.2 - a.2) (by grind) (by grind)
      grind
    · have := col_one (u := p.2 - a.2) (v := p.1 - a.1) (d := b.2 - a.2) (e := b.1 - a.1) (by grind) (by grind)
      grind
  · rintro ⟨h1, h2, h3⟩
    exact ⟨h1, by grind⟩
theorem btw_self (a b : Pt) : btw a b a := by
  unfold btw crs dt
  grind
end Cut
namespace Cut
open PySem PySem.Spec PyProof.Rows L2 Cv
/-! ### operations on ratios -/
class BI (k : outParam Nat) (i : Int) : Prop where
  h : i.natAbs < 2 ^ k
instance BI.qn {k : Nat} {x : Rat} [h : QB k x] : BI k x.num := ⟨h.n⟩
instance BI.qd {k : Nat} {x : Rat} [h : QB k x] : BI k (x.den : Int) := ⟨by simpa using h.d⟩
section
variable {st : Sto} {cap : Cap} {k l : Nat} {x y : Rat}
theorem ev_mul {i j : Int} [a : BI k i] [b : BI l j] (h : k + l < 900000) : binOp .mul (.int i) (.int j) st = .ok (.int (i * j)) st := by
  show (if ckMul i j = true then _ else _) = _
  rw [if_pos]
  unfold ckMul
  have a := log_le a.h
  have b := log_le b.h
  exact decide_eq_true
        (by omega)
theorem den2 : (x.den : Int) * (y.den : Int) = ((x.den * y.den : Nat) : Int) := by simp
theorem den_lt [hx : QB k x] [hy : QB l y] (h : k + l < 400) : x.den * y.den < 2 ^ 400 := Nat.lt_of_lt_of_le (mul_lt_pow hx.d hy.d) (Nat.pow_le_pow_right (by decide) (by omega))
theorem lowest2 {t : Int} [QB k x] [QB l y] (h : k + l < 400) : f_lowest cap [.int t, .int ((x.den : Int) * (y.den : Int))] st = .ok (pr (mkRat t (x.den * y.den))) st := by
  rw [den2]; exact lowest_ok dd (den_lt h)
theorem q2 {t : Int} [QB k x] [QB l y] (h : k + l < 400) : f__law_q cap [.int t, .int ((x.den : Int) * (y.den : Int))] st = .ok (pr (mkRat t (x.den * y.den))) st := by
  rw [den2]; exact q_ok dd (den_lt h)
theorem lessened_ok [QB k x] [QB l y] (h : k + l < 400) : f_lessened cap [pr x, pr y] st = .ok (pr (x - y)) st := by
  rw [Rat.sub_def']
  (rw [ev_lessened]; dsimp only [start', List.map, List.length_cons, List.length_nil, List.replicate, List.cons_append, List.nil_append, Nat.reduceAdd, Nat.reduceSub, Nat.zero_add]; refine (if_pos ⟨rfl, by decide⟩).trans ?_; unfold m_lessened; apply Cv.r_end; (repeat' (first | with_reducible exact ev_mul (by omega) | with_reducible exact lowest2 (by omega) | ((with_reducible apply Cv.r_asm); with_reducible assumption) | with_reducible exact Cv.r_ok | with_reducible exact Cv.r_con | ((with_reducible apply Cv.r_var); rfl) | with_reducible apply Cv.r_two | with_reducible apply Cv.r_callF | with_reducible apply Cv.r_cons | with_reducible exact Cv.r_nil | with_reducible apply Cv.r_row | with_reducible apply Cv.r_one | with_reducible apply Cv.r_and | with_reducible apply Cv.r_or | with_reducible apply Cv.r_ite | with_reducible apply Cv.r_t | with_reducible apply Cv.r_not | with_reducible exact Cv.r_trb | with_reducible apply Cv.r_seq | with_reducible apply Cv.r_then_nx | with_reducible exact Cv.r_then_rt | with_reducible exact Cv.r_then_bk | with_reducible exact Cv.r_then_ct | with_reducible exact Cv.r_then_exn | with_reducible apply Cv.r_if | with_reducible apply Cv.r_set | with_reducible apply Cv.r_par | with_reducible exact Cv.r_nx | with_reducible exact Cv.r_fl | with_reducible apply Cv.r_exp | with_reducible apply Cv.r_ss | with_reducible exact Cv.r_sz | ((with_reducible apply Cv.r_T); focus (first | rfl | assumption | omega | (simp only [*, decide_true, decide_false, Bool.not_true, Bool.not_false, Bool.and_true, Bool.and_false, Bool.true_and, Bool.false_and, Bool.or_true, Bool.or_false, Bool.true_or, Bool.false_or]; done) | (simp [*]; done))) | ((with_reducible apply Cv.r_F); focus (first | rfl | assumption | omega | (simp only [*, decide_true, decide_false, Bool.not_true, Bool.not_false, Bool.and_true, Bool.and_false, Bool.true_and, Bool.false_and, Bool.or_true, Bool.or_false, Bool.true_or, Bool.false_or]; done) | (simp [*]; done))) | ((with_reducible apply Cv.r_tup); rfl) | ((with_reducible apply Cv.r_lst); rfl) | with_reducible exact Cv.r_ix0 | with_reducible exact Cv.r_ix1 | with_reducible exact Cv.r_ix2 | with_reducible exact Cv.r_add | with_reducible exact Cv.r_sub | with_reducible exact Cv.r_neg | with_reducible exact Cv.r_lt | with_reducible exact Cv.r_le | with_reducible exact Cv.r_gt | with_reducible exact Cv.r_ge | with_reducible exact Cv.r_eq | with_reducible exact Cv.r_ne | with_reducible exact Cv.r_eqB | with_reducible exact Cv.r_neB | with_reducible exact Cv.r_isB | with_reducible exact Cv.r_isnB | with_reducible exact Cv.r_subB | with_reducible apply Cv.r_ret)))
theorem summed_ok [QB k x] [QB l y] (h : k + l < 400) : f_summed cap [pr x, pr y] st = .ok (pr (x + y)) st := by
  rw [Rat.add_def']
  (rw [ev_summed]; dsimp only [start', List.map, List.length_cons, List.length_nil, List.replicate, List.cons_append, List.nil_append, Nat.reduceAdd, Nat.reduceSub, Nat.zero_add]; refine (if_pos ⟨rfl, by decide⟩).trans ?_; unfold m_summed; apply Cv.r_end; (repeat' (first | with_reducible exact ev_mul (by omega) | with_reducible exact lowest2 (by omega) | ((with_reducible apply Cv.r_asm); with_reducible assumption) | with_reducible exact Cv.r_ok | with_reducible exact Cv.r_con | ((with_reducible apply Cv.r_var); rfl) | with_reducible apply Cv.r_two | with_reducible apply Cv.r_callF | with_reducible apply Cv.r_cons | with_reducible exact Cv.r_nil | with_reducible apply Cv.r_row | with_reducible apply Cv.r_one | with_reducible apply Cv.r_and | with_reducible apply Cv.r_or | with_reducible apply Cv.r_ite | with_reducible apply Cv.r_t | with_reducible apply Cv.r_not | with_reducible exact Cv.r_trb | with_reducible apply Cv.r_seq | with_reducible apply Cv.r_then_nx | with_reducible exact Cv.r_then_rt | with_reducible exact Cv.r_then_bk | with_reducible exact Cv.r_then_ct | with_reducible exact Cv.r_then_exn | with_reducible apply Cv.r_if | with_reducible apply Cv.r_set | with_reducible apply Cv.r_par | with_reducible exact Cv.r_nx | with_reducible exact Cv.r_fl | with_reducible apply Cv.r_exp | with_reducible apply Cv.r_ss | with_reducible exact Cv.r_sz | ((with_reducible apply Cv.r_T); focus (first | rfl | assumption | omega | (simp only [*, decide_true, decide_false, Bool.not_true, Bool.not_false, Bool.and_true, Bool.and_false, Bool.true_and, Bool.false_and, Bool.or_true, Bool.or_false, Bool.true_or, Bool.false_or]; done) | (simp [*]; done))) | ((with_reducible apply Cv.r_F); focus (first | rfl | assumption | omega | (simp only [*, decide_true, decide_false, Bool.not_true, Bool.not_false, Bool.and_true, Bool.and_false, Bool.true_and, Bool.false_and, Bool.or_true, Bool.or_false, Bool.true_or, Bool.false_or]; done) | (simp [*]; done))) | ((with_reducible apply Cv.r_tup); rfl) | ((with_reducible apply Cv.r_lst); rfl) | with_reducible exact Cv.r_ix0 | with_reducible exact Cv.r_ix1 | with_reducible exact Cv.r_ix2 | with_reducible exact Cv.r_add | with_reducible exact Cv.r_sub | with_reducible exact Cv.r_neg | with_reducible exact Cv.r_lt | with_reducible exact Cv.r_le | with_reducible exact Cv.r_gt | with_reducible exact Cv.r_ge | with_reducible exact Cv.r_eq | with_reducible exact Cv.r_ne | with_reducible exact Cv.r_eqB | with_reducible exact Cv.r_neB | with_reducible exact Cv.r_isB | with_reducible exact Cv.r_isnB | with_reducible exact Cv.r_subB | with_reducible apply Cv.r_ret)))
theorem scaled_ok [QB k x] [QB l y] (h : k + l < 400) : f_scaled cap [pr x, pr y] st = .ok (pr (x * y)) st := by
  rw [Rat.mul_def']
  (rw [ev_scaled]; dsimp only [start', List.map, List.length_cons, List.length_nil, List.replicate, List.cons_append, List.nil_append, Nat.reduceAdd, Nat.reduceSub, Nat.zero_add]; refine (if_pos ⟨rfl, by decide⟩).trans ?_; unfold m_scaled; apply Cv.r_end; (repeat' (first | with_reducible exact ev_mul (by omega) | with_reducible exact lowest2 (by omega) | ((with_reducible apply Cv.r_asm); with_reducible assumption) | with_reducible exact Cv.r_ok | with_reducible exact Cv.r_con | ((with_reducible apply Cv.r_var); rfl) | with_reducible apply Cv.r_two | with_reducible apply Cv.r_callF | with_reducible apply Cv.r_cons | with_reducible exact Cv.r_nil | with_reducible apply Cv.r_row | with_reducible apply Cv.r_one | with_reducible apply Cv.r_and | with_reducible apply Cv.r_or | with_reducible apply Cv.r_ite | with_reducible apply Cv.r_t | with_reducible apply Cv.r_not | with_reducible exact Cv.r_trb | with_reducible apply Cv.r_seq | with_reducible apply Cv.r_then_nx | with_reducible exact Cv.r_then_rt | with_reducible exact Cv.r_then_bk | with_reducible exact Cv.r_then_ct | with_reducible exact Cv.r_then_exn | with_reducible apply Cv.r_if | with_reducible apply Cv.r_set | with_reducible apply Cv.r_par | with_reducible exact Cv.r_nx | with_reducible exact Cv.r_fl | with_reducible apply Cv.r_exp | with_reducible apply Cv.r_ss | with_reducible exact Cv.r_sz | ((with_reducible apply Cv.r_T); focus (first | rfl | assumption | omega | (simp only [*, decide_true, decide_false, Bool.not_true, Bool.not_false, Bool.and_true, Bool.and_false, Bool.true_and, Bool.false_and, Bool.or_true, Bool.or_false, Bool.true_or, Bool.false_or]; done) | (simp [*]; done))) | ((with_reducible apply Cv.r_F); focus (first | rfl | assumption | omega | (simp only [*, decide_true, decide_false, Bool.not_true, Bool.not_false, Bool.and_true, Bool.and_false, Bool.true_and, Bool.false_and, Bool.or_true, Bool.or_false, Bool.true_or, Bool.false_or]; done) | (simp [*]; done))) | ((with_reducible apply Cv.r_tup); rfl) | ((with_reducible apply Cv.r_lst); rfl) | with_reducible exact Cv.r_ix0 | with_reducible exact Cv.r_ix1 | with_reducible exact Cv.r_ix2 | with_reducible exact Cv.r_add | with_reducible exact Cv.r_sub | with_reducible exact Cv.r_neg | with_reducible exact Cv.r_lt | with_reducible exact Cv.r_le | with_reducible exact Cv.r_gt | with_reducible exact Cv.r_ge | with_reducible exact Cv.r_eq | with_reducible exact Cv.r_ne | with_reducible exact Cv.r_eqB | with_reducible exact Cv.r_neB | with_reducible exact Cv.r_isB | with_reducible exact Cv.r_isnB | with_reducible exact Cv.r_subB | with_reducible apply Cv.r_ret)))
theorem lminus_ok [QB k x] [QB l y] (h : k + l < 400) : f__law_minus cap [pr x, pr y] st = .ok (pr (x - y)) st := by
  rw [Rat.sub_def']
  (rw [ev__law_minus]; dsimp only [start', List.map, List.length_cons, List.length_nil, List.replicate, List.cons_append, List.nil_append, Nat.reduceAdd, Nat.reduceSub, Nat.zero_add]; refine (if_pos ⟨rfl, by decide⟩).trans ?_; unfold m__law_minus; apply Cv.r_end; (repeat' (first | with_reducible exact ev_mul (by omega) | with_reducible exact q2 (by omega) | ((with_reducible apply Cv.r_asm); with_reducible assumption) | with_reducible exact Cv.r_ok | with_reducible exact Cv.r_con | ((with_reducible apply Cv.r_var); rfl) | with_reducible apply Cv.r_two | with_reducible apply Cv.r_callF | with_reducible apply Cv.r_cons | with_reducible exact Cv.r_nil | with_reducible apply Cv.r_row | with_reducible apply Cv.r_one | with_reducible apply Cv.r_and | with_reducible apply Cv.r_or | with_reducible apply Cv.r_ite | with_reducible apply Cv.r_t | with_reducible apply Cv.r_not | with_reducible exact Cv.r_trb | with_reducible apply Cv.r_seq | with_reducible apply Cv.r_then_nx | with_reducible exact Cv.r_then_rt | with_reducible exact Cv.r_then_bk | with_reducible exact Cv.r_then_ct | with_reducible exact Cv.r_then_exn | with_reducible apply Cv.r_if | with_reducible apply Cv.r_set | with_reducible apply Cv.r_par | with_reducible exact Cv.r_nx | with_reducible exact Cv.r_fl | with_reducible apply Cv.r_exp | with_reducible apply Cv.r_ss | with_reducible exact Cv.r_sz | ((with_reducible apply Cv.r_T); focus (first | rfl | assumption | omega | (simp only [*, decide_true, decide_false, Bool.not_true, Bool.not_false, Bool.and_true, Bool.and_false, Bool.true_and, Bool.false_and, Bool.or_true, Bool.or_false, Bool.true_or, Bool.false_or]; done) | (simp [*]; done))) | ((with_reducible apply Cv.r_F); focus (first | rfl | assumption | omega | (simp only [*, decide_true, decide_false, Bool.not_true, Bool.not_false, Bool.and_true, Bool.and_false, Bool.true_and, Bool.false_and, Bool.or_true, Bool.or_false, Bool.true_or, Bool.false_or]; done) | (simp [*]; done))) | ((with_reducible apply Cv.r_tup); rfl) | ((with_reducible apply Cv.r_lst); rfl) | with_reducible exact Cv.r_ix0 | with_reducible exact Cv.r_ix1 | with_reducible exact Cv.r_ix2 | with_reducible exact Cv.r_add | with_reducible exact Cv.r_sub | with_reducible exact Cv.r_neg | with_reducible exact Cv.r_lt | with_reducible exact Cv.r_le | with_reducible exact Cv.r_gt | with_reducible exact Cv.r_ge | with_reducible exact Cv.r_eq | with_reducible exact Cv.r_ne | with_reducible exact Cv.r_eqB | with_reducible exact Cv.r_neB | with_reducible exact Cv.r_isB | with_reducible exact Cv.r_isnB | with_reducible exact Cv.r_subB | with_reducible apply Cv.r_ret)))
theorem lplus_ok [QB k x] [QB l y] (h : k + l < 400) : f__law_plus cap [pr x, pr y] st = .ok (pr (x + y)) st := by
  rw [Rat.add_def']
  (rw [ev__law_plus]; dsimp only [start', List.map, List.length_cons, List.length_nil, List.replicate, List.cons_append, List.nil_append, Nat.reduceAdd, Nat.reduceSub, Nat.zero_add]; refine (if_pos ⟨rfl, by decide⟩).trans ?_; unfold m__law_plus; apply Cv.r_end; (repeat' (first | with_reducible exact ev_mul (by omega) | with_reducible exact q2 (by omega) | ((with_reducible apply Cv.r_asm); with_reducible assumption) | with_reducible exact Cv.r_ok | with_reducible exact Cv.r_con | ((with_reducible apply Cv.r_var); rfl) | with_reducible apply Cv.r_two | with_reducible apply Cv.r_callF | with_reducible apply Cv.r_cons | with_reducible exact Cv.r_nil | with_reducible apply Cv.r_row | with_reducible apply Cv.r_one | with_reducible apply Cv.r_and | with_reducible apply Cv.r_or | with_reducible apply Cv.r_ite | with_reducible apply Cv.r_t | with_reducible apply Cv.r_not | with_reducible exact Cv.r_trb | with_reducible apply Cv.r_seq | with_reducible apply Cv.r_then_nx | with_reducible exact Cv.r_then_rt | with_reducible exact Cv.r_then_bk | with_reducible exact Cv.r_then_ct | with_reducible exact Cv.r_then_exn | with_reducible apply Cv.r_if | with_reducible apply Cv.r_set | with_reducible apply Cv.r_par | with_reducible exact Cv.r_nx | with_reducible exact Cv.r_fl | with_reducible apply Cv.r_exp | with_reducible apply Cv.r_ss | with_reducible exact Cv.r_sz | ((with_reducible apply Cv.r_T); focus (first | rfl | assumption | omega | (simp only [*, decide_true, decide_false, Bool.not_true, Bool.not_false, Bool.and_true, Bool.and_false, Bool.true_and, Bool.false_and, Bool.or_true, Bool.or_false, Bool.true_or, Bool.false_or]; done) | (simp [*]; done))) | ((with_reducible apply Cv.r_F); focus (first | rfl | assumption | omega | (simp only [*, decide_true, decide_false, Bool.not_true, Bool.not_false, Bool.and_true, Bool.and_false, Bool.true_and, Bool.false_and, Bool.or_true, Bool.or_false, Bool.true_or, Bool.false_or]; done) | (simp [*]; done))) | ((with_reducible apply Cv.r_tup); rfl) | ((with_reducible apply Cv.r_lst); rfl) | with_reducible exact Cv.r_ix0 | with_reducible exact Cv.r_ix1 | with_reducible exact Cv.r_ix2 | with_reducible exact Cv.r_add | with_reducible exact Cv.r_sub | with_reducible exact Cv.r_neg | with_reducible exact Cv.r_lt | with_reducible exact Cv.r_le | with_reducible exact Cv.r_gt | with_reducible exact Cv.r_ge | with_reducible exact Cv.r_eq | with_reducible exact Cv.r_ne | with_reducible exact Cv.r_eqB | with_reducible exact Cv.r_neB | with_reducible exact Cv.r_isB | with_reducible exact Cv.r_isnB | with_reducible exact Cv.r_subB | with_reducible apply Cv.r_ret)))
theorem ltimes_ok [QB k x] [QB l y] (h : k + l < 400) : f__law_times cap [pr x, pr y] st = .ok (pr (x * y)) st := by
  rw [Rat.mul_def']
  (rw [ev__law_times]; dsimp only [start', List.map, List.length_cons, List.length_nil, List.replicate, List.cons_append, List.nil_append, Nat.reduceAdd, Nat.reduceSub, Nat.zero_add]; refine (if_pos ⟨rfl, by decide⟩).trans ?_; unfold m__law_times; apply Cv.r_end; (repeat' (first | with_reducible exact ev_mul (by omega) | with_reducible exact q2 (by omega) | ((with_reducible apply Cv.r_asm); with_reducible assumption) | with_reducible exact Cv.r_ok | with_reducible exact Cv.r_con | ((with_reducible apply Cv.r_var); rfl) | with_reducible apply Cv.r_two | with_reducible apply Cv.r_callF | with_reducible apply Cv.r_cons | with_reducible exact Cv.r_nil | with_reducible apply Cv.r_row | with_reducible apply Cv.r_one | with_reducible apply Cv.r_and | with_reducible apply Cv.r_or | with_reducible apply Cv.r_ite | with_reducible apply Cv.r_t | with_reducible apply Cv.r_not | with_reducible exact Cv.r_trb | with_reducible apply Cv.r_seq | with_reducible apply Cv.r_then_nx | with_reducible exact Cv.r_then_rt | with_reducible exact Cv.r_then_bk | with_reducible exact Cv.r_then_ct | with_reducible exact Cv.r_then_exn | with_reducible apply Cv.r_if | with_reducible apply Cv.r_set | with_reducible apply Cv.r_par | with_reducible exact Cv.r_nx | with_reducible exact Cv.r_fl | with_reducible apply Cv.r_exp | with_reducible apply Cv.r_ss | with_reducible exact Cv.r_sz | ((with_reducible apply Cv.r_T); focus (first | rfl | assumption | omega | (simp only [*, decide_true, decide_false, Bool.not_true, Bool.not_false, Bool.and_true, Bool.and_false, Bool.true_and, Bool.false_and, Bool.or_true, Bool.or_false, Bool.true_or, Bool.false_or]; done) | (simp [*]; done))) | ((with_reducible apply Cv.r_F); focus (first | rfl | assumption | omega | (simp only [*, decide_true, decide_false, Bool.not_true, Bool.not_false, Bool.and_true, Bool.and_false, Bool.true_and, Bool.false_and, Bool.or_true, Bool.or_false, Bool.true_or, Bool.false_or]; done) | (simp [*]; done))) | ((with_reducible apply Cv.r_tup); rfl) | ((with_reducible apply Cv.r_lst); rfl) | with_reducible exact Cv.r_ix0 | with_reducible exact Cv.r_ix1 | with_reducible exact Cv.r_ix2 | with_reducible exact Cv.r_add | with_reducible exact Cv.r_sub | with_reducible exact Cv.r_neg | with_reducible exact Cv.r_lt | with_reducible exact Cv.r_le | with_reducible exact Cv.r_gt | with_reducible exact Cv.r_ge | with_reducible exact Cv.r_eq | with_reducible exact Cv.r_ne | with_reducible exact Cv.r_eqB | with_reducible exact Cv.r_neB | with_reducible exact Cv.r_isB | with_reducible exact Cv.r_isnB | with_reducible exact Cv.r_subB | with_reducible apply Cv.r_ret)))
theorem lless_ok [QB k x] [QB l y] (h : k + l < 400) : f__law_less cap [pr x, pr y] st = .ok (.bl (decide (x < y))) st := by
  simp only [Rat.lt_iff]
  (rw [ev__law_less]; dsimp only [start', List.map, List.length_cons, List.length_nil, List.replicate, List.cons_append, List.nil_append, Nat.reduceAdd, Nat.reduceSub, Nat.zero_add]; refine (if_pos ⟨rfl, by decide⟩).trans ?_; unfold m__law_less; apply Cv.r_end; (repeat' (first | with_reducible exact ev_mul (by omega) | ((with_reducible apply Cv.r_asm); with_reducible assumption) | with_reducible exact Cv.r_ok | with_reducible exact Cv.r_con | ((with_reducible apply Cv.r_var); rfl) | with_reducible apply Cv.r_two | with_reducible apply Cv.r_callF | with_reducible apply Cv.r_cons | with_reducible exact Cv.r_nil | with_reducible apply Cv.r_row | with_reducible apply Cv.r_one | with_reducible apply Cv.r_and | with_reducible apply Cv.r_or | with_reducible apply Cv.r_ite | with_reducible apply Cv.r_t | with_reducible apply Cv.r_not | with_reducible exact Cv.r_trb | with_reducible apply Cv.r_seq | with_reducible apply Cv.r_then_nx | with_reducible exact Cv.r_then_rt | with_reducible exact Cv.r_then_bk | with_reducible exact Cv.r_then_ct | with_reducible exact Cv.r_then_exn | with_reducible apply Cv.r_if | with_reducible apply Cv.r_set | with_reducible apply Cv.r_par | with_reducible exact Cv.r_nx | with_reducible exact Cv.r_fl | with_reducible apply Cv.r_exp | with_reducible apply Cv.r_ss | with_reducible exact Cv.r_sz | ((with_reducible apply Cv.r_T); focus (first | rfl | assumption | omega | (simp only [*, decide_true, decide_false, Bool.not_true, Bool.not_false, Bool.and_true, Bool.and_false, Bool.true_and, Bool.false_and, Bool.or_true, Bool.or_false, Bool.true_or, Bool.false_or]; done) | (simp [*]; done))) | ((with_reducible apply Cv.r_F); focus (first | rfl | assumption | omega | (simp only [*, decide_true, decide_false, Bool.not_true, Bool.not_false, Bool.and_true, Bool.and_false, Bool.true_and, Bool.false_and, Bool.or_true, Bool.or_false, Bool.true_or, Bool.false_or]; done) | (simp [*]; done))) | ((with_reducible apply Cv.r_tup); rfl) | ((with_reducible apply Cv.r_lst); rfl) | with_reducible exact Cv.r_ix0 | with_reducible exact Cv.r_ix1 | with_reducible exact Cv.r_ix2 | with_reducible exact Cv.r_add | with_reducible exact Cv.r_sub | with_reducible exact Cv.r_neg | with_reducible exact Cv.r_lt | with_reducible exact Cv.r_le | with_reducible exact Cv.r_gt | with_reducible exact Cv.r_ge | with_reducible exact Cv.r_eq | with_reducible exact Cv.r_ne | with_reducible exact Cv.r_eqB | with_reducible exact Cv.r_neB | with_reducible exact Cv.r_isB | with_reducible exact Cv.r_isnB | with_reducible exact Cv.r_subB | with_reducible apply Cv.r_ret)))
theorem lturn_ok : f__law_turn cap [pr x] st = .ok (pr (-x)) st := by
  have e : pr (-x) = .tup [.int (-x.num), .int x.den] := by unfold pr; rw [Rat.neg_num, Rat.neg_den]
  rw [e]
  (rw [ev__law_turn]; dsimp only [start', List.map, List.length_cons, List.length_nil, List.replicate, List.cons_append, List.nil_append, Nat.reduceAdd, Nat.reduceSub, Nat.zero_add]; refine (if_pos ⟨rfl, by decide⟩).trans ?_; unfold m__law_turn; apply Cv.r_end; (repeat' (first | ((with_reducible apply Cv.r_asm); with_reducible assumption) | with_reducible exact Cv.r_ok | with_reducible exact Cv.r_con | ((with_reducible apply Cv.r_var); rfl) | with_reducible apply Cv.r_two | with_reducible apply Cv.r_callF | with_reducible apply Cv.r_cons | with_reducible exact Cv.r_nil | with_reducible apply Cv.r_row | with_reducible apply Cv.r_one | with_reducible apply Cv.r_and | with_reducible apply Cv.r_or | with_reducible apply Cv.r_ite | with_reducible apply Cv.r_t | with_reducible apply Cv.r_not | with_reducible exact Cv.r_trb | with_reducible apply Cv.r_seq | with_reducible apply Cv.r_then_nx | with_reducible exact Cv.r_then_rt | with_reducible exact Cv.r_then_bk | with_reducible exact Cv.r_then_ct | with_reducible exact Cv.r_then_exn | with_reducible apply Cv.r_if | with_reducible apply Cv.r_set | with_reducible apply Cv.r_par | with_reducible exact Cv.r_nx | with_reducible exact Cv.r_fl | with_reducible apply Cv.r_exp | with_reducible apply Cv.r_ss | with_reducible exact Cv.r_sz | ((with_reducible apply Cv.r_T); focus (first | rfl | assumption | omega | (simp only [*, decide_true, decide_false, Bool.not_true, Bool.not_false, Bool.and_true, Bool.and_false, Bool.true_and, Bool.false_and, Bool.or_true, Bool.or_false, Bool.true_or, Bool.false_or]; done) | (simp [*]; done))) | ((with_reducible apply Cv.r_F); focus (first | rfl | assumption | omega | (simp only [*, decide_true, decide_false, Bool.not_true, Bool.not_false, Bool.and_true, Bool.and_false, Bool.true_and, Bool.false_and, Bool.or_true, Bool.or_false, Bool.true_or, Bool.false_or]; done) | (simp [*]; done))) | ((with_reducible apply Cv.r_tup); rfl) | ((with_reducible apply Cv.r_lst); rfl) | with_reducible exact Cv.r_ix0 | with_reducible exact Cv.r_ix1 | with_reducible exact Cv.r_ix2 | with_reducible exact Cv.r_add | with_reducible exact Cv.r_sub | with_reducible exact Cv.r_neg | with_reducible exact Cv.r_lt | with_reducible exact Cv.r_le | with_reducible exact Cv.r_gt | with_reducible exact Cv.r_ge | with_reducible exact Cv.r_eq | with_reducible exact Cv.r_ne | with_reducible exact Cv.r_eqB | with_reducible exact Cv.r_neB | with_reducible exact Cv.r_isB | with_reducible exact Cv.r_isnB | with_reducible exact Cv.r_subB | with_reducible apply Cv.r_ret)))
abbrev pt (p : Pt) : PV := .tup [pr p.1, pr p.2]
end
class QP (k : outParam Nat) (p : Pt) : Prop where
  x : QB k p.1
  y : QB k p.2
instance QP.i1 {k : Nat} {p : Pt} [h : QP k p] : QB k p.1 := h.x
instance QP.i2 {k : Nat} {p : Pt} [h : QP k p] : QB k p.2 := h.y
section
variable {st : Sto} {cap : Cap} {k l m : Nat} {a b c p : Pt} {x : Rat}
theorem gap_ok [QP k a] [QP l b] (h : k + l < 400) : f_gap cap [pt a, pt b] st = .ok (.tup [pr (a.1 - b.1), pr (a.2 - b.2)]) st := by
  (rw [ev_gap]; dsimp only [start', List.map, List.length_cons, List.length_nil, List.replicate, List.cons_append, List.nil_append, Nat.reduceAdd, Nat.reduceSub, Nat.zero_add]; refine (if_pos ⟨rfl, by decide⟩).trans ?_; unfold m_gap; apply Cv.r_end; (repeat' (first | with_reducible exact lessened_ok (by omega) | ((with_reducible apply Cv.r_asm); with_reducible assumption) | with_reducible exact Cv.r_ok | with_reducible exact Cv.r_con | ((with_reducible apply Cv.r_var); rfl) | with_reducible apply Cv.r_two | with_reducible apply Cv.r_callF | with_reducible apply Cv.r_cons | with_reducible exact Cv.r_nil | with_reducible apply Cv.r_row | with_reducible apply Cv.r_one | with_reducible apply Cv.r_and | with_reducible apply Cv.r_or | with_reducible apply Cv.r_ite | with_reducible apply Cv.r_t | with_reducible apply Cv.r_not | with_reducible exact Cv.r_trb | with_reducible apply Cv.r_seq | with_reducible apply Cv.r_then_nx | with_reducible exact Cv.r_then_rt | with_reducible exact Cv.r_then_bk | with_reducible exact Cv.r_then_ct | with_reducible exact Cv.r_then_exn | with_reducible apply Cv.r_if | with_reducible apply Cv.r_set | with_reducible apply Cv.r_par | with_reducible exact Cv.r_nx | with_reducible exact Cv.r_fl | with_reducible apply Cv.r_exp | with_reducible apply Cv.r_ss | with_reducible exact Cv.r_sz | ((with_reducible apply Cv.r_T); focus (first | rfl | assumption | omega | (simp only [*, decide_true, decide_false, Bool.not_true, Bool.not_false, Bool.and_true, Bool.and_false, Bool.true_and, Bool.false_and, Bool.or_true, Bool.or_false, Bool.true_or, Bool.false_or]; done) | (simp [*]; done))) | ((with_reducible apply Cv.r_F); focus (first | rfl | assumption | omega | (simp only [*, decide_true, decide_false, Bool.not_true, Bool.not_false, Bool.and_true, Bool.and_false, Bool.true_and, Bool.false_and, Bool.or_true, Bool.or_false, Bool.true_or, Bool.false_or]; done) | (simp [*]; done))) | ((with_reducible apply Cv.r_tup); rfl) | ((with_reducible apply Cv.r_lst); rfl) | with_reducible exact Cv.r_ix0 | with_reducible exact Cv.r_ix1 | with_reducible exact Cv.r_ix2 | with_reducible exact Cv.r_add | with_reducible exact Cv.r_sub | with_reducible exact Cv.r_neg | with_reducible exact Cv.r_lt | with_reducible exact Cv.r_le | with_reducible exact Cv.r_gt | with_reducible exact Cv.r_ge | with_reducible exact Cv.r_eq | with_reducible exact Cv.r_ne | with_reducible exact Cv.r_eqB | with_reducible exact Cv.r_neB | with_reducible exact Cv.r_isB | with_reducible exact Cv.r_isnB | with_reducible exact Cv.r_subB | with_reducible apply Cv.r_ret)))
theorem cross_ok {x y u v : Rat} {k l m n : Nat} [QB k x] [QB l y] [QB m u] [QB n v] (h : k + l + m + n < 390) : f_cross cap [.tup [pr x, pr y], .tup [pr u, pr v]] st = .ok (pr (x * v - y * u)) st := by
  (rw [ev_cross]; dsimp only [start', List.map, List.length_cons, List.length_nil, List.replicate, List.cons_append, List.nil_append, Nat.reduceAdd, Nat.reduceSub, Nat.zero_add]; refine (if_pos ⟨rfl, by decide⟩).trans ?_; unfold m_cross; apply Cv.r_end; (repeat' (first | with_reducible exact lessened_ok (by omega) | with_reducible exact scaled_ok (by omega) | ((with_reducible apply Cv.r_asm); with_reducible assumption) | with_reducible exact Cv.r_ok | with_reducible exact Cv.r_con | ((with_reducible apply Cv.r_var); rfl) | with_reducible apply Cv.r_two | with_reducible apply Cv.r_callF | with_reducible apply Cv.r_cons | with_reducible exact Cv.r_nil | with_reducible apply Cv.r_row | with_reducible apply Cv.r_one | with_reducible apply Cv.r_and | with_reducible apply Cv.r_or | with_reducible apply Cv.r_ite | with_reducible apply Cv.r_t | with_reducible apply Cv.r_not | with_reducible exact Cv.r_trb | with_reducible apply Cv.r_seq | with_reducible apply Cv.r_then_nx | with_reducible exact Cv.r_then_rt | with_reducible exact Cv.r_then_bk | with_reducible exact Cv.r_then_ct | with_reducible exact Cv.r_then_exn | with_reducible apply Cv.r_if | with_reducible apply Cv.r_set | with_reducible apply Cv.r_par | with_reducible exact Cv.r_nx | with_reducible exact Cv.r_fl | with_reducible apply Cv.r_exp | with_reducible apply Cv.r_ss | with_reducible exact Cv.r_sz | ((with_reducible apply Cv.r_T); focus (first | rfl | assumption | omega | (simp only [*, decide_true, decide_false, Bool.not_true, Bool.not_false, Bool.and_true, Bool.and_false, Bool.true_and, Bool.false_and, Bool.or_true, Bool.or_false, Bool.true_or, Bool.false_or]; done) | (simp [*]; done))) | ((with_reducible apply Cv.r_F); focus (first | rfl | assumption | omega | (simp only [*, decide_true, decide_false, Bool.not_true, Bool.not_false, Bool.and_true, Bool.and_false, Bool.true_and, Bool.false_and, Bool.or_true, Bool.or_false, Bool.true_or, Bool.false_or]; done) | (simp [*]; done))) | ((with_reducible apply Cv.r_tup); rfl) | ((with_reducible apply Cv.r_lst); rfl) | with_reducible exact Cv.r_ix0 | with_reducible exact Cv.r_ix1 | with_reducible exact Cv.r_ix2 | with_reducible exact Cv.r_add | with_reducible exact Cv.r_sub | with_reducible exact Cv.r_neg | with_reducible exact Cv.r_lt | with_reducible exact Cv.r_le | with_reducible exact Cv.r_gt | with_reducible exact Cv.r_ge | with_reducible exact Cv.r_eq | with_reducible exact Cv.r_ne | with_reducible exact Cv.r_eqB | with_reducible exact Cv.r_neB | with_reducible exact Cv.r_isB | with_reducible exact Cv.r_isnB | with_reducible exact Cv.r_subB | with_reducible apply Cv.r_ret)))
theorem dot_ok {x y u v : Rat} {k l m n : Nat} [QB k x] [QB l y] [QB m u] [QB n v] (h : k + l + m + n < 390) : f_dot cap [.tup [pr x, pr y], .tup [pr u, pr v]] st = .ok (pr (x * u + y * v)) st := by
  (rw [ev_dot]; dsimp only [start', List.map, List.length_cons, List.length_nil, List.replicate, List.cons_append, List.nil_append, Nat.reduceAdd, Nat.reduceSub, Nat.zero_add]; refine (if_pos ⟨rfl, by decide⟩).trans ?_; unfold m_dot; apply Cv.r_end; (repeat' (first | with_reducible exact summed_ok (by omega) | with_reducible exact scaled_ok (by omega) | ((with_reducible apply Cv.r_asm); with_reducible assumption) | with_reducible exact Cv.r_ok | with_reducible exact Cv.r_con | ((with_reducible apply Cv.r_var); rfl) | with_reducible apply Cv.r_two | with_reducible apply Cv.r_callF | with_reducible apply Cv.r_cons | with_reducible exact Cv.r_nil | with_reducible apply Cv.r_row | with_reducible apply Cv.r_one | with_reducible apply Cv.r_and | with_reducible apply Cv.r_or | with_reducible apply Cv.r_ite | with_reducible apply Cv.r_t | with_reducible apply Cv.r_not | with_reducible exact Cv.r_trb | with_reducible apply Cv.r_seq | with_reducible apply Cv.r_then_nx | with_reducible exact Cv.r_then_rt | with_reducible exact Cv.r_then_bk | with_reducible exact Cv.r_then_ct | with_reducible exact Cv.r_then_exn | with_reducible apply Cv.r_if | with_reducible apply Cv.r_set | with_reducible apply Cv.r_par | with_reducible exact Cv.r_nx | with_reducible exact Cv.r_fl | with_reducible apply Cv.r_exp | with_reducible apply Cv.r_ss | with_reducible exact Cv.r_sz | ((with_reducible apply Cv.r_T); focus (first | rfl | assumption | omega | (simp only [*, decide_true, decide_false, Bool.not_true, Bool.not_false, Bool.and_true, Bool.and_false, Bool.true_and, Bool.false_and, Bool.or_true, Bool.or_false, Bool.true_or, Bool.false_or]; done) | (simp [*]; done))) | ((with_reducible apply Cv.r_F); focus (first | rfl | assumption | omega | (simp only [*, decide_true, decide_false, Bool.not_true, Bool.not_false, Bool.and_true, Bool.and_false, Bool.true_and, Bool.false_and, Bool.or_true, Bool.or_false, Bool.true_or, Bool.false_or]; done) | (simp [*]; done))) | ((with_reducible apply Cv.r_tup); rfl) | ((with_reducible apply Cv.r_lst); rfl) | with_reducible exact Cv.r_ix0 | with_reducible exact Cv.r_ix1 | with_reducible exact Cv.r_ix2 | with_reducible exact Cv.r_add | with_reducible exact Cv.r_sub | with_reducible exact Cv.r_neg | with_reducible exact Cv.r_lt | with_reducible exact Cv.r_le | with_reducible exact Cv.r_gt | with_reducible exact Cv.r_ge | with_reducible exact Cv.r_eq | with_reducible exact Cv.r_ne | with_reducible exact Cv.r_eqB | with_reducible exact Cv.r_neB | with_reducible exact Cv.r_isB | with_reducible exact Cv.r_isnB | with_reducible exact Cv.r_subB | with_reducible apply Cv.r_ret)))
theorem sign_ok : f_sign_of cap [pr x] st = .ok (.int (sgn x)) st := by
  rw [sgn_num]
  by_cases h : x.num = 0
  · rw [if_pos h]
    (rw [ev_sign_of]; dsimp only [start', List.map, List.length_cons, List.length_nil, List.replicate, List.cons_append, List.nil_append, Nat.reduceAdd, Nat.reduceSub, Nat.zero_add]; refine (if_pos ⟨rfl, by decide⟩).trans ?_; unfold m_sign_of; apply Cv.r_end; (repeat' (first | ((with_reducible apply Cv.r_asm); with_reducible assumption) | with_reducible exact Cv.r_ok | with_reducible exact Cv.r_con | ((with_reducible apply Cv.r_var); rfl) | with_reducible apply Cv.r_two | with_reducible apply Cv.r_callF | with_reducible apply Cv.r_cons | with_reducible exact Cv.r_nil | with_reducible apply Cv.r_row | with_reducible apply Cv.r_one | with_reducible apply Cv.r_and | with_reducible apply Cv.r_or | with_reducible apply Cv.r_ite | with_reducible apply Cv.r_t | with_reducible apply Cv.r_not | with_reducible exact Cv.r_trb | with_reducible apply Cv.r_seq | with_reducible apply Cv.r_then_nx | with_reducible exact Cv.r_then_rt | with_reducible exact Cv.r_then_bk | with_reducible exact Cv.r_then_ct | with_reducible exact Cv.r_then_exn | with_reducible apply Cv.r_if | with_reducible apply Cv.r_set | with_reducible apply Cv.r_par | with_reducible exact Cv.r_nx | with_reducible exact Cv.r_fl | with_reducible apply Cv.r_exp | with_reducible apply Cv.r_ss | with_reducible exact Cv.r_sz | ((with_reducible apply Cv.r_T); focus (first | rfl | assumption | omega | (simp only [*, decide_true, decide_false, Bool.not_true, Bool.not_false, Bool.and_true, Bool.and_false, Bool.true_and, Bool.false_and, Bool.or_true, Bool.or_false, Bool.true_or, Bool.false_or]; done) | (simp [*]; done))) | ((with_reducible apply Cv.r_F); focus (first | rfl | assumption | omega | (simp only [*, decide_true, decide_false, Bool.not_true, Bool.not_false, Bool.and_true, Bool.and_false, Bool.true_and, Bool.false_and, Bool.or_true, Bool.or_false, Bool.true_or, Bool.false_or]; done) | (simp [*]; done))) | ((with_reducible apply Cv.r_tup); rfl) | ((with_reducible apply Cv.r_lst); rfl) | with_reducible exact Cv.r_ix0 | with_reducible exact Cv.r_ix1 | with_reducible exact Cv.r_ix2 | with_reducible exact Cv.r_add | with_reducible exact Cv.r_sub | with_reducible exact Cv.r_neg | with_reducible exact Cv.r_lt | with_reducible exact Cv.r_le | with_reducible exact Cv.r_gt | with_reducible exact Cv.r_ge | with_reducible exact Cv.r_eq | with_reducible exact Cv.r_ne | with_reducible exact Cv.r_eqB | with_reducible exact Cv.r_neB | with_reducible exact Cv.r_isB | with_reducible exact Cv.r_isnB | with_reducible exact Cv.r_subB | with_reducible apply Cv.r_ret)))
  · rw [if_neg h]
    by_cases h2 : 0 < x.num
    · rw [if_pos h2]
      (rw [ev_sign_of]; dsimp only [start', List.map, List.length_cons, List.length_nil, List.replicate, List.cons_append, List.nil_append, Nat.reduceAdd, Nat.reduceSub, Nat.zero_add]; refine (if_pos ⟨rfl, by decide⟩).trans ?_; unfold m_sign_of; apply Cv.r_end; (repeat' (first | ((with_reducible apply Cv.r_asm); with_reducible assumption) | with_reducible exact Cv.r_ok | with_reducible exact Cv.r_con | ((with_reducible apply Cv.r_var); rfl) | with_reducible apply Cv.r_two | with_reducible apply Cv.r_callF | with_reducible apply Cv.r_cons | with_reducible exact Cv.r_nil | with_reducible apply Cv.r_row | with_reducible apply Cv.r_one | with_reducible apply Cv.r_and | with_reducible apply Cv.r_or | with_reducible apply Cv.r_ite | with_reducible apply Cv.r_t | with_reducible apply Cv.r_not | with_reducible exact Cv.r_trb | with_reducible apply Cv.r_seq | with_reducible apply Cv.r_then_nx | with_reducible exact Cv.r_then_rt | with_reducible exact Cv.r_then_bk | with_reducible exact Cv.r_then_ct | with_reducible exact Cv.r_then_exn | with_reducible apply Cv.r_if | with_reducible apply Cv.r_set | with_reducible apply Cv.r_par | with_reducible exact Cv.r_nx | with_reducible exact Cv.r_fl | with_reducible apply Cv.r_exp | with_reducible apply Cv.r_ss | with_reducible exact Cv.r_sz | ((with_reducible apply Cv.r_T); focus (first | rfl | assumption | omega | (simp only [*, decide_true, decide_false, Bool.not_true, Bool.not_false, Bool.and_true, Bool.and_false, Bool.true_and, Bool.false_and, Bool.or_true, Bool.or_false, Bool.true_or, Bool.false_or]; done) | (simp [*]; done))) | ((with_reducible apply Cv.r_F); focus (first | rfl | assumption | omega | (simp only [*, decide_true, decide_false, Bool.not_true, Bool.not_false, Bool.and_true, Bool.and_false, Bool.true_and, Bool.false_and, Bool.or_true, Bool.or_false, Bool.true_or, Bool.false_or]; done) | (simp [*]; done))) | ((with_reducible apply Cv.r_tup); rfl) | ((with_reducible apply Cv.r_lst); rfl) | with_reducible exact Cv.r_ix0 | with_reducible exact Cv.r_ix1 | with_reducible exact Cv.r_ix2 | with_reducible exact Cv.r_add | with_reducible exact Cv.r_sub | with_reducible exact Cv.r_neg | with_reducible exact Cv.r_lt | with_reducible exact Cv.r_le | with_reducible exact Cv.r_gt | with_reducible exact Cv.r_ge | with_reducible exact Cv.r_eq | with_reducible exact Cv.r_ne | with_reducible exact Cv.r_eqB | with_reducible exact Cv.r_neB | with_reducible exact Cv.r_isB | with_reducible exact Cv.r_isnB | with_reducible exact Cv.r_subB | with_reducible apply Cv.r_ret)))
    · rw [if_neg h2]
      (rw [ev_sign_of]; dsimp only [start', List.map, List.length_cons, List.length_nil, List.replicate, List.cons_append, List.nil_append, Nat.reduceAdd, Nat.reduceSub, Nat.zero_add]; refine (if_pos ⟨rfl, by decide⟩).trans ?_; unfold m_sign_of; apply Cv.r_end; (repeat' (first | ((with_reducible apply Cv.r_asm); with_reducible assumption) | with_reducible exact Cv.r_ok | with_reducible exact Cv.r_con | ((with_reducible apply Cv.r_var); rfl) | with_reducible apply Cv.r_two | with_reducible apply Cv.r_callF | with_reducible apply Cv.r_cons | with_reducible exact Cv.r_nil | with_reducible apply Cv.r_row | with_reducible apply Cv.r_one | with_reducible apply Cv.r_and | with_reducible apply Cv.r_or | with_reducible apply Cv.r_ite | with_reducible apply Cv.r_t | with_reducible apply Cv.r_not | with_reducible exact Cv.r_trb | with_reducible apply Cv.r_seq | with_reducible apply Cv.r_then_nx | with_reducible exact Cv.r_then_rt | with_reducible exact Cv.r_then_bk | with_reducible exact Cv.r_then_ct | with_reducible exact Cv.r_then_exn | with_reducible apply Cv.r_if | with_reducible apply Cv.r_set | with_reducible apply Cv.r_par | with_reducible exact Cv.r_nx | with_reducible exact Cv.r_fl | with_reducible apply Cv.r_exp | with_reducible apply Cv.r_ss | with_reducible exact Cv.r_sz | ((with_reducible apply Cv.r_T); focus (first | rfl | assumption | omega | (simp only [*, decide_true, decide_false, Bool.not_true, Bool.not_false, Bool.and_true, Bool.and_false, Bool.true_and, Bool.false_and, Bool.or_true, Bool.or_false, Bool.true_or, Bool.false_or]; done) | (simp [*]; done))) | ((with_reducible apply Cv.r_F); focus (first | rfl | assumption | omega | (simp only [*, decide_true, decide_false, Bool.not_true, Bool.not_false, Bool.and_true, Bool.and_false, Bool.true_and, Bool.false_and, Bool.or_true, Bool.or_false, Bool.true_or, Bool.false_or]; done) | (simp [*]; done))) | ((with_reducible apply Cv.r_tup); rfl) | ((with_reducible apply Cv.r_lst); rfl) | with_reducible exact Cv.r_ix0 | with_reducible exact Cv.r_ix1 | with_reducible exact Cv.r_ix2 | with_reducible exact Cv.r_add | with_reducible exact Cv.r_sub | with_reducible exact Cv.r_neg | with_reducible exact Cv.r_lt | with_reducible exact Cv.r_le | with_reducible exact Cv.r_gt | with_reducible exact Cv.r_ge | with_reducible exact Cv.r_eq | with_reducible exact Cv.r_ne | with_reducible exact Cv.r_eqB | with_reducible exact Cv.r_neB | with_reducible exact Cv.r_isB | with_reducible exact Cv.r_isnB | with_reducible exact Cv.r_subB | with_reducible apply Cv.r_ret)))
theorem turn_by_ok [QP k a] [QP l b] [QP m c] (h : k + l + m < 40) : f_turn_by cap [pt a, pt b, pt c] st = .ok (.int (sgn (crs a b c))) st := by
  unfold crs
  (rw [ev_turn_by]; dsimp only [start', List.map, List.length_cons, List.length_nil, List.replicate, List.cons_append, List.nil_append, Nat.reduceAdd, Nat.reduceSub, Nat.zero_add]; refine (if_pos ⟨rfl, by decide⟩).trans ?_; unfold m_turn_by; apply Cv.r_end; (repeat' (first | with_reducible exact gap_ok (by omega) | with_reducible exact cross_ok (by omega) | with_reducible exact sign_ok | ((with_reducible apply Cv.r_asm); with_reducible assumption) | with_reducible exact Cv.r_ok | with_reducible exact Cv.r_con | ((with_reducible apply Cv.r_var); rfl) | with_reducible apply Cv.r_two | with_reducible apply Cv.r_callF | with_reducible apply Cv.r_cons | with_reducible exact Cv.r_nil | with_reducible apply Cv.r_row | with_reducible apply Cv.r_one | with_reducible apply Cv.r_and | with_reducible apply Cv.r_or | with_reducible apply Cv.r_ite | with_reducible apply Cv.r_t | with_reducible apply Cv.r_not | with_reducible exact Cv.r_trb | with_reducible apply Cv.r_seq | with_reducible apply Cv.r_then_nx | with_reducible exact Cv.r_then_rt | with_reducible exact Cv.r_then_bk | with_reducible exact Cv.r_then_ct | with_reducible exact Cv.r_then_exn | with_reducible apply Cv.r_if | with_reducible apply Cv.r_set | with_reducible apply Cv.r_par | with_reducible exact Cv.r_nx | with_reducible exact Cv.r_fl | with_reducible apply Cv.r_exp | with_reducible apply Cv.r_ss | with_reducible exact Cv.r_sz | ((with_reducible apply Cv.r_T); focus (first | rfl | assumption | omega | (simp only [*, decide_true, decide_false, Bool.not_true, Bool.not_false, Bool.and_true, Bool.and_false, Bool.true_and, Bool.false_and, Bool.or_true, Bool.or_false, Bool.true_or, Bool.false_or]; done) | (simp [*]; done))) | ((with_reducible apply Cv.r_F); focus (first | rfl | assumption | omega | (simp only [*, decide_true, decide_false, Bool.not_true, Bool.not_false, Bool.and_true, Bool.and_false, Bool.true_and, Bool.false_and, Bool.or_true, Bool.or_false, Bool.true_or, Bool.false_or]; done) | (simp [*]; done))) | ((with_reducible apply Cv.r_tup); rfl) | ((with_reducible apply Cv.r_lst); rfl) | with_reducible exact Cv.r_ix0 | with_reducible exact Cv.r_ix1 | with_reducible exact Cv.r_ix2 | with_reducible exact Cv.r_add | with_reducible exact Cv.r_sub | with_reducible exact Cv.r_neg | with_reducible exact Cv.r_lt | with_reducible exact Cv.r_le | with_reducible exact Cv.r_gt | with_reducible exact Cv.r_ge | with_reducible exact Cv.r_eq | with_reducible exact Cv.r_ne | with_reducible exact Cv.r_eqB | with_reducible exact Cv.r_neB | with_reducible exact Cv.r_isB | with_reducible exact Cv.r_isnB | with_reducible exact Cv.r_subB | with_reducible apply Cv.r_ret)))
open Classical in
theorem is_between_by_ok [QP k a] [QP l b] [QP m c] (h : k + l + m < 40) : f_is_between_by cap [pt a, pt b, pt c] st = .ok (.bl (decide (btw a b c))) st := by
  have e : decide (btw a b c) = (decide (sgn (crs a b c) = 0) && decide ((dt c a b).num ≤ 0)) := by
    unfold btw
    rw [Bool.decide_and]
    congr 1
    · rw [decide_eq_decide]; exact sgn_zero.symm
    · rw [decide_eq_decide, Rat.le_iff]; simp
  rw [e]
  unfold dt
  rw [ev_is_between_by]
  dsimp only [start', List.map, List.length_cons, List.length_nil, List.replicate, List.cons_append, List.nil_append, Nat.reduceAdd, Nat.reduceSub, Nat.zero_add]
  refine (if_pos ⟨rfl, by decide⟩).trans ?_
  unfold m_is_between_by
  apply r_end
  apply r_seq
  apply r_ret
  apply r_and2
  · (repeat' (first | with_reducible exact turn_by_ok (by omega) | ((with_reducible apply Cv.r_asm); with_reducible assumption) | with_reducible exact Cv.r_ok | with_reducible exact Cv.r_con | ((with_reducible apply Cv.r_var); rfl) | with_reducible apply Cv.r_two | with_reducible apply Cv.r_callF | with_reducible apply Cv.r_cons | with_reducible exact Cv.r_nil | with_reducible apply Cv.r_row | with_reducible apply Cv.r_one | with_reducible apply Cv.r_and | with_reducible apply Cv.r_or | with_reducible apply Cv.r_ite | with_reducible apply Cv.r_t | with_reducible apply Cv.r_not | with_reducible exact Cv.r_trb | with_reducible apply Cv.r_seq | with_reducible apply Cv.r_then_nx | with_reducible exact Cv.r_then_rt | with_reducible exact Cv.r_then_bk | with_reducible exact Cv.r_then_ct | with_reducible exact Cv.r_then_exn | with_reducible apply Cv.r_if | with_reducible apply Cv.r_set | with_reducible apply Cv.r_par | with_reducible exact Cv.r_nx | with_reducible exact Cv.r_fl | with_reducible apply Cv.r_exp | with_reducible apply Cv.r_ss | with_reducible exact Cv.r_sz | ((with_reducible apply Cv.r_T); focus (first | rfl | assumption | omega | (simp only [*, decide_true, decide_false, Bool.not_true, Bool.not_false, Bool.and_true, Bool.and_false, Bool.true_and, Bool.false_and, Bool.or_true, Bool.or_false, Bool.true_or, Bool.false_or]; done) | (simp [*]; done))) | ((with_reducible apply Cv.r_F); focus (first | rfl | assumption | omega | (simp only [*, decide_true, decide_false, Bool.not_true, Bool.not_false, Bool.and_true, Bool.and_false, Bool.true_and, Bool.false_and, Bool.or_true, Bool.or_false, Bool.true_or, Bool.false_or]; done) | (simp [*]; done))) | ((with_reducible apply Cv.r_tup); rfl) | ((with_reducible apply Cv.r_lst); rfl) | with_reducible exact Cv.r_ix0 | with_reducible exact Cv.r_ix1 | with_reducible exact Cv.r_ix2 | with_reducible exact Cv.r_add | with_reducible exact Cv.r_sub | with_reducible exact Cv.r_neg | with_reducible exact Cv.r_lt | with_reducible exact Cv.r_le | with_reducible exact Cv.r_gt | with_reducible exact Cv.r_ge | with_reducible exact Cv.r_eq | with_reducible exact Cv.r_ne | with_reducible exact Cv.r_eqB | with_reducible exact Cv.r_neB | with_reducible exact Cv.r_isB | with_reducible exact Cv.r_isnB | with_reducible exact Cv.r_subB | with_reducible apply Cv.r_ret))
  · (repeat' (first | with_reducible exact gap_ok (by omega) | with_reducible exact dot_ok (by omega) | ((with_reducible apply Cv.r_asm); with_reducible assumption) | with_reducible exact Cv.r_ok | with_reducible exact Cv.r_con | ((with_reducible apply Cv.r_var); rfl) | with_reducible apply Cv.r_two | with_reducible apply Cv.r_callF | with_reducible apply Cv.r_cons | with_reducible exact Cv.r_nil | with_reducible apply Cv.r_row | with_reducible apply Cv.r_one | with_reducible apply Cv.r_and | with_reducible apply Cv.r_or | with_reducible apply Cv.r_ite | with_reducible apply Cv.r_t | with_reducible apply Cv.r_not | with_reducible exact Cv.r_trb | with_reducible apply Cv.r_seq | with_reducible apply Cv.r_then_nx | with_reducible exact Cv.r_then_rt | with_reducible exact Cv.r_then_bk | with_reducible exact Cv.r_then_ct | with_reducible exact Cv.r_then_exn | with_reducible apply Cv.r_if | with_reducible apply Cv.r_set | with_reducible apply Cv.r_par | with_reducible exact Cv.r_nx | with_reducible exact Cv.r_fl | with_reducible apply Cv.r_exp | with_reducible apply Cv.r_ss | with_reducible exact Cv.r_sz | ((with_reducible apply Cv.r_T); focus (first | rfl | assumption | omega | (simp only [*, decide_true, decide_false, Bool.not_true, Bool.not_false, Bool.and_true, Bool.and_false, Bool.true_and, Bool.false_and, Bool.or_true, Bool.or_false, Bool.true_or, Bool.false_or]; done) | (simp [*]; done))) | ((with_reducible apply Cv.r_F); focus (first | rfl | assumption | omega | (simp only [*, decide_true, decide_false, Bool.not_true, Bool.not_false, Bool.and_true, Bool.and_false, Bool.true_and, Bool.false_and, Bool.or_true, Bool.or_false, Bool.true_or, Bool.false_or]; done) | (simp [*]; done))) | ((with_reducible apply Cv.r_tup); rfl) | ((with_reducible apply Cv.r_lst); rfl) | with_reducible exact Cv.r_ix0 | with_reducible exact Cv.r_ix1 | with_reducible exact Cv.r_ix2 | with_reducible exact Cv.r_add | with_reducible exact Cv.r_sub | with_reducible exact Cv.r_neg | with_reducible exact Cv.r_lt | with_reducible exact Cv.r_le | with_reducible exact Cv.r_gt | with_reducible exact Cv.r_ge | with_reducible exact Cv.r_eq | with_reducible exact Cv.r_ne | with_reducible exact Cv.r_eqB | with_reducible exact Cv.r_neB | with_reducible exact Cv.r_isB | with_reducible exact Cv.r_isnB | with_reducible exact Cv.r_subB | with_reducible apply Cv.r_ret))
  exact r_then_rt
theorem lturn_of_ok [QP k a] [QP l b] [QP m c] (h : k + l + m < 40) : f__law_turn_of cap [pt a, pt b, pt c] st = .ok (.int (crs a b c).num) st := by
  unfold crs
  (rw [ev__law_turn_of]; dsimp only [start', List.map, List.length_cons, List.length_nil, List.replicate, List.cons_append, List.nil_append, Nat.reduceAdd, Nat.reduceSub, Nat.zero_add]; refine (if_pos ⟨rfl, by decide⟩).trans ?_; unfold m__law_turn_of; apply Cv.r_end; (repeat' (first | with_reducible exact lminus_ok (by omega) | with_reducible exact ltimes_ok (by omega) | ((with_reducible apply Cv.r_asm); with_reducible assumption) | with_reducible exact Cv.r_ok | with_reducible exact Cv.r_con | ((with_reducible apply Cv.r_var); rfl) | with_reducible apply Cv.r_two | with_reducible apply Cv.r_callF | with_reducible apply Cv.r_cons | with_reducible exact Cv.r_nil | with_reducible apply Cv.r_row | with_reducible apply Cv.r_one | with_reducible apply Cv.r_and | with_reducible apply Cv.r_or | with_reducible apply Cv.r_ite | with_reducible apply Cv.r_t | with_reducible apply Cv.r_not | with_reducible exact Cv.r_trb | with_reducible apply Cv.r_seq | with_reducible apply Cv.r_then_nx | with_reducible exact Cv.r_then_rt | with_reducible exact Cv.r_then_bk | with_reducible exact Cv.r_then_ct | with_reducible exact Cv.r_then_exn | with_reducible apply Cv.r_if | with_reducible apply Cv.r_set | with_reducible apply Cv.r_par | with_reducible exact Cv.r_nx | with_reducible exact Cv.r_fl | with_reducible apply Cv.r_exp | with_reducible apply Cv.r_ss | with_reducible exact Cv.r_sz | ((with_reducible apply Cv.r_T); focus (first | rfl | assumption | omega | (simp only [*, decide_true, decide_false, Bool.not_true, Bool.not_false, Bool.and_true, Bool.and_false, Bool.true_and, Bool.false_and, Bool.or_true, Bool.or_false, Bool.true_or, Bool.false_or]; done) | (simp [*]; done))) | ((with_reducible apply Cv.r_F); focus (first | rfl | assumption | omega | (simp only [*, decide_true, decide_false, Bool.not_true, Bool.not_false, Bool.and_true, Bool.and_false, Bool.true_and, Bool.false_and, Bool.or_true, Bool.or_false, Bool.true_or, Bool.false_or]; done) | (simp [*]; done))) | ((with_reducible apply Cv.r_tup); rfl) | ((with_reducible apply Cv.r_lst); rfl) | with_reducible exact Cv.r_ix0 | with_reducible exact Cv.r_ix1 | with_reducible exact Cv.r_ix2 | with_reducible exact Cv.r_add | with_reducible exact Cv.r_sub | with_reducible exact Cv.r_neg | with_reducible exact Cv.r_lt | with_reducible exact Cv.r_le | with_reducible exact Cv.r_gt | with_reducible exact Cv.r_ge | with_reducible exact Cv.r_eq | with_reducible exact Cv.r_ne | with_reducible exact Cv.r_eqB | with_reducible exact Cv.r_neB | with_reducible exact Cv.r_isB | with_reducible exact Cv.r_isnB | with_reducible exact Cv.r_subB | with_reducible apply Cv.r_ret)))
end
end Cut
namespace Cut
open PySem PySem.Spec PyProof.Rows L2 Cv
/-! ### values made to tuples, points read -/
section
variable {st s : Sto} {cap : Cap} {p q : PV} {xs ys : List PV} {x : Rat}
/-- a row: its items stay -/
def RowV (st : Sto) (p : PV) (xs : List PV) : Prop := p = .tup xs ∨ ∃ i, p = .loc i ∧ st[i]? = some (.lst xs)
theorem RowV.ext (h : RowV st p xs) (e : Ext st s) : RowV s p xs := by
  rcases h with h | ⟨i, h1, h2⟩
  · exact .inl h
  · exact .inr ⟨i, h1, e _ _ h2⟩
theorem RowV.items (h : RowV st p xs) : items st p = some xs := by
  rcases h with rfl | ⟨i, rfl, h2⟩
  · rfl
  · exact r_items h2
theorem isi_tl {k : Nat} {ys : List PV} (h : st[k]? = some (.lst ys)) : bltOp .isi [.loc k, .tup [.ty "tuple", .ty "list"]] st = .ok (.bl true) st := by
  have t : tyName st (.loc k) = some "list" := by
    show (match st[k]? with | some (.lst _) => some "list" | some (.dct _) => some "dict" | _ => none) = _
    rw [h]
  have q1 : isiOne st (.loc k) (.ty "tuple") = some false := by
    show (match tyName st (.loc k), PV.ty "tuple" with | some t, .ty n => kitB t n | _, _ => none) = _
    rw [t]; kernel_rfl
  have q2 : isiOne st (.loc k) (.ty "list") = some true := by
    show (match tyName st (.loc k), PV.ty "list" with | some t, .ty n => kitB t n | _, _ => none) = _
    rw [t]; kernel_rfl
  show (if [PV.ty "tuple", PV.ty "list"].isEmpty then Res.stuck else rb ((isiAny st (.loc k) [.ty "tuple", .ty "list"]).map .bl) st) = _
  have q : isiAny st (.loc k) [.ty "tuple", .ty "list"] = some true := by
    unfold isiAny
    rw [q1]
    show isiAny st (.loc k) [.ty "list"] = _
    unfold isiAny
    rw [q2]
    rfl
  rw [q]
  rfl
theorem RowV.isi (h : RowV st p xs) : bltOp .isi [p, .tup [.ty "tuple", .ty "list"]] st = .ok (.bl true) st := by
  rcases h with rfl | ⟨i, rfl, h2⟩
  · kernel_rfl
  · exact isi_tl h2
/-- values that are no rows -/
def Leaf : PV → Prop
  | .int _ => True
  | .str _ => True
  | .bl _ => True
  | .non => True
  | _ => False
theorem Leaf.isi (h : Leaf p) : bltOp .isi [p, .tup [.ty "tuple", .ty "list"]] st = .ok (.bl false) st := by
  cases p <;> first | exact h.elim | kernel_rfl
/-- told f, p is q, where the store grows -/
def Mk (f : Fun') (st : Sto) (p q : PV) : Prop := ∀ s, Ext st s → ∃ s', f [p] s = .ok q s' ∧ Ext s s'
theorem Mk.ext {f : Fun'} (h : Mk f st p q) (e : Ext st s) : Mk f s p q := fun s' e' => h s' (e.trans e')
theorem leaf0 (h : Leaf p) : Mk (f_in_tuples_0 cap) st p p := fun s e => ⟨s, by (rw [ev_in_tuples_0]; dsimp only [start', List.map, List.length_cons, List.length_nil, List.replicate, List.cons_append, List.nil_append, Nat.reduceAdd, Nat.reduceSub, Nat.zero_add]; refine (if_pos ⟨rfl, by decide⟩).trans ?_; unfold m_in_tuples_0; apply Cv.r_end; (repeat' (first | with_reducible exact h.isi | ((with_reducible apply Cv.r_asm); with_reducible assumption) | with_reducible exact Cv.r_ok | with_reducible exact Cv.r_con | ((with_reducible apply Cv.r_var); rfl) | with_reducible apply Cv.r_two | with_reducible apply Cv.r_callF | with_reducible apply Cv.r_cons | with_reducible exact Cv.r_nil | with_reducible apply Cv.r_row | with_reducible apply Cv.r_one | with_reducible apply Cv.r_and | with_reducible apply Cv.r_or | with_reducible apply Cv.r_ite | with_reducible apply Cv.r_t | with_reducible apply Cv.r_not | with_reducible exact Cv.r_trb | with_reducible apply Cv.r_seq | with_reducible apply Cv.r_then_nx | with_reducible exact Cv.r_then_rt | with_reducible exact Cv.r_then_bk | with_reducible exact Cv.r_then_ct | with_reducible exact Cv.r_then_exn | with_reducible apply Cv.r_if | with_reducible apply Cv.r_set | with_reducible apply Cv.r_par | with_reducible exact Cv.r_nx | with_reducible exact Cv.r_fl | with_reducible apply Cv.r_exp | with_reducible apply Cv.r_ss | with_reducible exact Cv.r_sz | ((with_reducible apply Cv.r_T); focus (first | rfl | assumption | omega | (simp only [*, decide_true, decide_false, Bool.not_true, Bool.not_false, Bool.and_true, Bool.and_false, Bool.true_and, Bool.false_and, Bool.or_true, Bool.or_false, Bool.true_or, Bool.false_or]; done) | (simp [*]; done))) | ((with_reducible apply Cv.r_F); focus (first | rfl | assumption | omega | (simp only [*, decide_true, decide_false, Bool.not_true, Bool.not_false, Bool.and_true, Bool.and_false, Bool.true_and, Bool.false_and, Bool.or_true, Bool.or_false, Bool.true_or, Bool.false_or]; done) | (simp [*]; done))) | ((with_reducible apply Cv.r_tup); rfl) | ((with_reducible apply Cv.r_lst); rfl) | with_reducible exact Cv.r_ix0 | with_reducible exact Cv.r_ix1 | with_reducible exact Cv.r_ix2 | with_reducible exact Cv.r_add | with_reducible exact Cv.r_sub | with_reducible exact Cv.r_neg | with_reducible exact Cv.r_lt | with_reducible exact Cv.r_le | with_reducible exact Cv.r_gt | with_reducible exact Cv.r_ge | with_reducible exact Cv.r_eq | with_reducible exact Cv.r_ne | with_reducible exact Cv.r_eqB | with_reducible exact Cv.r_neB | with_reducible exact Cv.r_isB | with_reducible exact Cv.r_isnB | with_reducible exact Cv.r_subB | with_reducible apply Cv.r_ret))), .refl⟩
theorem leaf1 (h : Leaf p) : Mk (f_in_tuples_1 cap) st p p := fun s e => ⟨s, by (rw [ev_in_tuples_1]; dsimp only [start', List.map, List.length_cons, List.length_nil, List.replicate, List.cons_append, List.nil_append, Nat.reduceAdd, Nat.reduceSub, Nat.zero_add]; refine (if_pos ⟨rfl, by decide⟩).trans ?_; unfold m_in_tuples_1; apply Cv.r_end; (repeat' (first | with_reducible exact h.isi | ((with_reducible apply Cv.r_asm); with_reducible assumption) | with_reducible exact Cv.r_ok | with_reducible exact Cv.r_con | ((with_reducible apply Cv.r_var); rfl) | with_reducible apply Cv.r_two | with_reducible apply Cv.r_callF | with_reducible apply Cv.r_cons | with_reducible exact Cv.r_nil | with_reducible apply Cv.r_row | with_reducible apply Cv.r_one | with_reducible apply Cv.r_and | with_reducible apply Cv.r_or | with_reducible apply Cv.r_ite | with_reducible apply Cv.r_t | with_reducible apply Cv.r_not | with_reducible exact Cv.r_trb | with_reducible apply Cv.r_seq | with_reducible apply Cv.r_then_nx | with_reducible exact Cv.r_then_rt | with_reducible exact Cv.r_then_bk | with_reducible exact Cv.r_then_ct | with_reducible exact Cv.r_then_exn | with_reducible apply Cv.r_if | with_reducible apply Cv.r_set | with_reducible apply Cv.r_par | with_reducible exact Cv.r_nx | with_reducible exact Cv.r_fl | with_reducible apply Cv.r_exp | with_reducible apply Cv.r_ss | with_reducible exact Cv.r_sz | ((with_reducible apply Cv.r_T); focus (first | rfl | assumption | omega | (simp only [*, decide_true, decide_false, Bool.not_true, Bool.not_false, Bool.and_true, Bool.and_false, Bool.true_and, Bool.false_and, Bool.or_true, Bool.or_false, Bool.true_or, Bool.false_or]; done) | (simp [*]; done))) | ((with_reducible apply Cv.r_F); focus (first | rfl | assumption | omega | (simp only [*, decide_true, decide_false, Bool.not_true, Bool.not_false, Bool.and_true, Bool.and_false, Bool.true_and, Bool.false_and, Bool.or_true, Bool.or_false, Bool.true_or, Bool.false_or]; done) | (simp [*]; done))) | ((with_reducible apply Cv.r_tup); rfl) | ((with_reducible apply Cv.r_lst); rfl) | with_reducible exact Cv.r_ix0 | with_reducible exact Cv.r_ix1 | with_reducible exact Cv.r_ix2 | with_reducible exact Cv.r_add | with_reducible exact Cv.r_sub | with_reducible exact Cv.r_neg | with_reducible exact Cv.r_lt | with_reducible exact Cv.r_le | with_reducible exact Cv.r_gt | with_reducible exact Cv.r_ge | with_reducible exact Cv.r_eq | with_reducible exact Cv.r_ne | with_reducible exact Cv.r_eqB | with_reducible exact Cv.r_neB | with_reducible exact Cv.r_isB | with_reducible exact Cv.r_isnB | with_reducible exact Cv.r_subB | with_reducible apply Cv.r_ret))), .refl⟩
theorem leaf2 (h : Leaf p) : Mk (f_in_tuples cap) st p p := fun s e => ⟨s, by (rw [ev_in_tuples]; dsimp only [start', List.map, List.length_cons, List.length_nil, List.replicate, List.cons_append, List.nil_append, Nat.reduceAdd, Nat.reduceSub, Nat.zero_add]; refine (if_pos ⟨rfl, by decide⟩).trans ?_; unfold m_in_tuples; apply Cv.r_end; (repeat' (first | with_reducible exact h.isi | ((with_reducible apply Cv.r_asm); with_reducible assumption) | with_reducible exact Cv.r_ok | with_reducible exact Cv.r_con | ((with_reducible apply Cv.r_var); rfl) | with_reducible apply Cv.r_two | with_reducible apply Cv.r_callF | with_reducible apply Cv.r_cons | with_reducible exact Cv.r_nil | with_reducible apply Cv.r_row | with_reducible apply Cv.r_one | with_reducible apply Cv.r_and | with_reducible apply Cv.r_or | with_reducible apply Cv.r_ite | with_reducible apply Cv.r_t | with_reducible apply Cv.r_not | with_reducible exact Cv.r_trb | with_reducible apply Cv.r_seq | with_reducible apply Cv.r_then_nx | with_reducible exact Cv.r_then_rt | with_reducible exact Cv.r_then_bk | with_reducible exact Cv.r_then_ct | with_reducible exact Cv.r_then_exn | with_reducible apply Cv.r_if | with_reducible apply Cv.r_set | with_reducible apply Cv.r_par | with_reducible exact Cv.r_nx | with_reducible exact Cv.r_fl | with_reducible apply Cv.r_exp | with_reducible apply Cv.r_ss | with_reducible exact Cv.r_sz | ((with_reducible apply Cv.r_T); focus (first | rfl | assumption | omega | (simp only [*, decide_true, decide_false, Bool.not_true, Bool.not_false, Bool.and_true, Bool.and_false, Bool.true_and, Bool.false_and, Bool.or_true, Bool.or_false, Bool.true_or, Bool.false_or]; done) | (simp [*]; done))) | ((with_reducible apply Cv.r_F); focus (first | rfl | assumption | omega | (simp only [*, decide_true, decide_false, Bool.not_true, Bool.not_false, Bool.and_true, Bool.and_false, Bool.true_and, Bool.false_and, Bool.or_true, Bool.or_false, Bool.true_or, Bool.false_or]; done) | (simp [*]; done))) | ((with_reducible apply Cv.r_tup); rfl) | ((with_reducible apply Cv.r_lst); rfl) | with_reducible exact Cv.r_ix0 | with_reducible exact Cv.r_ix1 | with_reducible exact Cv.r_ix2 | with_reducible exact Cv.r_add | with_reducible exact Cv.r_sub | with_reducible exact Cv.r_neg | with_reducible exact Cv.r_lt | with_reducible exact Cv.r_le | with_reducible exact Cv.r_gt | with_reducible exact Cv.r_ge | with_reducible exact Cv.r_eq | with_reducible exact Cv.r_ne | with_reducible exact Cv.r_eqB | with_reducible exact Cv.r_neB | with_reducible exact Cv.r_isB | with_reducible exact Cv.r_isnB | with_reducible exact Cv.r_subB | with_reducible apply Cv.r_ret))), .refl⟩
theorem lc_row {f : Cap → Fun'} {η : Env'} (h : RowV st p xs) (hl : xs.length < 900000) (a : A2 (Mk (f cap) st) xs ys) (h0 : η[0]? = some (some p)) (h1 : η.length = 2) :
    ∃ s', eRow (eCons (eLc (evCallF (eCons (eVar 1) eNil) (fun _ => cap) f) (.nm 1) (fun _ st => .ok true st) (iSeq (eVar 0)) [1]) eNil) (bltOp .tuple) η st = .ok (.tup ys) s' ∧ Ext st s' := by
  have b : A2 (Elem (evCallF (eCons (eVar 1) eNil) (fun _ => cap) f) (.nm 1) (wipeP η [1]) st) xs ys := by
    clear h hl
    induction a with
    | nil => exact .nil
    | cons k r ih =>
      refine .cons (fun s e => ?_) ih
      obtain ⟨s', e1, e2⟩ := k s e
      refine ⟨_, s', rfl, r_callF (r_cons (r_var ?_) r_nil) e1, e2⟩
      show ((η.set 1 none).set 1 _)[1]? = _
      rw [List.getElem?_set_self (by simp; omega)]
  obtain ⟨s', a1, a2, a3⟩ := lc_ext (r_iseq (r_var h0) h.items) (src_items fun s e => (h.ext e).items) b hl
  exact ⟨s', r_row (r_cons a1 r_nil) (r_tupL a3), a2⟩
theorem row1 (h : RowV st p xs) (hl : xs.length < 900000) (a : A2 (Mk (f_in_tuples_0 cap) st) xs ys) : Mk (f_in_tuples_1 cap) st p (.tup ys) := fun s e => by
  have a' : A2 (Mk (f_in_tuples_0 cap) s) xs ys := by
    clear h hl
    induction a with
    | nil => exact .nil
    | cons k r ih => exact .cons (k.ext e) ih
  obtain ⟨s', e1, e2⟩ := lc_row (η := [some p, none]) (h.ext e) hl a' rfl rfl
  exact ⟨s', by (rw [ev_in_tuples_1]; dsimp only [start', List.map, List.length_cons, List.length_nil, List.replicate, List.cons_append, List.nil_append, Nat.reduceAdd, Nat.reduceSub, Nat.zero_add]; refine (if_pos ⟨rfl, by decide⟩).trans ?_; unfold m_in_tuples_1; apply Cv.r_end; (repeat' (first | with_reducible exact (h.ext e).isi | ((with_reducible apply Cv.r_asm); with_reducible assumption) | with_reducible exact Cv.r_ok | with_reducible exact Cv.r_con | ((with_reducible apply Cv.r_var); rfl) | with_reducible apply Cv.r_two | with_reducible apply Cv.r_callF | with_reducible apply Cv.r_cons | with_reducible exact Cv.r_nil | with_reducible apply Cv.r_row | with_reducible apply Cv.r_one | with_reducible apply Cv.r_and | with_reducible apply Cv.r_or | with_reducible apply Cv.r_ite | with_reducible apply Cv.r_t | with_reducible apply Cv.r_not | with_reducible exact Cv.r_trb | with_reducible apply Cv.r_seq | with_reducible apply Cv.r_then_nx | with_reducible exact Cv.r_then_rt | with_reducible exact Cv.r_then_bk | with_reducible exact Cv.r_then_ct | with_reducible exact Cv.r_then_exn | with_reducible apply Cv.r_if | with_reducible apply Cv.r_set | with_reducible apply Cv.r_par | with_reducible exact Cv.r_nx | with_reducible exact Cv.r_fl | with_reducible apply Cv.r_exp | with_reducible apply Cv.r_ss | with_reducible exact Cv.r_sz | ((with_reducible apply Cv.r_T); focus (first | rfl | assumption | omega | (simp only [*, decide_true, decide_false, Bool.not_true, Bool.not_false, Bool.and_true, Bool.and_false, Bool.true_and, Bool.false_and, Bool.or_true, Bool.or_false, Bool.true_or, Bool.false_or]; done) | (simp [*]; done))) | ((with_reducible apply Cv.r_F); focus (first | rfl | assumption | omega | (simp only [*, decide_true, decide_false, Bool.not_true, Bool.not_false, Bool.and_true, Bool.and_false, Bool.true_and, Bool.false_and, Bool.or_true, Bool.or_false, Bool.true_or, Bool.false_or]; done) | (simp [*]; done))) | ((with_reducible apply Cv.r_tup); rfl) | ((with_reducible apply Cv.r_lst); rfl) | with_reducible exact Cv.r_ix0 | with_reducible exact Cv.r_ix1 | with_reducible exact Cv.r_ix2 | with_reducible exact Cv.r_add | with_reducible exact Cv.r_sub | with_reducible exact Cv.r_neg | with_reducible exact Cv.r_lt | with_reducible exact Cv.r_le | with_reducible exact Cv.r_gt | with_reducible exact Cv.r_ge | with_reducible exact Cv.r_eq | with_reducible exact Cv.r_ne | with_reducible exact Cv.r_eqB | with_reducible exact Cv.r_neB | with_reducible exact Cv.r_isB | with_reducible exact Cv.r_isnB | with_reducible exact Cv.r_subB | with_reducible apply Cv.r_ret))), e2⟩
theorem row2 (h : RowV st p xs) (hl : xs.length < 900000) (a : A2 (Mk (f_in_tuples_1 cap) st) xs ys) : Mk (f_in_tuples cap) st p (.tup ys) := fun s e => by
  have a' : A2 (Mk (f_in_tuples_1 cap) s) xs ys := by
    clear h hl
    induction a with
    | nil => exact .nil
    | cons k r ih => exact .cons (k.ext e) ih
  obtain ⟨s', e1, e2⟩ := lc_row (η := [some p, none]) (h.ext e) hl a' rfl rfl
  exact ⟨s', by (rw [ev_in_tuples]; dsimp only [start', List.map, List.length_cons, List.length_nil, List.replicate, List.cons_append, List.nil_append, Nat.reduceAdd, Nat.reduceSub, Nat.zero_add]; refine (if_pos ⟨rfl, by decide⟩).trans ?_; unfold m_in_tuples; apply Cv.r_end; (repeat' (first | with_reducible exact (h.ext e).isi | ((with_reducible apply Cv.r_asm); with_reducible assumption) | with_reducible exact Cv.r_ok | with_reducible exact Cv.r_con | ((with_reducible apply Cv.r_var); rfl) | with_reducible apply Cv.r_two | with_reducible apply Cv.r_callF | with_reducible apply Cv.r_cons | with_reducible exact Cv.r_nil | with_reducible apply Cv.r_row | with_reducible apply Cv.r_one | with_reducible apply Cv.r_and | with_reducible apply Cv.r_or | with_reducible apply Cv.r_ite | with_reducible apply Cv.r_t | with_reducible apply Cv.r_not | with_reducible exact Cv.r_trb | with_reducible apply Cv.r_seq | with_reducible apply Cv.r_then_nx | with_reducible exact Cv.r_then_rt | with_reducible exact Cv.r_then_bk | with_reducible exact Cv.r_then_ct | with_reducible exact Cv.r_then_exn | with_reducible apply Cv.r_if | with_reducible apply Cv.r_set | with_reducible apply Cv.r_par | with_reducible exact Cv.r_nx | with_reducible exact Cv.r_fl | with_reducible apply Cv.r_exp | with_reducible apply Cv.r_ss | with_reducible exact Cv.r_sz | ((with_reducible apply Cv.r_T); focus (first | rfl | assumption | omega | (simp only [*, decide_true, decide_false, Bool.not_true, Bool.not_false, Bool.and_true, Bool.and_false, Bool.true_and, Bool.false_and, Bool.or_true, Bool.or_false, Bool.true_or, Bool.false_or]; done) | (simp [*]; done))) | ((with_reducible apply Cv.r_F); focus (first | rfl | assumption | omega | (simp only [*, decide_true, decide_false, Bool.not_true, Bool.not_false, Bool.and_true, Bool.and_false, Bool.true_and, Bool.false_and, Bool.or_true, Bool.or_false, Bool.true_or, Bool.false_or]; done) | (simp [*]; done))) | ((with_reducible apply Cv.r_tup); rfl) | ((with_reducible apply Cv.r_lst); rfl) | with_reducible exact Cv.r_ix0 | with_reducible exact Cv.r_ix1 | with_reducible exact Cv.r_ix2 | with_reducible exact Cv.r_add | with_reducible exact Cv.r_sub | with_reducible exact Cv.r_neg | with_reducible exact Cv.r_lt | with_reducible exact Cv.r_le | with_reducible exact Cv.r_gt | with_reducible exact Cv.r_ge | with_reducible exact Cv.r_eq | with_reducible exact Cv.r_ne | with_reducible exact Cv.r_eqB | with_reducible exact Cv.r_neB | with_reducible exact Cv.r_isB | with_reducible exact Cv.r_isnB | with_reducible exact Cv.r_subB | with_reducible apply Cv.r_ret))), e2⟩
end
/-! a ratio, handed -/
/-- by tuples -/
def TF (q : PV) (x : Rat) : Prop := (x.den = 1 ∧ q = .int x.num) ∨ ∃ k : Int, 0 < k ∧ k ≤ 5 ∧ q = .tup [.int (x.num * k), .int ((x.den : Int) * k)]
def HF (st : Sto) (p : PV) (x : Rat) : Prop := (x.den = 1 ∧ p = .int x.num) ∨ ∃ k : Int, 0 < k ∧ k ≤ 5 ∧ RowV st p [.int (x.num * k), .int ((x.den : Int) * k)]
section
variable {st s : Sto} {cap : Cap} {p q : PV} {xs ys : List PV} {x y : Rat} {k l : Nat}
theorem HF.ext (h : HF st p x) (e : Ext st s) : HF s p x := by
  rcases h with h | ⟨k, k0, k5, h⟩
  · exact .inl h
  · exact .inr ⟨k, k0, k5, h.ext e⟩
theorem HF.pr : HF st (pr x) x := .inr ⟨1, by decide, by decide, .inl (by simp)⟩
theorem HF.mk (h : HF st p x) : ∃ q, Mk (f_in_tuples_1 cap) st p q ∧ TF q x := by
  rcases h with ⟨h, rfl⟩ | ⟨k, k0, k5, h⟩
  · exact ⟨_, leaf1 trivial, .inl ⟨h, rfl⟩⟩
  · exact ⟨_, row1 h (by simp) (.cons (leaf0 trivial) (.cons (leaf0 trivial) .nil)), .inr ⟨k, k0, k5, rfl⟩⟩
theorem whole_int {i : Int} : f_is_whole cap [.int i] st = .ok (.bl true) st := by kernel_rfl
theorem whole_tup {xs : List PV} : f_is_whole cap [.tup xs] st = .ok (.bl false) st := by kernel_rfl
theorem pair_tup {t b : Int} : f_is_pair cap [.tup [.int t, .int b]] st = .ok (.bl (decide (0 < b))) st := by kernel_rfl
theorem dk_pos {k : Int} (h : 0 < k) : 0 < (x.den : Int) * k := Int.mul_pos (by have := x.den_nz; omega) h
theorem TF.is_ratio (h : TF q x) : f_is_ratio cap [q] st = .ok (.bl true) st := by
  rcases h with ⟨h, rfl⟩ | ⟨k, k0, k5, rfl⟩
  · kernel_rfl
  · have e : f_is_ratio cap [.tup [.int (x.num * k), .int ((x.den : Int) * k)]] st = .ok (.bl (decide (0 < (x.den : Int) * k))) st := by kernel_rfl
    rw [e, decide_eq_true (dk_pos k0)]
theorem TF.told (h : TF q x) [hx : QB k x] (hk : k < 390) : f_told cap [q] st = .ok (Cut.pr x) st := by
  rcases h with ⟨h, rfl⟩ | ⟨k, k0, k5, rfl⟩
  · have e : f_told cap [.int x.num] st = .ok (.tup [.int x.num, .int 1]) st := by kernel_rfl
    rw [e]
    unfold Cut.pr
    rw [h]
    rfl
  · obtain ⟨m, rfl⟩ : ∃ m : Nat, k = m := ⟨k.toNat, by omega⟩
    have e : (x.den : Int) * (m : Int) = ((x.den * m : Nat) : Int) := by simp
    have p := dk_pos (x := x) k0
    have n0 : x.den * m ≠ 0 := by rw [e] at p; omega
    have r : mkRat (x.num * m) (x.den * m) = x := by rw [Rat.mkRat_mul_right (by omega), Rat.mkRat_self]
    have b : x.den * m < 2 ^ 400 := by
      have h1 := mul_lt_pow hx.d (show m < 2 ^ 3 by omega)
      exact Nat.lt_of_lt_of_le h1 (Nat.pow_le_pow_right (by decide) (by omega))
    have w := lowest_ok (cap := cap) (st := st) (t := x.num * m) n0 b
    rw [r] at w
    rw [e] at p ⊢
    have pt := pair_tup (cap := cap) (st := st) (t := x.num * m) (b := ((x.den * m : Nat) : Int))
    rw [decide_eq_true p] at pt
    (rw [ev_told]; dsimp only [start', List.map, List.length_cons, List.length_nil, List.replicate, List.cons_append, List.nil_append, Nat.reduceAdd, Nat.reduceSub, Nat.zero_add]; refine (if_pos ⟨rfl, by decide⟩).trans ?_; unfold m_told; apply Cv.r_end; (repeat' (first | with_reducible exact whole_tup | with_reducible exact pt | with_reducible exact w | ((with_reducible apply Cv.r_asm); with_reducible assumption) | with_reducible exact Cv.r_ok | with_reducible exact Cv.r_con | ((with_reducible apply Cv.r_var); rfl) | with_reducible apply Cv.r_two | with_reducible apply Cv.r_callF | with_reducible apply Cv.r_cons | with_reducible exact Cv.r_nil | with_reducible apply Cv.r_row | with_reducible apply Cv.r_one | with_reducible apply Cv.r_and | with_reducible apply Cv.r_or | with_reducible apply Cv.r_ite | with_reducible apply Cv.r_t | with_reducible apply Cv.r_not | with_reducible exact Cv.r_trb | with_reducible apply Cv.r_seq | with_reducible apply Cv.r_then_nx | with_reducible exact Cv.r_then_rt | with_reducible exact Cv.r_then_bk | with_reducible exact Cv.r_then_ct | with_reducible exact Cv.r_then_exn | with_reducible apply Cv.r_if | with_reducible apply Cv.r_set | with_reducible apply Cv.r_par | with_reducible exact Cv.r_nx | with_reducible exact Cv.r_fl | with_reducible apply Cv.r_exp | with_reducible apply Cv.r_ss | with_reducible exact Cv.r_sz | ((with_reducible apply Cv.r_T); focus (first | rfl | assumption | omega | (simp only [*, decide_true, decide_false, Bool.not_true, Bool.not_false, Bool.and_true, Bool.and_false, Bool.true_and, Bool.false_and, Bool.or_true, Bool.or_false, Bool.true_or, Bool.false_or]; done) | (simp [*]; done))) | ((with_reducible apply Cv.r_F); focus (first | rfl | assumption | omega | (simp only [*, decide_true, decide_false, Bool.not_true, Bool.not_false, Bool.and_true, Bool.and_false, Bool.true_and, Bool.false_and, Bool.or_true, Bool.or_false, Bool.true_or, Bool.false_or]; done) | (simp [*]; done))) | ((with_reducible apply Cv.r_tup); rfl) | ((with_reducible apply Cv.r_lst); rfl) | with_reducible exact Cv.r_ix0 | with_reducible exact Cv.r_ix1 | with_reducible exact Cv.r_ix2 | with_reducible exact Cv.r_add | with_reducible exact Cv.r_sub | with_reducible exact Cv.r_neg | with_reducible exact Cv.r_lt | with_reducible exact Cv.r_le | with_reducible exact Cv.r_gt | with_reducible exact Cv.r_ge | with_reducible exact Cv.r_eq | with_reducible exact Cv.r_ne | with_reducible exact Cv.r_eqB | with_reducible exact Cv.r_neB | with_reducible exact Cv.r_isB | with_reducible exact Cv.r_isnB | with_reducible exact Cv.r_subB | with_reducible apply Cv.r_ret)))
theorem r_allL {l : Nat} {bs : List Bool} {ys : List PV} (h : st[l]? = some (.lst ys)) (e : blsOf ys = some bs) : bltOp .all [.loc l] st = .ok (.bl (bs.all id)) st := by
  have il : isList st (.loc l) = true := by
    show (match st[l]? with | some (.lst _) => true | _ => false) = _
    rw [h]
  show (if isList st (.loc l) then rb (((items st (.loc l)).bind blsOf).map fun bs => .bl (bs.all id)) st else .stuck) = _
  rw [if_pos il, r_items h]
  show rb ((blsOf ys).map fun bs => PV.bl (bs.all id)) st = _
  rw [e]
  rfl
theorem r_anyL {l : Nat} {bs : List Bool} {ys : List PV} (h : st[l]? = some (.lst ys)) (e : blsOf ys = some bs) : bltOp .any [.loc l] st = .ok (.bl (bs.any id)) st := by
  have il : isList st (.loc l) = true := by
    show (match st[l]? with | some (.lst _) => true | _ => false) = _
    rw [h]
  show (if isList st (.loc l) then rb (((items st (.loc l)).bind blsOf).map fun bs => .bl (bs.any id)) st else .stuck) = _
  rw [if_pos il, r_items h]
  show rb ((blsOf ys).map fun bs => PV.bl (bs.any id)) st = _
  rw [e]
  rfl
theorem tuple_of2 {q1 q2 : PV} : f_is_tuple_of cap [.tup [q1, q2], .int 2] st = .ok (.bl true) st := by kernel_rfl
/-- one function, item by item, of two -/
theorem lc_two {f : Cap → Fun'} {η : Env'} {q1 q2 y1 y2 : PV} (h0 : η[1]? = some (some (.tup [q1, q2]))) (h1 : η.length = 3) (e1 : ∀ s, f cap [q1] s = .ok y1 s) (e2 : ∀ s, f cap [q2] s = .ok y2 s) :
    ∃ s', eLc (evCallF (eCons (eVar 2) eNil) (fun _ => cap) f) (.nm 2) (fun _ st => .ok true st) (iSeq (eVar 1)) [2] η st = .ok (.loc st.length) s' ∧ Ext st s' ∧ s'[st.length]? = some (.lst [y1, y2]) := by
  refine lc_ext (r_iseq (r_var h0) rfl) (src_items fun s e => rfl) (.cons (fun s e => ?_) (.cons (fun s e => ?_) .nil)) (by simp)
  · refine ⟨_, s, rfl, r_callF (r_cons (r_var ?_) r_nil) (e1 s), .refl⟩
    show ((η.set 2 none).set 2 _)[2]? = _
    rw [List.getElem?_set_self (by simp; omega)]
  · refine ⟨_, s, rfl, r_callF (r_cons (r_var ?_) r_nil) (e2 s), .refl⟩
    show ((η.set 2 none).set 2 _)[2]? = _
    rw [List.getElem?_set_self (by simp; omega)]
/-- a point, handed -/
def HP (st : Sto) (p : PV) (a : Pt) : Prop := ∃ h1 h2, RowV st p [h1, h2] ∧ HF st h1 a.1 ∧ HF st h2 a.2
theorem HP.ext {a : Pt} (h : HP st p a) (e : Ext st s) : HP s p a := let ⟨h1, h2, r, u, v⟩ := h; ⟨h1, h2, r.ext e, u.ext e, v.ext e⟩
theorem HP.pt {a : Pt} : HP st (pt a) a := ⟨_, _, .inl rfl, HF.pr, HF.pr⟩
theorem HP.mk {a : Pt} (h : HP st p a) : ∃ q1 q2, Mk (f_in_tuples cap) st p (.tup [q1, q2]) ∧ TF q1 a.1 ∧ TF q2 a.2 := by
  obtain ⟨h1, h2, r, u, v⟩ := h
  obtain ⟨q1, m1, t1⟩ := u.mk (cap := cap)
  obtain ⟨q2, m2, t2⟩ := v.mk (cap := cap)
  exact ⟨q1, q2, row2 r (by simp) (.cons m1 (.cons m2 .nil)), t1, t2⟩
theorem point_ok {a : Pt} (h : HP st p a) [QP k a] (hk : k < 390) : ∃ s, f_point_from cap [p] st = .ok (pt a) s ∧ Ext st s := by
  obtain ⟨q1, q2, m, t1, t2⟩ := h.mk (cap := cap)
  obtain ⟨s1, e1, x1⟩ := m st .refl
  obtain ⟨s2, e2, x2, l2⟩ := lc_two (f := f_is_ratio) (cap := cap) (st := s1) (η := [some p, some (.tup [q1, q2]), none]) rfl rfl (fun _ => t1.is_ratio) (fun _ => t2.is_ratio)
  obtain ⟨s3, e3, x3, l3⟩ := lc_two (f := f_told) (cap := cap) (st := s2) (η := [some p, some (.tup [q1, q2]), none]) rfl rfl (fun _ => t1.told hk) (fun _ => t2.told hk)
  refine ⟨s3, ?_, (x1.trans x2).trans x3⟩
  (rw [ev_point_from]; dsimp only [start', List.map, List.length_cons, List.length_nil, List.replicate, List.cons_append, List.nil_append, Nat.reduceAdd, Nat.reduceSub, Nat.zero_add]; refine (if_pos ⟨rfl, by decide⟩).trans ?_; unfold m_point_from; apply Cv.r_end; (repeat' (first | with_reducible exact e1 | with_reducible exact tuple_of2 | with_reducible exact e2 | with_reducible exact e3 | with_reducible exact r_allL l2 rfl | with_reducible exact r_tupL l3 | ((with_reducible apply Cv.r_asm); with_reducible assumption) | with_reducible exact Cv.r_ok | with_reducible exact Cv.r_con | ((with_reducible apply Cv.r_var); rfl) | with_reducible apply Cv.r_two | with_reducible apply Cv.r_callF | with_reducible apply Cv.r_cons | with_reducible exact Cv.r_nil | with_reducible apply Cv.r_row | with_reducible apply Cv.r_one | with_reducible apply Cv.r_and | with_reducible apply Cv.r_or | with_reducible apply Cv.r_ite | with_reducible apply Cv.r_t | with_reducible apply Cv.r_not | with_reducible exact Cv.r_trb | with_reducible apply Cv.r_seq | with_reducible apply Cv.r_then_nx | with_reducible exact Cv.r_then_rt | with_reducible exact Cv.r_then_bk | with_reducible exact Cv.r_then_ct | with_reducible exact Cv.r_then_exn | with_reducible apply Cv.r_if | with_reducible apply Cv.r_set | with_reducible apply Cv.r_par | with_reducible exact Cv.r_nx | with_reducible exact Cv.r_fl | with_reducible apply Cv.r_exp | with_reducible apply Cv.r_ss | with_reducible exact Cv.r_sz | ((with_reducible apply Cv.r_T); focus (first | rfl | assumption | omega | (simp only [*, decide_true, decide_false, Bool.not_true, Bool.not_false, Bool.and_true, Bool.and_false, Bool.true_and, Bool.false_and, Bool.or_true, Bool.or_false, Bool.true_or, Bool.false_or]; done) | (simp [*]; done))) | ((with_reducible apply Cv.r_F); focus (first | rfl | assumption | omega | (simp only [*, decide_true, decide_false, Bool.not_true, Bool.not_false, Bool.and_true, Bool.and_false, Bool.true_and, Bool.false_and, Bool.or_true, Bool.or_false, Bool.true_or, Bool.false_or]; done) | (simp [*]; done))) | ((with_reducible apply Cv.r_tup); rfl) | ((with_reducible apply Cv.r_lst); rfl) | with_reducible exact Cv.r_ix0 | with_reducible exact Cv.r_ix1 | with_reducible exact Cv.r_ix2 | with_reducible exact Cv.r_add | with_reducible exact Cv.r_sub | with_reducible exact Cv.r_neg | with_reducible exact Cv.r_lt | with_reducible exact Cv.r_le | with_reducible exact Cv.r_gt | with_reducible exact Cv.r_ge | with_reducible exact Cv.r_eq | with_reducible exact Cv.r_ne | with_reducible exact Cv.r_eqB | with_reducible exact Cv.r_neB | with_reducible exact Cv.r_isB | with_reducible exact Cv.r_isnB | with_reducible exact Cv.r_subB | with_reducible apply Cv.r_ret)))
/-- a value that is no point -/
def Bad (st : Sto) (p : PV) : Prop := ∃ q, (∀ cap, Mk (f_in_tuples cap) st p q) ∧ ((∀ cap s, f_is_tuple_of cap [q, .int 2] s = .ok (.bl false) s) ∨ ∃ q1 q2 b1 b2, q = .tup [q1, q2] ∧ (b1 && b2) = false ∧ (∀ cap s, f_is_ratio cap [q1] s = .ok (.bl b1) s) ∧ (∀ cap s, f_is_ratio cap [q2] s = .ok (.bl b2) s))
theorem Bad.ext (h : Bad st p) (e : Ext st s) : Bad s p := let ⟨q, a, b⟩ := h; ⟨q, fun cap => (a cap).ext e, b⟩
theorem r_raise {c : Str} {fs : List Str} {m : Ev (List PV)} {η : Env'} {ps : List PV} {xs : List (Str × PV)} (h : m η st = .ok ps s) (hl : ps.length = fs.length) (he : (fs.zip ps).reverse = xs) : sRaise c fs m η st = .exn c xs η s := by
  unfold sRaise
  rw [h]
  show (if ps.length = fs.length then SR.exn c (fs.zip ps).reverse η s else .stuck) = _
  rw [if_pos hl, he]
theorem point_bad (h : Bad st p) : ∃ s, f_point_from cap [p] st = .exn "BadRow" [("row", p)] s ∧ Ext st s := by
  obtain ⟨q, m, t⟩ := h
  obtain ⟨s1, e1, x1⟩ := m cap st .refl
  rcases t with t | ⟨q1, q2, b1, b2, rfl, hb, t1, t2⟩
  · refine ⟨s1, ?_, x1⟩
    rw [ev_point_from]
    refine (if_pos ⟨rfl, by decide⟩).trans ?_
    show endDef (m_point_from cap [some p, none, none] st) = _
    unfold m_point_from
    apply r_end_x
    (repeat' (first | with_reducible exact e1 | with_reducible exact t cap _ | with_reducible exact r_raise (r_cons (r_var rfl) r_nil) rfl rfl | ((with_reducible apply Cv.r_asm); with_reducible assumption) | with_reducible exact Cv.r_ok | with_reducible exact Cv.r_con | ((with_reducible apply Cv.r_var); rfl) | with_reducible apply Cv.r_two | with_reducible apply Cv.r_callF | with_reducible apply Cv.r_cons | with_reducible exact Cv.r_nil | with_reducible apply Cv.r_row | with_reducible apply Cv.r_one | with_reducible apply Cv.r_and | with_reducible apply Cv.r_or | with_reducible apply Cv.r_ite | with_reducible apply Cv.r_t | with_reducible apply Cv.r_not | with_reducible exact Cv.r_trb | with_reducible apply Cv.r_seq | with_reducible apply Cv.r_then_nx | with_reducible exact Cv.r_then_rt | with_reducible exact Cv.r_then_bk | with_reducible exact Cv.r_then_ct | with_reducible exact Cv.r_then_exn | with_reducible apply Cv.r_if | with_reducible apply Cv.r_set | with_reducible apply Cv.r_par | with_reducible exact Cv.r_nx | with_reducible exact Cv.r_fl | with_reducible apply Cv.r_exp | with_reducible apply Cv.r_ss | with_reducible exact Cv.r_sz | ((with_reducible apply Cv.r_T); focus (first | rfl | assumption | omega | (simp only [*, decide_true, decide_false, Bool.not_true, Bool.not_false, Bool.and_true, Bool.and_false, Bool.true_and, Bool.false_and, Bool.or_true, Bool.or_false, Bool.true_or, Bool.false_or]; done) | (simp [*]; done))) | ((with_reducible apply Cv.r_F); focus (first | rfl | assumption | omega | (simp only [*, decide_true, decide_false, Bool.not_true, Bool.not_false, Bool.and_true, Bool.and_false, Bool.true_and, Bool.false_and, Bool.or_true, Bool.or_false, Bool.true_or, Bool.false_or]; done) | (simp [*]; done))) | ((with_reducible apply Cv.r_tup); rfl) | ((with_reducible apply Cv.r_lst); rfl) | with_reducible exact Cv.r_ix0 | with_reducible exact Cv.r_ix1 | with_reducible exact Cv.r_ix2 | with_reducible exact Cv.r_add | with_reducible exact Cv.r_sub | with_reducible exact Cv.r_neg | with_reducible exact Cv.r_lt | with_reducible exact Cv.r_le | with_reducible exact Cv.r_gt | with_reducible exact Cv.r_ge | with_reducible exact Cv.r_eq | with_reducible exact Cv.r_ne | with_reducible exact Cv.r_eqB | with_reducible exact Cv.r_neB | with_reducible exact Cv.r_isB | with_reducible exact Cv.r_isnB | with_reducible exact Cv.r_subB | with_reducible apply Cv.r_ret))
    exact r_then_exn
  · obtain ⟨s2, e2, x2, l2⟩ := lc_two (f := f_is_ratio) (cap := cap) (st := s1) (η := [some p, some (.tup [q1, q2]), none]) rfl rfl (t1 cap) (t2 cap)
    refine ⟨s2, ?_, x1.trans x2⟩
    rw [ev_point_from]
    refine (if_pos ⟨rfl, by decide⟩).trans ?_
    show endDef (m_point_from cap [some p, none, none] st) = _
    unfold m_point_from
    apply r_end_x
    have al := r_allL (bs := [b1, b2]) l2 rfl
    have al : bltOp .all [.loc s1.length] s2 = .ok (.bl false) s2 := by rw [al]; simp [hb]
    (repeat' (first | with_reducible exact e1 | with_reducible exact tuple_of2 | with_reducible exact e2 | with_reducible exact al | with_reducible exact r_raise (r_cons (r_var rfl) r_nil) rfl rfl | ((with_reducible apply Cv.r_asm); with_reducible assumption) | with_reducible exact Cv.r_ok | with_reducible exact Cv.r_con | ((with_reducible apply Cv.r_var); rfl) | with_reducible apply Cv.r_two | with_reducible apply Cv.r_callF | with_reducible apply Cv.r_cons | with_reducible exact Cv.r_nil | with_reducible apply Cv.r_row | with_reducible apply Cv.r_one | with_reducible apply Cv.r_and | with_reducible apply Cv.r_or | with_reducible apply Cv.r_ite | with_reducible apply Cv.r_t | with_reducible apply Cv.r_not | with_reducible exact Cv.r_trb | with_reducible apply Cv.r_seq | with_reducible apply Cv.r_then_nx | with_reducible exact Cv.r_then_rt | with_reducible exact Cv.r_then_bk | with_reducible exact Cv.r_then_ct | with_reducible exact Cv.r_then_exn | with_reducible apply Cv.r_if | with_reducible apply Cv.r_set | with_reducible apply Cv.r_par | with_reducible exact Cv.r_nx | with_reducible exact Cv.r_fl | with_reducible apply Cv.r_exp | with_reducible apply Cv.r_ss | with_reducible exact Cv.r_sz | ((with_reducible apply Cv.r_T); focus (first | rfl | assumption | omega | (simp only [*, decide_true, decide_false, Bool.not_true, Bool.not_false, Bool.and_true, Bool.and_false, Bool.true_and, Bool.false_and, Bool.or_true, Bool.or_false, Bool.true_or, Bool.false_or]; done) | (simp [*]; done))) | ((with_reducible apply Cv.r_F); focus (first | rfl | assumption | omega | (simp only [*, decide_true, decide_false, Bool.not_true, Bool.not_false, Bool.and_true, Bool.and_false, Bool.true_and, Bool.false_and, Bool.or_true, Bool.or_false, Bool.true_or, Bool.false_or]; done) | (simp [*]; done))) | ((with_reducible apply Cv.r_tup); rfl) | ((with_reducible apply Cv.r_lst); rfl) | with_reducible exact Cv.r_ix0 | with_reducible exact Cv.r_ix1 | with_reducible exact Cv.r_ix2 | with_reducible exact Cv.r_add | with_reducible exact Cv.r_sub | with_reducible exact Cv.r_neg | with_reducible exact Cv.r_lt | with_reducible exact Cv.r_le | with_reducible exact Cv.r_gt | with_reducible exact Cv.r_ge | with_reducible exact Cv.r_eq | with_reducible exact Cv.r_ne | with_reducible exact Cv.r_eqB | with_reducible exact Cv.r_neB | with_reducible exact Cv.r_isB | with_reducible exact Cv.r_isnB | with_reducible exact Cv.r_subB | with_reducible apply Cv.r_ret))
    exact r_then_exn
end
end Cut
namespace Cut
open PySem PySem.Spec PyProof.Rows L2 Cv
/-! ### turns told, ways told -/
section
variable {st s : Sto} {cap : Cap} {p q r : PV} {a b c : Pt} {k l m : Nat} {x y : Rat}
theorem turn_of_ok (hp : HP st p a) (hq : HP st q b) (hr : HP st r c) [QP k a] [QP l b] [QP m c] (h : k + l + m < 40) : ∃ s, f_turn_of cap [p, q, r] st = .ok (.int (sgn (crs a b c))) s ∧ Ext st s := by
  obtain ⟨s1, e1, x1⟩ := point_ok (cap := cap) hp (by omega)
  obtain ⟨s2, e2, x2⟩ := point_ok (cap := cap) (hq.ext x1) (by omega)
  obtain ⟨s3, e3, x3⟩ := point_ok (cap := cap) (hr.ext (x1.trans x2)) (by omega)
  exact ⟨s3, by (rw [ev_turn_of]; dsimp only [start', List.map, List.length_cons, List.length_nil, List.replicate, List.cons_append, List.nil_append, Nat.reduceAdd, Nat.reduceSub, Nat.zero_add]; refine (if_pos ⟨rfl, by decide⟩).trans ?_; unfold m_turn_of; apply Cv.r_end; (repeat' (first | with_reducible exact turn_by_ok (by omega) | ((with_reducible apply Cv.r_asm); with_reducible assumption) | with_reducible exact Cv.r_ok | with_reducible exact Cv.r_con | ((with_reducible apply Cv.r_var); rfl) | with_reducible apply Cv.r_two | with_reducible apply Cv.r_callF | with_reducible apply Cv.r_cons | with_reducible exact Cv.r_nil | with_reducible apply Cv.r_row | with_reducible apply Cv.r_one | with_reducible apply Cv.r_and | with_reducible apply Cv.r_or | with_reducible apply Cv.r_ite | with_reducible apply Cv.r_t | with_reducible apply Cv.r_not | with_reducible exact Cv.r_trb | with_reducible apply Cv.r_seq | with_reducible apply Cv.r_then_nx | with_reducible exact Cv.r_then_rt | with_reducible exact Cv.r_then_bk | with_reducible exact Cv.r_then_ct | with_reducible exact Cv.r_then_exn | with_reducible apply Cv.r_if | with_reducible apply Cv.r_set | with_reducible apply Cv.r_par | with_reducible exact Cv.r_nx | with_reducible exact Cv.r_fl | with_reducible apply Cv.r_exp | with_reducible apply Cv.r_ss | with_reducible exact Cv.r_sz | ((with_reducible apply Cv.r_T); focus (first | rfl | assumption | omega | (simp only [*, decide_true, decide_false, Bool.not_true, Bool.not_false, Bool.and_true, Bool.and_false, Bool.true_and, Bool.false_and, Bool.or_true, Bool.or_false, Bool.true_or, Bool.false_or]; done) | (simp [*]; done))) | ((with_reducible apply Cv.r_F); focus (first | rfl | assumption | omega | (simp only [*, decide_true, decide_false, Bool.not_true, Bool.not_false, Bool.and_true, Bool.and_false, Bool.true_and, Bool.false_and, Bool.or_true, Bool.or_false, Bool.true_or, Bool.false_or]; done) | (simp [*]; done))) | ((with_reducible apply Cv.r_tup); rfl) | ((with_reducible apply Cv.r_lst); rfl) | with_reducible exact Cv.r_ix0 | with_reducible exact Cv.r_ix1 | with_reducible exact Cv.r_ix2 | with_reducible exact Cv.r_add | with_reducible exact Cv.r_sub | with_reducible exact Cv.r_neg | with_reducible exact Cv.r_lt | with_reducible exact Cv.r_le | with_reducible exact Cv.r_gt | with_reducible exact Cv.r_ge | with_reducible exact Cv.r_eq | with_reducible exact Cv.r_ne | with_reducible exact Cv.r_eqB | with_reducible exact Cv.r_neB | with_reducible exact Cv.r_isB | with_reducible exact Cv.r_isnB | with_reducible exact Cv.r_subB | with_reducible apply Cv.r_ret))), (x1.trans x2).trans x3⟩
open Classical in
theorem is_between_ok (hp : HP st p a) (hq : HP st q b) (hr : HP st r c) [QP k a] [QP l b] [QP m c] (h : k + l + m < 40) : ∃ s, f_is_between cap [p, q, r] st = .ok (.bl (decide (btw a b c))) s ∧ Ext st s := by
  obtain ⟨s1, e1, x1⟩ := point_ok (cap := cap) hp (by omega)
  obtain ⟨s2, e2, x2⟩ := point_ok (cap := cap) (hq.ext x1) (by omega)
  obtain ⟨s3, e3, x3⟩ := point_ok (cap := cap) (hr.ext (x1.trans x2)) (by omega)
  exact ⟨s3, by (rw [ev_is_between]; dsimp only [start', List.map, List.length_cons, List.length_nil, List.replicate, List.cons_append, List.nil_append, Nat.reduceAdd, Nat.reduceSub, Nat.zero_add]; refine (if_pos ⟨rfl, by decide⟩).trans ?_; unfold m_is_between; apply Cv.r_end; (repeat' (first | with_reducible exact is_between_by_ok (by omega) | ((with_reducible apply Cv.r_asm); with_reducible assumption) | with_reducible exact Cv.r_ok | with_reducible exact Cv.r_con | ((with_reducible apply Cv.r_var); rfl) | with_reducible apply Cv.r_two | with_reducible apply Cv.r_callF | with_reducible apply Cv.r_cons | with_reducible exact Cv.r_nil | with_reducible apply Cv.r_row | with_reducible apply Cv.r_one | with_reducible apply Cv.r_and | with_reducible apply Cv.r_or | with_reducible apply Cv.r_ite | with_reducible apply Cv.r_t | with_reducible apply Cv.r_not | with_reducible exact Cv.r_trb | with_reducible apply Cv.r_seq | with_reducible apply Cv.r_then_nx | with_reducible exact Cv.r_then_rt | with_reducible exact Cv.r_then_bk | with_reducible exact Cv.r_then_ct | with_reducible exact Cv.r_then_exn | with_reducible apply Cv.r_if | with_reducible apply Cv.r_set | with_reducible apply Cv.r_par | with_reducible exact Cv.r_nx | with_reducible exact Cv.r_fl | with_reducible apply Cv.r_exp | with_reducible apply Cv.r_ss | with_reducible exact Cv.r_sz | ((with_reducible apply Cv.r_T); focus (first | rfl | assumption | omega | (simp only [*, decide_true, decide_false, Bool.not_true, Bool.not_false, Bool.and_true, Bool.and_false, Bool.true_and, Bool.false_and, Bool.or_true, Bool.or_false, Bool.true_or, Bool.false_or]; done) | (simp [*]; done))) | ((with_reducible apply Cv.r_F); focus (first | rfl | assumption | omega | (simp only [*, decide_true, decide_false, Bool.not_true, Bool.not_false, Bool.and_true, Bool.and_false, Bool.true_and, Bool.false_and, Bool.or_true, Bool.or_false, Bool.true_or, Bool.false_or]; done) | (simp [*]; done))) | ((with_reducible apply Cv.r_tup); rfl) | ((with_reducible apply Cv.r_lst); rfl) | with_reducible exact Cv.r_ix0 | with_reducible exact Cv.r_ix1 | with_reducible exact Cv.r_ix2 | with_reducible exact Cv.r_add | with_reducible exact Cv.r_sub | with_reducible exact Cv.r_neg | with_reducible exact Cv.r_lt | with_reducible exact Cv.r_le | with_reducible exact Cv.r_gt | with_reducible exact Cv.r_ge | with_reducible exact Cv.r_eq | with_reducible exact Cv.r_ne | with_reducible exact Cv.r_eqB | with_reducible exact Cv.r_neB | with_reducible exact Cv.r_isB | with_reducible exact Cv.r_isnB | with_reducible exact Cv.r_subB | with_reducible apply Cv.r_ret))), (x1.trans x2).trans x3⟩
/-- what both do with a bad one, by place -/
def Works (f : Cap → Fun') : Prop := ∀ (cap : Cap) (st : Sto) (p q r v : PV) (a b : Pt) (k l : Nat), QP k a → QP l b → k + l < 40 → 
  (Bad st p → ∃ s, f cap [p, q, r] st = .exn "BadRow" [("row", p)] s ∧ Ext st s) ∧
  (HP st p a → Bad st q → ∃ s, f cap [p, q, r] st = .exn "BadRow" [("row", q)] s ∧ Ext st s) ∧
  (HP st p a → HP st q b → Bad st r → ∃ s, f cap [p, q, r] st = .exn "BadRow" [("row", r)] s ∧ Ext st s)
theorem turn_works : Works f_turn_of := fun cap st p q r v a b k l ha hb hk => by
  refine ⟨fun h => ?_, fun h1 h => ?_, fun h1 h2 h => ?_⟩
  · obtain ⟨s1, e1, x1⟩ := point_bad (cap := cap) h
    refine ⟨s1, ?_, x1⟩
    rw [ev_turn_of]
    refine (if_pos ⟨rfl, by decide⟩).trans ?_
    apply r_end_x
    refine r_seq (r_set_x (r_callF (r_cons (r_var rfl) r_nil) e1)) r_then_exn
  · obtain ⟨s1, e1, x1⟩ := point_ok (cap := cap) h1 (by omega)
    obtain ⟨s2, e2, x2⟩ := point_bad (cap := cap) (h.ext x1)
    refine ⟨s2, ?_, x1.trans x2⟩
    rw [ev_turn_of]
    refine (if_pos ⟨rfl, by decide⟩).trans ?_
    apply r_end_x
    refine r_seq (r_set (r_callF (r_cons (r_var rfl) r_nil) e1) rfl) (r_then_nx ?_)
    refine r_seq (r_set_x (r_callF (r_cons (r_var rfl) r_nil) e2)) r_then_exn
  · obtain ⟨s1, e1, x1⟩ := point_ok (cap := cap) h1 (by omega)
    obtain ⟨s2, e2, x2⟩ := point_ok (cap := cap) (h2.ext x1) (by omega)
    obtain ⟨s3, e3, x3⟩ := point_bad (cap := cap) (h.ext (x1.trans x2))
    refine ⟨s3, ?_, (x1.trans x2).trans x3⟩
    rw [ev_turn_of]
    refine (if_pos ⟨rfl, by decide⟩).trans ?_
    apply r_end_x
    refine r_seq (r_set (r_callF (r_cons (r_var rfl) r_nil) e1) rfl) (r_then_nx ?_)
    refine r_seq (r_set (r_callF (r_cons (r_var rfl) r_nil) e2) rfl) (r_then_nx ?_)
    refine r_seq (r_ret_x (r_callF_x (r_cons_y (r_var rfl) (r_cons_y (r_var rfl) (r_cons_x (r_callF (r_cons (r_var rfl) r_nil) e3)))))) r_then_exn
theorem between_works : Works f_is_between := fun cap st p q r v a b k l ha hb hk => by
  refine ⟨fun h => ?_, fun h1 h => ?_, fun h1 h2 h => ?_⟩
  · obtain ⟨s1, e1, x1⟩ := point_bad (cap := cap) h
    refine ⟨s1, ?_, x1⟩
    rw [ev_is_between]
    refine (if_pos ⟨rfl, by decide⟩).trans ?_
    apply r_end_x
    refine r_seq (r_set_x (r_callF (r_cons (r_var rfl) r_nil) e1)) r_then_exn
  · obtain ⟨s1, e1, x1⟩ := point_ok (cap := cap) h1 (by omega)
    obtain ⟨s2, e2, x2⟩ := point_bad (cap := cap) (h.ext x1)
    refine ⟨s2, ?_, x1.trans x2⟩
    rw [ev_is_between]
    refine (if_pos ⟨rfl, by decide⟩).trans ?_
    apply r_end_x
    refine r_seq (r_set (r_callF (r_cons (r_var rfl) r_nil) e1) rfl) (r_then_nx ?_)
    refine r_seq (r_set_x (r_callF (r_cons (r_var rfl) r_nil) e2)) r_then_exn
  · obtain ⟨s1, e1, x1⟩ := point_ok (cap := cap) h1 (by omega)
    obtain ⟨s2, e2, x2⟩ := point_ok (cap := cap) (h2.ext x1) (by omega)
    obtain ⟨s3, e3, x3⟩ := point_bad (cap := cap) (h.ext (x1.trans x2))
    refine ⟨s3, ?_, (x1.trans x2).trans x3⟩
    rw [ev_is_between]
    refine (if_pos ⟨rfl, by decide⟩).trans ?_
    apply r_end_x
    refine r_seq (r_set (r_callF (r_cons (r_var rfl) r_nil) e1) rfl) (r_then_nx ?_)
    refine r_seq (r_set (r_callF (r_cons (r_var rfl) r_nil) e2) rfl) (r_then_nx ?_)
    refine r_seq (r_ret_x (r_callF_x (r_cons_y (r_var rfl) (r_cons_y (r_var rfl) (r_cons_x (r_callF (r_cons (r_var rfl) r_nil) e3)))))) r_then_exn
/-! ratios as data -/
abbrev dr (a b : Int) : PyData := .tuple [.int a, .int b]
theorem dat_pr : dat st (pr x) = some (dr x.num x.den) := by
  unfold dat
  have e : toD 70 st (pr x) = some (dr x.num x.den) := rfl
  rw [e]
  have s : SeqAt.shaped (dr x.num x.den) = true := by
    unfold SeqAt.shaped
    simp [PyData.canLay0, PyData.canLayAll0, PyData.depth, PyData.depthAll]
  exact if_pos s
open Classical in
theorem ne_pr : cmpOp .ne (pr x) (pr y) st = .ok (.bl (!decide (x = y))) st := by
  show (match ((match dat st (pr x), dat st (pr y) with | some d, some e => some (PyData.eqv d e) | _, _ => none).map not) with | some b => Res.ok (PV.bl b) st | none => .stuck) = _
  rw [dat_pr, dat_pr]
  have e : PyData.eqv (dr x.num x.den) (dr y.num y.den) = decide (x = y) := by
    have z : PyData.eqv (dr x.num x.den) (dr y.num y.den) = ((x.num == y.num) && (((x.den : Int) == (y.den : Int)) && true)) := rfl
    rw [z]
    by_cases h : x = y
    · subst h; simp
    · rw [decide_eq_false h]
      by_cases h1 : x.num = y.num
      · have h2 : ¬ x.den = y.den := fun h2 => h (Rat.ext h1 h2)
        simp [h2]
        omega
      · simp [h1]
  show Res.ok (PV.bl (!PyData.eqv (dr x.num x.den) (dr y.num y.den))) st = _
  rw [e]
end
end Cut
namespace Cut
open PySem PySem.Spec PyProof.Rows L2 Cv
/-! ### the law's own way: on an edge -/
section
variable {st s : Sto} {cap : Cap} {p q r ri : PV} {a b c p' : Pt} {k l m d i : Nat} {x y : Rat} {t : Option PV}
abbrev oL (xs : List PV) : SO := .lst xs
def sTest (cap : Cap) : Ev PV := eAnd (two (eVar 3) (eRow (eCons (eVar 1) eNil) (bltOp .len)) (cmpOp .lt)) (evCallF (eCons (two (eVar 1) (eVar 3) idxOp) (eCons (eVar 2) eNil)) (fun _ => cap) f__law_less)
def sStep : Sv := sSeq (sAsg (two (eVar 3) (eCon (.int 1)) (binOp .add)) (.nm 3)) sNx
def sIns : Sv := sIf (eOr (two (eVar 3) (eRow (eCons (eVar 1) eNil) (bltOp .len)) (cmpOp .eq)) (two (two (eVar 1) (eVar 3) idxOp) (eVar 2) (cmpOp .ne))) (sSeq (sExp (eMthL .insert (eVar 1) (eCons (eVar 3) (eCons (eVar 2) eNil)))) sNx) sNx
def sBody (cap : Cap) : Sv := sSeq (sAsg (eCon (.int 0)) (.nm 3)) (sSeq (whileLoop (sTest cap) sStep FU) (sSeq sIns sNx))
theorem sorted_eq : m__law_sorted cap = sSeq (sAsg (eRow eNil mkLst) (.nm 1)) (sSeq (sFor (.nm 2) (iSeq (eVar 0)) (sBody cap)) (sSeq (sRet (eVar 1)) sNx)) := rfl
theorem sbody0 (h : s[d]? = some (.lst [])) : sBody cap [some ri, some (.loc d), some (pr x), t] s = .ok .nx [some ri, some (.loc d), some (pr x), some (.int 0)] (s.set d (.lst [pr x])) := by
  have w : whileLoop (sTest cap) sStep FU [some ri, some (.loc d), some (pr x), some (.int 0)] s = .ok .nx [some ri, some (.loc d), some (pr x), some (.int 0)] s := while0 (by
    unfold sTest
    (repeat' (first | with_reducible exact r_lenL h | ((with_reducible apply Cv.r_asm); with_reducible assumption) | with_reducible exact Cv.r_ok | with_reducible exact Cv.r_con | ((with_reducible apply Cv.r_var); rfl) | with_reducible apply Cv.r_two | with_reducible apply Cv.r_callF | with_reducible apply Cv.r_cons | with_reducible exact Cv.r_nil | with_reducible apply Cv.r_row | with_reducible apply Cv.r_one | with_reducible apply Cv.r_and | with_reducible apply Cv.r_or | with_reducible apply Cv.r_ite | with_reducible apply Cv.r_t | with_reducible apply Cv.r_not | with_reducible exact Cv.r_trb | with_reducible apply Cv.r_seq | with_reducible apply Cv.r_then_nx | with_reducible exact Cv.r_then_rt | with_reducible exact Cv.r_then_bk | with_reducible exact Cv.r_then_ct | with_reducible exact Cv.r_then_exn | with_reducible apply Cv.r_if | with_reducible apply Cv.r_set | with_reducible apply Cv.r_par | with_reducible exact Cv.r_nx | with_reducible exact Cv.r_fl | with_reducible apply Cv.r_exp | with_reducible apply Cv.r_ss | with_reducible exact Cv.r_sz | ((with_reducible apply Cv.r_T); focus (first | rfl | assumption | omega | (simp only [*, decide_true, decide_false, Bool.not_true, Bool.not_false, Bool.and_true, Bool.and_false, Bool.true_and, Bool.false_and, Bool.or_true, Bool.or_false, Bool.true_or, Bool.false_or]; done) | (simp [*]; done))) | ((with_reducible apply Cv.r_F); focus (first | rfl | assumption | omega | (simp only [*, decide_true, decide_false, Bool.not_true, Bool.not_false, Bool.and_true, Bool.and_false, Bool.true_and, Bool.false_and, Bool.or_true, Bool.or_false, Bool.true_or, Bool.false_or]; done) | (simp [*]; done))) | ((with_reducible apply Cv.r_tup); rfl) | ((with_reducible apply Cv.r_lst); rfl) | with_reducible exact Cv.r_ix0 | with_reducible exact Cv.r_ix1 | with_reducible exact Cv.r_ix2 | with_reducible exact Cv.r_add | with_reducible exact Cv.r_sub | with_reducible exact Cv.r_neg | with_reducible exact Cv.r_lt | with_reducible exact Cv.r_le | with_reducible exact Cv.r_gt | with_reducible exact Cv.r_ge | with_reducible exact Cv.r_eq | with_reducible exact Cv.r_ne | with_reducible exact Cv.r_eqB | with_reducible exact Cv.r_neB | with_reducible exact Cv.r_isB | with_reducible exact Cv.r_isnB | with_reducible exact Cv.r_subB | with_reducible apply Cv.r_ret)))
  have ins : mthOp .insert (.loc d) [.int 0, pr x] s = .ok .non (s.set d (.lst [pr x])) := r_insert (k := 0) (y := pr x) h (by simp) (by omega) (by omega)
  unfold sBody sIns
  (repeat' (first | with_reducible exact w | with_reducible exact r_lenL h | with_reducible exact r_mthL (r_var rfl) h (r_cons (r_var rfl) (r_cons (r_var rfl) r_nil)) ins | ((with_reducible apply Cv.r_asm); with_reducible assumption) | with_reducible exact Cv.r_ok | with_reducible exact Cv.r_con | ((with_reducible apply Cv.r_var); rfl) | with_reducible apply Cv.r_two | with_reducible apply Cv.r_callF | with_reducible apply Cv.r_cons | with_reducible exact Cv.r_nil | with_reducible apply Cv.r_row | with_reducible apply Cv.r_one | with_reducible apply Cv.r_and | with_reducible apply Cv.r_or | with_reducible apply Cv.r_ite | with_reducible apply Cv.r_t | with_reducible apply Cv.r_not | with_reducible exact Cv.r_trb | with_reducible apply Cv.r_seq | with_reducible apply Cv.r_then_nx | with_reducible exact Cv.r_then_rt | with_reducible exact Cv.r_then_bk | with_reducible exact Cv.r_then_ct | with_reducible exact Cv.r_then_exn | with_reducible apply Cv.r_if | with_reducible apply Cv.r_set | with_reducible apply Cv.r_par | with_reducible exact Cv.r_nx | with_reducible exact Cv.r_fl | with_reducible apply Cv.r_exp | with_reducible apply Cv.r_ss | with_reducible exact Cv.r_sz | ((with_reducible apply Cv.r_T); focus (first | rfl | assumption | omega | (simp only [*, decide_true, decide_false, Bool.not_true, Bool.not_false, Bool.and_true, Bool.and_false, Bool.true_and, Bool.false_and, Bool.or_true, Bool.or_false, Bool.true_or, Bool.false_or]; done) | (simp [*]; done))) | ((with_reducible apply Cv.r_F); focus (first | rfl | assumption | omega | (simp only [*, decide_true, decide_false, Bool.not_true, Bool.not_false, Bool.and_true, Bool.and_false, Bool.true_and, Bool.false_and, Bool.or_true, Bool.or_false, Bool.true_or, Bool.false_or]; done) | (simp [*]; done))) | ((with_reducible apply Cv.r_tup); rfl) | ((with_reducible apply Cv.r_lst); rfl) | with_reducible exact Cv.r_ix0 | with_reducible exact Cv.r_ix1 | with_reducible exact Cv.r_ix2 | with_reducible exact Cv.r_add | with_reducible exact Cv.r_sub | with_reducible exact Cv.r_neg | with_reducible exact Cv.r_lt | with_reducible exact Cv.r_le | with_reducible exact Cv.r_gt | with_reducible exact Cv.r_ge | with_reducible exact Cv.r_eq | with_reducible exact Cv.r_ne | with_reducible exact Cv.r_eqB | with_reducible exact Cv.r_neB | with_reducible exact Cv.r_isB | with_reducible exact Cv.r_isnB | with_reducible exact Cv.r_subB | with_reducible apply Cv.r_ret))
/-- the second one -/
def srt (x y : Rat) : List PV := if x < y then [pr x, pr y] else if x = y then [pr x] else [pr y, pr x]
theorem sbody1 [QB k x] [QB l y] (hk : k + l < 400) (h : s[d]? = some (.lst [pr x])) : ∃ j, sBody cap [some ri, some (.loc d), some (pr y), t] s = .ok .nx [some ri, some (.loc d), some (pr y), j] (s.set d (.lst (srt x y))) := by
  by_cases hx : x < y
  · have w : whileLoop (sTest cap) sStep FU [some ri, some (.loc d), some (pr y), some (.int 0)] s = .ok .nx [some ri, some (.loc d), some (pr y), some (.int (0 + 1))] s := while1 (by
      unfold sTest
      have e : f__law_less cap [pr x, pr y] s = .ok (.bl true) s := by rw [lless_ok hk, decide_eq_true hx]
      (repeat' (first | with_reducible exact r_lenL h | with_reducible exact r_lx0 h | ((with_reducible apply Cv.r_asm); with_reducible assumption) | with_reducible exact Cv.r_ok | with_reducible exact Cv.r_con | ((with_reducible apply Cv.r_var); rfl) | with_reducible apply Cv.r_two | with_reducible apply Cv.r_callF | with_reducible apply Cv.r_cons | with_reducible exact Cv.r_nil | with_reducible apply Cv.r_row | with_reducible apply Cv.r_one | with_reducible apply Cv.r_and | with_reducible apply Cv.r_or | with_reducible apply Cv.r_ite | with_reducible apply Cv.r_t | with_reducible apply Cv.r_not | with_reducible exact Cv.r_trb | with_reducible apply Cv.r_seq | with_reducible apply Cv.r_then_nx | with_reducible exact Cv.r_then_rt | with_reducible exact Cv.r_then_bk | with_reducible exact Cv.r_then_ct | with_reducible exact Cv.r_then_exn | with_reducible apply Cv.r_if | with_reducible apply Cv.r_set | with_reducible apply Cv.r_par | with_reducible exact Cv.r_nx | with_reducible exact Cv.r_fl | with_reducible apply Cv.r_exp | with_reducible apply Cv.r_ss | with_reducible exact Cv.r_sz | ((with_reducible apply Cv.r_T); focus (first | rfl | assumption | omega | (simp only [*, decide_true, decide_false, Bool.not_true, Bool.not_false, Bool.and_true, Bool.and_false, Bool.true_and, Bool.false_and, Bool.or_true, Bool.or_false, Bool.true_or, Bool.false_or]; done) | (simp [*]; done))) | ((with_reducible apply Cv.r_F); focus (first | rfl | assumption | omega | (simp only [*, decide_true, decide_false, Bool.not_true, Bool.not_false, Bool.and_true, Bool.and_false, Bool.true_and, Bool.false_and, Bool.or_true, Bool.or_false, Bool.true_or, Bool.false_or]; done) | (simp [*]; done))) | ((with_reducible apply Cv.r_tup); rfl) | ((with_reducible apply Cv.r_lst); rfl) | with_reducible exact Cv.r_ix0 | with_reducible exact Cv.r_ix1 | with_reducible exact Cv.r_ix2 | with_reducible exact Cv.r_add | with_reducible exact Cv.r_sub | with_reducible exact Cv.r_neg | with_reducible exact Cv.r_lt | with_reducible exact Cv.r_le | with_reducible exact Cv.r_gt | with_reducible exact Cv.r_ge | with_reducible exact Cv.r_eq | with_reducible exact Cv.r_ne | with_reducible exact Cv.r_eqB | with_reducible exact Cv.r_neB | with_reducible exact Cv.r_isB | with_reducible exact Cv.r_isnB | with_reducible exact Cv.r_subB | with_reducible apply Cv.r_ret))) (by
      unfold sStep
      (repeat' (first | ((with_reducible apply Cv.r_asm); with_reducible assumption) | with_reducible exact Cv.r_ok | with_reducible exact Cv.r_con | ((with_reducible apply Cv.r_var); rfl) | with_reducible apply Cv.r_two | with_reducible apply Cv.r_callF | with_reducible apply Cv.r_cons | with_reducible exact Cv.r_nil | with_reducible apply Cv.r_row | with_reducible apply Cv.r_one | with_reducible apply Cv.r_and | with_reducible apply Cv.r_or | with_reducible apply Cv.r_ite | with_reducible apply Cv.r_t | with_reducible apply Cv.r_not | with_reducible exact Cv.r_trb | with_reducible apply Cv.r_seq | with_reducible apply Cv.r_then_nx | with_reducible exact Cv.r_then_rt | with_reducible exact Cv.r_then_bk | with_reducible exact Cv.r_then_ct | with_reducible exact Cv.r_then_exn | with_reducible apply Cv.r_if | with_reducible apply Cv.r_set | with_reducible apply Cv.r_par | with_reducible exact Cv.r_nx | with_reducible exact Cv.r_fl | with_reducible apply Cv.r_exp | with_reducible apply Cv.r_ss | with_reducible exact Cv.r_sz | ((with_reducible apply Cv.r_T); focus (first | rfl | assumption | omega | (simp only [*, decide_true, decide_false, Bool.not_true, Bool.not_false, Bool.and_true, Bool.and_false, Bool.true_and, Bool.false_and, Bool.or_true, Bool.or_false, Bool.true_or, Bool.false_or]; done) | (simp [*]; done))) | ((with_reducible apply Cv.r_F); focus (first | rfl | assumption | omega | (simp only [*, decide_true, decide_false, Bool.not_true, Bool.not_false, Bool.and_true, Bool.and_false, Bool.true_and, Bool.false_and, Bool.or_true, Bool.or_false, Bool.true_or, Bool.false_or]; done) | (simp [*]; done))) | ((with_reducible apply Cv.r_tup); rfl) | ((with_reducible apply Cv.r_lst); rfl) | with_reducible exact Cv.r_ix0 | with_reducible exact Cv.r_ix1 | with_reducible exact Cv.r_ix2 | with_reducible exact Cv.r_add | with_reducible exact Cv.r_sub | with_reducible exact Cv.r_neg | with_reducible exact Cv.r_lt | with_reducible exact Cv.r_le | with_reducible exact Cv.r_gt | with_reducible exact Cv.r_ge | with_reducible exact Cv.r_eq | with_reducible exact Cv.r_ne | with_reducible exact Cv.r_eqB | with_reducible exact Cv.r_neB | with_reducible exact Cv.r_isB | with_reducible exact Cv.r_isnB | with_reducible exact Cv.r_subB | with_reducible apply Cv.r_ret))) (by
      unfold sTest
      (repeat' (first | with_reducible exact r_lenL h | ((with_reducible apply Cv.r_asm); with_reducible assumption) | with_reducible exact Cv.r_ok | with_reducible exact Cv.r_con | ((with_reducible apply Cv.r_var); rfl) | with_reducible apply Cv.r_two | with_reducible apply Cv.r_callF | with_reducible apply Cv.r_cons | with_reducible exact Cv.r_nil | with_reducible apply Cv.r_row | with_reducible apply Cv.r_one | with_reducible apply Cv.r_and | with_reducible apply Cv.r_or | with_reducible apply Cv.r_ite | with_reducible apply Cv.r_t | with_reducible apply Cv.r_not | with_reducible exact Cv.r_trb | with_reducible apply Cv.r_seq | with_reducible apply Cv.r_then_nx | with_reducible exact Cv.r_then_rt | with_reducible exact Cv.r_then_bk | with_reducible exact Cv.r_then_ct | with_reducible exact Cv.r_then_exn | with_reducible apply Cv.r_if | with_reducible apply Cv.r_set | with_reducible apply Cv.r_par | with_reducible exact Cv.r_nx | with_reducible exact Cv.r_fl | with_reducible apply Cv.r_exp | with_reducible apply Cv.r_ss | with_reducible exact Cv.r_sz | ((with_reducible apply Cv.r_T); focus (first | rfl | assumption | omega | (simp only [*, decide_true, decide_false, Bool.not_true, Bool.not_false, Bool.and_true, Bool.and_false, Bool.true_and, Bool.false_and, Bool.or_true, Bool.or_false, Bool.true_or, Bool.false_or]; done) | (simp [*]; done))) | ((with_reducible apply Cv.r_F); focus (first | rfl | assumption | omega | (simp only [*, decide_true, decide_false, Bool.not_true, Bool.not_false, Bool.and_true, Bool.and_false, Bool.true_and, Bool.false_and, Bool.or_true, Bool.or_false, Bool.true_or, Bool.false_or]; done) | (simp [*]; done))) | ((with_reducible apply Cv.r_tup); rfl) | ((with_reducible apply Cv.r_lst); rfl) | with_reducible exact Cv.r_ix0 | with_reducible exact Cv.r_ix1 | with_reducible exact Cv.r_ix2 | with_reducible exact Cv.r_add | with_reducible exact Cv.r_sub | with_reducible exact Cv.r_neg | with_reducible exact Cv.r_lt | with_reducible exact Cv.r_le | with_reducible exact Cv.r_gt | with_reducible exact Cv.r_ge | with_reducible exact Cv.r_eq | with_reducible exact Cv.r_ne | with_reducible exact Cv.r_eqB | with_reducible exact Cv.r_neB | with_reducible exact Cv.r_isB | with_reducible exact Cv.r_isnB | with_reducible exact Cv.r_subB | with_reducible apply Cv.r_ret)))
    have ins : mthOp .insert (.loc d) [.int (0 + 1), pr y] s = .ok .non (s.set d (.lst [pr x, pr y])) := r_insert (k := 1) (y := pr y) h (by simp) (by omega) (by omega)
    refine ⟨some (.int (0 + 1)), ?_⟩
    unfold srt
    rw [if_pos hx]
    unfold sBody sIns
    (repeat' (first | with_reducible exact w | with_reducible exact r_lenL h | with_reducible exact r_mthL (r_var rfl) h (r_cons (r_var rfl) (r_cons (r_var rfl) r_nil)) ins | ((with_reducible apply Cv.r_asm); with_reducible assumption) | with_reducible exact Cv.r_ok | with_reducible exact Cv.r_con | ((with_reducible apply Cv.r_var); rfl) | with_reducible apply Cv.r_two | with_reducible apply Cv.r_callF | with_reducible apply Cv.r_cons | with_reducible exact Cv.r_nil | with_reducible apply Cv.r_row | with_reducible apply Cv.r_one | with_reducible apply Cv.r_and | with_reducible apply Cv.r_or | with_reducible apply Cv.r_ite | with_reducible apply Cv.r_t | with_reducible apply Cv.r_not | with_reducible exact Cv.r_trb | with_reducible apply Cv.r_seq | with_reducible apply Cv.r_then_nx | with_reducible exact Cv.r_then_rt | with_reducible exact Cv.r_then_bk | with_reducible exact Cv.r_then_ct | with_reducible exact Cv.r_then_exn | with_reducible apply Cv.r_if | with_reducible apply Cv.r_set | with_reducible apply Cv.r_par | with_reducible exact Cv.r_nx | with_reducible exact Cv.r_fl | with_reducible apply Cv.r_exp | with_reducible apply Cv.r_ss | with_reducible exact Cv.r_sz | ((with_reducible apply Cv.r_T); focus (first | rfl | assumption | omega | (simp only [*, decide_true, decide_false, Bool.not_true, Bool.not_false, Bool.and_true, Bool.and_false, Bool.true_and, Bool.false_and, Bool.or_true, Bool.or_false, Bool.true_or, Bool.false_or]; done) | (simp [*]; done))) | ((with_reducible apply Cv.r_F); focus (first | rfl | assumption | omega | (simp only [*, decide_true, decide_false, Bool.not_true, Bool.not_false, Bool.and_true, Bool.and_false, Bool.true_and, Bool.false_and, Bool.or_true, Bool.or_false, Bool.true_or, Bool.false_or]; done) | (simp [*]; done))) | ((with_reducible apply Cv.r_tup); rfl) | ((with_reducible apply Cv.r_lst); rfl) | with_reducible exact Cv.r_ix0 | with_reducible exact Cv.r_ix1 | with_reducible exact Cv.r_ix2 | with_reducible exact Cv.r_add | with_reducible exact Cv.r_sub | with_reducible exact Cv.r_neg | with_reducible exact Cv.r_lt | with_reducible exact Cv.r_le | with_reducible exact Cv.r_gt | with_reducible exact Cv.r_ge | with_reducible exact Cv.r_eq | with_reducible exact Cv.r_ne | with_reducible exact Cv.r_eqB | with_reducible exact Cv.r_neB | with_reducible exact Cv.r_isB | with_reducible exact Cv.r_isnB | with_reducible exact Cv.r_subB | with_reducible apply Cv.r_ret))
  · have w : whileLoop (sTest cap) sStep FU [some ri, some (.loc d), some (pr y), some (.int 0)] s = .ok .nx [some ri, some (.loc d), some (pr y), some (.int 0)] s := while0 (by
      unfold sTest
      have e : f__law_less cap [pr x, pr y] s = .ok (.bl false) s := by rw [lless_ok hk, decide_eq_false hx]
      (repeat' (first | with_reducible exact r_lenL h | with_reducible exact r_lx0 h | ((with_reducible apply Cv.r_asm); with_reducible assumption) | with_reducible exact Cv.r_ok | with_reducible exact Cv.r_con | ((with_reducible apply Cv.r_var); rfl) | with_reducible apply Cv.r_two | with_reducible apply Cv.r_callF | with_reducible apply Cv.r_cons | with_reducible exact Cv.r_nil | with_reducible apply Cv.r_row | with_reducible apply Cv.r_one | with_reducible apply Cv.r_and | with_reducible apply Cv.r_or | with_reducible apply Cv.r_ite | with_reducible apply Cv.r_t | with_reducible apply Cv.r_not | with_reducible exact Cv.r_trb | with_reducible apply Cv.r_seq | with_reducible apply Cv.r_then_nx | with_reducible exact Cv.r_then_rt | with_reducible exact Cv.r_then_bk | with_reducible exact Cv.r_then_ct | with_reducible exact Cv.r_then_exn | with_reducible apply Cv.r_if | with_reducible apply Cv.r_set | with_reducible apply Cv.r_par | with_reducible exact Cv.r_nx | with_reducible exact Cv.r_fl | with_reducible apply Cv.r_exp | with_reducible apply Cv.r_ss | with_reducible exact Cv.r_sz | ((with_reducible apply Cv.r_T); focus (first | rfl | assumption | omega | (simp only [*, decide_true, decide_false, Bool.not_true, Bool.not_false, Bool.and_true, Bool.and_false, Bool.true_and, Bool.false_and, Bool.or_true, Bool.or_false, Bool.true_or, Bool.false_or]; done) | (simp [*]; done))) | ((with_reducible apply Cv.r_F); focus (first | rfl | assumption | omega | (simp only [*, decide_true, decide_false, Bool.not_true, Bool.not_false, Bool.and_true, Bool.and_false, Bool.true_and, Bool.false_and, Bool.or_true, Bool.or_false, Bool.true_or, Bool.false_or]; done) | (simp [*]; done))) | ((with_reducible apply Cv.r_tup); rfl) | ((with_reducible apply Cv.r_lst); rfl) | with_reducible exact Cv.r_ix0 | with_reducible exact Cv.r_ix1 | with_reducible exact Cv.r_ix2 | with_reducible exact Cv.r_add | with_reducible exact Cv.r_sub | with_reducible exact Cv.r_neg | with_reducible exact Cv.r_lt | with_reducible exact Cv.r_le | with_reducible exact Cv.r_gt | with_reducible exact Cv.r_ge | with_reducible exact Cv.r_eq | with_reducible exact Cv.r_ne | with_reducible exact Cv.r_eqB | with_reducible exact Cv.r_neB | with_reducible exact Cv.r_isB | with_reducible exact Cv.r_isnB | with_reducible exact Cv.r_subB | with_reducible apply Cv.r_ret)))
    refine ⟨some (.int 0), ?_⟩
    unfold srt
    rw [if_neg hx]
    have nq : cmpOp .ne (pr x) (pr y) s = .ok (.bl (!decide (x = y))) s := by
      rw [ne_pr]
    by_cases hq : x = y
    · rw [if_pos hq]
      rw [decide_eq_true hq] at nq
      have es : s.set d (.lst [pr x]) = s := by
        refine List.ext_getElem? fun j =>
              ?_
        by_cases hj : d = j
        · subst hj; rw [set_at h, h]
        · rw [List.getElem?_set_ne hj]
      rw [es]
      unfold sBody sIns
      (repeat' (first | with_reducible exact w | with_reducible exact r_lenL h | with_reducible exact r_lx0 h | with_reducible exact nq | ((with_reducible apply Cv.r_asm); with_reducible assumption) | with_reducible exact Cv.r_ok | with_reducible exact Cv.r_con | ((with_reducible apply Cv.r_var); rfl) | with_reducible apply Cv.r_two | with_reducible apply Cv.r_callF | with_reducible apply Cv.r_cons | with_reducible exact Cv.r_nil | with_reducible apply Cv.r_row | with_reducible apply Cv.r_one | with_reducible apply Cv.r_and | with_reducible apply Cv.r_or | with_reducible apply Cv.r_ite | with_reducible apply Cv.r_t | with_reducible apply Cv.r_not | with_reducible exact Cv.r_trb | with_reducible apply Cv.r_seq | with_reducible apply Cv.r_then_nx | with_reducible exact Cv.r_then_rt | with_reducible exact Cv.r_then_bk | with_reducible exact Cv.r_then_ct | with_reducible exact Cv.r_then_exn | with_reducible apply Cv.r_if | with_reducible apply Cv.r_set | with_reducible apply Cv.r_par | with_reducible exact Cv.r_nx | with_reducible exact Cv.r_fl | with_reducible apply Cv.r_exp | with_reducible apply Cv.r_ss | with_reducible exact Cv.r_sz | ((with_reducible apply Cv.r_T); focus (first | rfl | assumption | omega | (simp only [*, decide_true, decide_false, Bool.not_true, Bool.not_false, Bool.and_true, Bool.and_false, Bool.true_and, Bool.false_and, Bool.or_true, Bool.or_false, Bool.true_or, Bool.false_or]; done) | (simp [*]; done))) | ((with_reducible apply Cv.r_F); focus (first | rfl | assumption | omega | (simp only [*, decide_true, decide_false, Bool.not_true, Bool.not_false, Bool.and_true, Bool.and_false, Bool.true_and, Bool.false_and, Bool.or_true, Bool.or_false, Bool.true_or, Bool.false_or]; done) | (simp [*]; done))) | ((with_reducible apply Cv.r_tup); rfl) | ((with_reducible apply Cv.r_lst); rfl) | with_reducible exact Cv.r_ix0 | with_reducible exact Cv.r_ix1 | with_reducible exact Cv.r_ix2 | with_reducible exact Cv.r_add | with_reducible exact Cv.r_sub | with_reducible exact Cv.r_neg | with_reducible exact Cv.r_lt | with_reducible exact Cv.r_le | with_reducible exact Cv.r_gt | with_reducible exact Cv.r_ge | with_reducible exact Cv.r_eq | with_reducible exact Cv.r_ne | with_reducible exact Cv.r_eqB | with_reducible exact Cv.r_neB | with_reducible exact Cv.r_isB | with_reducible exact Cv.r_isnB | with_reducible exact Cv.r_subB | with_reducible apply Cv.r_ret))
    · rw [if_neg hq]
      rw [decide_eq_false hq] at nq
      have ins : mthOp .insert (.loc d) [.int 0, pr y] s = .ok .non (s.set d (.lst [pr y, pr x])) := r_insert (k := 0) (y := pr y) h (by simp) (by omega) (by omega)
      unfold sBody sIns
      (repeat' (first | with_reducible exact w | with_reducible exact r_lenL h | with_reducible exact r_lx0 h | with_reducible exact nq | with_reducible exact r_mthL (r_var rfl) h (r_cons (r_var rfl) (r_cons (r_var rfl) r_nil)) ins | ((with_reducible apply Cv.r_asm); with_reducible assumption) | with_reducible exact Cv.r_ok | with_reducible exact Cv.r_con | ((with_reducible apply Cv.r_var); rfl) | with_reducible apply Cv.r_two | with_reducible apply Cv.r_callF | with_reducible apply Cv.r_cons | with_reducible exact Cv.r_nil | with_reducible apply Cv.r_row | with_reducible apply Cv.r_one | with_reducible apply Cv.r_and | with_reducible apply Cv.r_or | with_reducible apply Cv.r_ite | with_reducible apply Cv.r_t | with_reducible apply Cv.r_not | with_reducible exact Cv.r_trb | with_reducible apply Cv.r_seq | with_reducible apply Cv.r_then_nx | with_reducible exact Cv.r_then_rt | with_reducible exact Cv.r_then_bk | with_reducible exact Cv.r_then_ct | with_reducible exact Cv.r_then_exn | with_reducible apply Cv.r_if | with_reducible apply Cv.r_set | with_reducible apply Cv.r_par | with_reducible exact Cv.r_nx | with_reducible exact Cv.r_fl | with_reducible apply Cv.r_exp | with_reducible apply Cv.r_ss | with_reducible exact Cv.r_sz | ((with_reducible apply Cv.r_T); focus (first | rfl | assumption | omega | (simp only [*, decide_true, decide_false, Bool.not_true, Bool.not_false, Bool.and_true, Bool.and_false, Bool.true_and, Bool.false_and, Bool.or_true, Bool.or_false, Bool.true_or, Bool.false_or]; done) | (simp [*]; done))) | ((with_reducible apply Cv.r_F); focus (first | rfl | assumption | omega | (simp only [*, decide_true, decide_false, Bool.not_true, Bool.not_false, Bool.and_true, Bool.and_false, Bool.true_and, Bool.false_and, Bool.or_true, Bool.or_false, Bool.true_or, Bool.false_or]; done) | (simp [*]; done))) | ((with_reducible apply Cv.r_tup); rfl) | ((with_reducible apply Cv.r_lst); rfl) | with_reducible exact Cv.r_ix0 | with_reducible exact Cv.r_ix1 | with_reducible exact Cv.r_ix2 | with_reducible exact Cv.r_add | with_reducible exact Cv.r_sub | with_reducible exact Cv.r_neg | with_reducible exact Cv.r_lt | with_reducible exact Cv.r_le | with_reducible exact Cv.r_gt | with_reducible exact Cv.r_ge | with_reducible exact Cv.r_eq | with_reducible exact Cv.r_ne | with_reducible exact Cv.r_eqB | with_reducible exact Cv.r_neB | with_reducible exact Cv.r_isB | with_reducible exact Cv.r_isnB | with_reducible exact Cv.r_subB | with_reducible apply Cv.r_ret))
theorem sorted_ok [QB k x] [QB l y] (hk : k + l < 400) (h : st[i]? = some (.lst [pr x, pr y])) : ∃ s, f__law_sorted cap [.loc i] st = .ok (.loc st.length) s ∧ Ext st s ∧ s[st.length]? = some (.lst (srt x y)) := by
  have hi : i < st.length := (List.getElem?_eq_some_iff.mp h).1
  have x0 : Ext st (st ++ [oL []]) := Ext.push
  have b0 := sbody0 (cap := cap) (ri := .loc i) (x := x) (t := none) (s := st ++ [oL []]) (d := st.length) push_at
  have x1 : Ext st ((st ++ [oL []]).set st.length (oL [pr x])) := x0.set (Nat.le_refl _)
  obtain ⟨j, b1⟩ := sbody1 (cap := cap) (ri := .loc i) (x := x) (y := y) (t := some (.int 0)) (d := st.length) hk (set_at (y := oL [pr x]) (push_at (st := st) (o := oL [])))
  have x2 : Ext st (((st ++ [oL []]).set st.length (oL [pr x])).set st.length (oL (srt x y))) := x1.set (Nat.le_refl _)
  have src : ∀ s', Ext st s' → ∀ i', srcAt s' (.seq (.loc i)) i' = some [pr x, pr y][i']? := src_items fun s' e => r_items (e _ _ h)
  have f : sFor (.nm 2) (iSeq (eVar 0)) (sBody cap) [some (.loc i), some (.loc st.length), none, none] (st ++ [oL []]) = .ok .nx [some (.loc i), some (.loc st.length), some (pr y), j] (((st ++ [oL []]).set st.length (oL [pr x])).set st.length (oL (srt x y))) := by
    refine r_for (r_iseq (r_var rfl) (r_items (x0 _ _ h))) ?_
    refine r_fgo (k := 999999) (by rw [src _ x0]; rfl) rfl b0 ?_
    refine r_fgo (k := 999998) (by rw [src _ x1]; rfl) rfl b1 ?_
    exact r_fend (k := 999997) (by rw [src _ x2]; rfl)
  refine ⟨_, ?_, x2, set_at (set_at push_at)⟩
  rw [ev__law_sorted]
  refine (if_pos ⟨rfl, by decide⟩).trans ?_
  show endDef (m__law_sorted cap [some (.loc i), none, none, none] st) = _
  rw [sorted_eq]
  apply r_end
  (repeat' (first | with_reducible exact f | ((with_reducible apply Cv.r_asm); with_reducible assumption) | with_reducible exact Cv.r_ok | with_reducible exact Cv.r_con | ((with_reducible apply Cv.r_var); rfl) | with_reducible apply Cv.r_two | with_reducible apply Cv.r_callF | with_reducible apply Cv.r_cons | with_reducible exact Cv.r_nil | with_reducible apply Cv.r_row | with_reducible apply Cv.r_one | with_reducible apply Cv.r_and | with_reducible apply Cv.r_or | with_reducible apply Cv.r_ite | with_reducible apply Cv.r_t | with_reducible apply Cv.r_not | with_reducible exact Cv.r_trb | with_reducible apply Cv.r_seq | with_reducible apply Cv.r_then_nx | with_reducible exact Cv.r_then_rt | with_reducible exact Cv.r_then_bk | with_reducible exact Cv.r_then_ct | with_reducible exact Cv.r_then_exn | with_reducible apply Cv.r_if | with_reducible apply Cv.r_set | with_reducible apply Cv.r_par | with_reducible exact Cv.r_nx | with_reducible exact Cv.r_fl | with_reducible apply Cv.r_exp | with_reducible apply Cv.r_ss | with_reducible exact Cv.r_sz | ((with_reducible apply Cv.r_T); focus (first | rfl | assumption | omega | (simp only [*, decide_true, decide_false, Bool.not_true, Bool.not_false, Bool.and_true, Bool.and_false, Bool.true_and, Bool.false_and, Bool.or_true, Bool.or_false, Bool.true_or, Bool.false_or]; done) | (simp [*]; done))) | ((with_reducible apply Cv.r_F); focus (first | rfl | assumption | omega | (simp only [*, decide_true, decide_false, Bool.not_true, Bool.not_false, Bool.and_true, Bool.and_false, Bool.true_and, Bool.false_and, Bool.or_true, Bool.or_false, Bool.true_or, Bool.false_or]; done) | (simp [*]; done))) | ((with_reducible apply Cv.r_tup); rfl) | ((with_reducible apply Cv.r_lst); rfl) | with_reducible exact Cv.r_ix0 | with_reducible exact Cv.r_ix1 | with_reducible exact Cv.r_ix2 | with_reducible exact Cv.r_add | with_reducible exact Cv.r_sub | with_reducible exact Cv.r_neg | with_reducible exact Cv.r_lt | with_reducible exact Cv.r_le | with_reducible exact Cv.r_gt | with_reducible exact Cv.r_ge | with_reducible exact Cv.r_eq | with_reducible exact Cv.r_ne | with_reducible exact Cv.r_eqB | with_reducible exact Cv.r_neB | with_reducible exact Cv.r_isB | with_reducible exact Cv.r_isnB | with_reducible exact Cv.r_subB | with_reducible apply Cv.r_ret))
theorem srt_head : ∃ r, srt x y = pr (mn x y) :: r := by
  unfold srt mn
  by_cases h : x < y
  · rw [if_pos h, if_pos (by grind)]; exact ⟨_, rfl⟩
  · rw [if_neg h]
    by_cases h2 : x = y
    · rw [if_pos h2, if_pos (by grind)]; exact ⟨_, rfl⟩
    · rw [if_neg h2, if_neg (by grind)]; exact ⟨_, rfl⟩
theorem srt_last : (srt x y).getLast? = some (pr (mx x y)) := by
  unfold srt mx
  by_cases h : x < y
  · rw [if_pos h, if_pos (by grind)]; rfl
  · rw [if_neg h]
    by_cases h2 : x = y
    · rw [if_pos h2, if_pos (by grind), h2]; rfl
    · rw [if_neg h2, if_neg (by grind)]; rfl
/-- an index that a name holds -/
theorem ix_pt0 : idxOp (pt a) (.int 0) st = .ok (pr a.1) st := r_ix0
theorem ix_pt1 : idxOp (pt a) (.int 1) st = .ok (pr a.2) st := r_ix1
def eSpan (cap : Cap) : Ev PV := evCallF (eCons (eRow (eCons (two (eVar 1) (eVar 4) idxOp) (eCons (two (eVar 2) (eVar 4) idxOp) eNil)) mkLst) eNil) (fun _ => cap) f__law_sorted
def eOut (cap : Cap) : Ev PV := eOr (evCallF (eCons (two (eVar 0) (eVar 4) idxOp) (eCons (two (two (eVar 3) (eVar 4) idxOp) (eCon (.int 0)) idxOp) eNil)) (fun _ => cap) f__law_less) (evCallF (eCons (two (two (eVar 3) (eVar 4) idxOp) (one (eCon (.int 1)) negOp) idxOp) (eCons (two (eVar 0) (eVar 4) idxOp) eNil)) (fun _ => cap) f__law_less)
def iK : Ev Src := iSeq (eRow (eCons (eCon (.int 0)) (eCons (eCon (.int 1)) eNil)) mkTup)
theorem on_edge_eq : m__law_on_edge cap = sSeq (sIf (two (evCallF (eCons (eVar 1) (eCons (eVar 2) (eCons (eVar 0) eNil))) (fun _ => cap) f__law_turn_of) (eCon (.int 0)) (cmpOp .ne)) (sSeq (sRet (eCon (.bl false))) sNx) sNx)
  (sSeq (sAsg (eLc (eSpan cap) (.nm 4) (fun _ st => .ok true st) iK [4]) (.nm 3))
  (sSeq (sRet (one (eRow (eCons (eLc (eOut cap) (.nm 4) (fun _ st => .ok true st) iK [4]) eNil) (bltOp .any)) notOp)) sNx)) := rfl
theorem iK_eq {η : Env'} : iK η st = .ok (.seq (.tup [.int 0, .int 1])) st := by
  refine r_iseq (xs := [.int 0, .int 1]) ?_ rfl
  (repeat' (first | ((with_reducible apply Cv.r_asm); with_reducible assumption) | with_reducible exact Cv.r_ok | with_reducible exact Cv.r_con | ((with_reducible apply Cv.r_var); rfl) | with_reducible apply Cv.r_two | with_reducible apply Cv.r_callF | with_reducible apply Cv.r_cons | with_reducible exact Cv.r_nil | with_reducible apply Cv.r_row | with_reducible apply Cv.r_one | with_reducible apply Cv.r_and | with_reducible apply Cv.r_or | with_reducible apply Cv.r_ite | with_reducible apply Cv.r_t | with_reducible apply Cv.r_not | with_reducible exact Cv.r_trb | with_reducible apply Cv.r_seq | with_reducible apply Cv.r_then_nx | with_reducible exact Cv.r_then_rt | with_reducible exact Cv.r_then_bk | with_reducible exact Cv.r_then_ct | with_reducible exact Cv.r_then_exn | with_reducible apply Cv.r_if | with_reducible apply Cv.r_set | with_reducible apply Cv.r_par | with_reducible exact Cv.r_nx | with_reducible exact Cv.r_fl | with_reducible apply Cv.r_exp | with_reducible apply Cv.r_ss | with_reducible exact Cv.r_sz | ((with_reducible apply Cv.r_T); focus (first | rfl | assumption | omega | (simp only [*, decide_true, decide_false, Bool.not_true, Bool.not_false, Bool.and_true, Bool.and_false, Bool.true_and, Bool.false_and, Bool.or_true, Bool.or_false, Bool.true_or, Bool.false_or]; done) | (simp [*]; done))) | ((with_reducible apply Cv.r_F); focus (first | rfl | assumption | omega | (simp only [*, decide_true, decide_false, Bool.not_true, Bool.not_false, Bool.and_true, Bool.and_false, Bool.true_and, Bool.false_and, Bool.or_true, Bool.or_false, Bool.true_or, Bool.false_or]; done) | (simp [*]; done))) | ((with_reducible apply Cv.r_tup); rfl) | ((with_reducible apply Cv.r_lst); rfl) | with_reducible exact Cv.r_ix0 | with_reducible exact Cv.r_ix1 | with_reducible exact Cv.r_ix2 | with_reducible exact Cv.r_add | with_reducible exact Cv.r_sub | with_reducible exact Cv.r_neg | with_reducible exact Cv.r_lt | with_reducible exact Cv.r_le | with_reducible exact Cv.r_gt | with_reducible exact Cv.r_ge | with_reducible exact Cv.r_eq | with_reducible exact Cv.r_ne | with_reducible exact Cv.r_eqB | with_reducible exact Cv.r_neB | with_reducible exact Cv.r_isB | with_reducible exact Cv.r_isnB | with_reducible exact Cv.r_subB | with_reducible apply Cv.r_ret))
/-- one span -/
theorem span_ok [QB k x] [QB l y] (hk : k + l < 400) {η : Env'} (e : eRow (eCons (two (eVar 1) (eVar 4) idxOp) (eCons (two (eVar 2) (eVar 4) idxOp) eNil)) mkLst η st = .ok (.loc st.length) (st ++ [oL [pr x, pr y]])) :
    ∃ s j, eSpan cap η st = .ok (.loc j) s ∧ Ext st s ∧ s[j]? = some (.lst (srt x y)) := by
  obtain ⟨s, e1, x1, h1⟩ := sorted_ok (cap := cap) (x := x) (y := y) hk (st := st ++ [oL [pr x, pr y]]) push_at
  refine ⟨s, _, ?_, Ext.push.trans x1, h1⟩
  unfold eSpan
  (repeat' (first | with_reducible exact e | ((with_reducible apply Cv.r_asm); with_reducible assumption) | with_reducible exact Cv.r_ok | with_reducible exact Cv.r_con | ((with_reducible apply Cv.r_var); rfl) | with_reducible apply Cv.r_two | with_reducible apply Cv.r_callF | with_reducible apply Cv.r_cons | with_reducible exact Cv.r_nil | with_reducible apply Cv.r_row | with_reducible apply Cv.r_one | with_reducible apply Cv.r_and | with_reducible apply Cv.r_or | with_reducible apply Cv.r_ite | with_reducible apply Cv.r_t | with_reducible apply Cv.r_not | with_reducible exact Cv.r_trb | with_reducible apply Cv.r_seq | with_reducible apply Cv.r_then_nx | with_reducible exact Cv.r_then_rt | with_reducible exact Cv.r_then_bk | with_reducible exact Cv.r_then_ct | with_reducible exact Cv.r_then_exn | with_reducible apply Cv.r_if | with_reducible apply Cv.r_set | with_reducible apply Cv.r_par | with_reducible exact Cv.r_nx | with_reducible exact Cv.r_fl | with_reducible apply Cv.r_exp | with_reducible apply Cv.r_ss | with_reducible exact Cv.r_sz | ((with_reducible apply Cv.r_T); focus (first | rfl | assumption | omega | (simp only [*, decide_true, decide_false, Bool.not_true, Bool.not_false, Bool.and_true, Bool.and_false, Bool.true_and, Bool.false_and, Bool.or_true, Bool.or_false, Bool.true_or, Bool.false_or]; done) | (simp [*]; done))) | ((with_reducible apply Cv.r_F); focus (first | rfl | assumption | omega | (simp only [*, decide_true, decide_false, Bool.not_true, Bool.not_false, Bool.and_true, Bool.and_false, Bool.true_and, Bool.false_and, Bool.or_true, Bool.or_false, Bool.true_or, Bool.false_or]; done) | (simp [*]; done))) | ((with_reducible apply Cv.r_tup); rfl) | ((with_reducible apply Cv.r_lst); rfl) | with_reducible exact Cv.r_ix0 | with_reducible exact Cv.r_ix1 | with_reducible exact Cv.r_ix2 | with_reducible exact Cv.r_add | with_reducible exact Cv.r_sub | with_reducible exact Cv.r_neg | with_reducible exact Cv.r_lt | with_reducible exact Cv.r_le | with_reducible exact Cv.r_gt | with_reducible exact Cv.r_ge | with_reducible exact Cv.r_eq | with_reducible exact Cv.r_ne | with_reducible exact Cv.r_eqB | with_reducible exact Cv.r_neB | with_reducible exact Cv.r_isB | with_reducible exact Cv.r_isnB | with_reducible exact Cv.r_subB | with_reducible apply Cv.r_ret))
theorem spans_ok [QP k a] [QP l b] (hk : k + l < 400) {η : Env'} (hw : wipeP η [4] = [some (pt p'), some (pt a), some (pt b), t, none]) : ∃ s d j0 j1, eLc (eSpan cap) (.nm 4) (fun _ st => .ok true st) iK [4] η st = .ok (.loc d) s ∧ Ext st s ∧ s[d]? = some (.lst [.loc j0, .loc j1]) ∧ s[j0]? = some (.lst (srt a.1 b.1)) ∧ s[j1]? = some (.lst (srt a.2 b.2)) := by
  have x0 : Ext st (st ++ [oL []]) := Ext.push
  obtain ⟨s1, j0, e1, x1, h1⟩ := span_ok (cap := cap) (st := st ++ [oL []]) (x := a.1) (y := b.1) hk (η := [some (pt p'), some (pt a), some (pt b), t, some (.int 0)]) (by (repeat' (first | ((with_reducible apply Cv.r_asm); with_reducible assumption) | with_reducible exact Cv.r_ok | with_reducible exact Cv.r_con | ((with_reducible apply Cv.r_var); rfl) | with_reducible apply Cv.r_two | with_reducible apply Cv.r_callF | with_reducible apply Cv.r_cons | with_reducible exact Cv.r_nil | with_reducible apply Cv.r_row | with_reducible apply Cv.r_one | with_reducible apply Cv.r_and | with_reducible apply Cv.r_or | with_reducible apply Cv.r_ite | with_reducible apply Cv.r_t | with_reducible apply Cv.r_not | with_reducible exact Cv.r_trb | with_reducible apply Cv.r_seq | with_reducible apply Cv.r_then_nx | with_reducible exact Cv.r_then_rt | with_reducible exact Cv.r_then_bk | with_reducible exact Cv.r_then_ct | with_reducible exact Cv.r_then_exn | with_reducible apply Cv.r_if | with_reducible apply Cv.r_set | with_reducible apply Cv.r_par | with_reducible exact Cv.r_nx | with_reducible exact Cv.r_fl | with_reducible apply Cv.r_exp | with_reducible apply Cv.r_ss | with_reducible exact Cv.r_sz | ((with_reducible apply Cv.r_T); focus (first | rfl | assumption | omega | (simp only [*, decide_true, decide_false, Bool.not_true, Bool.not_false, Bool.and_true, Bool.and_false, Bool.true_and, Bool.false_and, Bool.or_true, Bool.or_false, Bool.true_or, Bool.false_or]; done) | (simp [*]; done))) | ((with_reducible apply Cv.r_F); focus (first | rfl | assumption | omega | (simp only [*, decide_true, decide_false, Bool.not_true, Bool.not_false, Bool.and_true, Bool.and_false, Bool.true_and, Bool.false_and, Bool.or_true, Bool.or_false, Bool.true_or, Bool.false_or]; done) | (simp [*]; done))) | ((with_reducible apply Cv.r_tup); rfl) | ((with_reducible apply Cv.r_lst); rfl) | with_reducible exact Cv.r_ix0 | with_reducible exact Cv.r_ix1 | with_reducible exact Cv.r_ix2 | with_reducible exact Cv.r_add | with_reducible exact Cv.r_sub | with_reducible exact Cv.r_neg | with_reducible exact Cv.r_lt | with_reducible exact Cv.r_le | with_reducible exact Cv.r_gt | with_reducible exact Cv.r_ge | with_reducible exact Cv.r_eq | with_reducible exact Cv.r_ne | with_reducible exact Cv.r_eqB | with_reducible exact Cv.r_neB | with_reducible exact Cv.r_isB | with_reducible exact Cv.r_isnB | with_reducible exact Cv.r_subB | with_reducible apply Cv.r_ret)))
  have d1 : s1[st.length]? = some (oL []) := x1 _ _ push_at
  have n0 : j0 ≠ st.length := by
    rintro rfl
    rw [h1] at d1
    obtain ⟨r, e⟩ := srt_head (x := a.1) (y := b.1)
    rw [e] at d1
    cases d1
  have y1 : Ext st (s1.set st.length (oL [.loc j0])) := (x0.trans x1).set (Nat.le_refl _)
  obtain ⟨s2, j1, e2, x2, h2⟩ := span_ok (cap := cap) (st := s1.set st.length (oL [.loc j0])) (x := a.2) (y := b.2) hk (η := [some (pt p'), some (pt a), some (pt b), t, some (.int 1)]) (by (repeat' (first | ((with_reducible apply Cv.r_asm); with_reducible assumption) | with_reducible exact Cv.r_ok | with_reducible exact Cv.r_con | ((with_reducible apply Cv.r_var); rfl) | with_reducible apply Cv.r_two | with_reducible apply Cv.r_callF | with_reducible apply Cv.r_cons | with_reducible exact Cv.r_nil | with_reducible apply Cv.r_row | with_reducible apply Cv.r_one | with_reducible apply Cv.r_and | with_reducible apply Cv.r_or | with_reducible apply Cv.r_ite | with_reducible apply Cv.r_t | with_reducible apply Cv.r_not | with_reducible exact Cv.r_trb | with_reducible apply Cv.r_seq | with_reducible apply Cv.r_then_nx | with_reducible exact Cv.r_then_rt | with_reducible exact Cv.r_then_bk | with_reducible exact Cv.r_then_ct | with_reducible exact Cv.r_then_exn | with_reducible apply Cv.r_if | with_reducible apply Cv.r_set | with_reducible apply Cv.r_par | with_reducible exact Cv.r_nx | with_reducible exact Cv.r_fl | with_reducible apply Cv.r_exp | with_reducible apply Cv.r_ss | with_reducible exact Cv.r_sz | ((with_reducible apply Cv.r_T); focus (first | rfl | assumption | omega | (simp only [*, decide_true, decide_false, Bool.not_true, Bool.not_false, Bool.and_true, Bool.and_false, Bool.true_and, Bool.false_and, Bool.or_true, Bool.or_false, Bool.true_or, Bool.false_or]; done) | (simp [*]; done))) | ((with_reducible apply Cv.r_F); focus (first | rfl | assumption | omega | (simp only [*, decide_true, decide_false, Bool.not_true, Bool.not_false, Bool.and_true, Bool.and_false, Bool.true_and, Bool.false_and, Bool.or_true, Bool.or_false, Bool.true_or, Bool.false_or]; done) | (simp [*]; done))) | ((with_reducible apply Cv.r_tup); rfl) | ((with_reducible apply Cv.r_lst); rfl) | with_reducible exact Cv.r_ix0 | with_reducible exact Cv.r_ix1 | with_reducible exact Cv.r_ix2 | with_reducible exact Cv.r_add | with_reducible exact Cv.r_sub | with_reducible exact Cv.r_neg | with_reducible exact Cv.r_lt | with_reducible exact Cv.r_le | with_reducible exact Cv.r_gt | with_reducible exact Cv.r_ge | with_reducible exact Cv.r_eq | with_reducible exact Cv.r_ne | with_reducible exact Cv.r_eqB | with_reducible exact Cv.r_neB | with_reducible exact Cv.r_isB | with_reducible exact Cv.r_isnB | with_reducible exact Cv.r_subB | with_reducible apply Cv.r_ret)))
  have d2 : s2[st.length]? = some (oL [.loc j0]) := x2 _ _ (set_at d1)
  have n1 : j1 ≠ st.length := by
    rintro rfl
    rw [h2] at d2
    obtain ⟨r, e⟩ := srt_head (x := a.2) (y := b.2)
    rw [e] at d2
    injection d2 with d2
    injection d2 with d2
    injection d2 with d2
    cases d2
  have y2 : Ext st (s2.set st.length (oL [.loc j0, .loc j1])) := (y1.trans x2).set (Nat.le_refl _)
  refine ⟨_, st.length, j0, j1, r_lc iK_eq ?_, y2, set_at d2, ?_, ?_⟩
  · rw [hw]
    refine lc_step (k := 999999) rfl rfl rfl e1 d1 (by simp) ?_
    refine lc_step (k := 999998) rfl rfl rfl e2 d2 (by simp) ?_
    exact lc_stop (k := 999997) rfl
  · rw [List.getElem?_set_ne n0.symm]
    refine x2 _ _ ?_
    rw [List.getElem?_set_ne n0.symm]
    exact h1
  · rw [List.getElem?_set_ne n1.symm]
    exact h2
open Classical in
/-- one side: outside of the span? -/
theorem out_ok {sp : Nat} {u v w : Rat} {n : Nat} [QB k u] [QB l v] [QB n w] (hk : k + l + n < 400) {η : Env'} (h0 : two (eVar 0) (eVar 4) idxOp η st = .ok (pr w) st) (h3 : two (eVar 3) (eVar 4) idxOp η st = .ok (.loc sp) st) (hs : st[sp]? = some (.lst (srt u v))) : eOut cap η st = .ok (.bl (!decide (inB u v w))) st := by
  obtain ⟨r, er⟩ := srt_head (x := u) (y := v)
  have qn : QB (max k l) (mn u v) := by
    unfold mn
    split
    · exact QB.up ‹QB k u› (Nat.le_max_left _ _)
    · exact QB.up ‹QB l v› (Nat.le_max_right _ _)
  have qx : QB (max k l) (mx u v) := by
    unfold mx
    split
    · exact QB.up ‹QB l v› (Nat.le_max_right _ _)
    · exact QB.up ‹QB k u› (Nat.le_max_left _ _)
  have i0 : idxOp (.loc sp) (.int 0) st = .ok (pr (mn u v)) st := r_lx0 (by rw [hs, er])
  have im : idxOp (.loc sp) (.int (-1)) st = .ok (pr (mx u v)) st := r_lxm hs srt_last
  have e : (!decide (inB u v w)) = (decide (w < mn u v) || decide (mx u v < w)) := by
    unfold inB
    rw [Bool.decide_and, decide_not, decide_not]
    cases decide (w < mn u v) <;> cases decide (mx u v < w) <;> rfl
  have l1 : f__law_less cap [pr w, pr (mn u v)] st = .ok (.bl (decide (w < mn u v))) st := by rw [lless_ok (by omega)]
  have l2 : f__law_less cap [pr (mx u v), pr w] st = .ok (.bl (decide (mx u v < w))) st := by rw [lless_ok (by omega)]
  rw [e]
  unfold eOut
  apply r_or2
  · (repeat' (first | with_reducible exact h0 | with_reducible exact h3 | ((with_reducible apply Cv.r_asm); with_reducible assumption) | with_reducible exact Cv.r_ok | with_reducible exact Cv.r_con | ((with_reducible apply Cv.r_var); rfl) | with_reducible apply Cv.r_two | with_reducible apply Cv.r_callF | with_reducible apply Cv.r_cons | with_reducible exact Cv.r_nil | with_reducible apply Cv.r_row | with_reducible apply Cv.r_one | with_reducible apply Cv.r_and | with_reducible apply Cv.r_or | with_reducible apply Cv.r_ite | with_reducible apply Cv.r_t | with_reducible apply Cv.r_not | with_reducible exact Cv.r_trb | with_reducible apply Cv.r_seq | with_reducible apply Cv.r_then_nx | with_reducible exact Cv.r_then_rt | with_reducible exact Cv.r_then_bk | with_reducible exact Cv.r_then_ct | with_reducible exact Cv.r_then_exn | with_reducible apply Cv.r_if | with_reducible apply Cv.r_set | with_reducible apply Cv.r_par | with_reducible exact Cv.r_nx | with_reducible exact Cv.r_fl | with_reducible apply Cv.r_exp | with_reducible apply Cv.r_ss | with_reducible exact Cv.r_sz | ((with_reducible apply Cv.r_T); focus (first | rfl | assumption | omega | (simp only [*, decide_true, decide_false, Bool.not_true, Bool.not_false, Bool.and_true, Bool.and_false, Bool.true_and, Bool.false_and, Bool.or_true, Bool.or_false, Bool.true_or, Bool.false_or]; done) | (simp [*]; done))) | ((with_reducible apply Cv.r_F); focus (first | rfl | assumption | omega | (simp only [*, decide_true, decide_false, Bool.not_true, Bool.not_false, Bool.and_true, Bool.and_false, Bool.true_and, Bool.false_and, Bool.or_true, Bool.or_false, Bool.true_or, Bool.false_or]; done) | (simp [*]; done))) | ((with_reducible apply Cv.r_tup); rfl) | ((with_reducible apply Cv.r_lst); rfl) | with_reducible exact Cv.r_ix0 | with_reducible exact Cv.r_ix1 | with_reducible exact Cv.r_ix2 | with_reducible exact Cv.r_add | with_reducible exact Cv.r_sub | with_reducible exact Cv.r_neg | with_reducible exact Cv.r_lt | with_reducible exact Cv.r_le | with_reducible exact Cv.r_gt | with_reducible exact Cv.r_ge | with_reducible exact Cv.r_eq | with_reducible exact Cv.r_ne | with_reducible exact Cv.r_eqB | with_reducible exact Cv.r_neB | with_reducible exact Cv.r_isB | with_reducible exact Cv.r_isnB | with_reducible exact Cv.r_subB | with_reducible apply Cv.r_ret))
  · (repeat' (first | with_reducible exact h0 | with_reducible exact h3 | ((with_reducible apply Cv.r_asm); with_reducible assumption) | with_reducible exact Cv.r_ok | with_reducible exact Cv.r_con | ((with_reducible apply Cv.r_var); rfl) | with_reducible apply Cv.r_two | with_reducible apply Cv.r_callF | with_reducible apply Cv.r_cons | with_reducible exact Cv.r_nil | with_reducible apply Cv.r_row | with_reducible apply Cv.r_one | with_reducible apply Cv.r_and | with_reducible apply Cv.r_or | with_reducible apply Cv.r_ite | with_reducible apply Cv.r_t | with_reducible apply Cv.r_not | with_reducible exact Cv.r_trb | with_reducible apply Cv.r_seq | with_reducible apply Cv.r_then_nx | with_reducible exact Cv.r_then_rt | with_reducible exact Cv.r_then_bk | with_reducible exact Cv.r_then_ct | with_reducible exact Cv.r_then_exn | with_reducible apply Cv.r_if | with_reducible apply Cv.r_set | with_reducible apply Cv.r_par | with_reducible exact Cv.r_nx | with_reducible exact Cv.r_fl | with_reducible apply Cv.r_exp | with_reducible apply Cv.r_ss | with_reducible exact Cv.r_sz | ((with_reducible apply Cv.r_T); focus (first | rfl | assumption | omega | (simp only [*, decide_true, decide_false, Bool.not_true, Bool.not_false, Bool.and_true, Bool.and_false, Bool.true_and, Bool.false_and, Bool.or_true, Bool.or_false, Bool.true_or, Bool.false_or]; done) | (simp [*]; done))) | ((with_reducible apply Cv.r_F); focus (first | rfl | assumption | omega | (simp only [*, decide_true, decide_false, Bool.not_true, Bool.not_false, Bool.and_true, Bool.and_false, Bool.true_and, Bool.false_and, Bool.or_true, Bool.or_false, Bool.true_or, Bool.false_or]; done) | (simp [*]; done))) | ((with_reducible apply Cv.r_tup); rfl) | ((with_reducible apply Cv.r_lst); rfl) | with_reducible exact Cv.r_ix0 | with_reducible exact Cv.r_ix1 | with_reducible exact Cv.r_ix2 | with_reducible exact Cv.r_add | with_reducible exact Cv.r_sub | with_reducible exact Cv.r_neg | with_reducible exact Cv.r_lt | with_reducible exact Cv.r_le | with_reducible exact Cv.r_gt | with_reducible exact Cv.r_ge | with_reducible exact Cv.r_eq | with_reducible exact Cv.r_ne | with_reducible exact Cv.r_eqB | with_reducible exact Cv.r_neB | with_reducible exact Cv.r_isB | with_reducible exact Cv.r_isnB | with_reducible exact Cv.r_subB | with_reducible apply Cv.r_ret))
open Classical in
theorem on_edge_ok [QP k a] [QP l b] [QP m c] (h : k + l + m < 40) : ∃ s, f__law_on_edge cap [pt c, pt a, pt b] st = .ok (.bl (decide (btw a b c))) s ∧ Ext st s := by
  have e0 : f__law_on_edge cap [pt c, pt a, pt b] st = endDef (m__law_on_edge cap [some (pt c), some (pt a), some (pt b), none, none] st) := by
    rw [ev__law_on_edge]
    exact if_pos ⟨rfl, by decide⟩
  rw [e0, on_edge_eq]
  by_cases hc : crs a b c = 0
  · have n0 : (crs a b c).num = 0 := by rw [hc]; rfl
    obtain ⟨s1, d, j0, j1, e1, x1, h1, h2, h3⟩ := spans_ok (cap := cap) (st := st) (a := a) (b := b) (p' := c) (t := none) (by omega) (η := [some (pt c), some (pt a), some (pt b), none, none]) rfl
    have o : ∃ s2, eLc (eOut cap) (.nm 4) (fun _ st => .ok true st) iK [4] [some (pt c), some (pt a), some (pt b), some (.loc d), none] s1 = .ok (.loc s1.length) s2 ∧ Ext s1 s2 ∧ s2[s1.length]? = some (.lst [.bl (!decide (inB a.1 b.1 c.1)), .bl (!decide (inB a.2 b.2 c.2))]) := by
      refine lc_ext iK_eq (src_items fun s e => rfl) (.cons (fun s e => ?_) (.cons (fun s e => ?_) .nil)) (by simp)
      · refine ⟨[some (pt c), some (pt a), some (pt b), some (.loc d), some (.int 0)], s, rfl, out_ok (sp := j0) (by omega) ?_ ?_ (e _ _ h2), .refl⟩
        · (repeat' (first | ((with_reducible apply Cv.r_asm); with_reducible assumption) | with_reducible exact Cv.r_ok | with_reducible exact Cv.r_con | ((with_reducible apply Cv.r_var); rfl) | with_reducible apply Cv.r_two | with_reducible apply Cv.r_callF | with_reducible apply Cv.r_cons | with_reducible exact Cv.r_nil | with_reducible apply Cv.r_row | with_reducible apply Cv.r_one | with_reducible apply Cv.r_and | with_reducible apply Cv.r_or | with_reducible apply Cv.r_ite | with_reducible apply Cv.r_t | with_reducible apply Cv.r_not | with_reducible exact Cv.r_trb | with_reducible apply Cv.r_seq | with_reducible apply Cv.r_then_nx | with_reducible exact Cv.r_then_rt | with_reducible exact Cv.r_then_bk | with_reducible exact Cv.r_then_ct | with_reducible exact Cv.r_then_exn | with_reducible apply Cv.r_if | with_reducible apply Cv.r_set | with_reducible apply Cv.r_par | with_reducible exact Cv.r_nx | with_reducible exact Cv.r_fl | with_reducible apply Cv.r_exp | with_reducible apply Cv.r_ss | with_reducible exact Cv.r_sz | ((with_reducible apply Cv.r_T); focus (first | rfl | assumption | omega | (simp only [*, decide_true, decide_false, Bool.not_true, Bool.not_false, Bool.and_true, Bool.and_false, Bool.true_and, Bool.false_and, Bool.or_true, Bool.or_false, Bool.true_or, Bool.false_or]; done) | (simp [*]; done))) | ((with_reducible apply Cv.r_F); focus (first | rfl | assumption | omega | (simp only [*, decide_true, decide_false, Bool.not_true, Bool.not_false, Bool.and_true, Bool.and_false, Bool.true_and, Bool.false_and, Bool.or_true, Bool.or_false, Bool.true_or, Bool.false_or]; done) | (simp [*]; done))) | ((with_reducible apply Cv.r_tup); rfl) | ((with_reducible apply Cv.r_lst); rfl) | with_reducible exact Cv.r_ix0 | with_reducible exact Cv.r_ix1 | with_reducible exact Cv.r_ix2 | with_reducible exact Cv.r_add | with_reducible exact Cv.r_sub | with_reducible exact Cv.r_neg | with_reducible exact Cv.r_lt | with_reducible exact Cv.r_le | with_reducible exact Cv.r_gt | with_reducible exact Cv.r_ge | with_reducible exact Cv.r_eq | with_reducible exact Cv.r_ne | with_reducible exact Cv.r_eqB | with_reducible exact Cv.r_neB | with_reducible exact Cv.r_isB | with_reducible exact Cv.r_isnB | with_reducible exact Cv.r_subB | with_reducible apply Cv.r_ret))
        · have g := r_lx0 (e _ _ h1)
          (repeat' (first | with_reducible exact g | ((with_reducible apply Cv.r_asm); with_reducible assumption) | with_reducible exact Cv.r_ok | with_reducible exact Cv.r_con | ((with_reducible apply Cv.r_var); rfl) | with_reducible apply Cv.r_two | with_reducible apply Cv.r_callF | with_reducible apply Cv.r_cons | with_reducible exact Cv.r_nil | with_reducible apply Cv.r_row | with_reducible apply Cv.r_one | with_reducible apply Cv.r_and | with_reducible apply Cv.r_or | with_reducible apply Cv.r_ite | with_reducible apply Cv.r_t | with_reducible apply Cv.r_not | with_reducible exact Cv.r_trb | with_reducible apply Cv.r_seq | with_reducible apply Cv.r_then_nx | with_reducible exact Cv.r_then_rt | with_reducible exact Cv.r_then_bk | with_reducible exact Cv.r_then_ct | with_reducible exact Cv.r_then_exn | with_reducible apply Cv.r_if | with_reducible apply Cv.r_set | with_reducible apply Cv.r_par | with_reducible exact Cv.r_nx | with_reducible exact Cv.r_fl | with_reducible apply Cv.r_exp | with_reducible apply Cv.r_ss | with_reducible exact Cv.r_sz | ((with_reducible apply Cv.r_T); focus (first | rfl | assumption | omega | (simp only [*, decide_true, decide_false, Bool.not_true, Bool.not_false, Bool.and_true, Bool.and_false, Bool.true_and, Bool.false_and, Bool.or_true, Bool.or_false, Bool.true_or, Bool.false_or]; done) | (simp [*]; done))) | ((with_reducible apply Cv.r_F); focus (first | rfl | assumption | omega | (simp only [*, decide_true, decide_false, Bool.not_true, Bool.not_false, Bool.and_true, Bool.and_false, Bool.true_and, Bool.false_and, Bool.or_true, Bool.or_false, Bool.true_or, Bool.false_or]; done) | (simp [*]; done))) | ((with_reducible apply Cv.r_tup); rfl) | ((with_reducible apply Cv.r_lst); rfl) | with_reducible exact Cv.r_ix0 | with_reducible exact Cv.r_ix1 | with_reducible exact Cv.r_ix2 | with_reducible exact Cv.r_add | with_reducible exact Cv.r_sub | with_reducible exact Cv.r_neg | with_reducible exact Cv.r_lt | with_reducible exact Cv.r_le | with_reducible exact Cv.r_gt | with_reducible exact Cv.r_ge | with_reducible exact Cv.r_eq | with_reducible exact Cv.r_ne | with_reducible exact Cv.r_eqB | with_reducible exact Cv.r_neB | with_reducible exact Cv.r_isB | with_reducible exact Cv.r_isnB | with_reducible exact Cv.r_subB | with_reducible apply Cv.r_ret))
      · refine ⟨[some (pt c), some (pt a), some (pt b), some (.loc d), some (.int 1)], s, rfl, out_ok (sp := j1) (by omega) ?_ ?_ (e _ _ h3), .refl⟩
        · (repeat' (first | ((with_reducible apply Cv.r_asm); with_reducible assumption) | with_reducible exact Cv.r_ok | with_reducible exact Cv.r_con | ((with_reducible apply Cv.r_var); rfl) | with_reducible apply Cv.r_two | with_reducible apply Cv.r_callF | with_reducible apply Cv.r_cons | with_reducible exact Cv.r_nil | with_reducible apply Cv.r_row | with_reducible apply Cv.r_one | with_reducible apply Cv.r_and | with_reducible apply Cv.r_or | with_reducible apply Cv.r_ite | with_reducible apply Cv.r_t | with_reducible apply Cv.r_not | with_reducible exact Cv.r_trb | with_reducible apply Cv.r_seq | with_reducible apply Cv.r_then_nx | with_reducible exact Cv.r_then_rt | with_reducible exact Cv.r_then_bk | with_reducible exact Cv.r_then_ct | with_reducible exact Cv.r_then_exn | with_reducible apply Cv.r_if | with_reducible apply Cv.r_set | with_reducible apply Cv.r_par | with_reducible exact Cv.r_nx | with_reducible exact Cv.r_fl | with_reducible apply Cv.r_exp | with_reducible apply Cv.r_ss | with_reducible exact Cv.r_sz | ((with_reducible apply Cv.r_T); focus (first | rfl | assumption | omega | (simp only [*, decide_true, decide_false, Bool.not_true, Bool.not_false, Bool.and_true, Bool.and_false, Bool.true_and, Bool.false_and, Bool.or_true, Bool.or_false, Bool.true_or, Bool.false_or]; done) | (simp [*]; done))) | ((with_reducible apply Cv.r_F); focus (first | rfl | assumption | omega | (simp only [*, decide_true, decide_false, Bool.not_true, Bool.not_false, Bool.and_true, Bool.and_false, Bool.true_and, Bool.false_and, Bool.or_true, Bool.or_false, Bool.true_or, Bool.false_or]; done) | (simp [*]; done))) | ((with_reducible apply Cv.r_tup); rfl) | ((with_reducible apply Cv.r_lst); rfl) | with_reducible exact Cv.r_ix0 | with_reducible exact Cv.r_ix1 | with_reducible exact Cv.r_ix2 | with_reducible exact Cv.r_add | with_reducible exact Cv.r_sub | with_reducible exact Cv.r_neg | with_reducible exact Cv.r_lt | with_reducible exact Cv.r_le | with_reducible exact Cv.r_gt | with_reducible exact Cv.r_ge | with_reducible exact Cv.r_eq | with_reducible exact Cv.r_ne | with_reducible exact Cv.r_eqB | with_reducible exact Cv.r_neB | with_reducible exact Cv.r_isB | with_reducible exact Cv.r_isnB | with_reducible exact Cv.r_subB | with_reducible apply Cv.r_ret))
        · have g := r_lx1 (e _ _ h1)
          (repeat' (first | with_reducible exact g | ((with_reducible apply Cv.r_asm); with_reducible assumption) | with_reducible exact Cv.r_ok | with_reducible exact Cv.r_con | ((with_reducible apply Cv.r_var); rfl) | with_reducible apply Cv.r_two | with_reducible apply Cv.r_callF | with_reducible apply Cv.r_cons | with_reducible exact Cv.r_nil | with_reducible apply Cv.r_row | with_reducible apply Cv.r_one | with_reducible apply Cv.r_and | with_reducible apply Cv.r_or | with_reducible apply Cv.r_ite | with_reducible apply Cv.r_t | with_reducible apply Cv.r_not | with_reducible exact Cv.r_trb | with_reducible apply Cv.r_seq | with_reducible apply Cv.r_then_nx | with_reducible exact Cv.r_then_rt | with_reducible exact Cv.r_then_bk | with_reducible exact Cv.r_then_ct | with_reducible exact Cv.r_then_exn | with_reducible apply Cv.r_if | with_reducible apply Cv.r_set | with_reducible apply Cv.r_par | with_reducible exact Cv.r_nx | with_reducible exact Cv.r_fl | with_reducible apply Cv.r_exp | with_reducible apply Cv.r_ss | with_reducible exact Cv.r_sz | ((with_reducible apply Cv.r_T); focus (first | rfl | assumption | omega | (simp only [*, decide_true, decide_false, Bool.not_true, Bool.not_false, Bool.and_true, Bool.and_false, Bool.true_and, Bool.false_and, Bool.or_true, Bool.or_false, Bool.true_or, Bool.false_or]; done) | (simp [*]; done))) | ((with_reducible apply Cv.r_F); focus (first | rfl | assumption | omega | (simp only [*, decide_true, decide_false, Bool.not_true, Bool.not_false, Bool.and_true, Bool.and_false, Bool.true_and, Bool.false_and, Bool.or_true, Bool.or_false, Bool.true_or, Bool.false_or]; done) | (simp [*]; done))) | ((with_reducible apply Cv.r_tup); rfl) | ((with_reducible apply Cv.r_lst); rfl) | with_reducible exact Cv.r_ix0 | with_reducible exact Cv.r_ix1 | with_reducible exact Cv.r_ix2 | with_reducible exact Cv.r_add | with_reducible exact Cv.r_sub | with_reducible exact Cv.r_neg | with_reducible exact Cv.r_lt | with_reducible exact Cv.r_le | with_reducible exact Cv.r_gt | with_reducible exact Cv.r_ge | with_reducible exact Cv.r_eq | with_reducible exact Cv.r_ne | with_reducible exact Cv.r_eqB | with_reducible exact Cv.r_neB | with_reducible exact Cv.r_isB | with_reducible exact Cv.r_isnB | with_reducible exact Cv.r_subB | with_reducible apply Cv.r_ret))
    obtain ⟨s2, e2, x2, h4⟩ := o
    refine ⟨s2, ?_, x1.trans x2⟩
    have al := r_anyL (bs := [!decide (inB a.1 b.1 c.1), !decide (inB a.2 b.2 c.2)]) h4 rfl
    have eb : decide (btw a b c) = !([!decide (inB a.1 b.1 c.1), !decide (inB a.2 b.2 c.2)].any id) := by
      have z : btw a b c ↔ inB a.1 b.1 c.1 ∧ inB a.2 b.2 c.2 := by rw [btw_iff]; simp [hc]
      rw [decide_eq_decide.mpr z, Bool.decide_and]
      cases decide (inB a.1 b.1 c.1) <;> cases decide (inB a.2 b.2 c.2) <;> rfl
    rw [eb]
    have tu := lturn_of_ok (cap := cap) (st := st) (a := a) (b := b) (c := c) (by omega)
    rw [n0] at tu
    apply r_end
    (repeat' (first | with_reducible exact tu | with_reducible exact e1 | with_reducible exact e2 | with_reducible exact al | ((with_reducible apply Cv.r_asm); with_reducible assumption) | with_reducible exact Cv.r_ok | with_reducible exact Cv.r_con | ((with_reducible apply Cv.r_var); rfl) | with_reducible apply Cv.r_two | with_reducible apply Cv.r_callF | with_reducible apply Cv.r_cons | with_reducible exact Cv.r_nil | with_reducible apply Cv.r_row | with_reducible apply Cv.r_one | with_reducible apply Cv.r_and | with_reducible apply Cv.r_or | with_reducible apply Cv.r_ite | with_reducible apply Cv.r_t | with_reducible apply Cv.r_not | with_reducible exact Cv.r_trb | with_reducible apply Cv.r_seq | with_reducible apply Cv.r_then_nx | with_reducible exact Cv.r_then_rt | with_reducible exact Cv.r_then_bk | with_reducible exact Cv.r_then_ct | with_reducible exact Cv.r_then_exn | with_reducible apply Cv.r_if | with_reducible apply Cv.r_set | with_reducible apply Cv.r_par | with_reducible exact Cv.r_nx | with_reducible exact Cv.r_fl | with_reducible apply Cv.r_exp | with_reducible apply Cv.r_ss | with_reducible exact Cv.r_sz | ((with_reducible apply Cv.r_T); focus (first | rfl | assumption | omega | (simp only [*, decide_true, decide_false, Bool.not_true, Bool.not_false, Bool.and_true, Bool.and_false, Bool.true_and, Bool.false_and, Bool.or_true, Bool.or_false, Bool.true_or, Bool.false_or]; done) | (simp [*]; done))) | ((with_reducible apply Cv.r_F); focus (first | rfl | assumption | omega | (simp only [*, decide_true, decide_false, Bool.not_true, Bool.not_false, Bool.and_true, Bool.and_false, Bool.true_and, Bool.false_and, Bool.or_true, Bool.or_false, Bool.true_or, Bool.false_or]; done) | (simp [*]; done))) | ((with_reducible apply Cv.r_tup); rfl) | ((with_reducible apply Cv.r_lst); rfl) | with_reducible exact Cv.r_ix0 | with_reducible exact Cv.r_ix1 | with_reducible exact Cv.r_ix2 | with_reducible exact Cv.r_add | with_reducible exact Cv.r_sub | with_reducible exact Cv.r_neg | with_reducible exact Cv.r_lt | with_reducible exact Cv.r_le | with_reducible exact Cv.r_gt | with_reducible exact Cv.r_ge | with_reducible exact Cv.r_eq | with_reducible exact Cv.r_ne | with_reducible exact Cv.r_eqB | with_reducible exact Cv.r_neB | with_reducible exact Cv.r_isB | with_reducible exact Cv.r_isnB | with_reducible exact Cv.r_subB | with_reducible apply Cv.r_ret))
  · have n0 : ¬ (crs a b c).num = 0 := fun z => hc (Rat.num_eq_zero.mp z)
    refine ⟨st, ?_, .refl⟩
    have eb : decide (btw a b c) = false := decide_eq_false fun z => hc z.1
    rw [eb]
    have tu := lturn_of_ok (cap := cap) (st := st) (a := a) (b := b) (c := c) (by omega)
    apply r_end
    (repeat' (first | with_reducible exact tu | ((with_reducible apply Cv.r_asm); with_reducible assumption) | with_reducible exact Cv.r_ok | with_reducible exact Cv.r_con | ((with_reducible apply Cv.r_var); rfl) | with_reducible apply Cv.r_two | with_reducible apply Cv.r_callF | with_reducible apply Cv.r_cons | with_reducible exact Cv.r_nil | with_reducible apply Cv.r_row | with_reducible apply Cv.r_one | with_reducible apply Cv.r_and | with_reducible apply Cv.r_or | with_reducible apply Cv.r_ite | with_reducible apply Cv.r_t | with_reducible apply Cv.r_not | with_reducible exact Cv.r_trb | with_reducible apply Cv.r_seq | with_reducible apply Cv.r_then_nx | with_reducible exact Cv.r_then_rt | with_reducible exact Cv.r_then_bk | with_reducible exact Cv.r_then_ct | with_reducible exact Cv.r_then_exn | with_reducible apply Cv.r_if | with_reducible apply Cv.r_set | with_reducible apply Cv.r_par | with_reducible exact Cv.r_nx | with_reducible exact Cv.r_fl | with_reducible apply Cv.r_exp | with_reducible apply Cv.r_ss | with_reducible exact Cv.r_sz | ((with_reducible apply Cv.r_T); focus (first | rfl | assumption | omega | (simp only [*, decide_true, decide_false, Bool.not_true, Bool.not_false, Bool.and_true, Bool.and_false, Bool.true_and, Bool.false_and, Bool.or_true, Bool.or_false, Bool.true_or, Bool.false_or]; done) | (simp [*]; done))) | ((with_reducible apply Cv.r_F); focus (first | rfl | assumption | omega | (simp only [*, decide_true, decide_false, Bool.not_true, Bool.not_false, Bool.and_true, Bool.and_false, Bool.true_and, Bool.false_and, Bool.or_true, Bool.or_false, Bool.true_or, Bool.false_or]; done) | (simp [*]; done))) | ((with_reducible apply Cv.r_tup); rfl) | ((with_reducible apply Cv.r_lst); rfl) | with_reducible exact Cv.r_ix0 | with_reducible exact Cv.r_ix1 | with_reducible exact Cv.r_ix2 | with_reducible exact Cv.r_add | with_reducible exact Cv.r_sub | with_reducible exact Cv.r_neg | with_reducible exact Cv.r_lt | with_reducible exact Cv.r_le | with_reducible exact Cv.r_gt | with_reducible exact Cv.r_ge | with_reducible exact Cv.r_eq | with_reducible exact Cv.r_ne | with_reducible exact Cv.r_eqB | with_reducible exact Cv.r_neB | with_reducible exact Cv.r_isB | with_reducible exact Cv.r_isnB | with_reducible exact Cv.r_subB | with_reducible apply Cv.r_ret))
end
end Cut
namespace Cut
open PySem PySem.Spec PyProof.Rows L2 Cv
def PenS (st : Sto) (n m : Nat) (xs : List Int) (c : Int) : Prop := ∃ a d f, Pen st n m xs a d c f
def Keep (st st' : Sto) (n : Nat) : Prop := ∀ k x, k ≠ n → st[k]? = some x → st'[k]? = some x
section
variable {st st' st2 : Sto} {n m : Nat} {xs : List Int} {c many : Int} {cap : Cap}
theorem Keep.refl : Keep st st n := fun _ _ _ h => h
theorem Keep.trans (a : Keep st st' n) (b : Keep st' st2 n) : Keep st st2 n := fun k x h e => b k x h (a k x h e)
theorem Keep.push {o : SO} : Keep st (st ++ [o]) n := fun k x _ h => by
  rw [List.getElem?_append_left (List.getElem?_eq_some_iff.mp h).1]; exact h
theorem PenS.push {o : SO} (P : PenS st n m xs c) : PenS (st ++ [o]) n m xs c := by
  obtain ⟨a, d, f, P⟩ := P
  refine ⟨a, d, f, ?_, ?_, P.a0, P.d0, P.c0, P.f0, P.f1⟩
  · rw [List.getElem?_append_left P.lt]; exact P.hn
  · rw [List.getElem?_append_left (List.getElem?_eq_some_iff.mp P.hm).1]; exact P.hm
theorem PenS.c0 (P : PenS st n m xs c) : 0 ≤ c := let ⟨_, _, _, P⟩ := P; P.c0
theorem PenS.lt (P : PenS st n m xs c) : n < st.length := let ⟨_, _, _, P⟩ := P; P.lt
theorem draw_S (P : PenS st n m xs c) (h1 : 1 ≤ many) (h2 : many < 1073741824) (hc : c < 1000000) : ∃ z st', 0 ≤ z ∧ z < many ∧ f__law_draw cap [.loc n, .int many] st = .ok (.int z) st' ∧ PenS st' n m xs (c + 1) ∧ Keep st st' n := by
  obtain ⟨a, d, f, P⟩ := P
  obtain ⟨z, a', d', f', z0, z1, e, a0, d0, f0, f1⟩ := draw_ok (cap := cap) P h1 h2 (by omega)
  have c0 := P.c0
  exact ⟨z, _, z0, z1, e, ⟨a', d', f', P.set a0 d0 (by omega) f0 f1⟩, fun k x h q => by rw [List.getElem?_set_ne (Ne.symm h)]; exact q⟩
theorem pick_S {k : Nat} {ys : List PV} (P : PenS st n m xs c) (hk : st[k]? = some (.lst ys)) (kn : k ≠ n) (hy : ys ≠ []) (hl : ys.length < 1000) (hc : c < 1000000) : ∃ y st', y ∈ ys ∧ f__law_pick cap [.loc n, .loc k] st = .ok y st' ∧ PenS st' n m xs (c + 1) ∧ Keep st st' n := by
  have l0 : 0 < ys.length := List.length_pos_iff.mpr hy
  obtain ⟨z, st', z0, z1, e, P', K⟩ := draw_S (cap := cap) (many := (ys.length : Nat)) P (by omega) (by omega) hc
  have hk' := K k _ kn hk
  have lt : z.toNat < ys.length := by omega
  refine ⟨ys[z.toNat], st', List.getElem_mem lt, ?_, P', K⟩
  rw [ev__law_pick]
  show endDef (m__law_pick cap [some (.loc n), some (.loc k)] st) = _
  exact congrArg endDef (seq_rt (ret_eq (by
    rw [two_eq (p := .loc k) (q := .int z) (st' := st) (st2 := st') (var_eq rfl) (by
      rw [callF2_eq (p := .loc n) (q := .int (ys.length : Nat)) (st1 := st) (st2 := st) (var_eq rfl) ((row1_eq (var_eq rfl)).trans (r_lenL hk))]
      exact e)]
    have ei : items st' (.loc k) = some ys := by
      show (match st'[k]? with | some (.lst xs) => some xs | _ => none) = _
      rw [hk']
    have ea : atI ys z = some ys[z.toNat] := by
      unfold atI L2.ixN
      rw [if_pos z0, if_pos (by omega)]
      simp [List.getElem?_eq_getElem lt]
    show (match items st' (.loc k) with | some xs => rb (atI xs z) st' | none => dIdx (.loc k) (.inl z) st') = _
    rw [ei]
    show rb (atI ys z) st' = _
    rw [ea]
    rfl)))
end
/-- lists stay -/
def LE (st s : Sto) : Prop := ∀ (k : Nat) (xs : List PV), st[k]? = some (.lst xs) → s[k]? = some (.lst xs)
/-- the pen, at most B draws done -/
def PB (st : Sto) (n m : Nat) (xs : List Int) (B : Nat) : Prop := ∃ c : Int, c ≤ B ∧ PenS st n m xs c
section
variable {st s s1 s2 : Sto} {n m : Nat} {xs : List Int} {B C : Nat} {cap : Cap} {p : PV} {x : Rat} {a : Pt}
theorem LE.refl : LE st st := fun _ _ h => h
theorem LE.trans (a : LE st s) (b : LE s s2) : LE st s2 := fun k ys h => b k ys (a k ys h)
theorem LE.ext (e : Ext st s) : LE st s := fun k ys h => e k _ h
theorem LE.push {l : List SO} : LE st (st ++ l) := .ext Ext.push
theorem LE.set {d : Nat} {o : SO} (a : LE st s) (h : st.length ≤ d) : LE st (s.set d o) := fun k ys e => by
  have := (List.getElem?_eq_some_iff.mp e).1
  rw [List.getElem?_set_ne (by omega)]
  exact a k ys e
theorem PB.up (P : PB st n m xs B) (h : B ≤ C) : PB st n m xs C := let ⟨c, h1, P⟩ := P; ⟨c, by omega, P⟩
theorem PB.ext (P : PB st n m xs B) (e : Ext st s) : PB s n m xs B := by
  obtain ⟨c, h1, a, d, f, P⟩ := P
  exact ⟨c, h1, a, d, f, e _ _ P.hn, e _ _ P.hm, P.a0, P.d0, P.c0, P.f0, P.f1⟩
theorem PB.push {l : List SO} (P : PB st n m xs B) : PB (st ++ l) n m xs B := P.ext Ext.push
theorem PB.lt (P : PB st n m xs B) : n < st.length ∧ m < st.length := by
  obtain ⟨c, h1, a, d, f, P⟩ := P
  exact ⟨(List.getElem?_eq_some_iff.mp P.hn).1, (List.getElem?_eq_some_iff.mp P.hm).1⟩
theorem PB.set {d : Nat} {o : SO} (P : PB st n m xs B) (h : d ≠ n ∧ d ≠ m) : PB (st.set d o) n m xs B := by
  obtain ⟨c, h1, a, d', f, P⟩ := P
  exact ⟨c, h1, a, d', f, by rw [List.getElem?_set_ne h.1]; exact P.hn, by rw [List.getElem?_set_ne h.2]; exact P.hm, P.a0, P.d0, P.c0, P.f0, P.f1⟩
theorem PB.keep (P : PB st n m xs B) (K : Keep st s n) : LE st s := fun k ys h => by
  obtain ⟨c, h1, a, d, f, P⟩ := P
  refine K k _ (fun e => ?_) h
  have := P.hn
  rw [← e, h] at this
  cases this
theorem draw_B {many : Int} (P : PB st n m xs B) (hB : B < 900000) (h1 : 1 ≤ many) (h2 : many < 1000000) : ∃ z s, 0 ≤ z ∧ z < many ∧ f__law_draw cap [.loc n, .int many] st = .ok (.int z) s ∧ PB s n m xs (B + 1) ∧ LE st s := by
  obtain ⟨c, hc, P'⟩ := id P
  obtain ⟨z, s, z0, z1, e, P1, K⟩ := draw_S (cap := cap) P' h1 (by omega) (by omega)
  exact ⟨z, s, z0, z1, e, ⟨c + 1, by omega, P1⟩, P.keep K⟩
theorem pick_B {ys : List PV} (P : PB st n m xs B) (hB : B < 900000) (hy : ys ≠ []) (hl : ys.length < 1000) : ∃ y s, y ∈ ys ∧ f__law_pick cap [.loc n, .loc st.length] (st ++ [.lst ys]) = .ok y s ∧ PB s n m xs (B + 1) ∧ LE (st ++ [.lst ys]) s := by
  obtain ⟨c, hc, P'⟩ := id (P.push (l := [.lst ys]))
  obtain ⟨y, s, h1, e, P1, K⟩ := pick_S (cap := cap) (k := st.length) P' push_at (by have := P.lt; omega) hy hl (by omega)
  exact ⟨y, s, h1, e, ⟨c + 1, by omega, P1⟩, PB.keep (P.push (l := [.lst ys])) K⟩
theorem RowV.le {ys : List PV} (h : RowV st p ys) (e : LE st s) : RowV s p ys := by
  rcases h with h | ⟨i, h1, h2⟩
  · exact .inl h
  · exact .inr ⟨i, h1, e _ _ h2⟩
theorem HF.le (h : HF st p x) (e : LE st s) : HF s p x := by
  rcases h with h | ⟨k, k0, k5, h⟩
  · exact .inl h
  · exact .inr ⟨k, k0, k5, h.le e⟩
theorem HP.le (h : HP st p a) (e : LE st s) : HP s p a := let ⟨h1, h2, r, u, v⟩ := h; ⟨h1, h2, r.le e, u.le e, v.le e⟩
/-! ratios and points drawn -/
theorem ratio_B (P : PB st n m xs B) (hB : B < 800000) : ∃ x s, f__law_ratio cap [.loc n, .int 4] st = .ok (pr x) s ∧ QB 3 x ∧ PB s n m xs (B + 2) ∧ LE st s := by
  obtain ⟨z, s1, z0, z1, e1, P1, L1⟩ := draw_B (cap := cap) (many := 8 + 1) P (by omega) (by omega) (by omega)
  obtain ⟨y, s2, hy, e2, P2, L2⟩ := pick_B (cap := cap) (ys := [.int 1, .int 1, .int 1, .int 2, .int 3]) P1 (by omega) (by simp) (by simp)
  obtain ⟨k, rfl, k0, k3⟩ : ∃ k : Nat, y = .int k ∧ 0 < k ∧ k ≤ 3 := by
    simp at hy
    rcases hy with rfl | rfl | rfl
    · exact ⟨1, rfl, by omega, by omega⟩
    · exact ⟨2, rfl, by omega, by omega⟩
    · exact ⟨3, rfl, by omega, by omega⟩
  have q := q_ok (cap := cap) (st := s2) (t := z - 4) (b := k) (by omega) (Nat.lt_of_le_of_lt k3 (by decide))
  refine ⟨mkRat (z - 4) k, s2, ?_, qb_mk (by omega) (by omega) (by omega), P2, (L1.trans LE.push).trans L2⟩
  have m24 : binOp .mul (.int 2) (.int 4) st = .ok (.int 8) st := by kernel_rfl
  (rw [ev__law_ratio]; dsimp only [start', List.map, List.length_cons, List.length_nil, List.replicate, List.cons_append, List.nil_append, Nat.reduceAdd, Nat.reduceSub, Nat.zero_add]; refine (if_pos ⟨rfl, by decide⟩).trans ?_; unfold m__law_ratio; apply Cv.r_end; (repeat' (first | with_reducible exact m24 | ((with_reducible apply Cv.r_asm); with_reducible assumption) | with_reducible exact Cv.r_ok | with_reducible exact Cv.r_con | ((with_reducible apply Cv.r_var); rfl) | with_reducible apply Cv.r_two | with_reducible apply Cv.r_callF | with_reducible apply Cv.r_cons | with_reducible exact Cv.r_nil | with_reducible apply Cv.r_row | with_reducible apply Cv.r_one | with_reducible apply Cv.r_and | with_reducible apply Cv.r_or | with_reducible apply Cv.r_ite | with_reducible apply Cv.r_t | with_reducible apply Cv.r_not | with_reducible exact Cv.r_trb | with_reducible apply Cv.r_seq | with_reducible apply Cv.r_then_nx | with_reducible exact Cv.r_then_rt | with_reducible exact Cv.r_then_bk | with_reducible exact Cv.r_then_ct | with_reducible exact Cv.r_then_exn | with_reducible apply Cv.r_if | with_reducible apply Cv.r_set | with_reducible apply Cv.r_par | with_reducible exact Cv.r_nx | with_reducible exact Cv.r_fl | with_reducible apply Cv.r_exp | with_reducible apply Cv.r_ss | with_reducible exact Cv.r_sz | ((with_reducible apply Cv.r_T); focus (first | rfl | assumption | omega | (simp only [*, decide_true, decide_false, Bool.not_true, Bool.not_false, Bool.and_true, Bool.and_false, Bool.true_and, Bool.false_and, Bool.or_true, Bool.or_false, Bool.true_or, Bool.false_or]; done) | (simp [*]; done))) | ((with_reducible apply Cv.r_F); focus (first | rfl | assumption | omega | (simp only [*, decide_true, decide_false, Bool.not_true, Bool.not_false, Bool.and_true, Bool.and_false, Bool.true_and, Bool.false_and, Bool.or_true, Bool.or_false, Bool.true_or, Bool.false_or]; done) | (simp [*]; done))) | ((with_reducible apply Cv.r_tup); rfl) | ((with_reducible apply Cv.r_lst); rfl) | with_reducible exact Cv.r_ix0 | with_reducible exact Cv.r_ix1 | with_reducible exact Cv.r_ix2 | with_reducible exact Cv.r_add | with_reducible exact Cv.r_sub | with_reducible exact Cv.r_neg | with_reducible exact Cv.r_lt | with_reducible exact Cv.r_le | with_reducible exact Cv.r_gt | with_reducible exact Cv.r_ge | with_reducible exact Cv.r_eq | with_reducible exact Cv.r_ne | with_reducible exact Cv.r_eqB | with_reducible exact Cv.r_neB | with_reducible exact Cv.r_isB | with_reducible exact Cv.r_isnB | with_reducible exact Cv.r_subB | with_reducible apply Cv.r_ret)))
theorem free_B (P : PB st n m xs B) (hB : B < 700000) : ∃ a s, f__law_free_point cap [.loc n] st = .ok (pt a) s ∧ QP 3 a ∧ PB s n m xs (B + 4) ∧ LE st s := by
  obtain ⟨x, s1, e1, q1, P1, L1⟩ := ratio_B (cap := cap) P (by omega)
  obtain ⟨y, s2, e2, q2, P2, L2⟩ := ratio_B (cap := cap) P1 (by omega)
  exact ⟨(x, y), s2, by (rw [ev__law_free_point]; dsimp only [start', List.map, List.length_cons, List.length_nil, List.replicate, List.cons_append, List.nil_append, Nat.reduceAdd, Nat.reduceSub, Nat.zero_add]; refine (if_pos ⟨rfl, by decide⟩).trans ?_; unfold m__law_free_point; apply Cv.r_end; (repeat' (first | ((with_reducible apply Cv.r_asm); with_reducible assumption) | with_reducible exact Cv.r_ok | with_reducible exact Cv.r_con | ((with_reducible apply Cv.r_var); rfl) | with_reducible apply Cv.r_two | with_reducible apply Cv.r_callF | with_reducible apply Cv.r_cons | with_reducible exact Cv.r_nil | with_reducible apply Cv.r_row | with_reducible apply Cv.r_one | with_reducible apply Cv.r_and | with_reducible apply Cv.r_or | with_reducible apply Cv.r_ite | with_reducible apply Cv.r_t | with_reducible apply Cv.r_not | with_reducible exact Cv.r_trb | with_reducible apply Cv.r_seq | with_reducible apply Cv.r_then_nx | with_reducible exact Cv.r_then_rt | with_reducible exact Cv.r_then_bk | with_reducible exact Cv.r_then_ct | with_reducible exact Cv.r_then_exn | with_reducible apply Cv.r_if | with_reducible apply Cv.r_set | with_reducible apply Cv.r_par | with_reducible exact Cv.r_nx | with_reducible exact Cv.r_fl | with_reducible apply Cv.r_exp | with_reducible apply Cv.r_ss | with_reducible exact Cv.r_sz | ((with_reducible apply Cv.r_T); focus (first | rfl | assumption | omega | (simp only [*, decide_true, decide_false, Bool.not_true, Bool.not_false, Bool.and_true, Bool.and_false, Bool.true_and, Bool.false_and, Bool.or_true, Bool.or_false, Bool.true_or, Bool.false_or]; done) | (simp [*]; done))) | ((with_reducible apply Cv.r_F); focus (first | rfl | assumption | omega | (simp only [*, decide_true, decide_false, Bool.not_true, Bool.not_false, Bool.and_true, Bool.and_false, Bool.true_and, Bool.false_and, Bool.or_true, Bool.or_false, Bool.true_or, Bool.false_or]; done) | (simp [*]; done))) | ((with_reducible apply Cv.r_tup); rfl) | ((with_reducible apply Cv.r_lst); rfl) | with_reducible exact Cv.r_ix0 | with_reducible exact Cv.r_ix1 | with_reducible exact Cv.r_ix2 | with_reducible exact Cv.r_add | with_reducible exact Cv.r_sub | with_reducible exact Cv.r_neg | with_reducible exact Cv.r_lt | with_reducible exact Cv.r_le | with_reducible exact Cv.r_gt | with_reducible exact Cv.r_ge | with_reducible exact Cv.r_eq | with_reducible exact Cv.r_ne | with_reducible exact Cv.r_eqB | with_reducible exact Cv.r_neB | with_reducible exact Cv.r_isB | with_reducible exact Cv.r_isnB | with_reducible exact Cv.r_subB | with_reducible apply Cv.r_ret))), ⟨q1, q2⟩, P2, L1.trans L2⟩
end
end Cut
namespace Cut
open PySem PySem.Spec PyProof.Rows L2 Cv
/-! ### values handed -/
section
variable {st s s1 s2 : Sto} {n m k : Nat} {xs : List Int} {B C : Nat} {cap : Cap} {p : PV} {x : Rat} {a b : Pt}
def hTail (cap : Cap) : Sv := sSeq (sAsg (evCallF (eCons (eVar 0) (eCons (eRow (eCons (eCon (.int 1)) (eCons (eCon (.int 1)) (eCons (eCon (.int 2)) (eCons (eCon (.int 5)) eNil)))) mkLst) eNil)) (fun _ => cap) f__law_pick) (.nm 2))
  (sSeq (sRet (evCallF (eCons (eVar 0) (eCons (eRow (eCons (eRow (eCons (two (two (eVar 1) (eCon (.int 0)) idxOp) (eVar 2) (binOp .mul)) (eCons (two (two (eVar 1) (eCon (.int 1)) idxOp) (eVar 2) (binOp .mul)) eNil)) mkTup) (eCons (eRow (eCons (two (two (eVar 1) (eCon (.int 0)) idxOp) (eVar 2) (binOp .mul)) (eCons (two (two (eVar 1) (eCon (.int 1)) idxOp) (eVar 2) (binOp .mul)) eNil)) mkLst) eNil)) mkLst) eNil)) (fun _ => cap) f__law_pick))
  sNx)
theorem handed_eq : m__law_handed cap = sSeq (sIf (eAnd (two (two (eVar 1) (eCon (.int 1)) idxOp) (eCon (.int 1)) (cmpOp .eq)) (two (evCallF (eCons (eVar 0) (eCons (eCon (.int 2)) eNil)) (fun _ => cap) f__law_draw) (eCon (.int 0)) (cmpOp .eq))) (sSeq (sRet (two (eVar 1) (eCon (.int 0)) idxOp)) sNx) sNx) (hTail cap) := rfl
theorem tail_B [QB k x] (hk : k < 1000) (P : PB st n m xs B) (hB : B < 700000) : ∃ p s η, hTail cap [some (.loc n), some (pr x), none] st = .ok (.rt p) η s ∧ HF s p x ∧ PB s n m xs (B + 2) ∧ LE st s := by
  obtain ⟨y, s1, hy, e1, P1, L1⟩ := pick_B (cap := cap) (ys := [.int 1, .int 1, .int 2, .int 5]) P (by omega) (by simp) (by simp)
  obtain ⟨j, rfl, j0, j5⟩ : ∃ j : Int, y = .int j ∧ 0 < j ∧ j ≤ 5 := by
    simp at hy
    rcases hy with rfl | rfl | rfl
    · exact ⟨1, rfl, by omega, by omega⟩
    · exact ⟨2, rfl, by omega, by omega⟩
    · exact ⟨5, rfl, by omega, by omega⟩
  haveI : BI 3 j := ⟨by omega⟩
  let l : List PV := [.int (x.num * j), .int ((x.den : Int) * j)]
  obtain ⟨p, s2, hp, e2, P2, L2⟩ := pick_B (cap := cap) (st := s1 ++ [.lst l]) (ys := [.tup l, .loc s1.length]) P1.push (by omega) (by simp) (by simp)
  have hl : s2[s1.length]? = some (.lst l) := L2 _ _ (LE.push _ _ push_at)
  refine ⟨p, s2, [some (.loc n), some (pr x), some (.int j)], ?_, ?_, P2, ((LE.push.trans L1).trans LE.push).trans (LE.push.trans L2)⟩
  · unfold hTail
    (repeat' (first | with_reducible exact ev_mul (by omega) | ((with_reducible apply Cv.r_asm); with_reducible assumption) | with_reducible exact Cv.r_ok | with_reducible exact Cv.r_con | ((with_reducible apply Cv.r_var); rfl) | with_reducible apply Cv.r_two | with_reducible apply Cv.r_callF | with_reducible apply Cv.r_cons | with_reducible exact Cv.r_nil | with_reducible apply Cv.r_row | with_reducible apply Cv.r_one | with_reducible apply Cv.r_and | with_reducible apply Cv.r_or | with_reducible apply Cv.r_ite | with_reducible apply Cv.r_t | with_reducible apply Cv.r_not | with_reducible exact Cv.r_trb | with_reducible apply Cv.r_seq | with_reducible apply Cv.r_then_nx | with_reducible exact Cv.r_then_rt | with_reducible exact Cv.r_then_bk | with_reducible exact Cv.r_then_ct | with_reducible exact Cv.r_then_exn | with_reducible apply Cv.r_if | with_reducible apply Cv.r_set | with_reducible apply Cv.r_par | with_reducible exact Cv.r_nx | with_reducible exact Cv.r_fl | with_reducible apply Cv.r_exp | with_reducible apply Cv.r_ss | with_reducible exact Cv.r_sz | ((with_reducible apply Cv.r_T); focus (first | rfl | assumption | omega | (simp only [*, decide_true, decide_false, Bool.not_true, Bool.not_false, Bool.and_true, Bool.and_false, Bool.true_and, Bool.false_and, Bool.or_true, Bool.or_false, Bool.true_or, Bool.false_or]; done) | (simp [*]; done))) | ((with_reducible apply Cv.r_F); focus (first | rfl | assumption | omega | (simp only [*, decide_true, decide_false, Bool.not_true, Bool.not_false, Bool.and_true, Bool.and_false, Bool.true_and, Bool.false_and, Bool.or_true, Bool.or_false, Bool.true_or, Bool.false_or]; done) | (simp [*]; done))) | ((with_reducible apply Cv.r_tup); rfl) | ((with_reducible apply Cv.r_lst); rfl) | with_reducible exact Cv.r_ix0 | with_reducible exact Cv.r_ix1 | with_reducible exact Cv.r_ix2 | with_reducible exact Cv.r_add | with_reducible exact Cv.r_sub | with_reducible exact Cv.r_neg | with_reducible exact Cv.r_lt | with_reducible exact Cv.r_le | with_reducible exact Cv.r_gt | with_reducible exact Cv.r_ge | with_reducible exact Cv.r_eq | with_reducible exact Cv.r_ne | with_reducible exact Cv.r_eqB | with_reducible exact Cv.r_neB | with_reducible exact Cv.r_isB | with_reducible exact Cv.r_isnB | with_reducible exact Cv.r_subB | with_reducible apply Cv.r_ret))
  · refine .inr ⟨j, j0, j5, ?_⟩
    simp at hp
    rcases hp with rfl | rfl
    · exact .inl rfl
    · exact .inr ⟨_, rfl, hl⟩
theorem handed_B [QB k x] (hk : k < 1000) (P : PB st n m xs B) (hB : B < 600000) : ∃ p s, f__law_handed cap [.loc n, pr x] st = .ok p s ∧ HF s p x ∧ PB s n m xs (B + 3) ∧ LE st s := by
  have e0 : f__law_handed cap [.loc n, pr x] st = endDef (m__law_handed cap [some (.loc n), some (pr x), none] st) := by
    rw [ev__law_handed]
    exact if_pos ⟨rfl, by decide⟩
  rw [e0, handed_eq]
  by_cases hd : x.den = 1
  · obtain ⟨z, s1, z0, z1, e1, P1, L1⟩ := draw_B (cap := cap) (many := 2) P (by omega) (by omega) (by omega)
    by_cases hz : z = 0
    · refine ⟨.int x.num, s1, ?_, .inl ⟨hd, rfl⟩, P1.up (by omega), L1⟩
      apply r_end
      have c1 : decide ((x.den : Int) = 1) = true := decide_eq_true (by omega)
      (repeat' (first | ((with_reducible apply Cv.r_asm); with_reducible assumption) | with_reducible exact Cv.r_ok | with_reducible exact Cv.r_con | ((with_reducible apply Cv.r_var); rfl) | with_reducible apply Cv.r_two | with_reducible apply Cv.r_callF | with_reducible apply Cv.r_cons | with_reducible exact Cv.r_nil | with_reducible apply Cv.r_row | with_reducible apply Cv.r_one | with_reducible apply Cv.r_and | with_reducible apply Cv.r_or | with_reducible apply Cv.r_ite | with_reducible apply Cv.r_t | with_reducible apply Cv.r_not | with_reducible exact Cv.r_trb | with_reducible apply Cv.r_seq | with_reducible apply Cv.r_then_nx | with_reducible exact Cv.r_then_rt | with_reducible exact Cv.r_then_bk | with_reducible exact Cv.r_then_ct | with_reducible exact Cv.r_then_exn | with_reducible apply Cv.r_if | with_reducible apply Cv.r_set | with_reducible apply Cv.r_par | with_reducible exact Cv.r_nx | with_reducible exact Cv.r_fl | with_reducible apply Cv.r_exp | with_reducible apply Cv.r_ss | with_reducible exact Cv.r_sz | ((with_reducible apply Cv.r_T); focus (first | rfl | assumption | omega | (simp only [*, decide_true, decide_false, Bool.not_true, Bool.not_false, Bool.and_true, Bool.and_false, Bool.true_and, Bool.false_and, Bool.or_true, Bool.or_false, Bool.true_or, Bool.false_or]; done) | (simp [*]; done))) | ((with_reducible apply Cv.r_F); focus (first | rfl | assumption | omega | (simp only [*, decide_true, decide_false, Bool.not_true, Bool.not_false, Bool.and_true, Bool.and_false, Bool.true_and, Bool.false_and, Bool.or_true, Bool.or_false, Bool.true_or, Bool.false_or]; done) | (simp [*]; done))) | ((with_reducible apply Cv.r_tup); rfl) | ((with_reducible apply Cv.r_lst); rfl) | with_reducible exact Cv.r_ix0 | with_reducible exact Cv.r_ix1 | with_reducible exact Cv.r_ix2 | with_reducible exact Cv.r_add | with_reducible exact Cv.r_sub | with_reducible exact Cv.r_neg | with_reducible exact Cv.r_lt | with_reducible exact Cv.r_le | with_reducible exact Cv.r_gt | with_reducible exact Cv.r_ge | with_reducible exact Cv.r_eq | with_reducible exact Cv.r_ne | with_reducible exact Cv.r_eqB | with_reducible exact Cv.r_neB | with_reducible exact Cv.r_isB | with_reducible exact Cv.r_isnB | with_reducible exact Cv.r_subB | with_reducible apply Cv.r_ret))
    · obtain ⟨p, s2, η, e2, h, P2, L2⟩ := tail_B (cap := cap) (x := x) hk P1 (by omega)
      refine ⟨p, s2, ?_, h, P2.up (by omega), L1.trans L2⟩
      apply r_end
      have c1 : decide ((x.den : Int) = 1) = true := decide_eq_true (by omega)
      apply r_seq
      · (repeat' (first | ((with_reducible apply Cv.r_asm); with_reducible assumption) | with_reducible exact Cv.r_ok | with_reducible exact Cv.r_con | ((with_reducible apply Cv.r_var); rfl) | with_reducible apply Cv.r_two | with_reducible apply Cv.r_callF | with_reducible apply Cv.r_cons | with_reducible exact Cv.r_nil | with_reducible apply Cv.r_row | with_reducible apply Cv.r_one | with_reducible apply Cv.r_and | with_reducible apply Cv.r_or | with_reducible apply Cv.r_ite | with_reducible apply Cv.r_t | with_reducible apply Cv.r_not | with_reducible exact Cv.r_trb | with_reducible apply Cv.r_seq | with_reducible apply Cv.r_then_nx | with_reducible exact Cv.r_then_rt | with_reducible exact Cv.r_then_bk | with_reducible exact Cv.r_then_ct | with_reducible exact Cv.r_then_exn | with_reducible apply Cv.r_if | with_reducible apply Cv.r_set | with_reducible apply Cv.r_par | with_reducible exact Cv.r_nx | with_reducible exact Cv.r_fl | with_reducible apply Cv.r_exp | with_reducible apply Cv.r_ss | with_reducible exact Cv.r_sz | ((with_reducible apply Cv.r_T); focus (first | rfl | assumption | omega | (simp only [*, decide_true, decide_false, Bool.not_true, Bool.not_false, Bool.and_true, Bool.and_false, Bool.true_and, Bool.false_and, Bool.or_true, Bool.or_false, Bool.true_or, Bool.false_or]; done) | (simp [*]; done))) | ((with_reducible apply Cv.r_F); focus (first | rfl | assumption | omega | (simp only [*, decide_true, decide_false, Bool.not_true, Bool.not_false, Bool.and_true, Bool.and_false, Bool.true_and, Bool.false_and, Bool.or_true, Bool.or_false, Bool.true_or, Bool.false_or]; done) | (simp [*]; done))) | ((with_reducible apply Cv.r_tup); rfl) | ((with_reducible apply Cv.r_lst); rfl) | with_reducible exact Cv.r_ix0 | with_reducible exact Cv.r_ix1 | with_reducible exact Cv.r_ix2 | with_reducible exact Cv.r_add | with_reducible exact Cv.r_sub | with_reducible exact Cv.r_neg | with_reducible exact Cv.r_lt | with_reducible exact Cv.r_le | with_reducible exact Cv.r_gt | with_reducible exact Cv.r_ge | with_reducible exact Cv.r_eq | with_reducible exact Cv.r_ne | with_reducible exact Cv.r_eqB | with_reducible exact Cv.r_neB | with_reducible exact Cv.r_isB | with_reducible exact Cv.r_isnB | with_reducible exact Cv.r_subB | with_reducible apply Cv.r_ret))
      · exact r_then_nx e2
  · obtain ⟨p, s2, η, e2, h, P2, L2⟩ := tail_B (cap := cap) (x := x) hk P (by omega)
    refine ⟨p, s2, ?_, h, P2.up (by omega), L2⟩
    apply r_end
    have c1 : decide ((x.den : Int) = 1) = false := decide_eq_false (by omega)
    apply r_seq
    · (repeat' (first | ((with_reducible apply Cv.r_asm); with_reducible assumption) | with_reducible exact Cv.r_ok | with_reducible exact Cv.r_con | ((with_reducible apply Cv.r_var); rfl) | with_reducible apply Cv.r_two | with_reducible apply Cv.r_callF | with_reducible apply Cv.r_cons | with_reducible exact Cv.r_nil | with_reducible apply Cv.r_row | with_reducible apply Cv.r_one | with_reducible apply Cv.r_and | with_reducible apply Cv.r_or | with_reducible apply Cv.r_ite | with_reducible apply Cv.r_t | with_reducible apply Cv.r_not | with_reducible exact Cv.r_trb | with_reducible apply Cv.r_seq | with_reducible apply Cv.r_then_nx | with_reducible exact Cv.r_then_rt | with_reducible exact Cv.r_then_bk | with_reducible exact Cv.r_then_ct | with_reducible exact Cv.r_then_exn | with_reducible apply Cv.r_if | with_reducible apply Cv.r_set | with_reducible apply Cv.r_par | with_reducible exact Cv.r_nx | with_reducible exact Cv.r_fl | with_reducible apply Cv.r_exp | with_reducible apply Cv.r_ss | with_reducible exact Cv.r_sz | ((with_reducible apply Cv.r_T); focus (first | rfl | assumption | omega | (simp only [*, decide_true, decide_false, Bool.not_true, Bool.not_false, Bool.and_true, Bool.and_false, Bool.true_and, Bool.false_and, Bool.or_true, Bool.or_false, Bool.true_or, Bool.false_or]; done) | (simp [*]; done))) | ((with_reducible apply Cv.r_F); focus (first | rfl | assumption | omega | (simp only [*, decide_true, decide_false, Bool.not_true, Bool.not_false, Bool.and_true, Bool.and_false, Bool.true_and, Bool.false_and, Bool.or_true, Bool.or_false, Bool.true_or, Bool.false_or]; done) | (simp [*]; done))) | ((with_reducible apply Cv.r_tup); rfl) | ((with_reducible apply Cv.r_lst); rfl) | with_reducible exact Cv.r_ix0 | with_reducible exact Cv.r_ix1 | with_reducible exact Cv.r_ix2 | with_reducible exact Cv.r_add | with_reducible exact Cv.r_sub | with_reducible exact Cv.r_neg | with_reducible exact Cv.r_lt | with_reducible exact Cv.r_le | with_reducible exact Cv.r_gt | with_reducible exact Cv.r_ge | with_reducible exact Cv.r_eq | with_reducible exact Cv.r_ne | with_reducible exact Cv.r_eqB | with_reducible exact Cv.r_neB | with_reducible exact Cv.r_isB | with_reducible exact Cv.r_isnB | with_reducible exact Cv.r_subB | with_reducible apply Cv.r_ret))
    · exact r_then_nx e2
/-- a point -/
def eHand (cap : Cap) : Ev PV := evCallF (eCons (eVar 0) (eCons (eVar 3) eNil)) (fun _ => cap) f__law_handed
theorem handed_row_eq : m__law_handed_row cap = sSeq (sAsg (eLc (eHand cap) (.nm 3) (fun _ st => .ok true st) (iSeq (eVar 1)) [3]) (.nm 2))
  (sSeq (sRet (evCallF (eCons (eVar 0) (eCons (eRow (eCons (eRow (eCons (eVar 2) eNil) (bltOp .tuple)) (eCons (eVar 2) eNil)) mkLst) eNil)) (fun _ => cap) f__law_pick)) sNx) := rfl
theorem row_B [QP k a] (hk : k < 1000) (P : PB st n m xs B) (hB : B < 500000) : ∃ p s, f__law_handed_row cap [.loc n, pt a] st = .ok p s ∧ HP s p a ∧ PB s n m xs (B + 7) ∧ LE st s := by
  obtain ⟨h1, s1, e1, g1, P1, L1⟩ := handed_B (cap := cap) (st := st ++ [oL []]) (x := a.1) hk P.push (by omega)
  have lt := P.lt
  have d1 : s1[st.length]? = some (oL []) := L1 _ _ push_at
  have Q1 : PB (s1.set st.length (oL [h1])) n m xs (B + 3) := P1.set (by omega)
  obtain ⟨h2, s2, e2, g2, P2, L2⟩ := handed_B (cap := cap) (st := s1.set st.length (oL [h1])) (x := a.2) hk Q1 (by omega)
  have d2 : s2[st.length]? = some (oL [h1]) := L2 _ _ (set_at d1)
  have K1 : LE st (s1.set st.length (oL [h1])) := (LE.push.trans L1).set (Nat.le_refl _)
  let sf := s2.set st.length (oL [h1, h2])
  have K2 : LE st sf := (K1.trans L2).set (Nat.le_refl _)
  have Q2 : PB sf n m xs (B + 6) := P2.set (by omega)
  have lc : eLc (eHand cap) (.nm 3) (fun _ st => .ok true st) (iSeq (eVar 1)) [3] [some (.loc n), some (pt a), none, none] st = .ok (.loc st.length) sf := by
    refine r_lc (r_iseq (xs := [pr a.1, pr a.2]) (r_var rfl) rfl) ?_
    refine lc_step (k := 999999) rfl rfl rfl (y := h1) (s2 := s1) ?_ d1 (by simp) ?_
    · unfold eHand
      exact r_callF (r_cons (r_var rfl) (r_cons (r_var rfl) r_nil)) e1
    refine lc_step (k := 999998) rfl rfl rfl (y := h2) (s2 := s2) ?_ d2 (by simp) ?_
    · unfold eHand
      exact r_callF (r_cons (r_var rfl) (r_cons (r_var rfl) r_nil)) e2
    exact lc_stop (k := 999997) rfl
  have df_ : sf[st.length]? = some (.lst [h1, h2]) := set_at d2
  -- the first one is not the row itself
  have f1 : HF sf h1 a.1 := by
    rcases g1 with g | ⟨j, j0, j5, rfl | ⟨i, rfl, hi⟩⟩
    · exact .inl g
    · exact .inr ⟨j, j0, j5, .inl rfl⟩
    · have ne : i ≠ st.length := by
        rintro rfl
        rw [d1] at hi
        cases hi
      refine .inr ⟨j, j0, j5, .inr ⟨i, rfl, ?_⟩⟩
      show (s2.set st.length _)[i]? = _
      rw [List.getElem?_set_ne ne.symm]
      refine L2 _ _ ?_
      rw [List.getElem?_set_ne ne.symm]
      exact hi
  have f2 : HF sf h2 a.2 := by
    rcases g2 with g | ⟨j, j0, j5, rfl | ⟨i, rfl, hi⟩⟩
    · exact .inl g
    · exact .inr ⟨j, j0, j5, .inl rfl⟩
    · have ne : i ≠ st.length := by
        rintro rfl
        rw [d2] at hi
        cases hi
      refine .inr ⟨j, j0, j5, .inr ⟨i, rfl, ?_⟩⟩
      show (s2.set st.length _)[i]? = _
      rw [List.getElem?_set_ne ne.symm]
      exact hi
  obtain ⟨p, s3, hp, e3, P3, L3⟩ := pick_B (cap := cap) (ys := [.tup [h1, h2], .loc st.length]) Q2 (by omega) (by simp) (by simp)
  have K3 : LE sf s3 := LE.push.trans L3
  refine ⟨p, s3, ?_, ⟨h1, h2, ?_, f1.le K3, f2.le K3⟩, P3.up (by omega), K2.trans K3⟩
  · have e0 : f__law_handed_row cap [.loc n, pt a] st = endDef (m__law_handed_row cap [some (.loc n), some (pt a), none, none] st) := by
      rw [ev__law_handed_row]
      exact if_pos ⟨rfl, by decide⟩
    rw [e0, handed_row_eq]
    apply r_end
    have t := r_tupL df_
    (repeat' (first | with_reducible exact lc | with_reducible exact t | ((with_reducible apply Cv.r_asm); with_reducible assumption) | with_reducible exact Cv.r_ok | with_reducible exact Cv.r_con | ((with_reducible apply Cv.r_var); rfl) | with_reducible apply Cv.r_two | with_reducible apply Cv.r_callF | with_reducible apply Cv.r_cons | with_reducible exact Cv.r_nil | with_reducible apply Cv.r_row | with_reducible apply Cv.r_one | with_reducible apply Cv.r_and | with_reducible apply Cv.r_or | with_reducible apply Cv.r_ite | with_reducible apply Cv.r_t | with_reducible apply Cv.r_not | with_reducible exact Cv.r_trb | with_reducible apply Cv.r_seq | with_reducible apply Cv.r_then_nx | with_reducible exact Cv.r_then_rt | with_reducible exact Cv.r_then_bk | with_reducible exact Cv.r_then_ct | with_reducible exact Cv.r_then_exn | with_reducible apply Cv.r_if | with_reducible apply Cv.r_set | with_reducible apply Cv.r_par | with_reducible exact Cv.r_nx | with_reducible exact Cv.r_fl | with_reducible apply Cv.r_exp | with_reducible apply Cv.r_ss | with_reducible exact Cv.r_sz | ((with_reducible apply Cv.r_T); focus (first | rfl | assumption | omega | (simp only [*, decide_true, decide_false, Bool.not_true, Bool.not_false, Bool.and_true, Bool.and_false, Bool.true_and, Bool.false_and, Bool.or_true, Bool.or_false, Bool.true_or, Bool.false_or]; done) | (simp [*]; done))) | ((with_reducible apply Cv.r_F); focus (first | rfl | assumption | omega | (simp only [*, decide_true, decide_false, Bool.not_true, Bool.not_false, Bool.and_true, Bool.and_false, Bool.true_and, Bool.false_and, Bool.or_true, Bool.or_false, Bool.true_or, Bool.false_or]; done) | (simp [*]; done))) | ((with_reducible apply Cv.r_tup); rfl) | ((with_reducible apply Cv.r_lst); rfl) | with_reducible exact Cv.r_ix0 | with_reducible exact Cv.r_ix1 | with_reducible exact Cv.r_ix2 | with_reducible exact Cv.r_add | with_reducible exact Cv.r_sub | with_reducible exact Cv.r_neg | with_reducible exact Cv.r_lt | with_reducible exact Cv.r_le | with_reducible exact Cv.r_gt | with_reducible exact Cv.r_ge | with_reducible exact Cv.r_eq | with_reducible exact Cv.r_ne | with_reducible exact Cv.r_eqB | with_reducible exact Cv.r_neB | with_reducible exact Cv.r_isB | with_reducible exact Cv.r_isnB | with_reducible exact Cv.r_subB | with_reducible apply Cv.r_ret))
  · simp at hp
    rcases hp with rfl | rfl
    · exact .inl rfl
    · exact .inr ⟨_, rfl, K3 _ _ df_⟩
end
end Cut
namespace Cut
open PySem PySem.Spec PyProof.Rows L2 Cv
/-! ### the law's helpers -/
section
variable {st s s1 s2 : Sto} {n m k l : Nat} {xs : List Int} {B C : Nat} {cap : Cap} {p : PV} {x : Rat} {a b : Pt}
theorem moved_ok [QP k a] [QP l b] (hk : k + l < 300) : ∃ s, f__law_moved_by cap [.tup [pt a], pt b] st = .ok (.tup [pt (mv a b)]) s ∧ Ext st s := by
  have lc : ∃ s, eLc (eRow (eCons (evCallF (eCons (two (eVar 2) (eCon (.int 0)) idxOp) (eCons (two (eVar 1) (eCon (.int 0)) idxOp) eNil)) (fun _ => cap) f__law_plus) (eCons (evCallF (eCons (two (eVar 2) (eCon (.int 1)) idxOp) (eCons (two (eVar 1) (eCon (.int 1)) idxOp) eNil)) (fun _ => cap) f__law_plus) eNil)) mkTup) (.nm 2) (fun _ st => .ok true st) (iSeq (eVar 0)) [2] [some (.tup [pt a]), some (pt b), none] st = .ok (.loc st.length) s ∧ Ext st s ∧ s[st.length]? = some (.lst [pt (mv a b)]) := by
    refine lc_ext (r_iseq (xs := [pt a]) (r_var rfl) rfl) (src_items fun s e => rfl) (.cons (fun s e => ?_) .nil) (by simp)
    refine ⟨[some (.tup [pt a]), some (pt b), some (pt a)], s, rfl, ?_, .refl⟩
    (repeat' (first | with_reducible exact lplus_ok (by omega) | ((with_reducible apply Cv.r_asm); with_reducible assumption) | with_reducible exact Cv.r_ok | with_reducible exact Cv.r_con | ((with_reducible apply Cv.r_var); rfl) | with_reducible apply Cv.r_two | with_reducible apply Cv.r_callF | with_reducible apply Cv.r_cons | with_reducible exact Cv.r_nil | with_reducible apply Cv.r_row | with_reducible apply Cv.r_one | with_reducible apply Cv.r_and | with_reducible apply Cv.r_or | with_reducible apply Cv.r_ite | with_reducible apply Cv.r_t | with_reducible apply Cv.r_not | with_reducible exact Cv.r_trb | with_reducible apply Cv.r_seq | with_reducible apply Cv.r_then_nx | with_reducible exact Cv.r_then_rt | with_reducible exact Cv.r_then_bk | with_reducible exact Cv.r_then_ct | with_reducible exact Cv.r_then_exn | with_reducible apply Cv.r_if | with_reducible apply Cv.r_set | with_reducible apply Cv.r_par | with_reducible exact Cv.r_nx | with_reducible exact Cv.r_fl | with_reducible apply Cv.r_exp | with_reducible apply Cv.r_ss | with_reducible exact Cv.r_sz | ((with_reducible apply Cv.r_T); focus (first | rfl | assumption | omega | (simp only [*, decide_true, decide_false, Bool.not_true, Bool.not_false, Bool.and_true, Bool.and_false, Bool.true_and, Bool.false_and, Bool.or_true, Bool.or_false, Bool.true_or, Bool.false_or]; done) | (simp [*]; done))) | ((with_reducible apply Cv.r_F); focus (first | rfl | assumption | omega | (simp only [*, decide_true, decide_false, Bool.not_true, Bool.not_false, Bool.and_true, Bool.and_false, Bool.true_and, Bool.false_and, Bool.or_true, Bool.or_false, Bool.true_or, Bool.false_or]; done) | (simp [*]; done))) | ((with_reducible apply Cv.r_tup); rfl) | ((with_reducible apply Cv.r_lst); rfl) | with_reducible exact Cv.r_ix0 | with_reducible exact Cv.r_ix1 | with_reducible exact Cv.r_ix2 | with_reducible exact Cv.r_add | with_reducible exact Cv.r_sub | with_reducible exact Cv.r_neg | with_reducible exact Cv.r_lt | with_reducible exact Cv.r_le | with_reducible exact Cv.r_gt | with_reducible exact Cv.r_ge | with_reducible exact Cv.r_eq | with_reducible exact Cv.r_ne | with_reducible exact Cv.r_eqB | with_reducible exact Cv.r_neB | with_reducible exact Cv.r_isB | with_reducible exact Cv.r_isnB | with_reducible exact Cv.r_subB | with_reducible apply Cv.r_ret))
    exact r_tup rfl
  obtain ⟨s, e, x, h⟩ := lc
  refine ⟨s, ?_, x⟩
  have t := r_tupL h
  (rw [ev__law_moved_by]; dsimp only [start', List.map, List.length_cons, List.length_nil, List.replicate, List.cons_append, List.nil_append, Nat.reduceAdd, Nat.reduceSub, Nat.zero_add]; refine (if_pos ⟨rfl, by decide⟩).trans ?_; unfold m__law_moved_by; apply Cv.r_end; (repeat' (first | with_reducible exact e | with_reducible exact t | ((with_reducible apply Cv.r_asm); with_reducible assumption) | with_reducible exact Cv.r_ok | with_reducible exact Cv.r_con | ((with_reducible apply Cv.r_var); rfl) | with_reducible apply Cv.r_two | with_reducible apply Cv.r_callF | with_reducible apply Cv.r_cons | with_reducible exact Cv.r_nil | with_reducible apply Cv.r_row | with_reducible apply Cv.r_one | with_reducible apply Cv.r_and | with_reducible apply Cv.r_or | with_reducible apply Cv.r_ite | with_reducible apply Cv.r_t | with_reducible apply Cv.r_not | with_reducible exact Cv.r_trb | with_reducible apply Cv.r_seq | with_reducible apply Cv.r_then_nx | with_reducible exact Cv.r_then_rt | with_reducible exact Cv.r_then_bk | with_reducible exact Cv.r_then_ct | with_reducible exact Cv.r_then_exn | with_reducible apply Cv.r_if | with_reducible apply Cv.r_set | with_reducible apply Cv.r_par | with_reducible exact Cv.r_nx | with_reducible exact Cv.r_fl | with_reducible apply Cv.r_exp | with_reducible apply Cv.r_ss | with_reducible exact Cv.r_sz | ((with_reducible apply Cv.r_T); focus (first | rfl | assumption | omega | (simp only [*, decide_true, decide_false, Bool.not_true, Bool.not_false, Bool.and_true, Bool.and_false, Bool.true_and, Bool.false_and, Bool.or_true, Bool.or_false, Bool.true_or, Bool.false_or]; done) | (simp [*]; done))) | ((with_reducible apply Cv.r_F); focus (first | rfl | assumption | omega | (simp only [*, decide_true, decide_false, Bool.not_true, Bool.not_false, Bool.and_true, Bool.and_false, Bool.true_and, Bool.false_and, Bool.or_true, Bool.or_false, Bool.true_or, Bool.false_or]; done) | (simp [*]; done))) | ((with_reducible apply Cv.r_tup); rfl) | ((with_reducible apply Cv.r_lst); rfl) | with_reducible exact Cv.r_ix0 | with_reducible exact Cv.r_ix1 | with_reducible exact Cv.r_ix2 | with_reducible exact Cv.r_add | with_reducible exact Cv.r_sub | with_reducible exact Cv.r_neg | with_reducible exact Cv.r_lt | with_reducible exact Cv.r_le | with_reducible exact Cv.r_gt | with_reducible exact Cv.r_ge | with_reducible exact Cv.r_eq | with_reducible exact Cv.r_ne | with_reducible exact Cv.r_eqB | with_reducible exact Cv.r_neB | with_reducible exact Cv.r_isB | with_reducible exact Cv.r_isnB | with_reducible exact Cv.r_subB | with_reducible apply Cv.r_ret)))
theorem half_ok : ∃ s, f__law_half_turned cap [.tup [pt a]] st = .ok (.tup [pt (ht a)]) s ∧ Ext st s := by
  have lc : ∃ s, eLc (eRow (eCons (evCallF (eCons (two (eVar 1) (eCon (.int 0)) idxOp) eNil) (fun _ => cap) f__law_turn) (eCons (evCallF (eCons (two (eVar 1) (eCon (.int 1)) idxOp) eNil) (fun _ => cap) f__law_turn) eNil)) mkTup) (.nm 1) (fun _ st => .ok true st) (iSeq (eVar 0)) [1] [some (.tup [pt a]), none] st = .ok (.loc st.length) s ∧ Ext st s ∧ s[st.length]? = some (.lst [pt (ht a)]) := by
    refine lc_ext (r_iseq (xs := [pt a]) (r_var rfl) rfl) (src_items fun s e => rfl) (.cons (fun s e => ?_) .nil) (by simp)
    refine ⟨[some (.tup [pt a]), some (pt a)], s, rfl, ?_, .refl⟩
    (repeat' (first | with_reducible exact lturn_ok | ((with_reducible apply Cv.r_asm); with_reducible assumption) | with_reducible exact Cv.r_ok | with_reducible exact Cv.r_con | ((with_reducible apply Cv.r_var); rfl) | with_reducible apply Cv.r_two | with_reducible apply Cv.r_callF | with_reducible apply Cv.r_cons | with_reducible exact Cv.r_nil | with_reducible apply Cv.r_row | with_reducible apply Cv.r_one | with_reducible apply Cv.r_and | with_reducible apply Cv.r_or | with_reducible apply Cv.r_ite | with_reducible apply Cv.r_t | with_reducible apply Cv.r_not | with_reducible exact Cv.r_trb | with_reducible apply Cv.r_seq | with_reducible apply Cv.r_then_nx | with_reducible exact Cv.r_then_rt | with_reducible exact Cv.r_then_bk | with_reducible exact Cv.r_then_ct | with_reducible exact Cv.r_then_exn | with_reducible apply Cv.r_if | with_reducible apply Cv.r_set | with_reducible apply Cv.r_par | with_reducible exact Cv.r_nx | with_reducible exact Cv.r_fl | with_reducible apply Cv.r_exp | with_reducible apply Cv.r_ss | with_reducible exact Cv.r_sz | ((with_reducible apply Cv.r_T); focus (first | rfl | assumption | omega | (simp only [*, decide_true, decide_false, Bool.not_true, Bool.not_false, Bool.and_true, Bool.and_false, Bool.true_and, Bool.false_and, Bool.or_true, Bool.or_false, Bool.true_or, Bool.false_or]; done) | (simp [*]; done))) | ((with_reducible apply Cv.r_F); focus (first | rfl | assumption | omega | (simp only [*, decide_true, decide_false, Bool.not_true, Bool.not_false, Bool.and_true, Bool.and_false, Bool.true_and, Bool.false_and, Bool.or_true, Bool.or_false, Bool.true_or, Bool.false_or]; done) | (simp [*]; done))) | ((with_reducible apply Cv.r_tup); rfl) | ((with_reducible apply Cv.r_lst); rfl) | with_reducible exact Cv.r_ix0 | with_reducible exact Cv.r_ix1 | with_reducible exact Cv.r_ix2 | with_reducible exact Cv.r_add | with_reducible exact Cv.r_sub | with_reducible exact Cv.r_neg | with_reducible exact Cv.r_lt | with_reducible exact Cv.r_le | with_reducible exact Cv.r_gt | with_reducible exact Cv.r_ge | with_reducible exact Cv.r_eq | with_reducible exact Cv.r_ne | with_reducible exact Cv.r_eqB | with_reducible exact Cv.r_neB | with_reducible exact Cv.r_isB | with_reducible exact Cv.r_isnB | with_reducible exact Cv.r_subB | with_reducible apply Cv.r_ret))
    exact r_tup rfl
  obtain ⟨s, e, x, h⟩ := lc
  refine ⟨s, ?_, x⟩
  have t := r_tupL h
  (rw [ev__law_half_turned]; dsimp only [start', List.map, List.length_cons, List.length_nil, List.replicate, List.cons_append, List.nil_append, Nat.reduceAdd, Nat.reduceSub, Nat.zero_add]; refine (if_pos ⟨rfl, by decide⟩).trans ?_; unfold m__law_half_turned; apply Cv.r_end; (repeat' (first | with_reducible exact e | with_reducible exact t | ((with_reducible apply Cv.r_asm); with_reducible assumption) | with_reducible exact Cv.r_ok | with_reducible exact Cv.r_con | ((with_reducible apply Cv.r_var); rfl) | with_reducible apply Cv.r_two | with_reducible apply Cv.r_callF | with_reducible apply Cv.r_cons | with_reducible exact Cv.r_nil | with_reducible apply Cv.r_row | with_reducible apply Cv.r_one | with_reducible apply Cv.r_and | with_reducible apply Cv.r_or | with_reducible apply Cv.r_ite | with_reducible apply Cv.r_t | with_reducible apply Cv.r_not | with_reducible exact Cv.r_trb | with_reducible apply Cv.r_seq | with_reducible apply Cv.r_then_nx | with_reducible exact Cv.r_then_rt | with_reducible exact Cv.r_then_bk | with_reducible exact Cv.r_then_ct | with_reducible exact Cv.r_then_exn | with_reducible apply Cv.r_if | with_reducible apply Cv.r_set | with_reducible apply Cv.r_par | with_reducible exact Cv.r_nx | with_reducible exact Cv.r_fl | with_reducible apply Cv.r_exp | with_reducible apply Cv.r_ss | with_reducible exact Cv.r_sz | ((with_reducible apply Cv.r_T); focus (first | rfl | assumption | omega | (simp only [*, decide_true, decide_false, Bool.not_true, Bool.not_false, Bool.and_true, Bool.and_false, Bool.true_and, Bool.false_and, Bool.or_true, Bool.or_false, Bool.true_or, Bool.false_or]; done) | (simp [*]; done))) | ((with_reducible apply Cv.r_F); focus (first | rfl | assumption | omega | (simp only [*, decide_true, decide_false, Bool.not_true, Bool.not_false, Bool.and_true, Bool.and_false, Bool.true_and, Bool.false_and, Bool.or_true, Bool.or_false, Bool.true_or, Bool.false_or]; done) | (simp [*]; done))) | ((with_reducible apply Cv.r_tup); rfl) | ((with_reducible apply Cv.r_lst); rfl) | with_reducible exact Cv.r_ix0 | with_reducible exact Cv.r_ix1 | with_reducible exact Cv.r_ix2 | with_reducible exact Cv.r_add | with_reducible exact Cv.r_sub | with_reducible exact Cv.r_neg | with_reducible exact Cv.r_lt | with_reducible exact Cv.r_le | with_reducible exact Cv.r_gt | with_reducible exact Cv.r_ge | with_reducible exact Cv.r_eq | with_reducible exact Cv.r_ne | with_reducible exact Cv.r_eqB | with_reducible exact Cv.r_neB | with_reducible exact Cv.r_isB | with_reducible exact Cv.r_isnB | with_reducible exact Cv.r_subB | with_reducible apply Cv.r_ret)))
theorem says_ok {u v : Bool} : f__law_says cap [.bl u, .bl v] st = .ok (.bl (decide (u = v))) st := by
  cases u <;> cases v <;> kernel_rfl
/-! values that are no points -/
def bads : List PV := [.non, .int 5, .str "12", .tup [], .tup [.int 1], .tup [.int 1, .int 2, .int 3], .tup [.str "1", .str "2"], .tup [.bl true, .int 2], .tup [.tup [.int 1, .int 0], .int 2], .tup [.non, .int 1]]
theorem bad_B (P : PB st n m xs B) (hB : B < 500000) : ∃ p s, f__law_bad_point cap [.loc n] st = .ok p s ∧ p ∈ bads ∧ PB s n m xs (B + 1) ∧ LE st s := by
  obtain ⟨y, s, hy, e, P1, L1⟩ := pick_B (cap := cap) (ys := bads) P (by omega) (by simp [bads]) (by simp [bads])
  refine ⟨y, s, ?_, hy, P1, LE.push.trans L1⟩
  unfold bads at e
  (rw [ev__law_bad_point]; dsimp only [start', List.map, List.length_cons, List.length_nil, List.replicate, List.cons_append, List.nil_append, Nat.reduceAdd, Nat.reduceSub, Nat.zero_add]; refine (if_pos ⟨rfl, by decide⟩).trans ?_; unfold m__law_bad_point; apply Cv.r_end; (repeat' (first | ((with_reducible apply Cv.r_asm); with_reducible assumption) | with_reducible exact Cv.r_ok | with_reducible exact Cv.r_con | ((with_reducible apply Cv.r_var); rfl) | with_reducible apply Cv.r_two | with_reducible apply Cv.r_callF | with_reducible apply Cv.r_cons | with_reducible exact Cv.r_nil | with_reducible apply Cv.r_row | with_reducible apply Cv.r_one | with_reducible apply Cv.r_and | with_reducible apply Cv.r_or | with_reducible apply Cv.r_ite | with_reducible apply Cv.r_t | with_reducible apply Cv.r_not | with_reducible exact Cv.r_trb | with_reducible apply Cv.r_seq | with_reducible apply Cv.r_then_nx | with_reducible exact Cv.r_then_rt | with_reducible exact Cv.r_then_bk | with_reducible exact Cv.r_then_ct | with_reducible exact Cv.r_then_exn | with_reducible apply Cv.r_if | with_reducible apply Cv.r_set | with_reducible apply Cv.r_par | with_reducible exact Cv.r_nx | with_reducible exact Cv.r_fl | with_reducible apply Cv.r_exp | with_reducible apply Cv.r_ss | with_reducible exact Cv.r_sz | ((with_reducible apply Cv.r_T); focus (first | rfl | assumption | omega | (simp only [*, decide_true, decide_false, Bool.not_true, Bool.not_false, Bool.and_true, Bool.and_false, Bool.true_and, Bool.false_and, Bool.or_true, Bool.or_false, Bool.true_or, Bool.false_or]; done) | (simp [*]; done))) | ((with_reducible apply Cv.r_F); focus (first | rfl | assumption | omega | (simp only [*, decide_true, decide_false, Bool.not_true, Bool.not_false, Bool.and_true, Bool.and_false, Bool.true_and, Bool.false_and, Bool.or_true, Bool.or_false, Bool.true_or, Bool.false_or]; done) | (simp [*]; done))) | ((with_reducible apply Cv.r_tup); rfl) | ((with_reducible apply Cv.r_lst); rfl) | with_reducible exact Cv.r_ix0 | with_reducible exact Cv.r_ix1 | with_reducible exact Cv.r_ix2 | with_reducible exact Cv.r_add | with_reducible exact Cv.r_sub | with_reducible exact Cv.r_neg | with_reducible exact Cv.r_lt | with_reducible exact Cv.r_le | with_reducible exact Cv.r_gt | with_reducible exact Cv.r_ge | with_reducible exact Cv.r_eq | with_reducible exact Cv.r_ne | with_reducible exact Cv.r_eqB | with_reducible exact Cv.r_neB | with_reducible exact Cv.r_isB | with_reducible exact Cv.r_isnB | with_reducible exact Cv.r_subB | with_reducible apply Cv.r_ret)))
theorem bad_of (h : p ∈ bads) : Bad st p := by
  unfold bads at h
  simp only [List.mem_cons, List.not_mem_nil, or_false] at h
  have lf : ∀ {q : PV}, Leaf q → (∀ cap s, f_is_tuple_of cap [q, .int 2] s = .ok (.bl false) s) → Bad st q := fun {q} h g => ⟨q, fun cap => leaf2 h, .inl g⟩
  have rw1 : ∀ {ys : List PV}, ys.length < 900000 → (∀ cap, A2 (Mk (f_in_tuples_1 cap) st) ys ys) → (∀ cap s, f_is_tuple_of cap [.tup ys, .int 2] s = .ok (.bl false) s) → Bad st (.tup ys) := fun {ys} hl a g => ⟨.tup ys, fun cap => row2 (.inl rfl) hl (a cap), .inl g⟩
  have rw2 : ∀ {q1 q2 : PV} {b1 b2 : Bool}, (∀ cap, Mk (f_in_tuples_1 cap) st q1 q1) → (∀ cap, Mk (f_in_tuples_1 cap) st q2 q2) → (b1 && b2) = false → (∀ cap s, f_is_ratio cap [q1] s = .ok (.bl b1) s) → (∀ cap s, f_is_ratio cap [q2] s = .ok (.bl b2) s) → Bad st (.tup [q1, q2]) := fun {q1 q2 b1 b2} a1 a2 hb g1 g2 =>
    ⟨.tup [q1, q2], fun cap => row2 (.inl rfl) (by simp) (.cons (a1 cap) (.cons (a2 cap) .nil)), .inr ⟨q1, q2, b1, b2, rfl, hb, g1, g2⟩⟩
  rcases h with rfl | rfl | rfl | rfl | rfl | rfl | rfl | rfl | rfl | rfl
  · exact lf trivial fun cap s => by kernel_rfl
  · exact lf trivial fun cap s => by kernel_rfl
  · exact lf trivial fun cap s => by kernel_rfl
  · exact rw1 (by simp) (fun cap => .nil) fun cap s => by kernel_rfl
  · exact rw1 (by simp) (fun cap => .cons (leaf1 trivial) .nil) fun cap s => by kernel_rfl
  · exact rw1 (by simp) (fun cap => .cons (leaf1 trivial) (.cons (leaf1 trivial) (.cons (leaf1 trivial) .nil))) fun cap s => by kernel_rfl
  · exact rw2 (b1 := false) (b2 := false) (fun cap => leaf1 trivial) (fun cap => leaf1 trivial) rfl (fun cap s => by kernel_rfl) (fun cap s => by kernel_rfl)
  · exact rw2 (b1 := false) (b2 := true) (fun cap => leaf1 trivial) (fun cap => leaf1 trivial) rfl (fun cap s => by kernel_rfl) (fun cap s => by kernel_rfl)
  · exact rw2 (b1 := false) (b2 := true) (fun cap => row1 (.inl rfl) (by simp) (.cons (leaf0 trivial) (.cons (leaf0 trivial) .nil))) (fun cap => leaf1 trivial) rfl (fun cap s => by kernel_rfl) (fun cap s => by kernel_rfl)
  · exact rw2 (b1 := false) (b2 := true) (fun cap => leaf1 trivial) (fun cap => leaf1 trivial) rfl (fun cap s => by kernel_rfl) (fun cap s => by kernel_rfl)
/-! what is shown -/
theorem repr_of {p : PV} {d : PyData} (h : dat st p = some d) (hs : d.showable = true) (hl : d.shown.length ≤ LIM) : bltOp .repr [p] st = .ok (.str d.shown) st := by
  show rb ((reprOp st p).map .str) st = _
  have e : reprOp st p = some d.shown := by
    unfold reprOp
    rw [h]
    show (if d.showable && decide (d.shown.length ≤ LIM) then some d.shown else none) = _
    rw [hs, decide_eq_true hl]
    rfl
  rw [e]
  rfl
theorem repr_sgn : bltOp .repr [.int (sgn x)] st = .ok (.str (PyData.int (sgn x)).shown) st := by
  refine repr_of dat_i ?_ ?_
  · unfold sgn
    split
    · rfl
    · split <;> rfl
  · unfold sgn
    split
    · decide +kernel
    · split <;> decide +kernel
theorem side_sgn : b2i (decide (0 < x.num)) - b2i (decide (x.num < 0)) = sgn x := by
  rw [sgn_num]
  by_cases h : x.num = 0
  · rw [h]; rfl
  · rw [if_neg h]
    by_cases h2 : 0 < x.num
    · rw [if_pos h2, decide_eq_true h2, decide_eq_false (by omega)]; rfl
    · rw [if_neg h2, decide_eq_false h2, decide_eq_true (by omega)]; rfl
end
end Cut
namespace Cut
open PySem PySem.Spec PyProof.Rows L2 Cv
/-! ### the law's text, in parts -/
abbrev kpE : Env' → Cap := fun η => capM (defScope (top 54)) ["script", "pen", "lap", "one", "other", "point", "by", "a", "b", "side", "due", "move", "led", "spot", "back", "bad", "work", "tries"] η
def t_0 : Sv := sAsg (evCallF (eCons (eVar 0) eNil) kpE f__law_pen) (.nm 1)
def b1_0 : Sv := sAsg (eRow (eCons (evCallF (eCons (eVar 1) eNil) kpE f__law_free_point) (eCons (evCallF (eCons (eVar 1) eNil) kpE f__law_free_point) (eCons (evCallF (eCons (eVar 1) eNil) kpE f__law_free_point) eNil))) mkTup) (.tup [(.nm 3), (.nm 4), (.nm 5)])
def b1_1 : Sv := sIf (two (evCallF (eCons (eVar 1) (eCons (eCon (.int 3)) eNil)) kpE f__law_draw) (eCon (.int 0)) (cmpOp .eq)) (sSeq (sAsg (evCallF (eCons (eVar 1) (eCons (eRow (eCons (eRow (eCons (eCon (.int 0)) (eCons (eCon (.int 1)) eNil)) mkTup) (eCons (eRow (eCons (eCon (.int 1)) (eCons (eCon (.int 1)) eNil)) mkTup) (eCons (eRow (eCons (eCon (.int 1)) (eCons (eCon (.int 2)) eNil)) mkTup) (eCons (eRow (eCons (eCon (.int 2)) (eCons (eCon (.int 1)) eNil)) mkTup) (eCons (eRow (eCons (one (eCon (.int 1)) negOp) (eCons (eCon (.int 1)) eNil)) mkTup) eNil))))) mkLst) eNil)) kpE f__law_pick) (.nm 6))
  (sSeq (sAsg (eRow (eCons (eLc (evCallF (eCons (eVar 7) (eCons (evCallF (eCons (eVar 6) (eCons (evCallF (eCons (eVar 8) (eCons (eVar 7) eNil)) (fun _ => []) f__law_minus) eNil)) (fun _ => []) f__law_times) eNil)) (fun _ => []) f__law_plus) (.tup [(.nm 7), (.nm 8)]) (fun _ st => .ok true st) (iZip2 (eCons (eVar 3) (eCons (eVar 4) eNil))) [7, 8]) eNil) (bltOp .tuple)) (.nm 5))
  sNx)) sNx
def b1_2 : Sv := sAsg (evCallF (eCons (eVar 3) (eCons (eVar 4) (eCons (eVar 5) eNil))) kpE f__law_turn_of) (.nm 9)
def b1_3 : Sv := sAsg (two (two (eVar 9) (eCon (.int 0)) (cmpOp .gt)) (two (eVar 9) (eCon (.int 0)) (cmpOp .lt)) (binOp .sub)) (.nm 10)
def b1_4 : Sv := sIf (two (eRow (eCons (evCallF (eCons (evCallF (eCons (eVar 1) (eCons (eVar 3) eNil)) kpE f__law_handed_row) (eCons (evCallF (eCons (eVar 1) (eCons (eVar 4) eNil)) kpE f__law_handed_row) (eCons (evCallF (eCons (eVar 1) (eCons (eVar 5) eNil)) kpE f__law_handed_row) eNil))) kpE f_turn_of) eNil) (bltOp .repr)) (eRow (eCons (eVar 10) eNil) (bltOp .repr)) (cmpOp .ne)) (sSeq (sRet (eCon (.bl false)))
  sNx) sNx
def b1_5 : Sv := sIf (one (evCallF (eCons (evCallF (eCons (evCallF (eCons (eVar 1) (eCons (eVar 3) eNil)) kpE f__law_handed_row) (eCons (evCallF (eCons (eVar 1) (eCons (eVar 4) eNil)) kpE f__law_handed_row) (eCons (eVar 5) eNil))) kpE f_is_between) (eCons (evCallF (eCons (eVar 5) (eCons (eVar 3) (eCons (eVar 4) eNil))) kpE f__law_on_edge) eNil)) kpE f__law_says) notOp) (sSeq (sRet (eCon (.bl false)))
  sNx) sNx
def b1_6 : Sv := sIf (eOr (two (evCallF (eCons (eVar 4) (eCons (eVar 3) (eCons (eVar 5) eNil))) kpE f_turn_of) (one (eVar 10) negOp) (cmpOp .ne)) (eOr (two (evCallF (eCons (eVar 4) (eCons (eVar 5) (eCons (eVar 3) eNil))) kpE f_turn_of) (eVar 10) (cmpOp .ne)) (eOr (two (evCallF (eCons (eVar 3) (eCons (eVar 3) (eCons (eVar 5) eNil))) kpE f_turn_of) (eCon (.int 0)) (cmpOp .ne)) (two (evCallF (eCons (eVar 3) (eCons (eVar 4) (eCons (eVar 3) eNil))) kpE f_is_between) (eCon (.bl true)) (cmpOp .isnot))))) (sSeq (sRet (eCon (.bl false)))
  sNx) sNx
def b1_7 : Sv := sAsg (evCallF (eCons (eVar 1) eNil) kpE f__law_free_point) (.nm 11)
def b1_8 : Sv := sAsg (eLc (two (evCallF (eCons (eRow (eCons (eVar 13) eNil) mkTup) (eCons (eVar 11) eNil)) (fun _ => []) f__law_moved_by) (eCon (.int 0)) idxOp) (.nm 13) (fun _ st => .ok true st) (iSeq (eRow (eCons (eVar 3) (eCons (eVar 4) (eCons (eVar 5) eNil))) mkTup)) [13]) (.nm 12)
def b1_9 : Sv := sAsg (eLc (two (evCallF (eCons (eRow (eCons (eVar 13) eNil) mkTup) eNil) (fun _ => []) f__law_half_turned) (eCon (.int 0)) idxOp) (.nm 13) (fun _ st => .ok true st) (iSeq (eRow (eCons (eVar 3) (eCons (eVar 4) (eCons (eVar 5) eNil))) mkTup)) [13]) (.nm 14)
def b1_10 : Sv := sIf (eOr (two (evCallF (eCons (two (eVar 12) (eCon (.int 0)) idxOp) (eCons (two (eVar 12) (eCon (.int 1)) idxOp) (eCons (two (eVar 12) (eCon (.int 2)) idxOp) eNil))) kpE f_turn_of) (eVar 10) (cmpOp .ne)) (eOr (two (evCallF (eCons (two (eVar 14) (eCon (.int 0)) idxOp) (eCons (two (eVar 14) (eCon (.int 1)) idxOp) (eCons (two (eVar 14) (eCon (.int 2)) idxOp) eNil))) kpE f_turn_of) (eVar 10) (cmpOp .ne)) (two (evCallF (eCons (eVar 4) (eCons (eVar 3) (eCons (eVar 5) eNil))) kpE f_is_between) (evCallF (eCons (eVar 3) (eCons (eVar 4) (eCons (eVar 5) eNil))) kpE f_is_between) (cmpOp .ne)))) (sSeq (sRet (eCon (.bl false)))
  sNx) sNx
def body1 : Sv := sSeq b1_0 (sSeq b1_1 (sSeq b1_2 (sSeq b1_3 (sSeq b1_4 (sSeq b1_5 (sSeq b1_6 (sSeq b1_7 (sSeq b1_8 (sSeq b1_9 (sSeq b1_10 sNx))))))))))
def t_2 : Sv := sAsg (evCallF (eCons (eVar 1) eNil) kpE f__law_bad_point) (.nm 15)
def b3_0 : Sv := sAsg (eRow (eCons (eRow (eCons (eLam lamq (lam 0)) (eCons (eRow (eCons (eCon (.str "row")) (eCons (eVar 15) eNil)) mkTup) eNil)) mkTup) eNil) mkLst) (.nm 17)
def b3_1 : Sv := sExp (eMthL .append (eVar 17) (eCons (eRow (eCons (eLam lamq (lam 1)) (eCons (eRow (eCons (eCon (.str "row")) (eCons (eVar 15) eNil)) mkTup) eNil)) mkTup) eNil))
def b3_2 : Sv := sExp (eMthL .append (eVar 17) (eCons (eRow (eCons (eLam lamq (lam 2)) (eCons (eRow (eCons (eCon (.str "row")) (eCons (eVar 15) eNil)) mkTup) eNil)) mkTup) eNil))
def b3_3 : Sv := sIf (one (evCallF (eCons (eVar 17) eNil) kpE f__law_four_due) notOp) (sSeq (sRet (eCon (.bl false)))
  sNx) sNx
def body3 : Sv := sSeq b3_0 (sSeq b3_1 (sSeq b3_2 (sSeq b3_3 sNx)))
def t_4 : Sv := sRet (eCon (.bl true))
theorem law_eq : m_law = sSeq t_0 (sSeq (sFor (.nm 2) (iRange1 (eCons (eCon (.int 4)) eNil)) body1) (sSeq t_2 (sSeq (sFor (.nm 16) (iSeq (eRow (eCons (eCon (.gl "turn_of")) (eCons (eCon (.gl "is_between")) eNil)) mkTup)) body3) (sSeq t_4 sNx)))) := rfl
abbrev HH (sc : PV) (n : Nat) (t2 t3 t4 t5 t6 t7 t8 t9 t10 t11 t12 t13 t14 t15 t16 t17 : Option PV) : Env' := [some sc, some (.loc n), t2, t3, t4, t5, t6, t7, t8, t9, t10, t11, t12, t13, t14, t15, t16, t17]
section
variable {st s s1 s2 : Sto} {n m k l : Nat} {xs : List Int} {B C : Nat} {cap : Cap} {p sc : PV} {x y : Rat} {a b c : Pt} {t2 t3 t4 t5 t6 t7 t8 t9 t10 t11 t12 t13 t14 t15 t16 t17 : Option PV}
theorem b0_ok (P : PB st n m xs B) (hB : B < 300000) : ∃ a b c s, b1_0 (HH sc n t2 t3 t4 t5 t6 t7 t8 t9 t10 t11 t12 t13 t14 t15 t16 t17) st = .ok .nx (HH sc n t2 (some (pt a)) (some (pt b)) (some (pt c)) t6 t7 t8 t9 t10 t11 t12 t13 t14 t15 t16 t17) s ∧ QP 3 a ∧ QP 3 b ∧ QP 3 c ∧ PB s n m xs (B + 12) ∧ LE st s := by
  obtain ⟨a, s1, e1, q1, P1, L1⟩ := free_B (cap := kpE (HH sc n t2 t3 t4 t5 t6 t7 t8 t9 t10 t11 t12 t13 t14 t15 t16 t17)) P (by omega)
  obtain ⟨b, s2, e2, q2, P2, L2⟩ := free_B (cap := kpE (HH sc n t2 t3 t4 t5 t6 t7 t8 t9 t10 t11 t12 t13 t14 t15 t16 t17)) P1 (by omega)
  obtain ⟨c, s3, e3, q3, P3, L3⟩ := free_B (cap := kpE (HH sc n t2 t3 t4 t5 t6 t7 t8 t9 t10 t11 t12 t13 t14 t15 t16 t17)) P2 (by omega)
  refine ⟨a, b, c, s3, ?_, q1, q2, q3, P3, (L1.trans L2).trans L3⟩
  unfold b1_0
  refine r_asg (p := .tup [pt a, pt b, pt c]) ?_ rfl
  (repeat' (first | ((with_reducible apply Cv.r_asm); with_reducible assumption) | with_reducible exact Cv.r_ok | with_reducible exact Cv.r_con | ((with_reducible apply Cv.r_var); rfl) | with_reducible apply Cv.r_two | with_reducible apply Cv.r_callF | with_reducible apply Cv.r_cons | with_reducible exact Cv.r_nil | with_reducible apply Cv.r_row | with_reducible apply Cv.r_one | with_reducible apply Cv.r_and | with_reducible apply Cv.r_or | with_reducible apply Cv.r_ite | with_reducible apply Cv.r_t | with_reducible apply Cv.r_not | with_reducible exact Cv.r_trb | with_reducible apply Cv.r_seq | with_reducible apply Cv.r_then_nx | with_reducible exact Cv.r_then_rt | with_reducible exact Cv.r_then_bk | with_reducible exact Cv.r_then_ct | with_reducible exact Cv.r_then_exn | with_reducible apply Cv.r_if | with_reducible apply Cv.r_set | with_reducible apply Cv.r_par | with_reducible exact Cv.r_nx | with_reducible exact Cv.r_fl | with_reducible apply Cv.r_exp | with_reducible apply Cv.r_ss | with_reducible exact Cv.r_sz | ((with_reducible apply Cv.r_T); focus (first | rfl | assumption | omega | (simp only [*, decide_true, decide_false, Bool.not_true, Bool.not_false, Bool.and_true, Bool.and_false, Bool.true_and, Bool.false_and, Bool.or_true, Bool.or_false, Bool.true_or, Bool.false_or]; done) | (simp [*]; done))) | ((with_reducible apply Cv.r_F); focus (first | rfl | assumption | omega | (simp only [*, decide_true, decide_false, Bool.not_true, Bool.not_false, Bool.and_true, Bool.and_false, Bool.true_and, Bool.false_and, Bool.or_true, Bool.or_false, Bool.true_or, Bool.false_or]; done) | (simp [*]; done))) | ((with_reducible apply Cv.r_tup); rfl) | ((with_reducible apply Cv.r_lst); rfl) | with_reducible exact Cv.r_ix0 | with_reducible exact Cv.r_ix1 | with_reducible exact Cv.r_ix2 | with_reducible exact Cv.r_add | with_reducible exact Cv.r_sub | with_reducible exact Cv.r_neg | with_reducible exact Cv.r_lt | with_reducible exact Cv.r_le | with_reducible exact Cv.r_gt | with_reducible exact Cv.r_ge | with_reducible exact Cv.r_eq | with_reducible exact Cv.r_ne | with_reducible exact Cv.r_eqB | with_reducible exact Cv.r_neB | with_reducible exact Cv.r_isB | with_reducible exact Cv.r_isnB | with_reducible exact Cv.r_subB | with_reducible apply Cv.r_ret))
theorem QP.up (h : QP k a) (e : k ≤ l) : QP l a := ⟨h.x.up e, h.y.up e⟩
/-- a share of the way -/
def bys : List PV := [.tup [.int 0, .int 1], .tup [.int 1, .int 1], .tup [.int 1, .int 2], .tup [.int 2, .int 1], .tup [.int (-1), .int 1]]
theorem bys_pr (h : p ∈ bys) : ∃ x, p = pr x ∧ QB 2 x := by
  unfold bys at h
  simp only [List.mem_cons, List.not_mem_nil, or_false] at h
  rcases h with rfl | rfl | rfl | rfl | rfl
  · exact ⟨mkRat 0 1, rfl, by decide, by decide⟩
  · exact ⟨mkRat 1 1, rfl, by decide, by decide⟩
  · exact ⟨mkRat 1 2, rfl, by decide, by decide⟩
  · exact ⟨mkRat 2 1, rfl, by decide, by decide⟩
  · exact ⟨mkRat (-1) 1, rfl, by decide, by decide⟩
def wayP (x : Rat) (a b : Pt) : Pt := (a.1 + x * (b.1 - a.1), a.2 + x * (b.2 - a.2))
def eWay : Ev PV := evCallF (eCons (eVar 7) (eCons (evCallF (eCons (eVar 6) (eCons (evCallF (eCons (eVar 8) (eCons (eVar 7) eNil)) (fun _ => []) f__law_minus) eNil)) (fun _ => []) f__law_times) eNil)) (fun _ => []) f__law_plus
theorem lc_way [QB 2 x] [QP 3 a] [QP 3 b] : ∃ s, eLc eWay (.tup [(.nm 7), (.nm 8)]) (fun _ st => .ok true st) (iZip2 (eCons (eVar 3) (eCons (eVar 4) eNil))) [7, 8] (HH sc n t2 (some (pt a)) (some (pt b)) t5 (some (pr x)) t7 t8 t9 t10 t11 t12 t13 t14 t15 t16 t17) st = .ok (.loc st.length) s ∧ Ext st s ∧ s[st.length]? = some (.lst [pr (a.1 + x * (b.1 - a.1)), pr (a.2 + x * (b.2 - a.2))]) := by
  refine lc_ext (s := .zip (pt a) (pt b)) (xs := [.tup [pr a.1, pr b.1], .tup [pr a.2, pr b.2]]) ?_ (fun s e i => ?_) (.cons (fun s e => ?_) (.cons (fun s e => ?_) .nil)) (by simp)
  · rfl
  · match i with
    | 0 => rfl
    | 1 => rfl
    | i + 2 => rfl
  · refine ⟨HH sc n t2 (some (pt a)) (some (pt b)) t5 (some (pr x)) (some (pr a.1)) (some (pr b.1)) t9 t10 t11 t12 t13 t14 t15 t16 t17, s, rfl, ?_, .refl⟩
    unfold eWay
    (repeat' (first | with_reducible exact lplus_ok (by omega) | with_reducible exact ltimes_ok (by omega) | with_reducible exact lminus_ok (by omega) | ((with_reducible apply Cv.r_asm); with_reducible assumption) | with_reducible exact Cv.r_ok | with_reducible exact Cv.r_con | ((with_reducible apply Cv.r_var); rfl) | with_reducible apply Cv.r_two | with_reducible apply Cv.r_callF | with_reducible apply Cv.r_cons | with_reducible exact Cv.r_nil | with_reducible apply Cv.r_row | with_reducible apply Cv.r_one | with_reducible apply Cv.r_and | with_reducible apply Cv.r_or | with_reducible apply Cv.r_ite | with_reducible apply Cv.r_t | with_reducible apply Cv.r_not | with_reducible exact Cv.r_trb | with_reducible apply Cv.r_seq | with_reducible apply Cv.r_then_nx | with_reducible exact Cv.r_then_rt | with_reducible exact Cv.r_then_bk | with_reducible exact Cv.r_then_ct | with_reducible exact Cv.r_then_exn | with_reducible apply Cv.r_if | with_reducible apply Cv.r_set | with_reducible apply Cv.r_par | with_reducible exact Cv.r_nx | with_reducible exact Cv.r_fl | with_reducible apply Cv.r_exp | with_reducible apply Cv.r_ss | with_reducible exact Cv.r_sz | ((with_reducible apply Cv.r_T); focus (first | rfl | assumption | omega | (simp only [*, decide_true, decide_false, Bool.not_true, Bool.not_false, Bool.and_true, Bool.and_false, Bool.true_and, Bool.false_and, Bool.or_true, Bool.or_false, Bool.true_or, Bool.false_or]; done) | (simp [*]; done))) | ((with_reducible apply Cv.r_F); focus (first | rfl | assumption | omega | (simp only [*, decide_true, decide_false, Bool.not_true, Bool.not_false, Bool.and_true, Bool.and_false, Bool.true_and, Bool.false_and, Bool.or_true, Bool.or_false, Bool.true_or, Bool.false_or]; done) | (simp [*]; done))) | ((with_reducible apply Cv.r_tup); rfl) | ((with_reducible apply Cv.r_lst); rfl) | with_reducible exact Cv.r_ix0 | with_reducible exact Cv.r_ix1 | with_reducible exact Cv.r_ix2 | with_reducible exact Cv.r_add | with_reducible exact Cv.r_sub | with_reducible exact Cv.r_neg | with_reducible exact Cv.r_lt | with_reducible exact Cv.r_le | with_reducible exact Cv.r_gt | with_reducible exact Cv.r_ge | with_reducible exact Cv.r_eq | with_reducible exact Cv.r_ne | with_reducible exact Cv.r_eqB | with_reducible exact Cv.r_neB | with_reducible exact Cv.r_isB | with_reducible exact Cv.r_isnB | with_reducible exact Cv.r_subB | with_reducible apply Cv.r_ret))
  · refine ⟨HH sc n t2 (some (pt a)) (some (pt b)) t5 (some (pr x)) (some (pr a.2)) (some (pr b.2)) t9 t10 t11 t12 t13 t14 t15 t16 t17, s, rfl, ?_, .refl⟩
    unfold eWay
    (repeat' (first | with_reducible exact lplus_ok (by omega) | with_reducible exact ltimes_ok (by omega) | with_reducible exact lminus_ok (by omega) | ((with_reducible apply Cv.r_asm); with_reducible assumption) | with_reducible exact Cv.r_ok | with_reducible exact Cv.r_con | ((with_reducible apply Cv.r_var); rfl) | with_reducible apply Cv.r_two | with_reducible apply Cv.r_callF | with_reducible apply Cv.r_cons | with_reducible exact Cv.r_nil | with_reducible apply Cv.r_row | with_reducible apply Cv.r_one | with_reducible apply Cv.r_and | with_reducible apply Cv.r_or | with_reducible apply Cv.r_ite | with_reducible apply Cv.r_t | with_reducible apply Cv.r_not | with_reducible exact Cv.r_trb | with_reducible apply Cv.r_seq | with_reducible apply Cv.r_then_nx | with_reducible exact Cv.r_then_rt | with_reducible exact Cv.r_then_bk | with_reducible exact Cv.r_then_ct | with_reducible exact Cv.r_then_exn | with_reducible apply Cv.r_if | with_reducible apply Cv.r_set | with_reducible apply Cv.r_par | with_reducible exact Cv.r_nx | with_reducible exact Cv.r_fl | with_reducible apply Cv.r_exp | with_reducible apply Cv.r_ss | with_reducible exact Cv.r_sz | ((with_reducible apply Cv.r_T); focus (first | rfl | assumption | omega | (simp only [*, decide_true, decide_false, Bool.not_true, Bool.not_false, Bool.and_true, Bool.and_false, Bool.true_and, Bool.false_and, Bool.or_true, Bool.or_false, Bool.true_or, Bool.false_or]; done) | (simp [*]; done))) | ((with_reducible apply Cv.r_F); focus (first | rfl | assumption | omega | (simp only [*, decide_true, decide_false, Bool.not_true, Bool.not_false, Bool.and_true, Bool.and_false, Bool.true_and, Bool.false_and, Bool.or_true, Bool.or_false, Bool.true_or, Bool.false_or]; done) | (simp [*]; done))) | ((with_reducible apply Cv.r_tup); rfl) | ((with_reducible apply Cv.r_lst); rfl) | with_reducible exact Cv.r_ix0 | with_reducible exact Cv.r_ix1 | with_reducible exact Cv.r_ix2 | with_reducible exact Cv.r_add | with_reducible exact Cv.r_sub | with_reducible exact Cv.r_neg | with_reducible exact Cv.r_lt | with_reducible exact Cv.r_le | with_reducible exact Cv.r_gt | with_reducible exact Cv.r_ge | with_reducible exact Cv.r_eq | with_reducible exact Cv.r_ne | with_reducible exact Cv.r_eqB | with_reducible exact Cv.r_neB | with_reducible exact Cv.r_isB | with_reducible exact Cv.r_isnB | with_reducible exact Cv.r_subB | with_reducible apply Cv.r_ret))
theorem b1_ok (P : PB st n m xs B) (hB : B < 300000) [q1 : QP 3 a] [q2 : QP 3 b] [q3 : QP 3 c] : ∃ c' u6 s, b1_1 (HH sc n t2 (some (pt a)) (some (pt b)) (some (pt c)) t6 t7 t8 t9 t10 t11 t12 t13 t14 t15 t16 t17) st = .ok .nx (HH sc n t2 (some (pt a)) (some (pt b)) (some (pt c')) u6 t7 t8 t9 t10 t11 t12 t13 t14 t15 t16 t17) s ∧ QP 13 c' ∧ PB s n m xs (B + 2) ∧ LE st s := by
  obtain ⟨z, s1, z0, z1, e1, P1, L1⟩ := draw_B (cap := kpE (HH sc n t2 (some (pt a)) (some (pt b)) (some (pt c)) t6 t7 t8 t9 t10 t11 t12 t13 t14 t15 t16 t17)) (many := 3) P (by omega) (by omega) (by omega)
  by_cases hz : z = 0
  · obtain ⟨y, s2, hy, e2, P2, L2⟩ := pick_B (cap := kpE (HH sc n t2 (some (pt a)) (some (pt b)) (some (pt c)) t6 t7 t8 t9 t10 t11 t12 t13 t14 t15 t16 t17)) (ys := bys) P1 (by omega) (by simp [bys]) (by simp [bys])
    obtain ⟨x, rfl, qx⟩ := bys_pr hy
    obtain ⟨s3, e3, x3, h3⟩ := lc_way (st := s2) (x := x) (a := a) (b := b) (sc := sc) (n := n) (t2 := t2) (t5 := some (pt c)) (t7 := t7) (t8 := t8) (t9 := t9) (t10 := t10) (t11 := t11) (t12 := t12) (t13 := t13) (t14 := t14) (t15 := t15) (t16 := t16) (t17 := t17)
    have t := r_tupL h3
    refine ⟨wayP x a b, some (pr x), s3, ?_, ⟨?_, ?_⟩, (P2.ext x3).up (by omega), (L1.trans (LE.push.trans L2)).trans (.ext x3)⟩
    · unfold eWay at e3
      unfold bys at e2
      unfold b1_1
      (repeat' (first | with_reducible exact e3 | with_reducible exact t | ((with_reducible apply Cv.r_asm); with_reducible assumption) | with_reducible exact Cv.r_ok | with_reducible exact Cv.r_con | ((with_reducible apply Cv.r_var); rfl) | with_reducible apply Cv.r_two | with_reducible apply Cv.r_callF | with_reducible apply Cv.r_cons | with_reducible exact Cv.r_nil | with_reducible apply Cv.r_row | with_reducible apply Cv.r_one | with_reducible apply Cv.r_and | with_reducible apply Cv.r_or | with_reducible apply Cv.r_ite | with_reducible apply Cv.r_t | with_reducible apply Cv.r_not | with_reducible exact Cv.r_trb | with_reducible apply Cv.r_seq | with_reducible apply Cv.r_then_nx | with_reducible exact Cv.r_then_rt | with_reducible exact Cv.r_then_bk | with_reducible exact Cv.r_then_ct | with_reducible exact Cv.r_then_exn | with_reducible apply Cv.r_if | with_reducible apply Cv.r_set | with_reducible apply Cv.r_par | with_reducible exact Cv.r_nx | with_reducible exact Cv.r_fl | with_reducible apply Cv.r_exp | with_reducible apply Cv.r_ss | with_reducible exact Cv.r_sz | ((with_reducible apply Cv.r_T); focus (first | rfl | assumption | omega | (simp only [*, decide_true, decide_false, Bool.not_true, Bool.not_false, Bool.and_true, Bool.and_false, Bool.true_and, Bool.false_and, Bool.or_true, Bool.or_false, Bool.true_or, Bool.false_or]; done) | (simp [*]; done))) | ((with_reducible apply Cv.r_F); focus (first | rfl | assumption | omega | (simp only [*, decide_true, decide_false, Bool.not_true, Bool.not_false, Bool.and_true, Bool.and_false, Bool.true_and, Bool.false_and, Bool.or_true, Bool.or_false, Bool.true_or, Bool.false_or]; done) | (simp [*]; done))) | ((with_reducible apply Cv.r_tup); rfl) | ((with_reducible apply Cv.r_lst); rfl) | with_reducible exact Cv.r_ix0 | with_reducible exact Cv.r_ix1 | with_reducible exact Cv.r_ix2 | with_reducible exact Cv.r_add | with_reducible exact Cv.r_sub | with_reducible exact Cv.r_neg | with_reducible exact Cv.r_lt | with_reducible exact Cv.r_le | with_reducible exact Cv.r_gt | with_reducible exact Cv.r_ge | with_reducible exact Cv.r_eq | with_reducible exact Cv.r_ne | with_reducible exact Cv.r_eqB | with_reducible exact Cv.r_neB | with_reducible exact Cv.r_isB | with_reducible exact Cv.r_isnB | with_reducible exact Cv.r_subB | with_reducible apply Cv.r_ret))
      exact r_nx
    · exact inferInstanceAs (QB 13 (a.1 + x * (b.1 - a.1)))
    · exact inferInstanceAs (QB 13 (a.2 + x * (b.2 - a.2)))
  · refine ⟨c, t6, s1, ?_, q3.up (by omega), P1.up (by omega), L1⟩
    unfold b1_1
    (repeat' (first | ((with_reducible apply Cv.r_asm); with_reducible assumption) | with_reducible exact Cv.r_ok | with_reducible exact Cv.r_con | ((with_reducible apply Cv.r_var); rfl) | with_reducible apply Cv.r_two | with_reducible apply Cv.r_callF | with_reducible apply Cv.r_cons | with_reducible exact Cv.r_nil | with_reducible apply Cv.r_row | with_reducible apply Cv.r_one | with_reducible apply Cv.r_and | with_reducible apply Cv.r_or | with_reducible apply Cv.r_ite | with_reducible apply Cv.r_t | with_reducible apply Cv.r_not | with_reducible exact Cv.r_trb | with_reducible apply Cv.r_seq | with_reducible apply Cv.r_then_nx | with_reducible exact Cv.r_then_rt | with_reducible exact Cv.r_then_bk | with_reducible exact Cv.r_then_ct | with_reducible exact Cv.r_then_exn | with_reducible apply Cv.r_if | with_reducible apply Cv.r_set | with_reducible apply Cv.r_par | with_reducible exact Cv.r_nx | with_reducible exact Cv.r_fl | with_reducible apply Cv.r_exp | with_reducible apply Cv.r_ss | with_reducible exact Cv.r_sz | ((with_reducible apply Cv.r_T); focus (first | rfl | assumption | omega | (simp only [*, decide_true, decide_false, Bool.not_true, Bool.not_false, Bool.and_true, Bool.and_false, Bool.true_and, Bool.false_and, Bool.or_true, Bool.or_false, Bool.true_or, Bool.false_or]; done) | (simp [*]; done))) | ((with_reducible apply Cv.r_F); focus (first | rfl | assumption | omega | (simp only [*, decide_true, decide_false, Bool.not_true, Bool.not_false, Bool.and_true, Bool.and_false, Bool.true_and, Bool.false_and, Bool.or_true, Bool.or_false, Bool.true_or, Bool.false_or]; done) | (simp [*]; done))) | ((with_reducible apply Cv.r_tup); rfl) | ((with_reducible apply Cv.r_lst); rfl) | with_reducible exact Cv.r_ix0 | with_reducible exact Cv.r_ix1 | with_reducible exact Cv.r_ix2 | with_reducible exact Cv.r_add | with_reducible exact Cv.r_sub | with_reducible exact Cv.r_neg | with_reducible exact Cv.r_lt | with_reducible exact Cv.r_le | with_reducible exact Cv.r_gt | with_reducible exact Cv.r_ge | with_reducible exact Cv.r_eq | with_reducible exact Cv.r_ne | with_reducible exact Cv.r_eqB | with_reducible exact Cv.r_neB | with_reducible exact Cv.r_isB | with_reducible exact Cv.r_isnB | with_reducible exact Cv.r_subB | with_reducible apply Cv.r_ret))
end
end Cut
namespace Cut
open PySem PySem.Spec PyProof.Rows L2 Cv
/-! ### a lap: tests -/
section
variable {st s s1 s2 : Sto} {n m k l : Nat} {xs : List Int} {B C : Nat} {cap : Cap} {p sc : PV} {x y : Rat} {a b c mo : Pt} {t2 t3 t4 t5 t6 t7 t8 t9 t10 t11 t12 t13 t14 t15 t16 t17 : Option PV}
abbrev HL (sc : PV) (n : Nat) (t2 : Option PV) (a b c : Pt) (t6 t7 t8 t9 t10 t11 t12 t13 t14 t15 t16 t17 : Option PV) : Env' := HH sc n t2 (some (pt a)) (some (pt b)) (some (pt c)) t6 t7 t8 t9 t10 t11 t12 t13 t14 t15 t16 t17
theorem b2_ok [QP 3 a] [QP 3 b] [QP 13 c] : b1_2 (HL sc n t2 a b c t6 t7 t8 t9 t10 t11 t12 t13 t14 t15 t16 t17) st = .ok .nx (HL sc n t2 a b c t6 t7 t8 (some (.int (crs a b c).num)) t10 t11 t12 t13 t14 t15 t16 t17) st := by
  unfold b1_2
  (repeat' (first | with_reducible exact lturn_of_ok (by omega) | ((with_reducible apply Cv.r_asm); with_reducible assumption) | with_reducible exact Cv.r_ok | with_reducible exact Cv.r_con | ((with_reducible apply Cv.r_var); rfl) | with_reducible apply Cv.r_two | with_reducible apply Cv.r_callF | with_reducible apply Cv.r_cons | with_reducible exact Cv.r_nil | with_reducible apply Cv.r_row | with_reducible apply Cv.r_one | with_reducible apply Cv.r_and | with_reducible apply Cv.r_or | with_reducible apply Cv.r_ite | with_reducible apply Cv.r_t | with_reducible apply Cv.r_not | with_reducible exact Cv.r_trb | with_reducible apply Cv.r_seq | with_reducible apply Cv.r_then_nx | with_reducible exact Cv.r_then_rt | with_reducible exact Cv.r_then_bk | with_reducible exact Cv.r_then_ct | with_reducible exact Cv.r_then_exn | with_reducible apply Cv.r_if | with_reducible apply Cv.r_set | with_reducible apply Cv.r_par | with_reducible exact Cv.r_nx | with_reducible exact Cv.r_fl | with_reducible apply Cv.r_exp | with_reducible apply Cv.r_ss | with_reducible exact Cv.r_sz | ((with_reducible apply Cv.r_T); focus (first | rfl | assumption | omega | (simp only [*, decide_true, decide_false, Bool.not_true, Bool.not_false, Bool.and_true, Bool.and_false, Bool.true_and, Bool.false_and, Bool.or_true, Bool.or_false, Bool.true_or, Bool.false_or]; done) | (simp [*]; done))) | ((with_reducible apply Cv.r_F); focus (first | rfl | assumption | omega | (simp only [*, decide_true, decide_false, Bool.not_true, Bool.not_false, Bool.and_true, Bool.and_false, Bool.true_and, Bool.false_and, Bool.or_true, Bool.or_false, Bool.true_or, Bool.false_or]; done) | (simp [*]; done))) | ((with_reducible apply Cv.r_tup); rfl) | ((with_reducible apply Cv.r_lst); rfl) | with_reducible exact Cv.r_ix0 | with_reducible exact Cv.r_ix1 | with_reducible exact Cv.r_ix2 | with_reducible exact Cv.r_add | with_reducible exact Cv.r_sub | with_reducible exact Cv.r_neg | with_reducible exact Cv.r_lt | with_reducible exact Cv.r_le | with_reducible exact Cv.r_gt | with_reducible exact Cv.r_ge | with_reducible exact Cv.r_eq | with_reducible exact Cv.r_ne | with_reducible exact Cv.r_eqB | with_reducible exact Cv.r_neB | with_reducible exact Cv.r_isB | with_reducible exact Cv.r_isnB | with_reducible exact Cv.r_subB | with_reducible apply Cv.r_ret))
theorem b3_ok : b1_3 (HL sc n t2 a b c t6 t7 t8 (some (.int (crs a b c).num)) t10 t11 t12 t13 t14 t15 t16 t17) st = .ok .nx (HL sc n t2 a b c t6 t7 t8 (some (.int (crs a b c).num)) (some (.int (sgn (crs a b c)))) t11 t12 t13 t14 t15 t16 t17) st := by
  unfold b1_3
  rw [← side_sgn]
  (repeat' (first | ((with_reducible apply Cv.r_asm); with_reducible assumption) | with_reducible exact Cv.r_ok | with_reducible exact Cv.r_con | ((with_reducible apply Cv.r_var); rfl) | with_reducible apply Cv.r_two | with_reducible apply Cv.r_callF | with_reducible apply Cv.r_cons | with_reducible exact Cv.r_nil | with_reducible apply Cv.r_row | with_reducible apply Cv.r_one | with_reducible apply Cv.r_and | with_reducible apply Cv.r_or | with_reducible apply Cv.r_ite | with_reducible apply Cv.r_t | with_reducible apply Cv.r_not | with_reducible exact Cv.r_trb | with_reducible apply Cv.r_seq | with_reducible apply Cv.r_then_nx | with_reducible exact Cv.r_then_rt | with_reducible exact Cv.r_then_bk | with_reducible exact Cv.r_then_ct | with_reducible exact Cv.r_then_exn | with_reducible apply Cv.r_if | with_reducible apply Cv.r_set | with_reducible apply Cv.r_par | with_reducible exact Cv.r_nx | with_reducible exact Cv.r_fl | with_reducible apply Cv.r_exp | with_reducible apply Cv.r_ss | with_reducible exact Cv.r_sz | ((with_reducible apply Cv.r_T); focus (first | rfl | assumption | omega | (simp only [*, decide_true, decide_false, Bool.not_true, Bool.not_false, Bool.and_true, Bool.and_false, Bool.true_and, Bool.false_and, Bool.or_true, Bool.or_false, Bool.true_or, Bool.false_or]; done) | (simp [*]; done))) | ((with_reducible apply Cv.r_F); focus (first | rfl | assumption | omega | (simp only [*, decide_true, decide_false, Bool.not_true, Bool.not_false, Bool.and_true, Bool.and_false, Bool.true_and, Bool.false_and, Bool.or_true, Bool.or_false, Bool.true_or, Bool.false_or]; done) | (simp [*]; done))) | ((with_reducible apply Cv.r_tup); rfl) | ((with_reducible apply Cv.r_lst); rfl) | with_reducible exact Cv.r_ix0 | with_reducible exact Cv.r_ix1 | with_reducible exact Cv.r_ix2 | with_reducible exact Cv.r_add | with_reducible exact Cv.r_sub | with_reducible exact Cv.r_neg | with_reducible exact Cv.r_lt | with_reducible exact Cv.r_le | with_reducible exact Cv.r_gt | with_reducible exact Cv.r_ge | with_reducible exact Cv.r_eq | with_reducible exact Cv.r_ne | with_reducible exact Cv.r_eqB | with_reducible exact Cv.r_neB | with_reducible exact Cv.r_isB | with_reducible exact Cv.r_isnB | with_reducible exact Cv.r_subB | with_reducible apply Cv.r_ret))
theorem ne_self {z : Str} : cmpOp .ne (.str z) (.str z) st = .ok (.bl false) st := by rw [r_neS]; simp
theorem ne_int {i j : Int} (h : i = j) : cmpOp .ne (.int i) (.int j) st = .ok (.bl false) st := by rw [r_ne]; simp [h]
theorem b4_ok [QP 3 a] [QP 3 b] [QP 13 c] (P : PB st n m xs B) (hB : B < 300000) : ∃ s, b1_4 (HL sc n t2 a b c t6 t7 t8 t9 (some (.int (sgn (crs a b c)))) t11 t12 t13 t14 t15 t16 t17) st = .ok .nx (HL sc n t2 a b c t6 t7 t8 t9 (some (.int (sgn (crs a b c)))) t11 t12 t13 t14 t15 t16 t17) s ∧ PB s n m xs (B + 21) ∧ LE st s := by
  let cp := kpE (HL sc n t2 a b c t6 t7 t8 t9 (some (.int (sgn (crs a b c)))) t11 t12 t13 t14 t15 t16 t17)
  obtain ⟨p1, s1, e1, h1, P1, L1⟩ := row_B (cap := cp) (a := a) (by omega) P (by omega)
  obtain ⟨p2, s2, e2, h2, P2, L2⟩ := row_B (cap := cp) (a := b) (by omega) P1 (by omega)
  obtain ⟨p3, s3, e3, h3, P3, L3⟩ := row_B (cap := cp) (a := c) (by omega) P2 (by omega)
  obtain ⟨s4, e4, x4⟩ := turn_of_ok (cap := cp) (h1.le (L2.trans L3)) (h2.le L3) h3 (by omega)
  have r1 := repr_sgn (x := crs a b c) (st := s4)
  have nq := ne_self (st := s4) (z := (PyData.int (sgn (crs a b c))).shown)
  refine ⟨s4, ?_, P3.ext x4, ((L1.trans L2).trans L3).trans (.ext x4)⟩
  unfold b1_4
  (repeat' (first | with_reducible exact e1 | with_reducible exact e2 | with_reducible exact e3 | with_reducible exact e4 | ((with_reducible apply Cv.r_asm); with_reducible assumption) | with_reducible exact Cv.r_ok | with_reducible exact Cv.r_con | ((with_reducible apply Cv.r_var); rfl) | with_reducible apply Cv.r_two | with_reducible apply Cv.r_callF | with_reducible apply Cv.r_cons | with_reducible exact Cv.r_nil | with_reducible apply Cv.r_row | with_reducible apply Cv.r_one | with_reducible apply Cv.r_and | with_reducible apply Cv.r_or | with_reducible apply Cv.r_ite | with_reducible apply Cv.r_t | with_reducible apply Cv.r_not | with_reducible exact Cv.r_trb | with_reducible apply Cv.r_seq | with_reducible apply Cv.r_then_nx | with_reducible exact Cv.r_then_rt | with_reducible exact Cv.r_then_bk | with_reducible exact Cv.r_then_ct | with_reducible exact Cv.r_then_exn | with_reducible apply Cv.r_if | with_reducible apply Cv.r_set | with_reducible apply Cv.r_par | with_reducible exact Cv.r_nx | with_reducible exact Cv.r_fl | with_reducible apply Cv.r_exp | with_reducible apply Cv.r_ss | with_reducible exact Cv.r_sz | ((with_reducible apply Cv.r_T); focus (first | rfl | assumption | omega | (simp only [*, decide_true, decide_false, Bool.not_true, Bool.not_false, Bool.and_true, Bool.and_false, Bool.true_and, Bool.false_and, Bool.or_true, Bool.or_false, Bool.true_or, Bool.false_or]; done) | (simp [*]; done))) | ((with_reducible apply Cv.r_F); focus (first | rfl | assumption | omega | (simp only [*, decide_true, decide_false, Bool.not_true, Bool.not_false, Bool.and_true, Bool.and_false, Bool.true_and, Bool.false_and, Bool.or_true, Bool.or_false, Bool.true_or, Bool.false_or]; done) | (simp [*]; done))) | ((with_reducible apply Cv.r_tup); rfl) | ((with_reducible apply Cv.r_lst); rfl) | with_reducible exact Cv.r_ix0 | with_reducible exact Cv.r_ix1 | with_reducible exact Cv.r_ix2 | with_reducible exact Cv.r_add | with_reducible exact Cv.r_sub | with_reducible exact Cv.r_neg | with_reducible exact Cv.r_lt | with_reducible exact Cv.r_le | with_reducible exact Cv.r_gt | with_reducible exact Cv.r_ge | with_reducible exact Cv.r_eq | with_reducible exact Cv.r_ne | with_reducible exact Cv.r_eqB | with_reducible exact Cv.r_neB | with_reducible exact Cv.r_isB | with_reducible exact Cv.r_isnB | with_reducible exact Cv.r_subB | with_reducible apply Cv.r_ret))
theorem says_self {u : Bool} : f__law_says cap [.bl u, .bl u] st = .ok (.bl true) st := by rw [says_ok]; simp
open Classical in
theorem b5_ok [QP 3 a] [QP 3 b] [QP 13 c] (P : PB st n m xs B) (hB : B < 300000) : ∃ s, b1_5 (HL sc n t2 a b c t6 t7 t8 t9 t10 t11 t12 t13 t14 t15 t16 t17) st = .ok .nx (HL sc n t2 a b c t6 t7 t8 t9 t10 t11 t12 t13 t14 t15 t16 t17) s ∧ PB s n m xs (B + 14) ∧ LE st s := by
  let cp := kpE (HL sc n t2 a b c t6 t7 t8 t9 t10 t11 t12 t13 t14 t15 t16 t17)
  obtain ⟨p1, s1, e1, h1, P1, L1⟩ := row_B (cap := cp) (a := a) (by omega) P (by omega)
  obtain ⟨p2, s2, e2, h2, P2, L2⟩ := row_B (cap := cp) (a := b) (by omega) P1 (by omega)
  obtain ⟨s3, e3, x3⟩ := is_between_ok (cap := cp) (h1.le L2) h2 (HP.pt (st := s2) (a := c)) (by omega)
  obtain ⟨s4, e4, x4⟩ := on_edge_ok (cap := cp) (st := s3) (a := a) (b := b) (c := c) (by omega)
  have sy := says_self (cap := cp) (st := s4) (u := decide (btw a b c))
  refine ⟨s4, ?_, (P2.ext x3).ext x4, ((L1.trans L2).trans (.ext x3)).trans (.ext x4)⟩
  unfold b1_5
  (repeat' (first | with_reducible exact e1 | with_reducible exact e2 | with_reducible exact e3 | with_reducible exact e4 | with_reducible exact sy | ((with_reducible apply Cv.r_asm); with_reducible assumption) | with_reducible exact Cv.r_ok | with_reducible exact Cv.r_con | ((with_reducible apply Cv.r_var); rfl) | with_reducible apply Cv.r_two | with_reducible apply Cv.r_callF | with_reducible apply Cv.r_cons | with_reducible exact Cv.r_nil | with_reducible apply Cv.r_row | with_reducible apply Cv.r_one | with_reducible apply Cv.r_and | with_reducible apply Cv.r_or | with_reducible apply Cv.r_ite | with_reducible apply Cv.r_t | with_reducible apply Cv.r_not | with_reducible exact Cv.r_trb | with_reducible apply Cv.r_seq | with_reducible apply Cv.r_then_nx | with_reducible exact Cv.r_then_rt | with_reducible exact Cv.r_then_bk | with_reducible exact Cv.r_then_ct | with_reducible exact Cv.r_then_exn | with_reducible apply Cv.r_if | with_reducible apply Cv.r_set | with_reducible apply Cv.r_par | with_reducible exact Cv.r_nx | with_reducible exact Cv.r_fl | with_reducible apply Cv.r_exp | with_reducible apply Cv.r_ss | with_reducible exact Cv.r_sz | ((with_reducible apply Cv.r_T); focus (first | rfl | assumption | omega | (simp only [*, decide_true, decide_false, Bool.not_true, Bool.not_false, Bool.and_true, Bool.and_false, Bool.true_and, Bool.false_and, Bool.or_true, Bool.or_false, Bool.true_or, Bool.false_or]; done) | (simp [*]; done))) | ((with_reducible apply Cv.r_F); focus (first | rfl | assumption | omega | (simp only [*, decide_true, decide_false, Bool.not_true, Bool.not_false, Bool.and_true, Bool.and_false, Bool.true_and, Bool.false_and, Bool.or_true, Bool.or_false, Bool.true_or, Bool.false_or]; done) | (simp [*]; done))) | ((with_reducible apply Cv.r_tup); rfl) | ((with_reducible apply Cv.r_lst); rfl) | with_reducible exact Cv.r_ix0 | with_reducible exact Cv.r_ix1 | with_reducible exact Cv.r_ix2 | with_reducible exact Cv.r_add | with_reducible exact Cv.r_sub | with_reducible exact Cv.r_neg | with_reducible exact Cv.r_lt | with_reducible exact Cv.r_le | with_reducible exact Cv.r_gt | with_reducible exact Cv.r_ge | with_reducible exact Cv.r_eq | with_reducible exact Cv.r_ne | with_reducible exact Cv.r_eqB | with_reducible exact Cv.r_neB | with_reducible exact Cv.r_isB | with_reducible exact Cv.r_isnB | with_reducible exact Cv.r_subB | with_reducible apply Cv.r_ret))
open Classical in
theorem b6_ok [QP 3 a] [QP 3 b] [QP 13 c] (P : PB st n m xs B) : ∃ s, b1_6 (HL sc n t2 a b c t6 t7 t8 t9 (some (.int (sgn (crs a b c)))) t11 t12 t13 t14 t15 t16 t17) st = .ok .nx (HL sc n t2 a b c t6 t7 t8 t9 (some (.int (sgn (crs a b c)))) t11 t12 t13 t14 t15 t16 t17) s ∧ PB s n m xs B ∧ LE st s := by
  let cp := kpE (HL sc n t2 a b c t6 t7 t8 t9 (some (.int (sgn (crs a b c)))) t11 t12 t13 t14 t15 t16 t17)
  obtain ⟨s1, e1, x1⟩ := turn_of_ok (cap := cp) (st := st) (HP.pt (a := b)) (HP.pt (a := a)) (HP.pt (a := c)) (by omega)
  obtain ⟨s2, e2, x2⟩ := turn_of_ok (cap := cp) (st := s1) (HP.pt (a := b)) (HP.pt (a := c)) (HP.pt (a := a)) (by omega)
  obtain ⟨s3, e3, x3⟩ := turn_of_ok (cap := cp) (st := s2) (HP.pt (a := a)) (HP.pt (a := a)) (HP.pt (a := c)) (by omega)
  obtain ⟨s4, e4, x4⟩ := is_between_ok (cap := cp) (st := s3) (HP.pt (a := a)) (HP.pt (a := b)) (HP.pt (a := a)) (by omega)
  have n1 : cmpOp .ne (.int (sgn (crs b a c))) (.int (-sgn (crs a b c))) s1 = .ok (.bl false) s1 := ne_int (by rw [crs_swap, sgn_neg])
  have n2 : cmpOp .ne (.int (sgn (crs b c a))) (.int (sgn (crs a b c))) s2 = .ok (.bl false) s2 := ne_int (by rw [crs_swap2])
  have n3 : cmpOp .ne (.int (sgn (crs a a c))) (.int 0) s3 = .ok (.bl false) s3 := ne_int (by rw [crs_same]; rfl)
  have n4 : cmpOp .isnot (.bl (decide (btw a b a))) (.bl true) s4 = .ok (.bl false) s4 := by rw [decide_eq_true (btw_self a b)]; rfl
  refine ⟨s4, ?_, (((P.ext x1).ext x2).ext x3).ext x4, .ext (((x1.trans x2).trans x3).trans x4)⟩
  unfold b1_6
  (repeat' (first | with_reducible exact e1 | with_reducible exact e2 | with_reducible exact e3 | with_reducible exact e4 | with_reducible exact n1 | with_reducible exact n2 | with_reducible exact n3 | with_reducible exact n4 | ((with_reducible apply Cv.r_asm); with_reducible assumption) | with_reducible exact Cv.r_ok | with_reducible exact Cv.r_con | ((with_reducible apply Cv.r_var); rfl) | with_reducible apply Cv.r_two | with_reducible apply Cv.r_callF | with_reducible apply Cv.r_cons | with_reducible exact Cv.r_nil | with_reducible apply Cv.r_row | with_reducible apply Cv.r_one | with_reducible apply Cv.r_and | with_reducible apply Cv.r_or | with_reducible apply Cv.r_ite | with_reducible apply Cv.r_t | with_reducible apply Cv.r_not | with_reducible exact Cv.r_trb | with_reducible apply Cv.r_seq | with_reducible apply Cv.r_then_nx | with_reducible exact Cv.r_then_rt | with_reducible exact Cv.r_then_bk | with_reducible exact Cv.r_then_ct | with_reducible exact Cv.r_then_exn | with_reducible apply Cv.r_if | with_reducible apply Cv.r_set | with_reducible apply Cv.r_par | with_reducible exact Cv.r_nx | with_reducible exact Cv.r_fl | with_reducible apply Cv.r_exp | with_reducible apply Cv.r_ss | with_reducible exact Cv.r_sz | ((with_reducible apply Cv.r_T); focus (first | rfl | assumption | omega | (simp only [*, decide_true, decide_false, Bool.not_true, Bool.not_false, Bool.and_true, Bool.and_false, Bool.true_and, Bool.false_and, Bool.or_true, Bool.or_false, Bool.true_or, Bool.false_or]; done) | (simp [*]; done))) | ((with_reducible apply Cv.r_F); focus (first | rfl | assumption | omega | (simp only [*, decide_true, decide_false, Bool.not_true, Bool.not_false, Bool.and_true, Bool.and_false, Bool.true_and, Bool.false_and, Bool.or_true, Bool.or_false, Bool.true_or, Bool.false_or]; done) | (simp [*]; done))) | ((with_reducible apply Cv.r_tup); rfl) | ((with_reducible apply Cv.r_lst); rfl) | with_reducible exact Cv.r_ix0 | with_reducible exact Cv.r_ix1 | with_reducible exact Cv.r_ix2 | with_reducible exact Cv.r_add | with_reducible exact Cv.r_sub | with_reducible exact Cv.r_neg | with_reducible exact Cv.r_lt | with_reducible exact Cv.r_le | with_reducible exact Cv.r_gt | with_reducible exact Cv.r_ge | with_reducible exact Cv.r_eq | with_reducible exact Cv.r_ne | with_reducible exact Cv.r_eqB | with_reducible exact Cv.r_neB | with_reducible exact Cv.r_isB | with_reducible exact Cv.r_isnB | with_reducible exact Cv.r_subB | with_reducible apply Cv.r_ret))
theorem b7_ok (P : PB st n m xs B) (hB : B < 300000) : ∃ mo s, b1_7 (HL sc n t2 a b c t6 t7 t8 t9 t10 t11 t12 t13 t14 t15 t16 t17) st = .ok .nx (HL sc n t2 a b c t6 t7 t8 t9 t10 (some (pt mo)) t12 t13 t14 t15 t16 t17) s ∧ QP 3 mo ∧ PB s n m xs (B + 4) ∧ LE st s := by
  obtain ⟨mo, s1, e1, q1, P1, L1⟩ := free_B (cap := kpE (HL sc n t2 a b c t6 t7 t8 t9 t10 t11 t12 t13 t14 t15 t16 t17)) P (by omega)
  refine ⟨mo, s1, ?_, q1, P1, L1⟩
  unfold b1_7
  (repeat' (first | ((with_reducible apply Cv.r_asm); with_reducible assumption) | with_reducible exact Cv.r_ok | with_reducible exact Cv.r_con | ((with_reducible apply Cv.r_var); rfl) | with_reducible apply Cv.r_two | with_reducible apply Cv.r_callF | with_reducible apply Cv.r_cons | with_reducible exact Cv.r_nil | with_reducible apply Cv.r_row | with_reducible apply Cv.r_one | with_reducible apply Cv.r_and | with_reducible apply Cv.r_or | with_reducible apply Cv.r_ite | with_reducible apply Cv.r_t | with_reducible apply Cv.r_not | with_reducible exact Cv.r_trb | with_reducible apply Cv.r_seq | with_reducible apply Cv.r_then_nx | with_reducible exact Cv.r_then_rt | with_reducible exact Cv.r_then_bk | with_reducible exact Cv.r_then_ct | with_reducible exact Cv.r_then_exn | with_reducible apply Cv.r_if | with_reducible apply Cv.r_set | with_reducible apply Cv.r_par | with_reducible exact Cv.r_nx | with_reducible exact Cv.r_fl | with_reducible apply Cv.r_exp | with_reducible apply Cv.r_ss | with_reducible exact Cv.r_sz | ((with_reducible apply Cv.r_T); focus (first | rfl | assumption | omega | (simp only [*, decide_true, decide_false, Bool.not_true, Bool.not_false, Bool.and_true, Bool.and_false, Bool.true_and, Bool.false_and, Bool.or_true, Bool.or_false, Bool.true_or, Bool.false_or]; done) | (simp [*]; done))) | ((with_reducible apply Cv.r_F); focus (first | rfl | assumption | omega | (simp only [*, decide_true, decide_false, Bool.not_true, Bool.not_false, Bool.and_true, Bool.and_false, Bool.true_and, Bool.false_and, Bool.or_true, Bool.or_false, Bool.true_or, Bool.false_or]; done) | (simp [*]; done))) | ((with_reducible apply Cv.r_tup); rfl) | ((with_reducible apply Cv.r_lst); rfl) | with_reducible exact Cv.r_ix0 | with_reducible exact Cv.r_ix1 | with_reducible exact Cv.r_ix2 | with_reducible exact Cv.r_add | with_reducible exact Cv.r_sub | with_reducible exact Cv.r_neg | with_reducible exact Cv.r_lt | with_reducible exact Cv.r_le | with_reducible exact Cv.r_gt | with_reducible exact Cv.r_ge | with_reducible exact Cv.r_eq | with_reducible exact Cv.r_ne | with_reducible exact Cv.r_eqB | with_reducible exact Cv.r_neB | with_reducible exact Cv.r_isB | with_reducible exact Cv.r_isnB | with_reducible exact Cv.r_subB | with_reducible apply Cv.r_ret))
theorem b8_ok [QP 3 a] [QP 3 b] [QP 13 c] [QP 3 mo] (P : PB st n m xs B) : ∃ d s, b1_8 (HL sc n t2 a b c t6 t7 t8 t9 t10 (some (pt mo)) t12 t13 t14 t15 t16 t17) st = .ok .nx (HL sc n t2 a b c t6 t7 t8 t9 t10 (some (pt mo)) (some (.loc d)) t13 t14 t15 t16 t17) s ∧ s[d]? = some (.lst [pt (mv a mo), pt (mv b mo), pt (mv c mo)]) ∧ PB s n m xs B ∧ LE st s := by
  have lc : ∃ s, eLc (two (evCallF (eCons (eRow (eCons (eVar 13) eNil) mkTup) (eCons (eVar 11) eNil)) (fun _ => []) f__law_moved_by) (eCon (.int 0)) idxOp) (.nm 13) (fun _ st => .ok true st) (iSeq (eRow (eCons (eVar 3) (eCons (eVar 4) (eCons (eVar 5) eNil))) mkTup)) [13] (HL sc n t2 a b c t6 t7 t8 t9 t10 (some (pt mo)) t12 t13 t14 t15 t16 t17) st = .ok (.loc st.length) s ∧ Ext st s ∧ s[st.length]? = some (.lst [pt (mv a mo), pt (mv b mo), pt (mv c mo)]) := by
    refine lc_ext (r_iseq (p := .tup [pt a, pt b, pt c]) (xs := [pt a, pt b, pt c]) (by (repeat' (first | ((with_reducible apply Cv.r_asm); with_reducible assumption) | with_reducible exact Cv.r_ok | with_reducible exact Cv.r_con | ((with_reducible apply Cv.r_var); rfl) | with_reducible apply Cv.r_two | with_reducible apply Cv.r_callF | with_reducible apply Cv.r_cons | with_reducible exact Cv.r_nil | with_reducible apply Cv.r_row | with_reducible apply Cv.r_one | with_reducible apply Cv.r_and | with_reducible apply Cv.r_or | with_reducible apply Cv.r_ite | with_reducible apply Cv.r_t | with_reducible apply Cv.r_not | with_reducible exact Cv.r_trb | with_reducible apply Cv.r_seq | with_reducible apply Cv.r_then_nx | with_reducible exact Cv.r_then_rt | with_reducible exact Cv.r_then_bk | with_reducible exact Cv.r_then_ct | with_reducible exact Cv.r_then_exn | with_reducible apply Cv.r_if | with_reducible apply Cv.r_set | with_reducible apply Cv.r_par | with_reducible exact Cv.r_nx | with_reducible exact Cv.r_fl | with_reducible apply Cv.r_exp | with_reducible apply Cv.r_ss | with_reducible exact Cv.r_sz | ((with_reducible apply Cv.r_T); focus (first | rfl | assumption | omega | (simp only [*, decide_true, decide_false, Bool.not_true, Bool.not_false, Bool.and_true, Bool.and_false, Bool.true_and, Bool.false_and, Bool.or_true, Bool.or_false, Bool.true_or, Bool.false_or]; done) | (simp [*]; done))) | ((with_reducible apply Cv.r_F); focus (first | rfl | assumption | omega | (simp only [*, decide_true, decide_false, Bool.not_true, Bool.not_false, Bool.and_true, Bool.and_false, Bool.true_and, Bool.false_and, Bool.or_true, Bool.or_false, Bool.true_or, Bool.false_or]; done) | (simp [*]; done))) | ((with_reducible apply Cv.r_tup); rfl) | ((with_reducible apply Cv.r_lst); rfl) | with_reducible exact Cv.r_ix0 | with_reducible exact Cv.r_ix1 | with_reducible exact Cv.r_ix2 | with_reducible exact Cv.r_add | with_reducible exact Cv.r_sub | with_reducible exact Cv.r_neg | with_reducible exact Cv.r_lt | with_reducible exact Cv.r_le | with_reducible exact Cv.r_gt | with_reducible exact Cv.r_ge | with_reducible exact Cv.r_eq | with_reducible exact Cv.r_ne | with_reducible exact Cv.r_eqB | with_reducible exact Cv.r_neB | with_reducible exact Cv.r_isB | with_reducible exact Cv.r_isnB | with_reducible exact Cv.r_subB | with_reducible apply Cv.r_ret))) rfl) (src_items fun s e => rfl) (.cons (fun s e => ?_) (.cons (fun s e => ?_) (.cons (fun s e => ?_) .nil))) (by simp)
    · obtain ⟨s', e', x'⟩ := moved_ok (cap := []) (st := s) (a := a) (b := mo) (by omega)
      refine ⟨HL sc n t2 a b c t6 t7 t8 t9 t10 (some (pt mo)) t12 (some (pt a)) t14 t15 t16 t17, s', rfl, ?_, x'⟩
      (repeat' (first | ((with_reducible apply Cv.r_asm); with_reducible assumption) | with_reducible exact Cv.r_ok | with_reducible exact Cv.r_con | ((with_reducible apply Cv.r_var); rfl) | with_reducible apply Cv.r_two | with_reducible apply Cv.r_callF | with_reducible apply Cv.r_cons | with_reducible exact Cv.r_nil | with_reducible apply Cv.r_row | with_reducible apply Cv.r_one | with_reducible apply Cv.r_and | with_reducible apply Cv.r_or | with_reducible apply Cv.r_ite | with_reducible apply Cv.r_t | with_reducible apply Cv.r_not | with_reducible exact Cv.r_trb | with_reducible apply Cv.r_seq | with_reducible apply Cv.r_then_nx | with_reducible exact Cv.r_then_rt | with_reducible exact Cv.r_then_bk | with_reducible exact Cv.r_then_ct | with_reducible exact Cv.r_then_exn | with_reducible apply Cv.r_if | with_reducible apply Cv.r_set | with_reducible apply Cv.r_par | with_reducible exact Cv.r_nx | with_reducible exact Cv.r_fl | with_reducible apply Cv.r_exp | with_reducible apply Cv.r_ss | with_reducible exact Cv.r_sz | ((with_reducible apply Cv.r_T); focus (first | rfl | assumption | omega | (simp only [*, decide_true, decide_false, Bool.not_true, Bool.not_false, Bool.and_true, Bool.and_false, Bool.true_and, Bool.false_and, Bool.or_true, Bool.or_false, Bool.true_or, Bool.false_or]; done) | (simp [*]; done))) | ((with_reducible apply Cv.r_F); focus (first | rfl | assumption | omega | (simp only [*, decide_true, decide_false, Bool.not_true, Bool.not_false, Bool.and_true, Bool.and_false, Bool.true_and, Bool.false_and, Bool.or_true, Bool.or_false, Bool.true_or, Bool.false_or]; done) | (simp [*]; done))) | ((with_reducible apply Cv.r_tup); rfl) | ((with_reducible apply Cv.r_lst); rfl) | with_reducible exact Cv.r_ix0 | with_reducible exact Cv.r_ix1 | with_reducible exact Cv.r_ix2 | with_reducible exact Cv.r_add | with_reducible exact Cv.r_sub | with_reducible exact Cv.r_neg | with_reducible exact Cv.r_lt | with_reducible exact Cv.r_le | with_reducible exact Cv.r_gt | with_reducible exact Cv.r_ge | with_reducible exact Cv.r_eq | with_reducible exact Cv.r_ne | with_reducible exact Cv.r_eqB | with_reducible exact Cv.r_neB | with_reducible exact Cv.r_isB | with_reducible exact Cv.r_isnB | with_reducible exact Cv.r_subB | with_reducible apply Cv.r_ret))
    · obtain ⟨s', e', x'⟩ := moved_ok (cap := []) (st := s) (a := b) (b := mo) (by omega)
      refine ⟨HL sc n t2 a b c t6 t7 t8 t9 t10 (some (pt mo)) t12 (some (pt b)) t14 t15 t16 t17, s', rfl, ?_, x'⟩
      (repeat' (first | ((with_reducible apply Cv.r_asm); with_reducible assumption) | with_reducible exact Cv.r_ok | with_reducible exact Cv.r_con | ((with_reducible apply Cv.r_var); rfl) | with_reducible apply Cv.r_two | with_reducible apply Cv.r_callF | with_reducible apply Cv.r_cons | with_reducible exact Cv.r_nil | with_reducible apply Cv.r_row | with_reducible apply Cv.r_one | with_reducible apply Cv.r_and | with_reducible apply Cv.r_or | with_reducible apply Cv.r_ite | with_reducible apply Cv.r_t | with_reducible apply Cv.r_not | with_reducible exact Cv.r_trb | with_reducible apply Cv.r_seq | with_reducible apply Cv.r_then_nx | with_reducible exact Cv.r_then_rt | with_reducible exact Cv.r_then_bk | with_reducible exact Cv.r_then_ct | with_reducible exact Cv.r_then_exn | with_reducible apply Cv.r_if | with_reducible apply Cv.r_set | with_reducible apply Cv.r_par | with_reducible exact Cv.r_nx | with_reducible exact Cv.r_fl | with_reducible apply Cv.r_exp | with_reducible apply Cv.r_ss | with_reducible exact Cv.r_sz | ((with_reducible apply Cv.r_T); focus (first | rfl | assumption | omega | (simp only [*, decide_true, decide_false, Bool.not_true, Bool.not_false, Bool.and_true, Bool.and_false, Bool.true_and, Bool.false_and, Bool.or_true, Bool.or_false, Bool.true_or, Bool.false_or]; done) | (simp [*]; done))) | ((with_reducible apply Cv.r_F); focus (first | rfl | assumption | omega | (simp only [*, decide_true, decide_false, Bool.not_true, Bool.not_false, Bool.and_true, Bool.and_false, Bool.true_and, Bool.false_and, Bool.or_true, Bool.or_false, Bool.true_or, Bool.false_or]; done) | (simp [*]; done))) | ((with_reducible apply Cv.r_tup); rfl) | ((with_reducible apply Cv.r_lst); rfl) | with_reducible exact Cv.r_ix0 | with_reducible exact Cv.r_ix1 | with_reducible exact Cv.r_ix2 | with_reducible exact Cv.r_add | with_reducible exact Cv.r_sub | with_reducible exact Cv.r_neg | with_reducible exact Cv.r_lt | with_reducible exact Cv.r_le | with_reducible exact Cv.r_gt | with_reducible exact Cv.r_ge | with_reducible exact Cv.r_eq | with_reducible exact Cv.r_ne | with_reducible exact Cv.r_eqB | with_reducible exact Cv.r_neB | with_reducible exact Cv.r_isB | with_reducible exact Cv.r_isnB | with_reducible exact Cv.r_subB | with_reducible apply Cv.r_ret))
    · obtain ⟨s', e', x'⟩ := moved_ok (cap := []) (st := s) (a := c) (b := mo) (by omega)
      refine ⟨HL sc n t2 a b c t6 t7 t8 t9 t10 (some (pt mo)) t12 (some (pt c)) t14 t15 t16 t17, s', rfl, ?_, x'⟩
      (repeat' (first | ((with_reducible apply Cv.r_asm); with_reducible assumption) | with_reducible exact Cv.r_ok | with_reducible exact Cv.r_con | ((with_reducible apply Cv.r_var); rfl) | with_reducible apply Cv.r_two | with_reducible apply Cv.r_callF | with_reducible apply Cv.r_cons | with_reducible exact Cv.r_nil | with_reducible apply Cv.r_row | with_reducible apply Cv.r_one | with_reducible apply Cv.r_and | with_reducible apply Cv.r_or | with_reducible apply Cv.r_ite | with_reducible apply Cv.r_t | with_reducible apply Cv.r_not | with_reducible exact Cv.r_trb | with_reducible apply Cv.r_seq | with_reducible apply Cv.r_then_nx | with_reducible exact Cv.r_then_rt | with_reducible exact Cv.r_then_bk | with_reducible exact Cv.r_then_ct | with_reducible exact Cv.r_then_exn | with_reducible apply Cv.r_if | with_reducible apply Cv.r_set | with_reducible apply Cv.r_par | with_reducible exact Cv.r_nx | with_reducible exact Cv.r_fl | with_reducible apply Cv.r_exp | with_reducible apply Cv.r_ss | with_reducible exact Cv.r_sz | ((with_reducible apply Cv.r_T); focus (first | rfl | assumption | omega | (simp only [*, decide_true, decide_false, Bool.not_true, Bool.not_false, Bool.and_true, Bool.and_false, Bool.true_and, Bool.false_and, Bool.or_true, Bool.or_false, Bool.true_or, Bool.false_or]; done) | (simp [*]; done))) | ((with_reducible apply Cv.r_F); focus (first | rfl | assumption | omega | (simp only [*, decide_true, decide_false, Bool.not_true, Bool.not_false, Bool.and_true, Bool.and_false, Bool.true_and, Bool.false_and, Bool.or_true, Bool.or_false, Bool.true_or, Bool.false_or]; done) | (simp [*]; done))) | ((with_reducible apply Cv.r_tup); rfl) | ((with_reducible apply Cv.r_lst); rfl) | with_reducible exact Cv.r_ix0 | with_reducible exact Cv.r_ix1 | with_reducible exact Cv.r_ix2 | with_reducible exact Cv.r_add | with_reducible exact Cv.r_sub | with_reducible exact Cv.r_neg | with_reducible exact Cv.r_lt | with_reducible exact Cv.r_le | with_reducible exact Cv.r_gt | with_reducible exact Cv.r_ge | with_reducible exact Cv.r_eq | with_reducible exact Cv.r_ne | with_reducible exact Cv.r_eqB | with_reducible exact Cv.r_neB | with_reducible exact Cv.r_isB | with_reducible exact Cv.r_isnB | with_reducible exact Cv.r_subB | with_reducible apply Cv.r_ret))
  obtain ⟨s, e, x, h⟩ := lc
  refine ⟨_, s, ?_, h, P.ext x, .ext x⟩
  unfold b1_8
  (repeat' (first | with_reducible exact e | ((with_reducible apply Cv.r_asm); with_reducible assumption) | with_reducible exact Cv.r_ok | with_reducible exact Cv.r_con | ((with_reducible apply Cv.r_var); rfl) | with_reducible apply Cv.r_two | with_reducible apply Cv.r_callF | with_reducible apply Cv.r_cons | with_reducible exact Cv.r_nil | with_reducible apply Cv.r_row | with_reducible apply Cv.r_one | with_reducible apply Cv.r_and | with_reducible apply Cv.r_or | with_reducible apply Cv.r_ite | with_reducible apply Cv.r_t | with_reducible apply Cv.r_not | with_reducible exact Cv.r_trb | with_reducible apply Cv.r_seq | with_reducible apply Cv.r_then_nx | with_reducible exact Cv.r_then_rt | with_reducible exact Cv.r_then_bk | with_reducible exact Cv.r_then_ct | with_reducible exact Cv.r_then_exn | with_reducible apply Cv.r_if | with_reducible apply Cv.r_set | with_reducible apply Cv.r_par | with_reducible exact Cv.r_nx | with_reducible exact Cv.r_fl | with_reducible apply Cv.r_exp | with_reducible apply Cv.r_ss | with_reducible exact Cv.r_sz | ((with_reducible apply Cv.r_T); focus (first | rfl | assumption | omega | (simp only [*, decide_true, decide_false, Bool.not_true, Bool.not_false, Bool.and_true, Bool.and_false, Bool.true_and, Bool.false_and, Bool.or_true, Bool.or_false, Bool.true_or, Bool.false_or]; done) | (simp [*]; done))) | ((with_reducible apply Cv.r_F); focus (first | rfl | assumption | omega | (simp only [*, decide_true, decide_false, Bool.not_true, Bool.not_false, Bool.and_true, Bool.and_false, Bool.true_and, Bool.false_and, Bool.or_true, Bool.or_false, Bool.true_or, Bool.false_or]; done) | (simp [*]; done))) | ((with_reducible apply Cv.r_tup); rfl) | ((with_reducible apply Cv.r_lst); rfl) | with_reducible exact Cv.r_ix0 | with_reducible exact Cv.r_ix1 | with_reducible exact Cv.r_ix2 | with_reducible exact Cv.r_add | with_reducible exact Cv.r_sub | with_reducible exact Cv.r_neg | with_reducible exact Cv.r_lt | with_reducible exact Cv.r_le | with_reducible exact Cv.r_gt | with_reducible exact Cv.r_ge | with_reducible exact Cv.r_eq | with_reducible exact Cv.r_ne | with_reducible exact Cv.r_eqB | with_reducible exact Cv.r_neB | with_reducible exact Cv.r_isB | with_reducible exact Cv.r_isnB | with_reducible exact Cv.r_subB | with_reducible apply Cv.r_ret))
theorem b9_ok [QP 3 a] [QP 3 b] [QP 13 c] (P : PB st n m xs B) : ∃ d s, b1_9 (HL sc n t2 a b c t6 t7 t8 t9 t10 t11 t12 t13 t14 t15 t16 t17) st = .ok .nx (HL sc n t2 a b c t6 t7 t8 t9 t10 t11 t12 t13 (some (.loc d)) t15 t16 t17) s ∧ s[d]? = some (.lst [pt (ht a), pt (ht b), pt (ht c)]) ∧ PB s n m xs B ∧ LE st s := by
  have lc : ∃ s, eLc (two (evCallF (eCons (eRow (eCons (eVar 13) eNil) mkTup) eNil) (fun _ => []) f__law_half_turned) (eCon (.int 0)) idxOp) (.nm 13) (fun _ st => .ok true st) (iSeq (eRow (eCons (eVar 3) (eCons (eVar 4) (eCons (eVar 5) eNil))) mkTup)) [13] (HL sc n t2 a b c t6 t7 t8 t9 t10 t11 t12 t13 t14 t15 t16 t17) st = .ok (.loc st.length) s ∧ Ext st s ∧ s[st.length]? = some (.lst [pt (ht a), pt (ht b), pt (ht c)]) := by
    refine lc_ext (r_iseq (p := .tup [pt a, pt b, pt c]) (xs := [pt a, pt b, pt c]) (by (repeat' (first | ((with_reducible apply Cv.r_asm); with_reducible assumption) | with_reducible exact Cv.r_ok | with_reducible exact Cv.r_con | ((with_reducible apply Cv.r_var); rfl) | with_reducible apply Cv.r_two | with_reducible apply Cv.r_callF | with_reducible apply Cv.r_cons | with_reducible exact Cv.r_nil | with_reducible apply Cv.r_row | with_reducible apply Cv.r_one | with_reducible apply Cv.r_and | with_reducible apply Cv.r_or | with_reducible apply Cv.r_ite | with_reducible apply Cv.r_t | with_reducible apply Cv.r_not | with_reducible exact Cv.r_trb | with_reducible apply Cv.r_seq | with_reducible apply Cv.r_then_nx | with_reducible exact Cv.r_then_rt | with_reducible exact Cv.r_then_bk | with_reducible exact Cv.r_then_ct | with_reducible exact Cv.r_then_exn | with_reducible apply Cv.r_if | with_reducible apply Cv.r_set | with_reducible apply Cv.r_par | with_reducible exact Cv.r_nx | with_reducible exact Cv.r_fl | with_reducible apply Cv.r_exp | with_reducible apply Cv.r_ss | with_reducible exact Cv.r_sz | ((with_reducible apply Cv.r_T); focus (first | rfl | assumption | omega | (simp only [*, decide_true, decide_false, Bool.not_true, Bool.not_false, Bool.and_true, Bool.and_false, Bool.true_and, Bool.false_and, Bool.or_true, Bool.or_false, Bool.true_or, Bool.false_or]; done) | (simp [*]; done))) | ((with_reducible apply Cv.r_F); focus (first | rfl | assumption | omega | (simp only [*, decide_true, decide_false, Bool.not_true, Bool.not_false, Bool.and_true, Bool.and_false, Bool.true_and, Bool.false_and, Bool.or_true, Bool.or_false, Bool.true_or, Bool.false_or]; done) | (simp [*]; done))) | ((with_reducible apply Cv.r_tup); rfl) | ((with_reducible apply Cv.r_lst); rfl) | with_reducible exact Cv.r_ix0 | with_reducible exact Cv.r_ix1 | with_reducible exact Cv.r_ix2 | with_reducible exact Cv.r_add | with_reducible exact Cv.r_sub | with_reducible exact Cv.r_neg | with_reducible exact Cv.r_lt | with_reducible exact Cv.r_le | with_reducible exact Cv.r_gt | with_reducible exact Cv.r_ge | with_reducible exact Cv.r_eq | with_reducible exact Cv.r_ne | with_reducible exact Cv.r_eqB | with_reducible exact Cv.r_neB | with_reducible exact Cv.r_isB | with_reducible exact Cv.r_isnB | with_reducible exact Cv.r_subB | with_reducible apply Cv.r_ret))) rfl) (src_items fun s e => rfl) (.cons (fun s e => ?_) (.cons (fun s e => ?_) (.cons (fun s e => ?_) .nil))) (by simp)
    · obtain ⟨s', e', x'⟩ := half_ok (cap := []) (st := s) (a := a)
      refine ⟨HL sc n t2 a b c t6 t7 t8 t9 t10 t11 t12 (some (pt a)) t14 t15 t16 t17, s', rfl, ?_, x'⟩
      (repeat' (first | ((with_reducible apply Cv.r_asm); with_reducible assumption) | with_reducible exact Cv.r_ok | with_reducible exact Cv.r_con | ((with_reducible apply Cv.r_var); rfl) | with_reducible apply Cv.r_two | with_reducible apply Cv.r_callF | with_reducible apply Cv.r_cons | with_reducible exact Cv.r_nil | with_reducible apply Cv.r_row | with_reducible apply Cv.r_one | with_reducible apply Cv.r_and | with_reducible apply Cv.r_or | with_reducible apply Cv.r_ite | with_reducible apply Cv.r_t | with_reducible apply Cv.r_not | with_reducible exact Cv.r_trb | with_reducible apply Cv.r_seq | with_reducible apply Cv.r_then_nx | with_reducible exact Cv.r_then_rt | with_reducible exact Cv.r_then_bk | with_reducible exact Cv.r_then_ct | with_reducible exact Cv.r_then_exn | with_reducible apply Cv.r_if | with_reducible apply Cv.r_set | with_reducible apply Cv.r_par | with_reducible exact Cv.r_nx | with_reducible exact Cv.r_fl | with_reducible apply Cv.r_exp | with_reducible apply Cv.r_ss | with_reducible exact Cv.r_sz | ((with_reducible apply Cv.r_T); focus (first | rfl | assumption | omega | (simp only [*, decide_true, decide_false, Bool.not_true, Bool.not_false, Bool.and_true, Bool.and_false, Bool.true_and, Bool.false_and, Bool.or_true, Bool.or_false, Bool.true_or, Bool.false_or]; done) | (simp [*]; done))) | ((with_reducible apply Cv.r_F); focus (first | rfl | assumption | omega | (simp only [*, decide_true, decide_false, Bool.not_true, Bool.not_false, Bool.and_true, Bool.and_false, Bool.true_and, Bool.false_and, Bool.or_true, Bool.or_false, Bool.true_or, Bool.false_or]; done) | (simp [*]; done))) | ((with_reducible apply Cv.r_tup); rfl) | ((with_reducible apply Cv.r_lst); rfl) | with_reducible exact Cv.r_ix0 | with_reducible exact Cv.r_ix1 | with_reducible exact Cv.r_ix2 | with_reducible exact Cv.r_add | with_reducible exact Cv.r_sub | with_reducible exact Cv.r_neg | with_reducible exact Cv.r_lt | with_reducible exact Cv.r_le | with_reducible exact Cv.r_gt | with_reducible exact Cv.r_ge | with_reducible exact Cv.r_eq | with_reducible exact Cv.r_ne | with_reducible exact Cv.r_eqB | with_reducible exact Cv.r_neB | with_reducible exact Cv.r_isB | with_reducible exact Cv.r_isnB | with_reducible exact Cv.r_subB | with_reducible apply Cv.r_ret))
    · obtain ⟨s', e', x'⟩ := half_ok (cap := []) (st := s) (a := b)
      refine ⟨HL sc n t2 a b c t6 t7 t8 t9 t10 t11 t12 (some (pt b)) t14 t15 t16 t17, s', rfl, ?_, x'⟩
      (repeat' (first | ((with_reducible apply Cv.r_asm); with_reducible assumption) | with_reducible exact Cv.r_ok | with_reducible exact Cv.r_con | ((with_reducible apply Cv.r_var); rfl) | with_reducible apply Cv.r_two | with_reducible apply Cv.r_callF | with_reducible apply Cv.r_cons | with_reducible exact Cv.r_nil | with_reducible apply Cv.r_row | with_reducible apply Cv.r_one | with_reducible apply Cv.r_and | with_reducible apply Cv.r_or | with_reducible apply Cv.r_ite | with_reducible apply Cv.r_t | with_reducible apply Cv.r_not | with_reducible exact Cv.r_trb | with_reducible apply Cv.r_seq | with_reducible apply Cv.r_then_nx | with_reducible exact Cv.r_then_rt | with_reducible exact Cv.r_then_bk | with_reducible exact Cv.r_then_ct | with_reducible exact Cv.r_then_exn | with_reducible apply Cv.r_if | with_reducible apply Cv.r_set | with_reducible apply Cv.r_par | with_reducible exact Cv.r_nx | with_reducible exact Cv.r_fl | with_reducible apply Cv.r_exp | with_reducible apply Cv.r_ss | with_reducible exact Cv.r_sz | ((with_reducible apply Cv.r_T); focus (first | rfl | assumption | omega | (simp only [*, decide_true, decide_false, Bool.not_true, Bool.not_false, Bool.and_true, Bool.and_false, Bool.true_and, Bool.false_and, Bool.or_true, Bool.or_false, Bool.true_or, Bool.false_or]; done) | (simp [*]; done))) | ((with_reducible apply Cv.r_F); focus (first | rfl | assumption | omega | (simp only [*, decide_true, decide_false, Bool.not_true, Bool.not_false, Bool.and_true, Bool.and_false, Bool.true_and, Bool.false_and, Bool.or_true, Bool.or_false, Bool.true_or, Bool.false_or]; done) | (simp [*]; done))) | ((with_reducible apply Cv.r_tup); rfl) | ((with_reducible apply Cv.r_lst); rfl) | with_reducible exact Cv.r_ix0 | with_reducible exact Cv.r_ix1 | with_reducible exact Cv.r_ix2 | with_reducible exact Cv.r_add | with_reducible exact Cv.r_sub | with_reducible exact Cv.r_neg | with_reducible exact Cv.r_lt | with_reducible exact Cv.r_le | with_reducible exact Cv.r_gt | with_reducible exact Cv.r_ge | with_reducible exact Cv.r_eq | with_reducible exact Cv.r_ne | with_reducible exact Cv.r_eqB | with_reducible exact Cv.r_neB | with_reducible exact Cv.r_isB | with_reducible exact Cv.r_isnB | with_reducible exact Cv.r_subB | with_reducible apply Cv.r_ret))
    · obtain ⟨s', e', x'⟩ := half_ok (cap := []) (st := s) (a := c)
      refine ⟨HL sc n t2 a b c t6 t7 t8 t9 t10 t11 t12 (some (pt c)) t14 t15 t16 t17, s', rfl, ?_, x'⟩
      (repeat' (first | ((with_reducible apply Cv.r_asm); with_reducible assumption) | with_reducible exact Cv.r_ok | with_reducible exact Cv.r_con | ((with_reducible apply Cv.r_var); rfl) | with_reducible apply Cv.r_two | with_reducible apply Cv.r_callF | with_reducible apply Cv.r_cons | with_reducible exact Cv.r_nil | with_reducible apply Cv.r_row | with_reducible apply Cv.r_one | with_reducible apply Cv.r_and | with_reducible apply Cv.r_or | with_reducible apply Cv.r_ite | with_reducible apply Cv.r_t | with_reducible apply Cv.r_not | with_reducible exact Cv.r_trb | with_reducible apply Cv.r_seq | with_reducible apply Cv.r_then_nx | with_reducible exact Cv.r_then_rt | with_reducible exact Cv.r_then_bk | with_reducible exact Cv.r_then_ct | with_reducible exact Cv.r_then_exn | with_reducible apply Cv.r_if | with_reducible apply Cv.r_set | with_reducible apply Cv.r_par | with_reducible exact Cv.r_nx | with_reducible exact Cv.r_fl | with_reducible apply Cv.r_exp | with_reducible apply Cv.r_ss | with_reducible exact Cv.r_sz | ((with_reducible apply Cv.r_T); focus (first | rfl | assumption | omega | (simp only [*, decide_true, decide_false, Bool.not_true, Bool.not_false, Bool.and_true, Bool.and_false, Bool.true_and, Bool.false_and, Bool.or_true, Bool.or_false, Bool.true_or, Bool.false_or]; done) | (simp [*]; done))) | ((with_reducible apply Cv.r_F); focus (first | rfl | assumption | omega | (simp only [*, decide_true, decide_false, Bool.not_true, Bool.not_false, Bool.and_true, Bool.and_false, Bool.true_and, Bool.false_and, Bool.or_true, Bool.or_false, Bool.true_or, Bool.false_or]; done) | (simp [*]; done))) | ((with_reducible apply Cv.r_tup); rfl) | ((with_reducible apply Cv.r_lst); rfl) | with_reducible exact Cv.r_ix0 | with_reducible exact Cv.r_ix1 | with_reducible exact Cv.r_ix2 | with_reducible exact Cv.r_add | with_reducible exact Cv.r_sub | with_reducible exact Cv.r_neg | with_reducible exact Cv.r_lt | with_reducible exact Cv.r_le | with_reducible exact Cv.r_gt | with_reducible exact Cv.r_ge | with_reducible exact Cv.r_eq | with_reducible exact Cv.r_ne | with_reducible exact Cv.r_eqB | with_reducible exact Cv.r_neB | with_reducible exact Cv.r_isB | with_reducible exact Cv.r_isnB | with_reducible exact Cv.r_subB | with_reducible apply Cv.r_ret))
  obtain ⟨s, e, x, h⟩ := lc
  refine ⟨_, s, ?_, h, P.ext x, .ext x⟩
  unfold b1_9
  (repeat' (first | with_reducible exact e | ((with_reducible apply Cv.r_asm); with_reducible assumption) | with_reducible exact Cv.r_ok | with_reducible exact Cv.r_con | ((with_reducible apply Cv.r_var); rfl) | with_reducible apply Cv.r_two | with_reducible apply Cv.r_callF | with_reducible apply Cv.r_cons | with_reducible exact Cv.r_nil | with_reducible apply Cv.r_row | with_reducible apply Cv.r_one | with_reducible apply Cv.r_and | with_reducible apply Cv.r_or | with_reducible apply Cv.r_ite | with_reducible apply Cv.r_t | with_reducible apply Cv.r_not | with_reducible exact Cv.r_trb | with_reducible apply Cv.r_seq | with_reducible apply Cv.r_then_nx | with_reducible exact Cv.r_then_rt | with_reducible exact Cv.r_then_bk | with_reducible exact Cv.r_then_ct | with_reducible exact Cv.r_then_exn | with_reducible apply Cv.r_if | with_reducible apply Cv.r_set | with_reducible apply Cv.r_par | with_reducible exact Cv.r_nx | with_reducible exact Cv.r_fl | with_reducible apply Cv.r_exp | with_reducible apply Cv.r_ss | with_reducible exact Cv.r_sz | ((with_reducible apply Cv.r_T); focus (first | rfl | assumption | omega | (simp only [*, decide_true, decide_false, Bool.not_true, Bool.not_false, Bool.and_true, Bool.and_false, Bool.true_and, Bool.false_and, Bool.or_true, Bool.or_false, Bool.true_or, Bool.false_or]; done) | (simp [*]; done))) | ((with_reducible apply Cv.r_F); focus (first | rfl | assumption | omega | (simp only [*, decide_true, decide_false, Bool.not_true, Bool.not_false, Bool.and_true, Bool.and_false, Bool.true_and, Bool.false_and, Bool.or_true, Bool.or_false, Bool.true_or, Bool.false_or]; done) | (simp [*]; done))) | ((with_reducible apply Cv.r_tup); rfl) | ((with_reducible apply Cv.r_lst); rfl) | with_reducible exact Cv.r_ix0 | with_reducible exact Cv.r_ix1 | with_reducible exact Cv.r_ix2 | with_reducible exact Cv.r_add | with_reducible exact Cv.r_sub | with_reducible exact Cv.r_neg | with_reducible exact Cv.r_lt | with_reducible exact Cv.r_le | with_reducible exact Cv.r_gt | with_reducible exact Cv.r_ge | with_reducible exact Cv.r_eq | with_reducible exact Cv.r_ne | with_reducible exact Cv.r_eqB | with_reducible exact Cv.r_neB | with_reducible exact Cv.r_isB | with_reducible exact Cv.r_isnB | with_reducible exact Cv.r_subB | with_reducible apply Cv.r_ret))
instance qp_mv [h1 : QP k a] [h2 : QP l b] : QP (k + l + 1) (mv a b) := ⟨inferInstanceAs (QB _ (a.1 + b.1)), inferInstanceAs (QB _ (a.2 + b.2))⟩
instance qp_ht [h1 : QP k a] : QP k (ht a) := ⟨inferInstanceAs (QB _ (-a.1)), inferInstanceAs (QB _ (-a.2))⟩
open Classical in
theorem b10_ok [QP 3 a] [QP 3 b] [QP 13 c] [QP 3 mo] {d1 d2 : Nat} (P : PB st n m xs B) (h1 : st[d1]? = some (.lst [pt (mv a mo), pt (mv b mo), pt (mv c mo)])) (h2 : st[d2]? = some (.lst [pt (ht a), pt (ht b), pt (ht c)])) : ∃ s, b1_10 (HL sc n t2 a b c t6 t7 t8 t9 (some (.int (sgn (crs a b c)))) t11 (some (.loc d1)) t13 (some (.loc d2)) t15 t16 t17) st = .ok .nx (HL sc n t2 a b c t6 t7 t8 t9 (some (.int (sgn (crs a b c)))) t11 (some (.loc d1)) t13 (some (.loc d2)) t15 t16 t17) s ∧ PB s n m xs B ∧ LE st s := by
  let cp := kpE (HL sc n t2 a b c t6 t7 t8 t9 (some (.int (sgn (crs a b c)))) t11 (some (.loc d1)) t13 (some (.loc d2)) t15 t16 t17)
  obtain ⟨s1, e1, x1⟩ := turn_of_ok (cap := cp) (st := st) (HP.pt (a := mv a mo)) (HP.pt (a := mv b mo)) (HP.pt (a := mv c mo)) (by omega)
  obtain ⟨s2, e2, x2⟩ := turn_of_ok (cap := cp) (st := s1) (HP.pt (a := ht a)) (HP.pt (a := ht b)) (HP.pt (a := ht c)) (by omega)
  obtain ⟨s3, e3, x3⟩ := is_between_ok (cap := cp) (st := s2) (HP.pt (a := b)) (HP.pt (a := a)) (HP.pt (a := c)) (by omega)
  obtain ⟨s4, e4, x4⟩ := is_between_ok (cap := cp) (st := s3) (HP.pt (a := a)) (HP.pt (a := b)) (HP.pt (a := c)) (by omega)
  have n1 : cmpOp .ne (.int (sgn (crs (mv a mo) (mv b mo) (mv c mo)))) (.int (sgn (crs a b c))) s1 = .ok (.bl false) s1 := ne_int (by rw [crs_mv])
  have n2 : cmpOp .ne (.int (sgn (crs (ht a) (ht b) (ht c)))) (.int (sgn (crs a b c))) s2 = .ok (.bl false) s2 := ne_int (by rw [crs_ht])
  have n3 : cmpOp .ne (.bl (decide (btw b a c))) (.bl (decide (btw a b c))) s4 = .ok (.bl false) s4 := by
    have z : decide (btw b a c) = decide (btw a b c) := by simp only [decide_eq_decide]; exact btw_swap a b c
    rw [z, r_neB]; simp
  have g0 := r_lx0 h1
  have g1 := r_lx1 h1
  have g2 := r_lx2 h1
  have k0 := r_lx0 (x1 _ _ h2)
  have k1 := r_lx1 (x1 _ _ h2)
  have k2 := r_lx2 (x1 _ _ h2)
  refine ⟨s4, ?_, (((P.ext x1).ext x2).ext x3).ext x4, .ext (((x1.trans x2).trans x3).trans x4)⟩
  unfold b1_10
  (repeat' (first | with_reducible exact e1 | with_reducible exact e2 | with_reducible exact e3 | with_reducible exact e4 | with_reducible exact n1 | with_reducible exact n2 | with_reducible exact n3 | ((with_reducible apply Cv.r_asm); with_reducible assumption) | with_reducible exact Cv.r_ok | with_reducible exact Cv.r_con | ((with_reducible apply Cv.r_var); rfl) | with_reducible apply Cv.r_two | with_reducible apply Cv.r_callF | with_reducible apply Cv.r_cons | with_reducible exact Cv.r_nil | with_reducible apply Cv.r_row | with_reducible apply Cv.r_one | with_reducible apply Cv.r_and | with_reducible apply Cv.r_or | with_reducible apply Cv.r_ite | with_reducible apply Cv.r_t | with_reducible apply Cv.r_not | with_reducible exact Cv.r_trb | with_reducible apply Cv.r_seq | with_reducible apply Cv.r_then_nx | with_reducible exact Cv.r_then_rt | with_reducible exact Cv.r_then_bk | with_reducible exact Cv.r_then_ct | with_reducible exact Cv.r_then_exn | with_reducible apply Cv.r_if | with_reducible apply Cv.r_set | with_reducible apply Cv.r_par | with_reducible exact Cv.r_nx | with_reducible exact Cv.r_fl | with_reducible apply Cv.r_exp | with_reducible apply Cv.r_ss | with_reducible exact Cv.r_sz | ((with_reducible apply Cv.r_T); focus (first | rfl | assumption | omega | (simp only [*, decide_true, decide_false, Bool.not_true, Bool.not_false, Bool.and_true, Bool.and_false, Bool.true_and, Bool.false_and, Bool.or_true, Bool.or_false, Bool.true_or, Bool.false_or]; done) | (simp [*]; done))) | ((with_reducible apply Cv.r_F); focus (first | rfl | assumption | omega | (simp only [*, decide_true, decide_false, Bool.not_true, Bool.not_false, Bool.and_true, Bool.and_false, Bool.true_and, Bool.false_and, Bool.or_true, Bool.or_false, Bool.true_or, Bool.false_or]; done) | (simp [*]; done))) | ((with_reducible apply Cv.r_tup); rfl) | ((with_reducible apply Cv.r_lst); rfl) | with_reducible exact Cv.r_ix0 | with_reducible exact Cv.r_ix1 | with_reducible exact Cv.r_ix2 | with_reducible exact Cv.r_add | with_reducible exact Cv.r_sub | with_reducible exact Cv.r_neg | with_reducible exact Cv.r_lt | with_reducible exact Cv.r_le | with_reducible exact Cv.r_gt | with_reducible exact Cv.r_ge | with_reducible exact Cv.r_eq | with_reducible exact Cv.r_ne | with_reducible exact Cv.r_eqB | with_reducible exact Cv.r_neB | with_reducible exact Cv.r_isB | with_reducible exact Cv.r_isnB | with_reducible exact Cv.r_subB | with_reducible apply Cv.r_ret))
end
end Cut
namespace Cut
open PySem PySem.Spec PyProof.Rows L2 Cv
theorem mulS {i j : Int} (h1 : i.natAbs < 2 ^ 64) (h2 : j.natAbs < 2 ^ 64) {st : Sto} : binOp .mul (.int i) (.int j) st = .ok (.int (i * j)) st := mul_ok (Nat.lt_of_lt_of_le h1 (Nat.pow_le_pow_right (by decide) (by decide))) (Nat.lt_of_lt_of_le h2 (Nat.pow_le_pow_right (by decide) (by decide)))
/-! the pen, made -/
def penBody : Sv := sSeq (sAsg (two (eRow (eCons (two (two (eVar 1) (eCon (.int 193)) (binOp .mul)) (eVar 2) (binOp .add)) eNil) (bltOp .int)) (eCon (.int 999999131)) (binOp .mod)) (.nm 1)) sNx
section
variable {st : Sto} {xs : List Int} {cap : Cap}
theorem pen_turn {p0 : Option PV} {f z : Int} (h0 : 0 ≤ f) (h1 : f < 999999131) : penBody [p0, some (.int f), some (.int z)] st = .ok .nx [p0, some (.int ((f * 193 + z) % 999999131)), some (.int z)] st := by
  unfold penBody
  rw [seq_nx (set_eq (k := 1) (p := .int ((f * 193 + z) % 999999131)) (st' := st) (by
    rw [two_eq ((row1_eq (p := .int (f * 193 + z)) (st' := st) (by
      rw [two_eq (p := .int (f * 193)) (st' := st) (by rw [two_eq (var_eq rfl) con_eq]; exact mulS (by omega) (by decide)) (var_eq rfl)]
      rfl)).trans int_ok) con_eq]
    exact mod_ok (by decide)))]
  rfl
theorem pen_loop : ∀ (k i : Nat) (f : Int) (t : Option PV), 0 ≤ f → f < 999999131 → i ≤ xs.length → xs.length < i + k → ∃ f' t', 0 ≤ f' ∧ f' < 999999131 ∧ forLoop (.nm 2) (.seq (.fls (xs.map .int))) penBody k i [some (.fls (xs.map .int)), some (.int f), t] st = .ok .nx [some (.fls (xs.map .int)), some (.int f'), t'] st
  | 0, i, f, t, h0, h1, h2, h => by omega
  | k + 1, i, f, t, h0, h1, h2, h => by
    by_cases hi : i < xs.length
    · have at_ : srcAt st (.seq (.fls (xs.map .int))) i = some (some (.int xs[i])) := by
        show some ((xs.map PV.int)[i]?) = _
        simp
              [List.getElem?_eq_getElem hi]
      obtain ⟨f', t', a, b, e⟩ := pen_loop k (i + 1) ((f * 193 + xs[i]) % 999999131) (some (.int xs[i])) (Int.emod_nonneg _ (by decide)) (Int.emod_lt_of_pos _ (by decide)) (by omega) (by omega)
      refine ⟨f', t', a, b, ?_⟩
      rw [for_go (t := .nm 2) (m := penBody) (η := [some (.fls (xs.map .int)), some (.int f), t]) at_ rfl (pen_turn (z := xs[i]) h0 h1)]
      exact e
    · refine ⟨f, t, h0, h1, for_end ?_⟩
      show some ((xs.map PV.int)[i]?) = _
      rw [List.getElem?_eq_none (by rw [List.length_map]; omega)]
theorem pairsE {η : Env'} {a b : Ev PV} {r : List (Ev PV × Ev PV)} {x y : PV} {ps : List (PV × PV)} {s1 s2 s3 : Sto} (h1 : a η st = .ok x s1) (h2 : b η s1 = .ok y s2) (h3 : ePairs r η s2 = .ok ps s3) : ePairs ((a, b) :: r) η st = .ok ((x, y) :: ps) s3 := by
  show (a η st).bind (fun x st => (b η st).bind fun y st => (ePairs r η st).bind fun ps st => Res.ok ((x, y) :: ps) st) = _
  rw [h1, Res.ok_bind, h2, Res.ok_bind, h3]
  rfl
theorem pen_S (hl : xs.length ≤ 63) : ∃ f, 0 ≤ f ∧ f < 999999131 ∧ f__law_pen cap [.fls (xs.map .int)] st = .ok (.loc st.length) (st ++ [.dct (penL (st.length + 1) 0 0 0 f), .lst (xs.map .int)]) := by
  obtain ⟨f, t, h0, h1, e⟩ := pen_loop (st := st) (xs := xs) FU 0 0 none (by decide) (by decide) (Nat.zero_le _) (by show _ < 0 + 1000000; omega)
  refine ⟨f, h0, h1, ?_⟩
  rw [ev__law_pen]
  show endDef (m__law_pen cap [some (.fls (xs.map .int)), none, none] st) = _
  unfold m__law_pen
  rw [seq_nx (set_eq (k := 1) (p := .int 0) (st' := st) con_eq)]
  simp only [List.set_cons_succ, List.set_cons_zero]
  rw [seq_nx (η' := [some (.fls (xs.map .int)), some (.int f), t]) (st' := st) (by
    show SR.of (iSeq (eVar 0) _ st) _ _ = _
    have it : iSeq (eVar 0) [some (.fls (xs.map .int)), some (.int 0), none] st = .ok (.seq (.fls (xs.map .int))) st := rfl
    rw [of_eq it]
    exact e)]
  refine congrArg endDef (seq_rt (η' := [some (.fls (xs.map .int)), some (.int f), t]) (ret_eq ?_))
  show ((ePairs _ _ (st ++ [.dct []])).bind fun ps st' => dspEnd st.length ps st') = _
  have pr : ePairs [((eCon (.str "cells")), (eRow (eCons (eVar 0) eNil) (bltOp .list))), ((eCon (.str "at")), (eCon (.int 0))), ((eCon (.str "digits")), (eCon (.int 0))), ((eCon (.str "count")), (eCon (.int 0))), ((eCon (.str "fold")), (eVar 1))] [some (.fls (xs.map .int)), some (.int f), t] (st ++ [.dct []]) =
      .ok [(.str "cells", .loc (st.length + 1)), (.str "at", .int 0), (.str "digits", .int 0), (.str "count", .int 0), (.str "fold", .int f)] ((st ++ [.dct []]) ++ [.lst (xs.map .int)]) := by
    have l1 : eRow (eCons (eVar 0) eNil) (bltOp .list) [some (.fls (xs.map .int)), some (.int f), t] (st ++ [.dct []]) = .ok (.loc (st.length + 1)) ((st ++ [.dct []]) ++ [.lst (xs.map .int)]) := by
      rw [row1_eq (var_eq rfl)]
      show Res.ok (PV.loc (st ++ [SO.dct []]).length) ((st ++ [SO.dct []]) ++ [SO.lst (xs.map .int)]) = _
      rw [List.length_append]
      rfl
    exact pairsE con_eq l1 (pairsE con_eq con_eq (pairsE con_eq con_eq (pairsE con_eq con_eq (pairsE con_eq (var_eq rfl) rfl))))
  rw [pr]
  show dspEnd st.length _ ((st ++ [SO.dct []]) ++ [SO.lst (xs.map .int)]) = _
  have at0 : ((st ++ [SO.dct []]) ++ [SO.lst (xs.map .int)])[st.length]? = some (.dct []) := by
    rw [List.append_assoc, List.getElem?_append_right (Nat.le_refl _)]
    simp
  have kk : keysP [(.str "cells", .loc (st.length + 1)), (.str "at", .int 0), (.str "digits", .int 0), (.str "count", .int 0), (.str "fold", .int f)] = some (penL (st.length + 1) 0 0 0 f) := rfl
  have mg : mergeP [] (penL (st.length + 1) 0 0 0 f) = penL (st.length + 1) 0 0 0 f := by kernel_rfl
  show (match ((st ++ [SO.dct []]) ++ [SO.lst (xs.map .int)])[st.length]?, keysP [(.str "cells", .loc (st.length + 1)), (.str "at", .int 0), (.str "digits", .int 0), (.str "count", .int 0), (.str "fold", .int f)] with
    | some (.dct []), some ks => if ks.length ≤ 15 then Res.ok (PV.loc st.length) (((st ++ [SO.dct []]) ++ [SO.lst (xs.map .int)]).set st.length (.dct (mergeP [] ks))) else .stuck
    | _, _ => .stuck) = _
  rw [at0, kk]
  show (if (penL (st.length + 1) 0 0 0 f).length ≤ 15 then _ else _) = _
  rw [if_pos (by show 5 ≤ 15; decide), mg]
  congr 1
  rw [List.append_assoc, List.set_append_right _ _ (Nat.le_refl _)]
  simp
theorem pen_P (hl : xs.length ≤ 63) : ∃ n m st', f__law_pen cap [.fls (xs.map .int)] st = .ok (.loc n) st' ∧ PenS st' n m xs 0 := by
  obtain ⟨f, h0, h1, e⟩ := pen_S (st := st) (cap := cap) hl
  refine ⟨_, st.length + 1, _, e, 0, 0, f, ?_, ?_, by decide, by decide, by decide, h0, by omega⟩
  · rw [List.getElem?_append_right (Nat.le_refl _)]
    simp
  · rw [List.getElem?_append_right (by omega)]
    simp
end
end Cut
namespace Cut
open PySem PySem.Spec PyProof.Rows L2 Cv
/-! ### the laps -/
section
variable {st s s1 s2 : Sto} {n m k l : Nat} {xs : List Int} {B C : Nat} {cap : Cap} {p sc : PV} {x y : Rat} {a b c mo : Pt} {t2 t3 t4 t5 t6 t7 t8 t9 t10 t11 t12 t13 t14 t15 t16 t17 : Option PV}
theorem lap_ok (P : PB st n m xs B) (hB : B < 200000) : ∃ a b c u6 u9 u10 u11 u12 u14 s, body1 (HH sc n t2 t3 t4 t5 t6 t7 t8 t9 t10 t11 t12 t13 t14 t15 t16 t17) st = .ok .nx (HL sc n t2 a b c u6 t7 t8 u9 u10 u11 u12 t13 u14 t15 t16 t17) s ∧ QP 3 a ∧ QP 3 b ∧ PB s n m xs (B + 60) := by
  obtain ⟨a, b, c, s0, e0, qa, qb, qc, P0, L0⟩ := b0_ok (sc := sc) (t2 := t2) (t3 := t3) (t4 := t4) (t5 := t5) (t6 := t6) (t7 := t7) (t8 := t8) (t9 := t9) (t10 := t10) (t11 := t11) (t12 := t12) (t13 := t13) (t14 := t14) (t15 := t15) (t16 := t16) (t17 := t17) P (by omega)
  obtain ⟨c, u6, s1, e1, qc, P1, L1⟩ := b1_ok (sc := sc) (a := a) (b := b) (c := c) (t2 := t2) (t6 := t6) (t7 := t7) (t8 := t8) (t9 := t9) (t10 := t10) (t11 := t11) (t12 := t12) (t13 := t13) (t14 := t14) (t15 := t15) (t16 := t16) (t17 := t17) P0 (by omega)
  obtain ⟨s4, e4, P4, L4⟩ := b4_ok (sc := sc) (a := a) (b := b) (c := c) (t2 := t2) (t6 := u6) (t7 := t7) (t8 := t8) (t9 := some (.int (crs a b c).num)) (t11 := t11) (t12 := t12) (t13 := t13) (t14 := t14) (t15 := t15) (t16 := t16) (t17 := t17) P1 (by omega)
  obtain ⟨s5, e5, P5, L5⟩ := b5_ok (sc := sc) (a := a) (b := b) (c := c) (t2 := t2) (t6 := u6) (t7 := t7) (t8 := t8) (t9 := some (.int (crs a b c).num)) (t10 := some (.int (sgn (crs a b c)))) (t11 := t11) (t12 := t12) (t13 := t13) (t14 := t14) (t15 := t15) (t16 := t16) (t17 := t17) P4 (by omega)
  obtain ⟨s6, e6, P6, L6⟩ := b6_ok (sc := sc) (a := a) (b := b) (c := c) (t2 := t2) (t6 := u6) (t7 := t7) (t8 := t8) (t9 := some (.int (crs a b c).num)) (t11 := t11) (t12 := t12) (t13 := t13) (t14 := t14) (t15 := t15) (t16 := t16) (t17 := t17) P5
  obtain ⟨mo, s7, e7, qm, P7, L7⟩ := b7_ok (sc := sc) (a := a) (b := b) (c := c) (t2 := t2) (t6 := u6) (t7 := t7) (t8 := t8) (t9 := some (.int (crs a b c).num)) (t10 := some (.int (sgn (crs a b c)))) (t11 := t11) (t12 := t12) (t13 := t13) (t14 := t14) (t15 := t15) (t16 := t16) (t17 := t17) P6 (by omega)
  obtain ⟨d1, s8, e8, h8, P8, L8⟩ := b8_ok (sc := sc) (a := a) (b := b) (c := c) (mo := mo) (t2 := t2) (t6 := u6) (t7 := t7) (t8 := t8) (t9 := some (.int (crs a b c).num)) (t10 := some (.int (sgn (crs a b c)))) (t12 := t12) (t13 := t13) (t14 := t14) (t15 := t15) (t16 := t16) (t17 := t17) P7
  obtain ⟨d2, s9, e9, h9, P9, L9⟩ := b9_ok (sc := sc) (a := a) (b := b) (c := c) (t2 := t2) (t6 := u6) (t7 := t7) (t8 := t8) (t9 := some (.int (crs a b c).num)) (t10 := some (.int (sgn (crs a b c)))) (t11 := some (pt mo)) (t12 := some (.loc d1)) (t13 := t13) (t14 := t14) (t15 := t15) (t16 := t16) (t17 := t17) P8
  obtain ⟨s10, e10, P10, L10⟩ := b10_ok (sc := sc) (a := a) (b := b) (c := c) (mo := mo) (t2 := t2) (t6 := u6) (t7 := t7) (t8 := t8) (t9 := some (.int (crs a b c).num)) (t11 := some (pt mo)) (t13 := t13) (t15 := t15) (t16 := t16) (t17 := t17) P9 (L9 _ _ h8) h9
  refine ⟨a, b, c, u6, some (.int (crs a b c).num), some (.int (sgn (crs a b c))), some (pt mo), some (.loc d1), some (.loc d2), s10, ?_, qa, qb, P10.up (by omega)⟩
  unfold body1
  refine r_seq e0 (r_then_nx (r_seq e1 (r_then_nx (r_seq b2_ok (r_then_nx (r_seq b3_ok (r_then_nx (r_seq e4 (r_then_nx (r_seq e5 (r_then_nx (r_seq e6 (r_then_nx (r_seq e7 (r_then_nx (r_seq e8 (r_then_nx (r_seq e9 (r_then_nx (r_seq e10 (r_then_nx r_nx)))))))))))))))))))))
theorem laps_ok (P : PB st n m xs 0) : ∃ a b c u6 u9 u10 u11 u12 u14 s, sFor (.nm 2) (iRange1 (eCons (eCon (.int 4)) eNil)) body1 (HH sc n none none none none none none none none none none none none none none none none) st = .ok .nx (HL sc n (some (.int 3)) a b c u6 none none u9 u10 u11 u12 none u14 none none none) s ∧ QP 3 a ∧ QP 3 b ∧ PB s n m xs 240 := by
  obtain ⟨a, b, c, u6, u9, u10, u11, u12, u14, s, e1, _, _, P1⟩ := lap_ok (sc := sc) (t2 := some (.int (0 + (0 : Nat)))) (t3 := none) (t4 := none) (t5 := none) (t6 := none) (t7 := none) (t8 := none) (t9 := none) (t10 := none) (t11 := none) (t12 := none) (t13 := none) (t14 := none) (t15 := none) (t16 := none) (t17 := none) P (by omega)
  obtain ⟨a', b', c', v6, v9, v10, v11, v12, v14, s', e2, _, _, P2⟩ := lap_ok (sc := sc) (t2 := some (.int (0 + (1 : Nat)))) (t3 := some (pt a)) (t4 := some (pt b)) (t5 := some (pt c)) (t6 := u6) (t7 := none) (t8 := none) (t9 := u9) (t10 := u10) (t11 := u11) (t12 := u12) (t13 := none) (t14 := u14) (t15 := none) (t16 := none) (t17 := none) P1 (by omega)
  obtain ⟨a2, b2, c2, w6, w9, w10, w11, w12, w14, s2, e3, _, _, P3⟩ := lap_ok (sc := sc) (t2 := some (.int (0 + (2 : Nat)))) (t3 := some (pt a')) (t4 := some (pt b')) (t5 := some (pt c')) (t6 := v6) (t7 := none) (t8 := none) (t9 := v9) (t10 := v10) (t11 := v11) (t12 := v12) (t13 := none) (t14 := v14) (t15 := none) (t16 := none) (t17 := none) P2 (by omega)
  obtain ⟨a3, b3, c3, x6, x9, x10, x11, x12, x14, s3, e4, qa, qb, P4⟩ := lap_ok (sc := sc) (t2 := some (.int (0 + (3 : Nat)))) (t3 := some (pt a2)) (t4 := some (pt b2)) (t5 := some (pt c2)) (t6 := w6) (t7 := none) (t8 := none) (t9 := w9) (t10 := w10) (t11 := w11) (t12 := w12) (t13 := none) (t14 := w14) (t15 := none) (t16 := none) (t17 := none) P3 (by omega)
  refine ⟨a3, b3, c3, x6, x9, x10, x11, x12, x14, s3, ?_, qa, qb, P4.up (by omega)⟩
  have sm : small 4 = true := by decide
  refine r_for (src := .rng 0 4) (s1 := st) (rng1_eq con_eq sm) ?_
  refine r_fgo (k := 999999) (x := .int (0 + (0 : Nat))) (by rfl) rfl e1 ?_
  refine r_fgo (k := 999998) (x := .int (0 + (1 : Nat))) (by rfl) rfl e2 ?_
  refine r_fgo (k := 999997) (x := .int (0 + (2 : Nat))) (by rfl) rfl e3 ?_
  refine r_fgo (k := 999996) (x := .int (0 + (3 : Nat))) (by rfl) rfl e4 ?_
  exact r_fend (k := 999995) (by rfl)
theorem t2_ok (P : PB st n m xs B) (hB : B < 100000) : ∃ p s, t_2 (HL sc n t2 a b c t6 t7 t8 t9 t10 t11 t12 t13 t14 t15 t16 t17) st = .ok .nx (HL sc n t2 a b c t6 t7 t8 t9 t10 t11 t12 t13 t14 (some p) t16 t17) s ∧ p ∈ bads := by
  obtain ⟨p, s1, e1, h1, P1, L1⟩ := bad_B (cap := kpE (HL sc n t2 a b c t6 t7 t8 t9 t10 t11 t12 t13 t14 t15 t16 t17)) P (by omega)
  refine ⟨p, s1, ?_, h1⟩
  unfold t_2
  (repeat' (first | ((with_reducible apply Cv.r_asm); with_reducible assumption) | with_reducible exact Cv.r_ok | with_reducible exact Cv.r_con | ((with_reducible apply Cv.r_var); rfl) | with_reducible apply Cv.r_two | with_reducible apply Cv.r_callF | with_reducible apply Cv.r_cons | with_reducible exact Cv.r_nil | with_reducible apply Cv.r_row | with_reducible apply Cv.r_one | with_reducible apply Cv.r_and | with_reducible apply Cv.r_or | with_reducible apply Cv.r_ite | with_reducible apply Cv.r_t | with_reducible apply Cv.r_not | with_reducible exact Cv.r_trb | with_reducible apply Cv.r_seq | with_reducible apply Cv.r_then_nx | with_reducible exact Cv.r_then_rt | with_reducible exact Cv.r_then_bk | with_reducible exact Cv.r_then_ct | with_reducible exact Cv.r_then_exn | with_reducible apply Cv.r_if | with_reducible apply Cv.r_set | with_reducible apply Cv.r_par | with_reducible exact Cv.r_nx | with_reducible exact Cv.r_fl | with_reducible apply Cv.r_exp | with_reducible apply Cv.r_ss | with_reducible exact Cv.r_sz | ((with_reducible apply Cv.r_T); focus (first | rfl | assumption | omega | (simp only [*, decide_true, decide_false, Bool.not_true, Bool.not_false, Bool.and_true, Bool.and_false, Bool.true_and, Bool.false_and, Bool.or_true, Bool.or_false, Bool.true_or, Bool.false_or]; done) | (simp [*]; done))) | ((with_reducible apply Cv.r_F); focus (first | rfl | assumption | omega | (simp only [*, decide_true, decide_false, Bool.not_true, Bool.not_false, Bool.and_true, Bool.and_false, Bool.true_and, Bool.false_and, Bool.or_true, Bool.or_false, Bool.true_or, Bool.false_or]; done) | (simp [*]; done))) | ((with_reducible apply Cv.r_tup); rfl) | ((with_reducible apply Cv.r_lst); rfl) | with_reducible exact Cv.r_ix0 | with_reducible exact Cv.r_ix1 | with_reducible exact Cv.r_ix2 | with_reducible exact Cv.r_add | with_reducible exact Cv.r_sub | with_reducible exact Cv.r_neg | with_reducible exact Cv.r_lt | with_reducible exact Cv.r_le | with_reducible exact Cv.r_gt | with_reducible exact Cv.r_ge | with_reducible exact Cv.r_eq | with_reducible exact Cv.r_ne | with_reducible exact Cv.r_eqB | with_reducible exact Cv.r_neB | with_reducible exact Cv.r_isB | with_reducible exact Cv.r_isnB | with_reducible exact Cv.r_subB | with_reducible apply Cv.r_ret))
end
end Cut
namespace Cut
open PySem PySem.Spec PyProof.Rows L2 Cv
/-! ### the tries -/
abbrev cloO (i : Nat) : SO := .clo lamq (lam i).1 (lam i).2.1 (lam i).2.2
def oc (y : Str) : Option PV → Cap
  | none => []
  | some p => [(y, p)]
abbrev capE (a b p : PV) (f : Str) (u v : Option PV) : Cap := ("one", a) :: ("other", b) :: (oc "by" u ++ (oc "move" v ++ ([("bad", p), ("work", PV.gl f)] : Cap)))
/-- what runClo does with the code of lambda i -/
def lamRun (cap : Cap) (i : Nat) (st : Sto) : Res PV := if noArgs (lam i).1 = true ∧ lamB (lam i).2.2 = true ∧ 1 ≤ (c__law_four_fault cap).k then (match capsOf cap (freeOf (lam i).2.2) with
  | some ps => evE 39 { lamC (c__law_four_fault cap) (lam i).2.2 with cap := fun _ => cap } (lam i).2.1 (ps.map some) st
  | none => .stuck) else .stuck
section
variable {st s : Sto} {p x y : PV} {a b : Pt} {cap : Cap} {e : Str} {fs : List (Str × PV)} {u v : Option PV}
theorem lam0t : lamRun (capE x y p "turn_of" u v) 0 st = f_turn_of (capE x y p "turn_of" u v) [p, p, p] st := by cases u <;> cases v <;> kernel_rfl
theorem lam1t : lamRun (capE x y p "turn_of" u v) 1 st = f_turn_of (capE x y p "turn_of" u v) [x, p, .non] st := by cases u <;> cases v <;> kernel_rfl
theorem lam2t : lamRun (capE x y p "turn_of" u v) 2 st = f_turn_of (capE x y p "turn_of" u v) [x, y, p] st := by cases u <;> cases v <;> kernel_rfl
theorem lam0b : lamRun (capE x y p "is_between" u v) 0 st = f_is_between (capE x y p "is_between" u v) [p, p, p] st := by cases u <;> cases v <;> kernel_rfl
theorem lam1b : lamRun (capE x y p "is_between" u v) 1 st = f_is_between (capE x y p "is_between" u v) [x, p, .non] st := by cases u <;> cases v <;> kernel_rfl
theorem lam2b : lamRun (capE x y p "is_between" u v) 2 st = f_is_between (capE x y p "is_between" u v) [x, y, p] st := by cases u <;> cases v <;> kernel_rfl
theorem run_at {i j : Nat} (h : st[j]? = some (cloO i)) : runClo (evE 39) (c__law_four_fault cap) cap (.loc j) st = lamRun cap i st := by
  unfold runClo
  dsimp only
  rw [h]
  rfl
abbrev hds : List (Str × Nat × List XI) := [("BadNumber", 1, [.con "number", .fld "what", .fld "number"]), ("BadRow", 1, [.con "row", .fld "row"]), ("BadTable", 1, [.con "table", .fld "table"]), ("Unlike", 1, [.con "unlike", .fld "what"])]
theorem pick_row {j : Nat} : pick (exmF errL) "BadRow" [("row", p)] [some (.loc j), none] st hds = .ok (.rt (.tup [.str "row", p])) [some (.loc j), none] st := by kernel_rfl
/-- the fault told -/
theorem fault_of {i j : Nat} (h : st[j]? = some (cloO i)) {r : PV} (hr : lamRun cap i st = .exn e fs s) (hp : pick (exmF errL) e fs [some (.loc j), none] s hds = .ok (.rt r) [some (.loc j), none] s) :
    f__law_four_fault cap [.loc j] st = .ok r s := by
  rw [ev__law_four_fault]
  refine (if_pos ⟨rfl, by decide⟩).trans ?_
  show endDef (m__law_four_fault cap [some (.loc j), none] st) = _
  unfold m__law_four_fault
  have ev : evCallV (evE 39) (c__law_four_fault cap) "action" [some (.loc j), none] st = .exn e fs s := by
    have e1 : evCallV (evE 39) (c__law_four_fault cap) "action" [some (.loc j), none] st = runClo (evE 39) (c__law_four_fault cap) cap (.loc j) st := by kernel_rfl
    rw [e1, run_at h, hr]
  have bd : sSeq (sExp (evCallV (evE 39) (c__law_four_fault cap) "action")) (sSeq (sRet (eCon .non)) sNx) [some (.loc j), none] st = .exn e fs [some (.loc j), none] s := by
    refine r_seq (r0 := .exn e fs [some (.loc j), none] s) ?_ r_then_exn
    unfold sExp SR.of
    rw [ev]
  apply r_end
  refine r_seq (r0 := .ok (.rt r) [some (.loc j), none] s) ?_ r_then_rt
  unfold sTry
  rw [bd]
  exact hp
/-- the text of ('row', p) -/
theorem repr_c {p : PV} {d : PyData} (h : dat st p = some d) (hs : (d.showable && decide (d.shown.length ≤ 1000)) = true) : bltOp .repr [p] st = .ok (.str d.shown) st := by
  rw [Bool.and_eq_true, decide_eq_true_eq] at hs
  exact repr_of h hs.1 (Nat.le_trans hs.2 (by show 1000 ≤ 1000000; decide))
theorem bad_text (h : p ∈ bads) : ∃ z, ∀ st, bltOp .repr [.tup [.str "row", p]] st = .ok (.str z) st := by
  unfold bads at h
  simp only [List.mem_cons, List.not_mem_nil, or_false] at h
  rcases h with rfl | rfl | rfl | rfl | rfl | rfl | rfl | rfl | rfl | rfl
  · exact ⟨_, fun st => repr_c (d := .tuple [.str "row", .none]) (by kernel_rfl) (by decide +kernel)⟩
  · exact ⟨_, fun st => repr_c (d := .tuple [.str "row", .int 5]) (by kernel_rfl) (by decide +kernel)⟩
  · exact ⟨_, fun st => repr_c (d := .tuple [.str "row", .str "12"]) (by kernel_rfl) (by decide +kernel)⟩
  · exact ⟨_, fun st => repr_c (d := .tuple [.str "row", .tuple []]) (by kernel_rfl) (by decide +kernel)⟩
  · exact ⟨_, fun st => repr_c (d := .tuple [.str "row", .tuple [.int 1]]) (by kernel_rfl) (by decide +kernel)⟩
  · exact ⟨_, fun st => repr_c (d := .tuple [.str "row", .tuple [.int 1, .int 2, .int 3]]) (by kernel_rfl) (by decide +kernel)⟩
  · exact ⟨_, fun st => repr_c (d := .tuple [.str "row", .tuple [.str "1", .str "2"]]) (by kernel_rfl) (by decide +kernel)⟩
  · exact ⟨_, fun st => repr_c (d := .tuple [.str "row", .tuple [.bool true, .int 2]]) (by kernel_rfl) (by decide +kernel)⟩
  · exact ⟨_, fun st => repr_c (d := .tuple [.str "row", .tuple [.tuple [.int 1, .int 0], .int 2]]) (by kernel_rfl) (by decide +kernel)⟩
  · exact ⟨_, fun st => repr_c (d := .tuple [.str "row", .tuple [.none, .int 1]]) (by kernel_rfl) (by decide +kernel)⟩
/-- the action at j has the fault d, wherever the store goes on -/
def DueAt (cap : Cap) (st : Sto) (j : Nat) (d : PV) : Prop := (∃ z, ∀ s, bltOp .repr [d] s = .ok (.str z) s) ∧ ∀ st', Ext st st' → ∃ s, f__law_four_fault cap [.loc j] st' = .ok d s ∧ Ext st' s
theorem eqS_self {z : Str} : cmpOp .eq (.str z) (.str z) st = .ok (.bl true) st := by rw [r_eqS]; simp
def eDue (cap : Cap) : Ev PV := two (eRow (eCons (evCallF (eCons (eVar 1) eNil) (fun _ => cap) f__law_four_fault) eNil) (bltOp .repr)) (eRow (eCons (eVar 2) eNil) (bltOp .repr)) (cmpOp .eq)
theorem elem_due {j T : Nat} {d : PV} (h : DueAt cap st j d) : Elem (eDue cap) (.tup [.nm 1, .nm 2]) [some (.loc T), none, none] st (.tup [.loc j, d]) (.bl true) := fun s e => by
  obtain ⟨⟨z, hz⟩, h⟩ := h
  obtain ⟨s', e1, x1⟩ := h s e
  refine ⟨[some (.loc T), some (.loc j), some d], s', rfl, ?_, x1⟩
  have hz := hz s'
  have q := eqS_self (st := s') (z := z)
  unfold eDue
  (repeat' (first | ((with_reducible apply Cv.r_asm); with_reducible assumption) | with_reducible exact Cv.r_ok | with_reducible exact Cv.r_con | ((with_reducible apply Cv.r_var); rfl) | with_reducible apply Cv.r_two | with_reducible apply Cv.r_callF | with_reducible apply Cv.r_cons | with_reducible exact Cv.r_nil | with_reducible apply Cv.r_row | with_reducible apply Cv.r_one | with_reducible apply Cv.r_and | with_reducible apply Cv.r_or | with_reducible apply Cv.r_ite | with_reducible apply Cv.r_t | with_reducible apply Cv.r_not | with_reducible exact Cv.r_trb | with_reducible apply Cv.r_seq | with_reducible apply Cv.r_then_nx | with_reducible exact Cv.r_then_rt | with_reducible exact Cv.r_then_bk | with_reducible exact Cv.r_then_ct | with_reducible exact Cv.r_then_exn | with_reducible apply Cv.r_if | with_reducible apply Cv.r_set | with_reducible apply Cv.r_par | with_reducible exact Cv.r_nx | with_reducible exact Cv.r_fl | with_reducible apply Cv.r_exp | with_reducible apply Cv.r_ss | with_reducible exact Cv.r_sz | ((with_reducible apply Cv.r_T); focus (first | rfl | assumption | omega | (simp only [*, decide_true, decide_false, Bool.not_true, Bool.not_false, Bool.and_true, Bool.and_false, Bool.true_and, Bool.false_and, Bool.or_true, Bool.or_false, Bool.true_or, Bool.false_or]; done) | (simp [*]; done))) | ((with_reducible apply Cv.r_F); focus (first | rfl | assumption | omega | (simp only [*, decide_true, decide_false, Bool.not_true, Bool.not_false, Bool.and_true, Bool.and_false, Bool.true_and, Bool.false_and, Bool.or_true, Bool.or_false, Bool.true_or, Bool.false_or]; done) | (simp [*]; done))) | ((with_reducible apply Cv.r_tup); rfl) | ((with_reducible apply Cv.r_lst); rfl) | with_reducible exact Cv.r_ix0 | with_reducible exact Cv.r_ix1 | with_reducible exact Cv.r_ix2 | with_reducible exact Cv.r_add | with_reducible exact Cv.r_sub | with_reducible exact Cv.r_neg | with_reducible exact Cv.r_lt | with_reducible exact Cv.r_le | with_reducible exact Cv.r_gt | with_reducible exact Cv.r_ge | with_reducible exact Cv.r_eq | with_reducible exact Cv.r_ne | with_reducible exact Cv.r_eqB | with_reducible exact Cv.r_neB | with_reducible exact Cv.r_isB | with_reducible exact Cv.r_isnB | with_reducible exact Cv.r_subB | with_reducible apply Cv.r_ret))
theorem due_ok {T j0 j1 j2 : Nat} {d0 d1 d2 : PV} (hT : st[T]? = some (.lst [.tup [.loc j0, d0], .tup [.loc j1, d1], .tup [.loc j2, d2]])) (h0 : DueAt cap st j0 d0) (h1 : DueAt cap st j1 d1) (h2 : DueAt cap st j2 d2) : ∃ s, f__law_four_due cap [.loc T] st = .ok (.bl true) s ∧ Ext st s := by
  have lc : ∃ s, eLc (eDue cap) (.tup [.nm 1, .nm 2]) (fun _ st => .ok true st) (iSeq (eVar 0)) [1, 2] [some (.loc T), none, none] st = .ok (.loc st.length) s ∧ Ext st s ∧ s[st.length]? = some (.lst [.bl true, .bl true, .bl true]) :=
    lc_ext (r_iseq (r_var rfl) (r_items hT)) (src_items fun s e => r_items (e _ _ hT)) (.cons (elem_due h0) (.cons (elem_due h1) (.cons (elem_due h2) .nil))) (by simp)
  obtain ⟨s, e, x, h⟩ := lc
  have al : bltOp .all [.loc st.length] s = .ok (.bl true) s := r_allL (bs := [true, true, true]) h rfl
  unfold eDue at e
  exact ⟨s, by (rw [ev__law_four_due]; dsimp only [start', List.map, List.length_cons, List.length_nil, List.replicate, List.cons_append, List.nil_append, Nat.reduceAdd, Nat.reduceSub, Nat.zero_add]; refine (if_pos ⟨rfl, by decide⟩).trans ?_; unfold m__law_four_due; apply Cv.r_end; (repeat' (first | with_reducible exact e | with_reducible exact al | ((with_reducible apply Cv.r_asm); with_reducible assumption) | with_reducible exact Cv.r_ok | with_reducible exact Cv.r_con | ((with_reducible apply Cv.r_var); rfl) | with_reducible apply Cv.r_two | with_reducible apply Cv.r_callF | with_reducible apply Cv.r_cons | with_reducible exact Cv.r_nil | with_reducible apply Cv.r_row | with_reducible apply Cv.r_one | with_reducible apply Cv.r_and | with_reducible apply Cv.r_or | with_reducible apply Cv.r_ite | with_reducible apply Cv.r_t | with_reducible apply Cv.r_not | with_reducible exact Cv.r_trb | with_reducible apply Cv.r_seq | with_reducible apply Cv.r_then_nx | with_reducible exact Cv.r_then_rt | with_reducible exact Cv.r_then_bk | with_reducible exact Cv.r_then_ct | with_reducible exact Cv.r_then_exn | with_reducible apply Cv.r_if | with_reducible apply Cv.r_set | with_reducible apply Cv.r_par | with_reducible exact Cv.r_nx | with_reducible exact Cv.r_fl | with_reducible apply Cv.r_exp | with_reducible apply Cv.r_ss | with_reducible exact Cv.r_sz | ((with_reducible apply Cv.r_T); focus (first | rfl | assumption | omega | (simp only [*, decide_true, decide_false, Bool.not_true, Bool.not_false, Bool.and_true, Bool.and_false, Bool.true_and, Bool.false_and, Bool.or_true, Bool.or_false, Bool.true_or, Bool.false_or]; done) | (simp [*]; done))) | ((with_reducible apply Cv.r_F); focus (first | rfl | assumption | omega | (simp only [*, decide_true, decide_false, Bool.not_true, Bool.not_false, Bool.and_true, Bool.and_false, Bool.true_and, Bool.false_and, Bool.or_true, Bool.or_false, Bool.true_or, Bool.false_or]; done) | (simp [*]; done))) | ((with_reducible apply Cv.r_tup); rfl) | ((with_reducible apply Cv.r_lst); rfl) | with_reducible exact Cv.r_ix0 | with_reducible exact Cv.r_ix1 | with_reducible exact Cv.r_ix2 | with_reducible exact Cv.r_add | with_reducible exact Cv.r_sub | with_reducible exact Cv.r_neg | with_reducible exact Cv.r_lt | with_reducible exact Cv.r_le | with_reducible exact Cv.r_gt | with_reducible exact Cv.r_ge | with_reducible exact Cv.r_eq | with_reducible exact Cv.r_ne | with_reducible exact Cv.r_eqB | with_reducible exact Cv.r_neB | with_reducible exact Cv.r_isB | with_reducible exact Cv.r_isnB | with_reducible exact Cv.r_subB | with_reducible apply Cv.r_ret))), x⟩
/-- all three -/
theorem dues {f : Cap → Fun'} {nm : Str} (W : Works f) (qa : QP 3 a) (qb : QP 3 b) (hb : p ∈ bads)
    (g0 : ∀ st, lamRun (capE (pt a) (pt b) p nm u v) 0 st = f (capE (pt a) (pt b) p nm u v) [p, p, p] st) (g1 : ∀ st, lamRun (capE (pt a) (pt b) p nm u v) 1 st = f (capE (pt a) (pt b) p nm u v) [pt a, p, .non] st) (g2 : ∀ st, lamRun (capE (pt a) (pt b) p nm u v) 2 st = f (capE (pt a) (pt b) p nm u v) [pt a, pt b, p] st)
    {i j : Nat} (hi : i < 3) (hj : st[j]? = some (cloO i)) : DueAt (capE (pt a) (pt b) p nm u v) st j (.tup [.str "row", p]) := by
  refine ⟨bad_text hb, fun s e => ?_⟩
  have hj := e _ _ hj
  have B : Bad s p := bad_of hb
  match i, hi with
  | 0, _ =>
    obtain ⟨s', e', x'⟩ := (W (capE (pt a) (pt b) p nm u v) s p p p .non a b 3 3 qa qb (by omega)).1 B
    exact ⟨s', fault_of hj (by rw [g0]; exact e') pick_row, x'⟩
  | 1, _ =>
    obtain ⟨s', e', x'⟩ := (W (capE (pt a) (pt b) p nm u v) s (pt a) p .non .non a b 3 3 qa qb (by omega)).2.1 HP.pt B
    exact ⟨s', fault_of hj (by rw [g1]; exact e') pick_row, x'⟩
  | 2, _ =>
    obtain ⟨s', e', x'⟩ := (W (capE (pt a) (pt b) p nm u v) s (pt a) (pt b) p .non a b 3 3 qa qb (by omega)).2.2 HP.pt HP.pt B
    exact ⟨s', fault_of hj (by rw [g2]; exact e') pick_row, x'⟩
end
end Cut
namespace Cut
open PySem PySem.Spec PyProof.Rows L2 Cv
theorem capM_skip {sc : Scope} {y : Str} {N : List Str} {o : Option PV} {η : Env'} (h : decide (sc.names.lookup y = some .cell) = false) : capM sc (y :: N) (o :: η) = capM sc N η := by
  have h := of_decide_eq_false h
  cases o with
  | none => rfl
  | some p => exact if_neg h
theorem capM_opt {sc : Scope} {y : Str} {N : List Str} {o : Option PV} {η : Env'} (h : decide (sc.names.lookup y = some .cell) = true) : capM sc (y :: N) (o :: η) = oc y o ++ capM sc N η := by
  have h := of_decide_eq_true h
  cases o with
  | none => rfl
  | some p => exact if_pos h
theorem capM_take {sc : Scope} {y : Str} {N : List Str} {p : PV} {η : Env'} (h : decide (sc.names.lookup y = some .cell) = true) : capM sc (y :: N) (some p :: η) = (y, p) :: capM sc N η := if_pos (of_decide_eq_true h)
section
variable {st s s1 s2 : Sto} {n : Nat} {p sc : PV} {a b c : Pt} {t2 t6 t7 t8 t9 t10 t11 t12 t13 t14 t17 : Option PV} {nm : Str}
abbrev HW (sc : PV) (n : Nat) (t2 : Option PV) (a b c : Pt) (t6 t7 t8 t9 t10 t11 t12 t13 t14 : Option PV) (p : PV) (nm : Str) (t17 : Option PV) : Env' := HL sc n t2 a b c t6 t7 t8 t9 t10 t11 t12 t13 t14 (some p) (some (.gl nm)) t17
theorem cap_at : kpE (HW sc n t2 a b c t6 t7 t8 t9 t10 t11 t12 t13 t14 p nm t17) = capE (pt a) (pt b) p nm t6 t11 := by
  show capM (defScope (top 54)) _ [_, _, _, _, _, _, _, _, _, _, _, _, _, _, _, _, _, _] = _
  rw [capM_skip (by decide +kernel), capM_skip (by decide +kernel), capM_skip (by decide +kernel)]
  rw [capM_take (by decide +kernel), capM_take (by decide +kernel)]
  rw [capM_skip (by decide +kernel), capM_opt (by decide +kernel), capM_skip (by decide +kernel), capM_skip (by decide +kernel), capM_skip (by decide +kernel), capM_skip (by decide +kernel), capM_opt (by decide +kernel), capM_skip (by decide +kernel), capM_skip (by decide +kernel), capM_skip (by decide +kernel)]
  rw [capM_take (by decide +kernel), capM_take (by decide +kernel), capM_skip (by decide +kernel)]
  rfl
theorem lam_eq {i : Nat} {η : Env'} : eLam lamq (lam i) η st = .ok (.loc st.length) (st ++ [cloO i]) := rfl
/-- one work -/
theorem work_ok {f : Cap → Fun'} (W : Works f) (qa : QP 3 a) (qb : QP 3 b) (hb : p ∈ bads)
    (g0 : ∀ st, lamRun (capE (pt a) (pt b) p nm t6 t11) 0 st = f (capE (pt a) (pt b) p nm t6 t11) [p, p, p] st) (g1 : ∀ st, lamRun (capE (pt a) (pt b) p nm t6 t11) 1 st = f (capE (pt a) (pt b) p nm t6 t11) [pt a, p, .non] st) (g2 : ∀ st, lamRun (capE (pt a) (pt b) p nm t6 t11) 2 st = f (capE (pt a) (pt b) p nm t6 t11) [pt a, pt b, p] st) :
    ∃ u s, body3 (HW sc n t2 a b c t6 t7 t8 t9 t10 t11 t12 t13 t14 p nm t17) st = .ok .nx (HW sc n t2 a b c t6 t7 t8 t9 t10 t11 t12 t13 t14 p nm u) s := by
  let T := (st ++ [cloO 0]).length
  let r : PV := .tup [.str "row", p]
  let v0 : PV := .tup [.loc st.length, r]
  let s1 := (st ++ [cloO 0]) ++ [oL [v0]]
  have hT1 : s1[T]? = some (.lst [v0]) := push_at
  have hc1 : s1[st.length]? = some (cloO 0) := Ext.push _ _ push_at
  have n0 : st.length ≠ T := by show st.length ≠ (st ++ [cloO 0]).length; simp
  have e1 : b3_0 (HW sc n t2 a b c t6 t7 t8 t9 t10 t11 t12 t13 t14 p nm t17) st = .ok .nx (HW sc n t2 a b c t6 t7 t8 t9 t10 t11 t12 t13 t14 p nm (some (.loc T))) s1 := by
    unfold b3_0
    (repeat' (first | with_reducible exact lam_eq | ((with_reducible apply Cv.r_asm); with_reducible assumption) | with_reducible exact Cv.r_ok | with_reducible exact Cv.r_con | ((with_reducible apply Cv.r_var); rfl) | with_reducible apply Cv.r_two | with_reducible apply Cv.r_callF | with_reducible apply Cv.r_cons | with_reducible exact Cv.r_nil | with_reducible apply Cv.r_row | with_reducible apply Cv.r_one | with_reducible apply Cv.r_and | with_reducible apply Cv.r_or | with_reducible apply Cv.r_ite | with_reducible apply Cv.r_t | with_reducible apply Cv.r_not | with_reducible exact Cv.r_trb | with_reducible apply Cv.r_seq | with_reducible apply Cv.r_then_nx | with_reducible exact Cv.r_then_rt | with_reducible exact Cv.r_then_bk | with_reducible exact Cv.r_then_ct | with_reducible exact Cv.r_then_exn | with_reducible apply Cv.r_if | with_reducible apply Cv.r_set | with_reducible apply Cv.r_par | with_reducible exact Cv.r_nx | with_reducible exact Cv.r_fl | with_reducible apply Cv.r_exp | with_reducible apply Cv.r_ss | with_reducible exact Cv.r_sz | ((with_reducible apply Cv.r_T); focus (first | rfl | assumption | omega | (simp only [*, decide_true, decide_false, Bool.not_true, Bool.not_false, Bool.and_true, Bool.and_false, Bool.true_and, Bool.false_and, Bool.or_true, Bool.or_false, Bool.true_or, Bool.false_or]; done) | (simp [*]; done))) | ((with_reducible apply Cv.r_F); focus (first | rfl | assumption | omega | (simp only [*, decide_true, decide_false, Bool.not_true, Bool.not_false, Bool.and_true, Bool.and_false, Bool.true_and, Bool.false_and, Bool.or_true, Bool.or_false, Bool.true_or, Bool.false_or]; done) | (simp [*]; done))) | ((with_reducible apply Cv.r_tup); rfl) | ((with_reducible apply Cv.r_lst); rfl) | with_reducible exact Cv.r_ix0 | with_reducible exact Cv.r_ix1 | with_reducible exact Cv.r_ix2 | with_reducible exact Cv.r_add | with_reducible exact Cv.r_sub | with_reducible exact Cv.r_neg | with_reducible exact Cv.r_lt | with_reducible exact Cv.r_le | with_reducible exact Cv.r_gt | with_reducible exact Cv.r_ge | with_reducible exact Cv.r_eq | with_reducible exact Cv.r_ne | with_reducible exact Cv.r_eqB | with_reducible exact Cv.r_neB | with_reducible exact Cv.r_isB | with_reducible exact Cv.r_isnB | with_reducible exact Cv.r_subB | with_reducible apply Cv.r_ret))
  let v1 : PV := .tup [.loc s1.length, r]
  have x1 : Ext s1 (s1 ++ [cloO 1]) := Ext.push
  let s2 := (s1 ++ [cloO 1]).set T (oL ([v0] ++ [v1]))
  have ap1 : mthOp .append (.loc T) [v1] (s1 ++ [cloO 1]) = .ok .non s2 := r_append (x1 _ _ hT1) (by simp)
  have l1 : T < s1.length := (List.getElem?_eq_some_iff.mp hT1).1
  have hT2 : s2[T]? = some (.lst [v0, v1]) := set_at (x1 _ _ hT1)
  have hc2 : s2[st.length]? = some (cloO 0) := by
    show (List.set _ _ _)[st.length]? = _
    rw [List.getElem?_set_ne n0.symm]; exact x1 _ _ hc1
  have hd2 : s2[s1.length]? = some (cloO 1) := by
    show (List.set _ _ _)[s1.length]? = _
    rw [List.getElem?_set_ne (by omega)]; exact push_at
  have a1 : eCons (eRow (eCons (eLam lamq (lam 1)) (eCons (eRow (eCons (eCon (.str "row")) (eCons (eVar 15) eNil)) mkTup) eNil)) mkTup) eNil (HW sc n t2 a b c t6 t7 t8 t9 t10 t11 t12 t13 t14 p nm (some (.loc T))) s1 = .ok [v1] (s1 ++ [cloO 1]) := by (repeat' (first | with_reducible exact lam_eq | ((with_reducible apply Cv.r_asm); with_reducible assumption) | with_reducible exact Cv.r_ok | with_reducible exact Cv.r_con | ((with_reducible apply Cv.r_var); rfl) | with_reducible apply Cv.r_two | with_reducible apply Cv.r_callF | with_reducible apply Cv.r_cons | with_reducible exact Cv.r_nil | with_reducible apply Cv.r_row | with_reducible apply Cv.r_one | with_reducible apply Cv.r_and | with_reducible apply Cv.r_or | with_reducible apply Cv.r_ite | with_reducible apply Cv.r_t | with_reducible apply Cv.r_not | with_reducible exact Cv.r_trb | with_reducible apply Cv.r_seq | with_reducible apply Cv.r_then_nx | with_reducible exact Cv.r_then_rt | with_reducible exact Cv.r_then_bk | with_reducible exact Cv.r_then_ct | with_reducible exact Cv.r_then_exn | with_reducible apply Cv.r_if | with_reducible apply Cv.r_set | with_reducible apply Cv.r_par | with_reducible exact Cv.r_nx | with_reducible exact Cv.r_fl | with_reducible apply Cv.r_exp | with_reducible apply Cv.r_ss | with_reducible exact Cv.r_sz | ((with_reducible apply Cv.r_T); focus (first | rfl | assumption | omega | (simp only [*, decide_true, decide_false, Bool.not_true, Bool.not_false, Bool.and_true, Bool.and_false, Bool.true_and, Bool.false_and, Bool.or_true, Bool.or_false, Bool.true_or, Bool.false_or]; done) | (simp [*]; done))) | ((with_reducible apply Cv.r_F); focus (first | rfl | assumption | omega | (simp only [*, decide_true, decide_false, Bool.not_true, Bool.not_false, Bool.and_true, Bool.and_false, Bool.true_and, Bool.false_and, Bool.or_true, Bool.or_false, Bool.true_or, Bool.false_or]; done) | (simp [*]; done))) | ((with_reducible apply Cv.r_tup); rfl) | ((with_reducible apply Cv.r_lst); rfl) | with_reducible exact Cv.r_ix0 | with_reducible exact Cv.r_ix1 | with_reducible exact Cv.r_ix2 | with_reducible exact Cv.r_add | with_reducible exact Cv.r_sub | with_reducible exact Cv.r_neg | with_reducible exact Cv.r_lt | with_reducible exact Cv.r_le | with_reducible exact Cv.r_gt | with_reducible exact Cv.r_ge | with_reducible exact Cv.r_eq | with_reducible exact Cv.r_ne | with_reducible exact Cv.r_eqB | with_reducible exact Cv.r_neB | with_reducible exact Cv.r_isB | with_reducible exact Cv.r_isnB | with_reducible exact Cv.r_subB | with_reducible apply Cv.r_ret))
  have m1 := r_mthL (a := eVar 17) (η := HW sc n t2 a b c t6 t7 t8 t9 t10 t11 t12 t13 t14 p nm (some (.loc T))) (r_var rfl) hT1 a1 ap1
  have e2 : b3_1 (HW sc n t2 a b c t6 t7 t8 t9 t10 t11 t12 t13 t14 p nm (some (.loc T))) s1 = .ok .nx (HW sc n t2 a b c t6 t7 t8 t9 t10 t11 t12 t13 t14 p nm (some (.loc T))) s2 := r_exp m1
  let v2 : PV := .tup [.loc s2.length, r]
  have x2 : Ext s2 (s2 ++ [cloO 2]) := Ext.push
  let s3 := (s2 ++ [cloO 2]).set T (oL ([v0, v1] ++ [v2]))
  have ap2 : mthOp .append (.loc T) [v2] (s2 ++ [cloO 2]) = .ok .non s3 := r_append (x2 _ _ hT2) (by simp)
  have l2 : T < s2.length := (List.getElem?_eq_some_iff.mp hT2).1
  have hT3 : s3[T]? = some (.lst [v0, v1, v2]) := set_at (x2 _ _ hT2)
  have hc3 : s3[st.length]? = some (cloO 0) := by
    show (List.set _ _ _)[st.length]? = _
    rw [List.getElem?_set_ne n0.symm]; exact x2 _ _ hc2
  have hd3 : s3[s1.length]? = some (cloO 1) := by
    show (List.set _ _ _)[s1.length]? = _
    rw [List.getElem?_set_ne (by omega)]; exact x2 _ _ hd2
  have he3 : s3[s2.length]? = some (cloO 2) := by
    show (List.set _ _ _)[s2.length]? = _
    rw [List.getElem?_set_ne (by omega)]; exact push_at
  have a2 : eCons (eRow (eCons (eLam lamq (lam 2)) (eCons (eRow (eCons (eCon (.str "row")) (eCons (eVar 15) eNil)) mkTup) eNil)) mkTup) eNil (HW sc n t2 a b c t6 t7 t8 t9 t10 t11 t12 t13 t14 p nm (some (.loc T))) s2 = .ok [v2] (s2 ++ [cloO 2]) := by (repeat' (first | with_reducible exact lam_eq | ((with_reducible apply Cv.r_asm); with_reducible assumption) | with_reducible exact Cv.r_ok | with_reducible exact Cv.r_con | ((with_reducible apply Cv.r_var); rfl) | with_reducible apply Cv.r_two | with_reducible apply Cv.r_callF | with_reducible apply Cv.r_cons | with_reducible exact Cv.r_nil | with_reducible apply Cv.r_row | with_reducible apply Cv.r_one | with_reducible apply Cv.r_and | with_reducible apply Cv.r_or | with_reducible apply Cv.r_ite | with_reducible apply Cv.r_t | with_reducible apply Cv.r_not | with_reducible exact Cv.r_trb | with_reducible apply Cv.r_seq | with_reducible apply Cv.r_then_nx | with_reducible exact Cv.r_then_rt | with_reducible exact Cv.r_then_bk | with_reducible exact Cv.r_then_ct | with_reducible exact Cv.r_then_exn | with_reducible apply Cv.r_if | with_reducible apply Cv.r_set | with_reducible apply Cv.r_par | with_reducible exact Cv.r_nx | with_reducible exact Cv.r_fl | with_reducible apply Cv.r_exp | with_reducible apply Cv.r_ss | with_reducible exact Cv.r_sz | ((with_reducible apply Cv.r_T); focus (first | rfl | assumption | omega | (simp only [*, decide_true, decide_false, Bool.not_true, Bool.not_false, Bool.and_true, Bool.and_false, Bool.true_and, Bool.false_and, Bool.or_true, Bool.or_false, Bool.true_or, Bool.false_or]; done) | (simp [*]; done))) | ((with_reducible apply Cv.r_F); focus (first | rfl | assumption | omega | (simp only [*, decide_true, decide_false, Bool.not_true, Bool.not_false, Bool.and_true, Bool.and_false, Bool.true_and, Bool.false_and, Bool.or_true, Bool.or_false, Bool.true_or, Bool.false_or]; done) | (simp [*]; done))) | ((with_reducible apply Cv.r_tup); rfl) | ((with_reducible apply Cv.r_lst); rfl) | with_reducible exact Cv.r_ix0 | with_reducible exact Cv.r_ix1 | with_reducible exact Cv.r_ix2 | with_reducible exact Cv.r_add | with_reducible exact Cv.r_sub | with_reducible exact Cv.r_neg | with_reducible exact Cv.r_lt | with_reducible exact Cv.r_le | with_reducible exact Cv.r_gt | with_reducible exact Cv.r_ge | with_reducible exact Cv.r_eq | with_reducible exact Cv.r_ne | with_reducible exact Cv.r_eqB | with_reducible exact Cv.r_neB | with_reducible exact Cv.r_isB | with_reducible exact Cv.r_isnB | with_reducible exact Cv.r_subB | with_reducible apply Cv.r_ret))
  have m2 := r_mthL (a := eVar 17) (η := HW sc n t2 a b c t6 t7 t8 t9 t10 t11 t12 t13 t14 p nm (some (.loc T))) (r_var rfl) hT2 a2 ap2
  have e3 : b3_2 (HW sc n t2 a b c t6 t7 t8 t9 t10 t11 t12 t13 t14 p nm (some (.loc T))) s2 = .ok .nx (HW sc n t2 a b c t6 t7 t8 t9 t10 t11 t12 t13 t14 p nm (some (.loc T))) s3 := r_exp m2
  obtain ⟨s4, e4, x4⟩ := due_ok hT3 (dues (i := 0) W qa qb hb g0 g1 g2 (by omega) hc3) (dues (i := 1) W qa qb hb g0 g1 g2 (by omega) hd3) (dues (i := 2) W qa qb hb g0 g1 g2 (by omega) he3)
  rw [← cap_at (sc := sc) (n := n) (t2 := t2) (a := a) (b := b) (c := c) (t6 := t6) (t7 := t7) (t8 := t8) (t9 := t9) (t10 := t10) (t11 := t11) (t12 := t12) (t13 := t13) (t14 := t14) (p := p) (nm := nm) (t17 := some (.loc T))] at e4
  have e5 : b3_3 (HW sc n t2 a b c t6 t7 t8 t9 t10 t11 t12 t13 t14 p nm (some (.loc T))) s3 = .ok .nx (HW sc n t2 a b c t6 t7 t8 t9 t10 t11 t12 t13 t14 p nm (some (.loc T))) s4 := by
    unfold b3_3
    (repeat' (first | with_reducible exact e4 | ((with_reducible apply Cv.r_asm); with_reducible assumption) | with_reducible exact Cv.r_ok | with_reducible exact Cv.r_con | ((with_reducible apply Cv.r_var); rfl) | with_reducible apply Cv.r_two | with_reducible apply Cv.r_callF | with_reducible apply Cv.r_cons | with_reducible exact Cv.r_nil | with_reducible apply Cv.r_row | with_reducible apply Cv.r_one | with_reducible apply Cv.r_and | with_reducible apply Cv.r_or | with_reducible apply Cv.r_ite | with_reducible apply Cv.r_t | with_reducible apply Cv.r_not | with_reducible exact Cv.r_trb | with_reducible apply Cv.r_seq | with_reducible apply Cv.r_then_nx | with_reducible exact Cv.r_then_rt | with_reducible exact Cv.r_then_bk | with_reducible exact Cv.r_then_ct | with_reducible exact Cv.r_then_exn | with_reducible apply Cv.r_if | with_reducible apply Cv.r_set | with_reducible apply Cv.r_par | with_reducible exact Cv.r_nx | with_reducible exact Cv.r_fl | with_reducible apply Cv.r_exp | with_reducible apply Cv.r_ss | with_reducible exact Cv.r_sz | ((with_reducible apply Cv.r_T); focus (first | rfl | assumption | omega | (simp only [*, decide_true, decide_false, Bool.not_true, Bool.not_false, Bool.and_true, Bool.and_false, Bool.true_and, Bool.false_and, Bool.or_true, Bool.or_false, Bool.true_or, Bool.false_or]; done) | (simp [*]; done))) | ((with_reducible apply Cv.r_F); focus (first | rfl | assumption | omega | (simp only [*, decide_true, decide_false, Bool.not_true, Bool.not_false, Bool.and_true, Bool.and_false, Bool.true_and, Bool.false_and, Bool.or_true, Bool.or_false, Bool.true_or, Bool.false_or]; done) | (simp [*]; done))) | ((with_reducible apply Cv.r_tup); rfl) | ((with_reducible apply Cv.r_lst); rfl) | with_reducible exact Cv.r_ix0 | with_reducible exact Cv.r_ix1 | with_reducible exact Cv.r_ix2 | with_reducible exact Cv.r_add | with_reducible exact Cv.r_sub | with_reducible exact Cv.r_neg | with_reducible exact Cv.r_lt | with_reducible exact Cv.r_le | with_reducible exact Cv.r_gt | with_reducible exact Cv.r_ge | with_reducible exact Cv.r_eq | with_reducible exact Cv.r_ne | with_reducible exact Cv.r_eqB | with_reducible exact Cv.r_neB | with_reducible exact Cv.r_isB | with_reducible exact Cv.r_isnB | with_reducible exact Cv.r_subB | with_reducible apply Cv.r_ret))
  exact ⟨some (.loc T), s4, r_seq e1 (r_then_nx (r_seq e2 (r_then_nx (r_seq e3 (r_then_nx (r_seq e5 (r_then_nx r_nx)))))))⟩
end
/-- THE MATHEMATICS: the law's def tells True -/
theorem law_true (xs : List Int) (hl : xs.length ≤ 63) : ∃ st, f_law [.fls (xs.map .int)] [] = .ok (.bl true) st := by
  obtain ⟨n, m, s1, e1, P1⟩ := pen_P (st := []) (cap := kpE [some (.fls (xs.map .int)), none, none, none, none, none, none, none, none, none, none, none, none, none, none, none, none, none]) (xs := xs) hl
  have P1 : PB s1 n m xs 0 := ⟨0, by omega, P1⟩
  obtain ⟨a, b, c, u6, u9, u10, u11, u12, u14, s2, e2, qa, qb, P2⟩ := laps_ok (sc := .fls (xs.map .int)) P1
  obtain ⟨p, s3, e3, hb⟩ := t2_ok (sc := .fls (xs.map .int)) (t2 := some (.int 3)) (a := a) (b := b) (c := c) (t6 := u6) (t7 := none) (t8 := none) (t9 := u9) (t10 := u10) (t11 := u11) (t12 := u12) (t13 := none) (t14 := u14) (t15 := none) (t16 := none) (t17 := none) P2 (by omega)
  obtain ⟨v, s4, e4⟩ := work_ok (st := s3) (sc := .fls (xs.map .int)) (n := n) (t2 := some (.int 3)) (c := c) (t6 := u6) (t7 := none) (t8 := none) (t9 := u9) (t10 := u10) (t11 := u11) (t12 := u12) (t13 := none) (t14 := u14) (t17 := none) (nm := "turn_of") turn_works qa qb hb (fun _ => lam0t) (fun _ => lam1t) (fun _ => lam2t)
  obtain ⟨w, s5, e5⟩ := work_ok (st := s4) (sc := .fls (xs.map .int)) (n := n) (t2 := some (.int 3)) (c := c) (t6 := u6) (t7 := none) (t8 := none) (t9 := u9) (t10 := u10) (t11 := u11) (t12 := u12) (t13 := none) (t14 := u14) (t17 := v) (nm := "is_between") between_works qa qb hb (fun _ => lam0b) (fun _ => lam1b) (fun _ => lam2b)
  refine ⟨s5, ?_⟩
  rw [ev_law]
  refine (if_pos ⟨rfl, by decide⟩).trans ?_
  show endDef (m_law [some (.fls (xs.map .int)), none, none, none, none, none, none, none, none, none, none, none, none, none, none, none, none, none] []) = _
  rw [law_eq]
  apply r_end
  refine r_seq (r_set (r_callF (r_cons (r_var rfl) r_nil) e1) rfl) (r_then_nx ?_)
  refine r_seq e2 (r_then_nx ?_)
  refine r_seq e3 (r_then_nx ?_)
  have f : sFor (.nm 16) (iSeq (eRow (eCons (eCon (.gl "turn_of")) (eCons (eCon (.gl "is_between")) eNil)) mkTup)) body3 (HL (.fls (xs.map .int)) n (some (.int 3)) a b c u6 none none u9 u10 u11 u12 none u14 (some p) none none) s3 = .ok .nx (HW (.fls (xs.map .int)) n (some (.int 3)) a b c u6 none none u9 u10 u11 u12 none u14 p "is_between" w) s5 := by
    refine r_for (src := .seq (.tup [.gl "turn_of", .gl "is_between"])) (s1 := s3) ?_ ?_
    · refine r_iseq (xs := [.gl "turn_of", .gl "is_between"]) ?_ rfl
      (repeat' (first | ((with_reducible apply Cv.r_asm); with_reducible assumption) | with_reducible exact Cv.r_ok | with_reducible exact Cv.r_con | ((with_reducible apply Cv.r_var); rfl) | with_reducible apply Cv.r_two | with_reducible apply Cv.r_callF | with_reducible apply Cv.r_cons | with_reducible exact Cv.r_nil | with_reducible apply Cv.r_row | with_reducible apply Cv.r_one | with_reducible apply Cv.r_and | with_reducible apply Cv.r_or | with_reducible apply Cv.r_ite | with_reducible apply Cv.r_t | with_reducible apply Cv.r_not | with_reducible exact Cv.r_trb | with_reducible apply Cv.r_seq | with_reducible apply Cv.r_then_nx | with_reducible exact Cv.r_then_rt | with_reducible exact Cv.r_then_bk | with_reducible exact Cv.r_then_ct | with_reducible exact Cv.r_then_exn | with_reducible apply Cv.r_if | with_reducible apply Cv.r_set | with_reducible apply Cv.r_par | with_reducible exact Cv.r_nx | with_reducible exact Cv.r_fl | with_reducible apply Cv.r_exp | with_reducible apply Cv.r_ss | with_reducible exact Cv.r_sz | ((with_reducible apply Cv.r_T); focus (first | rfl | assumption | omega | (simp only [*, decide_true, decide_false, Bool.not_true, Bool.not_false, Bool.and_true, Bool.and_false, Bool.true_and, Bool.false_and, Bool.or_true, Bool.or_false, Bool.true_or, Bool.false_or]; done) | (simp [*]; done))) | ((with_reducible apply Cv.r_F); focus (first | rfl | assumption | omega | (simp only [*, decide_true, decide_false, Bool.not_true, Bool.not_false, Bool.and_true, Bool.and_false, Bool.true_and, Bool.false_and, Bool.or_true, Bool.or_false, Bool.true_or, Bool.false_or]; done) | (simp [*]; done))) | ((with_reducible apply Cv.r_tup); rfl) | ((with_reducible apply Cv.r_lst); rfl) | with_reducible exact Cv.r_ix0 | with_reducible exact Cv.r_ix1 | with_reducible exact Cv.r_ix2 | with_reducible exact Cv.r_add | with_reducible exact Cv.r_sub | with_reducible exact Cv.r_neg | with_reducible exact Cv.r_lt | with_reducible exact Cv.r_le | with_reducible exact Cv.r_gt | with_reducible exact Cv.r_ge | with_reducible exact Cv.r_eq | with_reducible exact Cv.r_ne | with_reducible exact Cv.r_eqB | with_reducible exact Cv.r_neB | with_reducible exact Cv.r_isB | with_reducible exact Cv.r_isnB | with_reducible exact Cv.r_subB | with_reducible apply Cv.r_ret))
    · refine r_fgo (k := 999999) rfl rfl e4 ?_
      refine r_fgo (k := 999998) rfl rfl e5 ?_
      exact r_fend (k := 999997) rfl
  refine r_seq f (r_then_nx ?_)
  exact r_seq (r_ret r_con) r_then_rt
end Cut
namespace Cut
open PySem PySem.Spec PyProof.Rows L2 Cv
theorem ints_rv {G : Gc} {ρ : List Addr} {H : Hp} : ∀ ns : List Int, RVs G ρ H (ns.map PV.int) (ns.map V.int)
  | [] => .nil
  | n :: ns => .cons (.int n) (ints_rv ns)
theorem good_S {K : PySem.W.Frag} {mg : Str → Option Value} {T a : Addr} {H : Hp} {ns : List Int} (hl : ns.length ≤ 63) (tb : LamX.TabS H T lamq) (fz : Fz K H a (ns.map V.int)) : spM K mg T lamq f_law [.ref a] H (fun v _ => v = .bl true) fun _ _ _ => False := by
  refine ⟨tb, fun cells => ⟨[.fls (ns.map .int)], .cons (.fls fz (ints_rv ns)) .nil, ?_⟩⟩
  obtain ⟨st, e⟩ := law_true ns hl
  rw [e]
  exact fun ρ' H' _ _ v rv => by cases rv; rfl
theorem walk_S (w : World) (mg : Str → Option Value) (fa' : Addr) (h : Heap) (Y : hk.says w h) (N : h.Ns mainGlobals mg) (hmg : mg "law" = some (.ref fa')) : ∃ (K : PySem.W.Frag) (cc T : Addr) (nm : Str) (sp : Sp), K.In h ∧ h.get? T = some tabO ∧ K.lookup T = none ∧ PySem.W.CodeHd h cc T ∧
      (∀ (H : Hp) (a : Addr) (ns : List Int), ns.length ≤ 63 → (∀ z ∈ ns, Builtin.Int.intBits z ≤ 1048576) → LamX.TabS H T nm → Fz K H a (ns.map V.int) → sp [.ref a] H (fun v _ => v = .bl true) fun _ _ _ => False) ∧
      ∀ base : Heap, K.In base → base.Ns mainGlobals mg → LamX.TabB base mg cc T → FnG Pg w K mg base 10 fa' sp := by
  obtain ⟨K, KX, c⟩ := Y
  have S : Says w h K mg := ⟨KX, N, c⟩
  exact ⟨K, (He.cT K ("law", none)).1, (He.cT K ("law", none)).2, lamq, _, KX, c.empty _ (by simp [tf]), c.out _ (by simp [tf]), PySem.W.codeHd_of_K KX (c.hd _ (by simp [tf])), fun H a ns hl _ tb fz => good_S hl tb fz, fun base _ _ B => fn_law S hmg B⟩
end Cut
open PySem.Calls PySem.W PySem PyProof.Rows
theorem PySem.Challenge.cw_cutmoves_k12_turns_and_straight_ways_holds : PySem.Challenge.rw_cutmoves_k12_turns_and_straight_ways.Holds := by
  w_on; o_law
  refine HandSHeadRun.head_imp (r := OpenLaw.row PySem.Challenge.rw_cutmoves_k12_turns_and_straight_ways) (q := view (OpenLaw.row PySem.Challenge.rw_cutmoves_k12_turns_and_straight_ways).prog [0, 54]) (H := Cut.hk) (ob := Cut.ob) (M := 8000) (loose := Cut.loose) (d := HandSHeadRun.topDef (OpenLaw.row PySem.Challenge.rw_cutmoves_k12_turns_and_straight_ways).prog 54) (kwd := []) Cut.ob_eq
    Cut.run (by kernel_rfl) (by kernel_rfl) (by kernel_rfl) (by rfl) (by first | assumption | decide +kernel) (by decide +kernel) ⟨rfl, rfl, rfl, rfl, rfl, by decide +kernel⟩ ?hw ?hc
  case hw => w_witness2
  case hc =>
    refine Cv.law_walk (l := PySem.Challenge.rw_cutmoves_k12_turns_and_straight_ways) (n := 63) (k := 10) rfl (by decide) (by kernel_rfl) ⟨rfl, by decide, by decide⟩ ?F
    intro w mg fa h Y N hm
    have e : (HandSHeadRun.topDef (OpenLaw.row PySem.Challenge.rw_cutmoves_k12_turns_and_straight_ways).prog 54).name = ("law" : PySem.Str) := by kernel_rfl
    rw [e] at hm
    exact Cut.walk_S w mg fa h Y N hm
