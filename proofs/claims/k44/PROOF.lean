import PyProof.Rows.All
import Wide.All
import OpenK.AllK
import Wide.FinOn
import HandS.ForMost
import HandS.ForExc
import HandS.IsInst
import HandS.Star
import HandS.Style
import HandS.Flow
import HandS.Wide
import HandS.TupAny
import HandS.CallSlots
import HandS.HeadHook4
import HandS.Zip
import HandS.Rev
import HandS.Property
import KE.KStar
import KE.KOpsOwn
import KE.KUnpackStar
import HandS.Head0
import HandS.Head1
import HandS.Head2
import HandS.HeadEnd
import PySem.Challenge.RW_limiterheard_k44_heard_put_together
section S_FL1
set_option Elab.async false
set_option linter.all false
set_option maxRecDepth 100000
set_option maxHeartbeats 4000000
/-! FL1: a functional layer over the hand layer: values as data (D), mutable things by their number in a store (Sto), a statement or an expression told by a Lean function (its mirror). -/
namespace FL
open PySem PySem.Spec PyProof.Rows L2

/-! ### data, the store -/
/-- a value as data; ptr i: the i-th mutable thing of the store; scr: the script -/
inductive D where
  | non | bl (b : Bool) | int (i : Int) | str (s : Str) | tup (xs : List D) | lst (xs : List D) | ptr (i : Nat) | scr (xs : List Int)
instance : Inhabited D := ⟨.non⟩
/-- a mutable thing: a list, a dict with tuple keys, a dict with int and text keys, an instance; dead: it is used no more (or was turned into data) -/
inductive Cell where
  | lst (xs : List D) | dit (kvs : List (List Key × D)) | dik (kvs : List (Key × D)) | ins (C : Str) (fs : List (Str × D)) | dead
abbrev Sto := List Cell
abbrev Rho := List (Option D)
/-- the abstract heap, where the store's things lie, the store, things that no mirror sees (a list that a comprehension is making) -/
structure Cfg where
  H : Hp
  ι : List Addr
  μ : Sto
  hid : List Addr := []
def Cfg.live (c : Cfg) (a : Addr) : Prop := (∃ (i : Nat) (cell : Cell), c.ι[i]? = some a ∧ c.μ[i]? = some cell ∧ cell ≠ .dead) ∨ a ∈ c.hid
def hp0 : Hp := fun _ => none
def LstAt (c : Cfg) (a : Addr) (vs : List V) : Prop := c.H a = some (.lst vs) ∧ ¬ c.live a
def TupAt (K : PySem.W.Frag) (c : Cfg) (a : Addr) (vs : List V) : Prop := (Rd c.H a (.tup vs) ∧ ¬ c.live a) ∨ SqT K hp0 a vs
def ScrAt (K : PySem.W.Frag) (c : Cfg) (a : Addr) (vs : List V) : Prop := (Rd c.H a (.lst vs) ∧ ¬ c.live a) ∨ SqL K hp0 a vs
section
variable (K : PySem.W.Frag) (c : Cfg)
mutual
/-- the value stands for the data -/
inductive Rp : V → D → Prop
  | non : Rp .non .non
  | bl (b : Bool) : Rp (.bl b) (.bl b)
  | int (i : Int) : Rp (.int i) (.int i)
  | str (s : Str) : Rp (.str s) (.str s)
  | tup {a : Addr} {vs : List V} {ds : List D} : TupAt K c a vs → RpAll vs ds → Rp (.ref a) (.tup ds)
  | lst {a : Addr} {vs : List V} {ds : List D} : LstAt c a vs → RpAll vs ds → Rp (.ref a) (.lst ds)
  | ptr {a : Addr} {i : Nat} : c.ι[i]? = some a → Rp (.ref a) (.ptr i)
  | scr {a : Addr} {ns : List Int} : ScrAt K c a (ns.map V.int) → Rp (.ref a) (.scr ns)
inductive RpAll : List V → List D → Prop
  | nil : RpAll [] []
  | cons {v : V} {vs : List V} {d : D} {ds : List D} : Rp v d → RpAll vs ds → RpAll (v :: vs) (d :: ds)
end
/-- pairs of names (keys) and values -/
def RpF {κ : Type} : List (κ × V) → List (κ × D) → Prop := Paired fun (p : κ × V) (q : κ × D) => p.1 = q.1 ∧ Rp K c p.2 q.2
/-- the class object that the module's name x holds -/
abbrev cad (x : Str) : Addr := He.ga K x
def CellOk (a : Addr) : Cell → Prop
  | .lst xs => ∃ vs, c.H a = some (.lst vs) ∧ RpAll K c vs xs
  | .dit kvs => ∃ kws, c.H a = some (.dT kws) ∧ RpF K c kws kvs
  | .dik kvs => ∃ kws, c.H a = some (.dK kws) ∧ RpF K c kws kvs
  | .ins C fs => ∃ dx fv, c.H a = some (.ins (cad K C) dx fv) ∧ RpF K c fv fs
  | .dead => True
structure Good : Prop where
  len : c.ι.length = c.μ.length
  nd : c.ι.Nodup
  ok : ∀ (i : Nat) (a : Addr) (cell : Cell), c.ι[i]? = some a → c.μ[i]? = some cell → CellOk K c a cell
  al : ∀ (i : Nat) (a : Addr), c.ι[i]? = some a → c.H a ≠ none
  hd : ∀ a, a ∈ c.hid → c.H a ≠ none ∧ a ∉ c.ι
end
/-- what may have changed: the store's things, new objects -/
structure Mon (c c' : Cfg) : Prop where
  keep : ∀ a o, c.H a = some o → ¬ c.live a → c'.H a = some o
  pre : ∀ (i : Nat) a, c.ι[i]? = some a → c'.ι[i]? = some a
  lv : ∀ a, c'.live a → c.live a ∨ c.H a = none
/-- .. the hidden things stand as they stood -/
structure Step (c c' : Cfg) : Prop extends Mon c c' where
  hk : ∀ a, a ∈ c.hid → c'.H a = c.H a
  he : c'.hid = c.hid
instance {c c' : Cfg} : Coe (Step c c') (Mon c c') := ⟨Step.toMon⟩
theorem Mon.refl (c : Cfg) : Mon c c := ⟨fun _ _ h _ => h, fun _ _ h => h, fun _ h => .inl h⟩
theorem Step.refl (c : Cfg) : Step c c := ⟨Mon.refl c, fun _ _ => rfl, rfl⟩
theorem Mon.cold {c c' : Cfg} (s : Mon c c') {a : Addr} {o : HO} (h : c.H a = some o) (n : ¬ c.live a) : ¬ c'.live a := fun l => by
  rcases s.lv a l with l | e
  · exact n l
  · rw [h] at e; cases e
theorem Mon.trans {c c1 c2 : Cfg} (s : Mon c c1) (t : Mon c1 c2) : Mon c c2 where
  keep := fun a o h n => t.keep a o (s.keep a o h n) (s.cold h n)
  pre := fun i a h => t.pre i a (s.pre i a h)
  lv := fun a l => by
    by_cases hl : c.live a
    · exact .inl hl
    · rcases t.lv a l with l | e
      · exact s.lv a l
      · cases h : c.H a with
        | none => exact .inr rfl
        | some o =>
          rw [s.keep a o h hl] at e; cases e
theorem Step.trans {c c1 c2 : Cfg} (s : Step c c1) (t : Step c1 c2) : Step c c2 := ⟨s.toMon.trans t.toMon, fun a h => by rw [t.hk a (by rw [s.he]; exact h), s.hk a h], by rw [t.he, s.he]⟩
section
variable {K : PySem.W.Frag} {c c' : Cfg}
theorem Mon.rd (s : Mon c c') {a : Addr} {u : HO} (h : Rd c.H a u) (n : ¬ c.live a) : Rd c'.H a u ∧ ¬ c'.live a := by
  rcases h with h | ⟨o, h⟩
  · exact ⟨.inl (s.keep _ _ h n), s.cold h n⟩
  · exact ⟨.inr ⟨o, s.keep _ _ h n⟩, s.cold h n⟩
theorem LstAt.mono {a : Addr} {vs : List V} (h : LstAt c a vs) (s : Mon c c') : LstAt c' a vs := ⟨s.keep _ _ h.1 h.2, s.cold h.1 h.2⟩
theorem TupAt.mono {a : Addr} {vs : List V} (h : TupAt K c a vs) (s : Mon c c') : TupAt K c' a vs := by
  rcases h with h | h
  · exact .inl (s.rd h.1 h.2)
  · exact .inr h
theorem ScrAt.mono {a : Addr} {vs : List V} (h : ScrAt K c a vs) (s : Mon c c') : ScrAt K c' a vs := by
  rcases h with h | h
  · exact .inl (s.rd h.1 h.2)
  · exact .inr h
theorem sqt0 {H : Hp} {a : Addr} {vs : List V} (h : SqT K hp0 a vs) : SqT K H a vs := by
  rcases h with (h | ⟨o, h⟩) | h
  · cases h
  · cases h
  · exact .inr h
theorem sql0 {H : Hp} {a : Addr} {vs : List V} (h : SqL K hp0 a vs) : SqL K H a vs := by
  rcases h with (h | ⟨o, h⟩) | h
  · cases h
  · cases h
  · exact .inr h
theorem TupAt.sq {a : Addr} {vs : List V} (h : TupAt K c a vs) : SqT K c.H a vs := by
  rcases h with h | h
  · exact .inl h.1
  · exact sqt0 h
theorem ScrAt.sq {a : Addr} {vs : List V} (h : ScrAt K c a vs) : SqL K c.H a vs := by
  rcases h with h | h
  · exact .inl h.1
  · exact sql0 h
mutual
theorem Rp.mono (s : Mon c c') : ∀ {v : V} {d : D}, Rp K c v d → Rp K c' v d
  | _, _, .non => .non
  | _, _, .bl b => .bl b
  | _, _, .int i => .int i
  | _, _, .str x => .str x
  | _, _, .tup h r => .tup (h.mono s) (RpAll.mono s r)
  | _, _, .lst h r => .lst (h.mono s) (RpAll.mono s r)
  | _, _, .ptr h => .ptr (s.pre _ _ h)
  | _, _, .scr h => .scr (h.mono s)
theorem RpAll.mono (s : Mon c c') : ∀ {vs : List V} {ds : List D}, RpAll K c vs ds → RpAll K c' vs ds
  | _, _, .nil => .nil
  | _, _, .cons h r => .cons (Rp.mono s h) (RpAll.mono s r)
end
theorem RpF.mono {κ : Type} (s : Mon c c') {fv : List (κ × V)} {fs : List (κ × D)} (h : RpF K c fv fs) : RpF K c' fv fs := Paired.mapP h fun _ _ z => ⟨z.1, z.2.mono s⟩
theorem RpAll.length : ∀ {vs : List V} {ds : List D}, RpAll K c vs ds → vs.length = ds.length
  | _, _, .nil => rfl
  | _, _, .cons _ r => by rw [List.length_cons, List.length_cons, RpAll.length r]
theorem RpAll.get : ∀ {vs : List V} {ds : List D} {i : Nat} {d : D}, RpAll K c vs ds → ds[i]? = some d → ∃ v, vs[i]? = some v ∧ Rp K c v d
  | _, _, _, _, .nil, e => by simp at e
  | _, _, 0, _, .cons h _, e => by
    simp at e; subst e
    exact ⟨_, rfl, h⟩
  | _, _, i + 1, d, .cons _ r, e => by
    obtain ⟨v, h1, h2⟩ := RpAll.get (i := i) (d := d) r (by simpa using e)
    exact ⟨v, by simpa using h1, h2⟩
theorem RpAll.getV : ∀ {vs : List V} {ds : List D} {i : Nat} {v : V}, RpAll K c vs ds → vs[i]? = some v → ∃ d, ds[i]? = some d ∧ Rp K c v d
  | _, _, _, _, .nil, e => by simp at e
  | _, _, 0, _, .cons h _, e => by
    simp at e; subst e
    exact ⟨_, rfl, h⟩
  | _, _, i + 1, v, .cons _ r, e => by
    obtain ⟨d, h1, h2⟩ := RpAll.getV (i := i) (v := v) r (by simpa using e)
    exact ⟨d, by simpa using h1, h2⟩
theorem RpAll.append : ∀ {vs ws : List V} {ds es : List D}, RpAll K c vs ds → RpAll K c ws es → RpAll K c (vs ++ ws) (ds ++ es)
  | _, _, _, _, .nil, r => r
  | _, _, _, _, .cons h t, r => .cons h (RpAll.append t r)
theorem RpAll.take : ∀ {vs : List V} {ds : List D} (n : Nat), RpAll K c vs ds → RpAll K c (vs.take n) (ds.take n)
  | _, _, 0, _ => .nil
  | _, _, _ + 1, .nil => .nil
  | _, _, n + 1, .cons h r => .cons h (RpAll.take n r)
theorem RpAll.drop : ∀ {vs : List V} {ds : List D} (n : Nat), RpAll K c vs ds → RpAll K c (vs.drop n) (ds.drop n)
  | _, _, 0, r => r
  | _, _, _ + 1, .nil => .nil
  | _, _, n + 1, .cons _ r => RpAll.drop n r
theorem RpAll.set {v : V} {d : D} (h : Rp K c v d) : ∀ {vs : List V} {ds : List D} (n : Nat), RpAll K c vs ds → RpAll K c (vs.set n v) (ds.set n d)
  | _, _, _, .nil => .nil
  | _, _, 0, .cons _ r => .cons h r
  | _, _, n + 1, .cons g r => .cons g (RpAll.set h n r)
theorem RpAll.ints : ∀ (ns : List Int), RpAll K c (ns.map V.int) (ns.map D.int)
  | [] => .nil
  | _ :: ns => .cons (.int _) (RpAll.ints ns)
theorem RpAll.reverse : ∀ {vs : List V} {ds : List D}, RpAll K c vs ds → RpAll K c vs.reverse ds.reverse
  | _, _, .nil => .nil
  | _, _, .cons h r => by
    rw [List.reverse_cons, List.reverse_cons]
    exact RpAll.append (RpAll.reverse r) (.cons h .nil)
end

/-! ### results -/
structure Ex where
  cls : Str
  flds : List (Str × D) := []
inductive Res (α : Type) where
  | ok (a : α) (μ : Sto) | exc (x : Ex) (μ : Sto) | stuck
def Res.bind {α β : Type} (r : Res α) (k : α → Sto → Res β) : Res β := match r with
  | .ok a μ => k a μ
  | .exc x μ => .exc x μ
  | .stuck => .stuck
@[simp] theorem Res.bind_ok {α β : Type} (a : α) (μ : Sto) (k : α → Sto → Res β) : (Res.ok a μ).bind k = k a μ := rfl
@[simp] theorem Res.bind_exc {α β : Type} (x : Ex) (μ : Sto) (k : α → Sto → Res β) : (Res.exc x μ : Res α).bind k = .exc x μ := rfl
@[simp] theorem Res.bind_stuck {α β : Type} (k : α → Sto → Res β) : (Res.stuck : Res α).bind k = .stuck := rfl
section
variable (K : PySem.W.Frag)
def ExAt (c : Cfg) (x : Ex) (dd : Option Addr) : Prop := (x.flds = [] ∧ dd = none) ∨ ∃ d fv, dd = some d ∧ c.H d = some (.xd fv) ∧ ¬ c.live d ∧ RpF K c fv x.flds
/-- the slots hold the data -/
def Slots (c : Cfg) (σ : L2.St) (ρ : Rho) : Prop := σ.length = ρ.length ∧ ∀ (i : Nat) d, ρ[i]? = some (some d) → ∃ v, σ[i]? = some (some v) ∧ Rp K c v d
/-- what is wanted behind a result -/
def Post {α β : Type} (W : WX) (σ : L2.St) (c : Cfg) (R : Cfg → β → α → Prop) (Q : β → Hp → Prop) : Res α → Prop
  | .ok d μ => ∀ v c', Step c c' → Good K c' → c'.μ = μ → R c' v d → Q v c'.H
  | .exc x μ => ∀ c' dd, Step c c' → Good K c' → c'.μ = μ → ExAt K c' x dd → W (.ref (cad K x.cls)) dd σ c'.H
  | .stuck => False
/-- the reading that a mirror tells -/
def gCan {α β : Type} (W : WX) (R : Cfg → β → α → Prop) (m : Rho → Sto → Res α) : L2.St → Hp → (β → Hp → Prop) → Prop := fun σ H Q =>
  ∃ c ρ, c.H = H ∧ Good K c ∧ Slots K c σ ρ ∧ Post K W σ c R Q (m ρ c.μ)
def RB : Cfg → Bool → Bool → Prop := fun _ b b' => b = b'
def RU : Cfg → Unit → Unit → Prop := fun _ _ _ => True
end
/-- expressions, tests, arguments -/
def EM (X : Cx) (W : WX) (e : Expr) (m : Rho → Sto → Res D) : Prop := PE X e (gCan X.K W (Rp X.K) m)
def TM (X : Cx) (W : WX) (e : Expr) (m : Rho → Sto → Res Bool) : Prop := PT X e (gCan X.K W RB m)
def AM (X : Cx) (W : WX) (es : List Expr) (m : Rho → Sto → Res (List D)) : Prop := PA X es (gCan X.K W (RpAll X.K) m)

section
variable {K : PySem.W.Frag} {W : WX} {σ : L2.St} {c c1 : Cfg} {ρ : Rho} {α β γ δ : Type} {R : Cfg → β → α → Prop} {R' : Cfg → δ → γ → Prop}
theorem ExAt.mono {x : Ex} {dd : Option Addr} (h : ExAt K c x dd) (s : Mon c c1) : ExAt K c1 x dd := by
  rcases h with h | ⟨d, fv, e, h, n, r⟩
  · exact .inl h
  · exact .inr ⟨d, fv, e, s.keep _ _ h n, s.cold h n, r.mono s⟩
theorem Slots.mono (h : Slots K c σ ρ) (s : Mon c c1) : Slots K c1 σ ρ := ⟨h.1, fun i d e => by
  obtain ⟨v, h1, h2⟩ := h.2 i d e
  exact ⟨v, h1, h2.mono s⟩⟩
theorem Slots.set (h : Slots K c σ ρ) {v : V} {d : D} (r : Rp K c v d) (i : Nat) : Slots K c (σ.set i (some v)) (ρ.set i (some d)) := by
  refine ⟨by rw [List.length_set, List.length_set, h.1], fun j e he => ?_⟩
  rw [List.getElem?_set] at he
  rw [List.getElem?_set]
  by_cases hj : i = j
  · rw [if_pos hj] at he ⊢
    split at he
    · rename_i hl
      rw [if_pos (by rw [h.1]; exact hl)]
      cases he
      exact ⟨v, rfl, r⟩
    · cases he
  · rw [if_neg hj] at he ⊢
    exact h.2 j e he
theorem Slots.forget (h : Slots K c σ ρ) (i : Nat) (o : Option V) : Slots K c (σ.set i o) (ρ.set i none) := by
  refine ⟨by rw [List.length_set, List.length_set, h.1], fun j e he => ?_⟩
  rw [List.getElem?_set] at he
  rw [List.getElem?_set]
  by_cases hj : i = j
  · rw [if_pos hj] at he
    split at he
    · cases he
    · cases he
  · rw [if_neg hj] at he ⊢
    exact h.2 j e he
theorem Post.step {Q : β → Hp → Prop} {r : Res α} (h : Post K W σ c R Q r) (s : Step c c1) : Post K W σ c1 R Q r := by
  cases r with
  | ok d μ => exact fun v c' s' g e q => h v c' (s.trans s') g e q
  | exc x μ => exact fun c' dd s' g e q => h c' dd (s.trans s') g e q
  | stuck => exact h
theorem Post.imp {Q Q' : β → Hp → Prop} {r : Res α} (h : Post K W σ c R Q r) (hq : ∀ v c' d, Step c c' → Good K c' → R c' v d → Q v c'.H → Q' v c'.H) : Post K W σ c R Q' r := by
  cases r with
  | ok d μ => exact fun v c' s' g e q => hq v c' d s' g q (h v c' s' g e q)
  | exc x μ => exact h
  | stuck => exact h
/-- in a row: behind the first part -/
theorem Post.bind {Q : δ → Hp → Prop} {r : Res α} {k : α → Sto → Res γ} (h : Post K W σ c R' Q (r.bind k)) :
    Post K W σ c R (fun v H1 => ∃ c1 a, c1.H = H1 ∧ Step c c1 ∧ Good K c1 ∧ R c1 v a ∧ Post K W σ c1 R' Q (k a c1.μ)) r := by
  cases r with
  | ok d μ =>
    intro v c' s g e q
    refine ⟨c', d, rfl, s, g, q, ?_⟩
    rw [e]
    exact Post.step h s
  | exc x μ => exact h
  | stuck => exact h
theorem gCan.intro {m : Rho → Sto → Res α} {Q : β → Hp → Prop} (g : Good K c) (s : Slots K c σ ρ) (h : Post K W σ c R Q (m ρ c.μ)) : gCan K W R m σ c.H Q := ⟨c, ρ, rfl, g, s, h⟩
end
/-- another reading that says less -/
theorem PE.imp {X : Cx} {e : Expr} {t t' : TE} (h : PE X e t) (hi : ∀ σ H Q, t' σ H Q → t σ H Q) : PE X e t' := ⟨fun pins s σ H Q I q => h.run pins s σ H Q I (hi σ H Q q)⟩
theorem PT.imp {X : Cx} {e : Expr} {t t' : TT} (h : PT X e t) (hi : ∀ σ H Q, t' σ H Q → t σ H Q) : PT X e t' := ⟨fun pins s σ H Q I q => h.run pins s σ H Q I (hi σ H Q q)⟩
theorem PA.imp {X : Cx} {e : List Expr} {t t' : TA} (h : PA X e t) (hi : ∀ σ H Q, t' σ H Q → t σ H Q) : PA X e t' := ⟨fun pos pins s σ H Q I q => h.run pos pins s σ H Q I (hi σ H Q q)⟩
theorem PS.imp {X : Cx} {e : Stmt} {t t' : TS} (h : PS X e t) (hi : ∀ D σ H, t' D σ H → t D σ H) : PS X e t' := ⟨fun pins s σ H D I q => h.run pins s σ H D I (hi D σ H q)⟩
theorem PSs.imp {X : Cx} {e : List Stmt} {t t' : TS} (h : PSs X e t) (hi : ∀ D σ H, t' D σ H → t D σ H) : PSs X e t' := ⟨fun pins s σ H D I q => h.run pins s σ H D I (hi D σ H q)⟩

/-! ### names, constants -/
def xVar (i : Nat) : Rho → Sto → Res D := fun ρ μ => match ρ[i]? with
  | some (some d) => .ok d μ
  | _ => .stuck
def xC (d : D) : Rho → Sto → Res D := fun _ μ => .ok d μ
section
variable {X : Cx} {W : WX}
theorem em_var {i : Nat} {x : Str} {pos : Pos} (hN : X.N[i]? = some x := by rfl) (hv : Vis X.env.scope x := by first | exact Or.inl rfl | exact Or.inr (Or.inl rfl) | exact Or.inr (Or.inr rfl)) (hd : (x == ("__debug__" : Str)) = false := by decide)
    (hcd : (x == ("__classdict__" : Str)) = false := by decide) : EM X W (.Name x pos) (xVar i) := by
  refine PE.imp (pe_var hN hv hd hcd) ?_
  rintro σ H Q ⟨c, ρ, rfl, g, s, h⟩
  unfold xVar at h
  cases e : ρ[i]? with
  | none => rw [e] at h; exact h.elim
  | some o =>
    cases o with
    | none => rw [e] at h; exact h.elim
    | some d =>
      rw [e] at h
      obtain ⟨v, h1, h2⟩ := s.2 i d e
      exact ⟨v, h1, h v c (Step.refl c) g rfl h2⟩
theorem em_c {e : Expr} {v : V} {d : D} (h : PE X e (tC v)) (hr : ∀ c, Rp X.K c v d) : EM X W e (xC d) := PE.imp h (by
  rintro σ H Q ⟨c, ρ, rfl, g, s, q⟩
  exact q v c (Step.refl c) g rfl (hr c))
theorem em_int {i : Int} {j pos} : EM X W (.Constant (.int i) j pos) (xC (.int i)) := em_c pe_int fun _ => .int i
theorem em_bl {b : Bool} {j pos} : EM X W (.Constant (.bool b) j pos) (xC (.bl b)) := em_c pe_bl fun _ => .bl b
theorem em_non {j pos} : EM X W (.Constant .none j pos) (xC .non) := em_c pe_non fun _ => .non
theorem em_str {x : Str} {j pos} : EM X W (.Constant (.str x) j pos) (xC (.str x)) := em_c pe_str fun _ => .str x
/-- a module's constant -/
theorem em_glob {x : Str} {v : V} {u : Value} {d : D} {pos : Pos} (hg : Gl X x) (hm : X.mg x = some u) (r : RelV v u) (hr : ∀ c, Rp X.K c v d) (hd : (x == ("__debug__" : Str)) = false := by decide) : EM X W (.Name x pos) (xC d) := em_c (pe_glob hg hm r hd) hr
end
end FL
end S_FL1
section S_FL2
set_option Elab.async false
set_option linter.all false
set_option maxRecDepth 100000
set_option maxHeartbeats 4000000
/-! FL2: operators, comparisons, truth, displays, subscripts, slices, built-in calls. -/
namespace FL
open PySem PySem.Spec PyProof.Rows L2

abbrev lim : Nat := 16777216
theorem lim_le {n : Nat} (h : n ≤ lim) : n ≤ sizeLine := by rw [sizeLine_eq]; exact h
theorem lim_lt {n : Nat} (h : n < lim) : n < sizeLine := by rw [sizeLine_eq]; exact h

section
variable {K : PySem.W.Frag} {c : Cfg}
theorem Good.notLive (g : Good K c) {a : Addr} (h : c.H a = none) : ¬ c.live a := by
  rintro (⟨i, cell, h1, h2, h3⟩ | h1)
  case inr => exact (g.hd a h1).1 h
  have q := g.ok i a cell h1 h2
  cases cell with
  | lst xs => obtain ⟨_, e, _⟩ := q; rw [h] at e; cases e
  | dit xs => obtain ⟨_, e, _⟩ := q; rw [h] at e; cases e
  | dik xs => obtain ⟨_, e, _⟩ := q; rw [h] at e; cases e
  | ins C fs => obtain ⟨_, _, e, _⟩ := q; rw [h] at e; cases e
  | dead => exact h3 rfl
theorem CellOk.mono {c' : Cfg} (s : Mon c c') {a : Addr} {cell : Cell} (h : CellOk K c a cell) (e : ∀ o, c.H a = some o → c'.H a = some o) : CellOk K c' a cell := by
  cases cell with
  | lst xs => obtain ⟨vs, h1, h2⟩ := h; exact ⟨vs, e _ h1, h2.mono s⟩
  | dit xs => obtain ⟨vs, h1, h2⟩ := h; exact ⟨vs, e _ h1, h2.mono s⟩
  | dik xs => obtain ⟨vs, h1, h2⟩ := h; exact ⟨vs, e _ h1, h2.mono s⟩
  | ins C fs => obtain ⟨dx, vs, h1, h2⟩ := h; exact ⟨dx, vs, e _ h1, h2.mono s⟩
  | dead => trivial
/-- the configuration with a new object -/
def Cfg.new (c : Cfg) (p : Addr) (o : HO) : Cfg := ⟨upd c.H p o, c.ι, c.μ, c.hid⟩
theorem Mon.new {p : Addr} (o : HO) (h : c.H p = none) : Mon c (c.new p o) := ⟨fun a u e _ => by
  show upd c.H p o a = some u
  rw [upd_ne (ne_of_none e h)]; exact e, fun _ _ e => e, fun _ l => .inl l⟩
theorem Good.hid_ne (g : Good K c) {p : Addr} (h : c.H p = none) {a : Addr} (ha : a ∈ c.hid) : a ≠ p := fun e => (g.hd a ha).1 (by rw [e]; exact h)
theorem Step.new (g : Good K c) {p : Addr} (o : HO) (h : c.H p = none) : Step c (c.new p o) := ⟨Mon.new o h, fun a ha => upd_ne (g.hid_ne h ha), rfl⟩
theorem Good.new (g : Good K c) {p : Addr} {o : HO} (h : c.H p = none) : Good K (c.new p o) := ⟨g.len, g.nd, fun i a cell h1 h2 => (g.ok i a cell h1 h2).mono (Mon.new o h) fun u e => by
  show upd c.H p o a = some u
  rw [upd_ne (ne_of_none e h)]; exact e, fun i a h1 => by
  show upd c.H p o a ≠ none
  rw [upd_ne (fun z => g.al i a h1 (by rw [z]; exact h))]; exact g.al i a h1, fun a ha => by
  refine ⟨?_, (g.hd a ha).2⟩
  show upd c.H p o a ≠ none
  rw [upd_ne (g.hid_ne h ha)]; exact (g.hd a ha).1⟩
theorem Good.cold_new (g : Good K c) {p : Addr} {o : HO} (h : c.H p = none) : ¬ (c.new p o).live p := fun l => g.notLive h l
theorem Rp.newTup (g : Good K c) {p : Addr} {vs : List V} {ds : List D} (h : c.H p = none) (r : RpAll K c vs ds) : Rp K (c.new p (.tup vs)) (.ref p) (.tup ds) :=
  .tup (.inl ⟨.inl upd_same, g.cold_new h⟩) (r.mono (Mon.new _ h))
theorem Rp.newLst (g : Good K c) {p : Addr} {vs : List V} {ds : List D} (h : c.H p = none) (r : RpAll K c vs ds) : Rp K (c.new p (.lst vs)) (.ref p) (.lst ds) :=
  .lst ⟨upd_same, g.cold_new h⟩ (r.mono (Mon.new _ h))

/-- a new tuple, a new list: what is wanted of it -/
theorem Post.newTup {W : WX} {σ : L2.St} {Q : VK} {vs : List V} {ds : List D} (g : Good K c) (h : Post K W σ c (Rp K) Q (.ok (.tup ds) c.μ)) (r : RpAll K c vs ds) : ∀ p, c.H p = none → Q (.ref p) (upd c.H p (.tup vs)) := fun p hp =>
  h (.ref p) (c.new p (.tup vs)) (Step.new g _ hp) (g.new hp) rfl (Rp.newTup g hp r)
theorem Post.newLst {W : WX} {σ : L2.St} {Q : VK} {vs : List V} {ds : List D} (g : Good K c) (h : Post K W σ c (Rp K) Q (.ok (.lst ds) c.μ)) (r : RpAll K c vs ds) : ∀ p, c.H p = none → Q (.ref p) (upd c.H p (.lst vs)) := fun p hp =>
  h (.ref p) (c.new p (.lst vs)) (Step.new g _ hp) (g.new hp) rfl (Rp.newLst g hp r)
theorem Post.same {α β : Type} {R : Cfg → β → α → Prop} {W : WX} {σ : L2.St} {Q : β → Hp → Prop} {d : α} {v : β} (g : Good K c) (h : Post K W σ c R Q (.ok d c.μ)) (r : R c v d) : Q v c.H := h v c (Step.refl c) g rfl r

/-! ### reading lists and tuples -/
def rdM (μ : Sto) : D → Option (List D)
  | .lst xs => some xs
  | .ptr i => (match μ[i]? with
    | some (.lst xs) => some xs
    | _ => none)
  | _ => none
def rdL (μ : Sto) : D → Option (List D)
  | .scr ns => some (ns.map .int)
  | d => rdM μ d
def rdT : D → Option (List D)
  | .tup xs => some xs
  | _ => none
theorem rdM_ok (g : Good K c) {v : V} {d : D} {xs : List D} (r : Rp K c v d) (h : rdM c.μ d = some xs) : ∃ a vs, v = .ref a ∧ c.H a = some (.lst vs) ∧ RpAll K c vs xs := by
  cases r with
  | lst h1 h2 => cases h; exact ⟨_, _, rfl, h1.1, h2⟩
  | ptr hi =>
    rename_i a i
    have h : (match c.μ[i]? with
      | some (.lst xs) => some xs
      | _ => none) = some xs := h
    cases e : c.μ[i]? with
    | none => rw [e] at h; cases h
    | some cell =>
      rw [e] at h
      cases cell with
      | lst ys =>
        cases h
        obtain ⟨vs, h1, h2⟩ := g.ok i a _ hi e
        exact ⟨a, vs, rfl, h1, h2⟩
      | dit _ => cases h
      | dik _ => cases h
      | ins _ _ => cases h
      | dead => cases h
  | non => cases h
  | bl b => cases h
  | int i => cases h
  | str s => cases h
  | tup _ _ => cases h
  | scr _ => cases h
theorem rdL_ok (g : Good K c) {v : V} {d : D} {xs : List D} (r : Rp K c v d) (h : rdL c.μ d = some xs) : ∃ a vs, v = .ref a ∧ SqL K c.H a vs ∧ RpAll K c vs xs := by
  cases d with
  | scr ns =>
    cases r with
    | scr hs => cases h; exact ⟨_, _, rfl, hs.sq, RpAll.ints ns⟩
  | lst ys => obtain ⟨a, vs, e, h1, h2⟩ := rdM_ok g r h; exact ⟨a, vs, e, SqL.of h1, h2⟩
  | ptr i => obtain ⟨a, vs, e, h1, h2⟩ := rdM_ok g r h; exact ⟨a, vs, e, SqL.of h1, h2⟩
  | non => cases h
  | bl b => cases h
  | int i => cases h
  | str s => cases h
  | tup ys => cases h
theorem rdT_ok {v : V} {d : D} {xs : List D} (r : Rp K c v d) (h : rdT d = some xs) : ∃ a vs, v = .ref a ∧ SqT K c.H a vs ∧ RpAll K c vs xs := by
  cases r with
  | tup h1 h2 => cases h; exact ⟨_, _, rfl, h1.sq, h2⟩
  | _ => cases h
theorem RpAll.nil_iff {vs : List V} {ds : List D} (r : RpAll K c vs ds) : vs = [] ↔ ds = [] := by
  cases r with
  | nil => exact ⟨fun _ => rfl, fun _ => rfl⟩
  | cons h r => exact ⟨fun e => (by cases e), fun e => (by cases e)⟩
end

/-! ### operators -/
def OpM (K : PySem.W.Frag) (r : R2) (op : D → D → Sto → Res D) : Prop :=
  ∀ (W : WX) (σ : L2.St) (c : Cfg) (v u : V) (d e : D) (Q : VK), Good K c → Rp K c v d → Rp K c u e → Post K W σ c (Rp K) Q (op d e c.μ) → r v u c.H Q
def xOp (op : D → D → Sto → Res D) (ma mb : Rho → Sto → Res D) : Rho → Sto → Res D := fun ρ μ => (ma ρ μ).bind fun x μ1 => (mb ρ μ1).bind fun y μ2 => op x y μ2
theorem tOp_can {K : PySem.W.Frag} {W : WX} {r : R2} {op : D → D → Sto → Res D} {ma mb : Rho → Sto → Res D} (hm : OpM K r op) {σ : L2.St} {H : Hp} {Q : VK} (h : gCan K W (Rp K) (xOp op ma mb) σ H Q) : tOp r (gCan K W (Rp K) ma) (gCan K W (Rp K) mb) σ H Q := by
  obtain ⟨c, ρ, rfl, g, s, h⟩ := h
  refine gCan.intro g s ((Post.bind (R := Rp K) h).imp ?_)
  rintro v c' d st g' r' ⟨c1, a, e, s1, g1, r1, p1⟩
  rw [← e]
  refine gCan.intro g1 (s.mono s1) ((Post.bind (R := Rp K) p1).imp ?_)
  rintro v2 c2' d2 st2 g2' r2' ⟨c2, b, e2, s2, g2, r2, p2⟩
  rw [← e2]
  exact hm W σ c2 v v2 a b Q g2 (r1.mono s2) r2 p2
theorem OpM.or {K : PySem.W.Frag} {r r' : R2} {op op' : D → D → Sto → Res D} {f : D → D → Sto → Res D} (h : OpM K r op) (h' : OpM K r' op') (hf : ∀ x y μ, f x y μ = op x y μ ∨ f x y μ = op' x y μ) : OpM K (fun x y H Q => r x y H Q ∨ r' x y H Q) f := by
  intro W σ c v u d e Q g rv ru p
  rcases hf d e c.μ with q | q
  · rw [q] at p; exact .inl (h W σ c v u d e Q g rv ru p)
  · rw [q] at p; exact .inr (h' W σ c v u d e Q g rv ru p)
section
variable {X : Cx} {W : WX} {a b : Expr} {pos : Pos} {ma mb : Rho → Sto → Res D}
theorem em_op {o : Operator} {r : R2} {op : D → D → Sto → Res D} (ho : OpR X (binaryOp o) r) (hm : OpM X.K r op) (ha : EM X W a ma) (hb : EM X W b mb) : EM X W (.BinOp a o b pos) (xOp op ma mb) :=
  PE.imp (pe_op ho ha hb) fun _ _ _ h => tOp_can hm h
theorem em_cmp {o : CmpOp} {r : R2} {op : D → D → Sto → Res D} (ho : OpR X (compareOp o) r) (hm : OpM X.K r op) (ha : EM X W a ma) (hb : EM X W b mb) (hk : behindInMarks o b = false) : EM X W (.Compare a [o] [b] pos) (xOp op ma mb) :=
  PE.imp (pe_cmpR ho ha hb hk) fun _ _ _ h => tOp_can hm h
/-- a bool as a test -/
def asB : D → Sto → Res Bool := fun d μ => match d with
  | .bl b => .ok b μ
  | _ => .stuck
def tB1 (m : Rho → Sto → Res D) : Rho → Sto → Res Bool := fun ρ μ => (m ρ μ).bind asB
theorem tTest_can {K : PySem.W.Frag} {t : TE} {m : Rho → Sto → Res D} (ht : ∀ σ H Q, gCan K W (Rp K) m σ H Q → t σ H Q) {σ : L2.St} {H : Hp} {Q : Bool → Hp → Prop} (h : gCan K W RB (tB1 m) σ H Q) : t σ H fun x H' => ∃ k, x = .bl k ∧ Q k H' := by
  obtain ⟨c, ρ, rfl, g, s, h⟩ := h
  refine ht _ _ _ (gCan.intro g s ((Post.bind (R := Rp K) h).imp ?_))
  rintro v c' d st g' r' ⟨c1, a, e, s1, g1, r1, p1⟩
  rw [← e]
  cases r1 with
  | bl b => exact ⟨b, rfl, Post.same g1 p1 rfl⟩
  | _ => exact p1.elim
theorem tm_cmp {o : CmpOp} {r : R2} {op : D → D → Sto → Res D} (ho : OpR X (compareOp o) r) (hm : OpM X.K r op) (ha : EM X W a ma) (hb : EM X W b mb) (hk : behindInMarks o b = false) : TM X W (.Compare a [o] [b] pos) (tB1 (xOp op ma mb)) :=
  PT.imp (pt_cmpR ho ha hb hk) fun _ _ _ h => tTest_can (fun _ _ _ h => tOp_can hm h) h
theorem tm_val {e : Expr} {m : Rho → Sto → Res D} (h : EM X W e m) (he : ∀ whole, isTrue e X.env whole = (do let v ← whole; standAt e.pos; holding [v] (truthy v)) := by intro _; rfl) : TM X W e (tB1 m) :=
  PT.imp (pt_val h he) fun _ _ _ h => tTest_can (fun _ _ _ h => h) h
/-- any value as a test -/
def truD (μ : Sto) : D → Option Bool
  | .non => some false
  | .bl b => some b
  | .int i => some (i != 0)
  | .str s => if s.length ≤ lim then some ((s.length : Int) != 0) else none
  | .tup xs => some (!xs.isEmpty)
  | d => (rdL μ d).map fun xs => !xs.isEmpty
def asT : D → Sto → Res Bool := fun d μ => match truD μ d with
  | some b => .ok b μ
  | none => .stuck
theorem isEmptyRp {K : PySem.W.Frag} {c : Cfg} {vs : List V} {ds : List D} (r : RpAll K c vs ds) : vs.isEmpty = ds.isEmpty := by cases r <;> rfl
theorem truD_ok {K : PySem.W.Frag} {c : Cfg} (g : Good K c) {v : V} {d : D} {b : Bool} (r : Rp K c v d) (h : truD c.μ d = some b) : TruV K v c.H b := by
  have seq : ∀ {xs : List D}, rdL c.μ d = some xs → b = (!xs.isEmpty) → TruV K v c.H b := fun {xs} h1 h2 => by
    obtain ⟨a, vs, rfl, hs, hr⟩ := rdL_ok g r h1
    exact .inl ⟨vs, hs, by rw [h2, isEmptyRp hr]⟩
  cases r with
  | non => cases h; rfl
  | bl b => cases h; rfl
  | int i => cases h; rfl
  | str s =>
    have h' : (if s.length ≤ lim then some ((s.length : Int) != 0) else none) = some b := h
    by_cases hl : s.length ≤ lim
    · rw [if_pos hl] at h'; cases h'; exact ⟨lim_le hl, rfl⟩
    · rw [if_neg hl] at h'; cases h'
  | tup h1 h2 => cases h; exact .inr (.inl ⟨_, h1.sq, by rw [isEmptyRp h2]⟩)
  | lst h1 h2 => obtain ⟨xs, e, q⟩ := Option.map_eq_some_iff.mp (show Option.map (fun xs => !xs.isEmpty) (rdL c.μ (.lst _)) = some b from h); exact seq e q.symm
  | ptr hi => obtain ⟨xs, e, q⟩ := Option.map_eq_some_iff.mp (show Option.map (fun xs => !xs.isEmpty) (rdL c.μ (.ptr _)) = some b from h); exact seq e q.symm
  | scr hi => obtain ⟨xs, e, q⟩ := Option.map_eq_some_iff.mp (show Option.map (fun xs => !xs.isEmpty) (rdL c.μ (.scr _)) = some b from h); exact seq e q.symm
def tTru (m : Rho → Sto → Res D) : Rho → Sto → Res Bool := fun ρ μ => (m ρ μ).bind asT
theorem tm_tru {e : Expr} {m : Rho → Sto → Res D} (h : EM X W e m) (he : ∀ whole, isTrue e X.env whole = (do let v ← whole; standAt e.pos; holding [v] (truthy v)) := by intro _; rfl) : TM X W e (tTru m) := PT.imp (pt_truth h he) (by
  rintro σ H Q ⟨c, ρ, rfl, g, s, h⟩
  refine gCan.intro g s ((Post.bind (R := Rp X.K) h).imp ?_)
  rintro v c' d st g' r' ⟨c1, a, e, s1, g1, r1, p1⟩
  rw [← e]
  unfold asT at p1
  cases q : truD c1.μ a with
  | none => rw [q] at p1; exact p1.elim
  | some b => rw [q] at p1; exact ⟨b, truD_ok g1 r1 q, Post.same g1 p1 rfl⟩)

/-! ### and, or, not, if else -/
def tmAnd (m n : Rho → Sto → Res Bool) : Rho → Sto → Res Bool := fun ρ μ => (m ρ μ).bind fun b μ1 => if b = true then n ρ μ1 else .ok false μ1
def tmOr (m n : Rho → Sto → Res Bool) : Rho → Sto → Res Bool := fun ρ μ => (m ρ μ).bind fun b μ1 => if b = true then .ok true μ1 else n ρ μ1
def tmNot (m : Rho → Sto → Res Bool) : Rho → Sto → Res Bool := fun ρ μ => (m ρ μ).bind fun b μ1 => .ok (!b) μ1
def WM (X : Cx) (W : WX) (e : Expr) (m : Rho → Sto → Res Bool) : Prop := PW X e (gCan X.K W RB m)
theorem PW.imp {X : Cx} {e : Expr} {t t' : TT} (h : PW X e t) (hi : ∀ σ H Q, t' σ H Q → t σ H Q) : PW X e t' := ⟨fun w pins s σ H Q I q => h.run w pins s σ H Q I (hi σ H Q q)⟩
variable {m n : Rho → Sto → Res Bool} {rest : List Expr}
theorem WM.tm {e : Expr} (h : WM X W e m) : TM X W e m := PW.pt h
theorem wm_and1 (h : TM X W a m) : WM X W (.BoolOp .And [a] pos) m := pw_and1 h
theorem wm_or1 (h : TM X W a m) : WM X W (.BoolOp .Or [a] pos) m := pw_or1 h
theorem wm_and (ha : TM X W a m) (hb : WM X W (.BoolOp .And (b :: rest) pos) n) : WM X W (.BoolOp .And (a :: b :: rest) pos) (tmAnd m n) := PW.imp (pw_and ha hb) (by
  rintro σ H Q ⟨c, ρ, rfl, g, s, h⟩
  refine gCan.intro g s ((Post.bind (R := RB) h).imp ?_)
  rintro v c' d st g' r' ⟨c1, k, e, s1, g1, r1, p1⟩
  rw [← e]
  cases r1
  cases v with
  | true => exact gCan.intro g1 (s.mono s1) p1
  | false => exact Post.same (R := RB) g1 p1 rfl)
theorem wm_or (ha : TM X W a m) (hb : WM X W (.BoolOp .Or (b :: rest) pos) n) : WM X W (.BoolOp .Or (a :: b :: rest) pos) (tmOr m n) := PW.imp (pw_or ha hb) (by
  rintro σ H Q ⟨c, ρ, rfl, g, s, h⟩
  refine gCan.intro g s ((Post.bind (R := RB) h).imp ?_)
  rintro v c' d st g' r' ⟨c1, k, e, s1, g1, r1, p1⟩
  rw [← e]
  cases r1
  cases v with
  | true => exact Post.same (R := RB) g1 p1 rfl
  | false => exact gCan.intro g1 (s.mono s1) p1)
theorem tm_not (ha : TM X W a m) : TM X W (.UnaryOp .Not a pos) (tmNot m) := PT.imp (pt_not ha) (by
  rintro σ H Q ⟨c, ρ, rfl, g, s, h⟩
  refine gCan.intro g s ((Post.bind (R := RB) h).imp ?_)
  rintro v c' d st g' r' ⟨c1, k, e, s1, g1, r1, p1⟩
  rw [← e]
  cases r1
  exact Post.same (R := RB) g1 p1 rfl)
def xIf (m : Rho → Sto → Res Bool) (ma mb : Rho → Sto → Res D) : Rho → Sto → Res D := fun ρ μ => (m ρ μ).bind fun b μ1 => if b = true then ma ρ μ1 else mb ρ μ1
theorem em_if {e : Expr} (hc : TM X W e m) (ha : EM X W a ma) (hb : EM X W b mb) : EM X W (.IfExp e a b pos) (xIf m ma mb) := PE.imp (pe_ifExp hc ha hb) (by
  rintro σ H Q ⟨c, ρ, rfl, g, s, h⟩
  refine gCan.intro g s ((Post.bind (R := RB) h).imp ?_)
  rintro v c' d st g' r' ⟨c1, k, e, s1, g1, r1, p1⟩
  rw [← e]
  cases r1
  cases v with
  | true => exact gCan.intro g1 (s.mono s1) p1
  | false => exact gCan.intro g1 (s.mono s1) p1)
/-- and, or as values -/
def xAnd (ma mb : Rho → Sto → Res D) : Rho → Sto → Res D := fun ρ μ => (ma ρ μ).bind fun x μ1 => match truD μ1 x with
  | some true => mb ρ μ1
  | some false => .ok x μ1
  | none => .stuck
def xOr (ma mb : Rho → Sto → Res D) : Rho → Sto → Res D := fun ρ μ => (ma ρ μ).bind fun x μ1 => match truD μ1 x with
  | some true => .ok x μ1
  | some false => mb ρ μ1
  | none => .stuck
def xNot (ma : Rho → Sto → Res D) : Rho → Sto → Res D := fun ρ μ => (ma ρ μ).bind fun x μ1 => match truD μ1 x with
  | some b => .ok (.bl (!b)) μ1
  | none => .stuck
theorem em_one {o : BoolOp} (h : EM X W a ma) : EM X W (.BoolOp o [a] pos) ma := pe_one h
theorem em_and (ha : EM X W a ma) (hb : EM X W (.BoolOp .And (b :: rest) pos) mb) : EM X W (.BoolOp .And (a :: b :: rest) pos) (xAnd ma mb) := PE.imp (pe_andT ha hb) (by
  rintro σ H Q ⟨c, ρ, rfl, g, s, h⟩
  refine gCan.intro g s ((Post.bind (R := Rp X.K) h).imp ?_)
  rintro v c' d st g' r' ⟨c1, x, e, s1, g1, r1, p1⟩
  rw [← e]
  cases q : truD c1.μ x with
  | none => rw [q] at p1; exact p1.elim
  | some k =>
    rw [q] at p1
    refine ⟨k, truD_ok g1 r1 q, ?_⟩
    cases k with
    | true => exact gCan.intro g1 (s.mono s1) p1
    | false => exact Post.same g1 p1 r1)
theorem em_or (ha : EM X W a ma) (hb : EM X W (.BoolOp .Or (b :: rest) pos) mb) : EM X W (.BoolOp .Or (a :: b :: rest) pos) (xOr ma mb) := PE.imp (pe_orT ha hb) (by
  rintro σ H Q ⟨c, ρ, rfl, g, s, h⟩
  refine gCan.intro g s ((Post.bind (R := Rp X.K) h).imp ?_)
  rintro v c' d st g' r' ⟨c1, x, e, s1, g1, r1, p1⟩
  rw [← e]
  cases q : truD c1.μ x with
  | none => rw [q] at p1; exact p1.elim
  | some k =>
    rw [q] at p1
    refine ⟨k, truD_ok g1 r1 q, ?_⟩
    cases k with
    | true => exact Post.same g1 p1 r1
    | false => exact gCan.intro g1 (s.mono s1) p1)
theorem em_not (ha : EM X W a ma) : EM X W (.UnaryOp .Not a pos) (xNot ma) := PE.imp (pe_notT ha) (by
  rintro σ H Q ⟨c, ρ, rfl, g, s, h⟩
  refine gCan.intro g s ((Post.bind (R := Rp X.K) h).imp ?_)
  rintro v c' d st g' r' ⟨c1, x, e, s1, g1, r1, p1⟩
  rw [← e]
  cases q : truD c1.μ x with
  | none => rw [q] at p1; exact p1.elim
  | some k =>
    rw [q] at p1
    exact ⟨k, truD_ok g1 r1 q, Post.same g1 p1 (.bl _)⟩)
end
end FL
end S_FL2
section S_FL3
set_option Elab.async false
set_option linter.all false
set_option maxRecDepth 100000
set_option maxHeartbeats 4000000
/-! FL3: the operators on data; displays, subscripts, slices; built-in calls. -/
namespace FL
open PySem PySem.Spec PyProof.Rows L2

/-! ### arithmetic -/
def dAdd (x y : D) (μ : Sto) : Res D := match x, y with
  | .int i, .int j => .ok (.int (i + j)) μ
  | .str s, .str t => if s.length + t.length ≤ lim then .ok (.str (s ++ t)) μ else .stuck
  | .tup xs, .tup ys => if xs.length + ys.length ≤ lim then .ok (.tup (xs ++ ys)) μ else .stuck
  | x, y => (match rdM μ x, rdM μ y with
    | some xs, some ys => if xs.length + ys.length ≤ lim then .ok (.lst (xs ++ ys)) μ else .stuck
    | _, _ => .stuck)
abbrev rAdd (K : PySem.W.Frag) : R2 := fun x y H Q => (rI0 (fun i j => .int (i + j)) x y H Q) ∨ (∃ i j, x = .str i ∧ y = .str j ∧ i.length + j.length ≤ sizeLine ∧ Q (.str (i ++ j)) H) ∨ rCatA K x y H Q ∨ rCat x y H Q
section
variable {X : Cx}
theorem op_addA : OpR X (binaryOp .Add) (rAdd X.K) := op_add.or (op_add_str.or (op_catA.or op_cat))
theorem om_add {K : PySem.W.Frag} : OpM K (rAdd K) dAdd := by
  intro W σ c v u d e Q g rv ru p
  have lists : (∀ xs ys, rdM c.μ d = some xs → rdM c.μ e = some ys → xs.length + ys.length ≤ lim → Post K W σ c (Rp K) Q (.ok (.lst (xs ++ ys)) c.μ) → rAdd K v u c.H Q) := fun xs ys h1 h2 hl q => by
    obtain ⟨a, vs, rfl, ha, ra⟩ := rdM_ok g rv h1
    obtain ⟨b, ws, rfl, hb, rb⟩ := rdM_ok g ru h2
    refine .inr (.inr (.inr ⟨a, b, vs, ws, rfl, rfl, ha, hb, lim_le (by rw [ra.length, rb.length]; exact hl), Post.newLst g q (ra.append rb)⟩))
  have other : (match rdM c.μ d, rdM c.μ e with
    | some xs, some ys => if xs.length + ys.length ≤ lim then Res.ok (.lst (xs ++ ys)) c.μ else .stuck
    | _, _ => .stuck) = dAdd d e c.μ → rAdd K v u c.H Q := fun q => by
    rw [← q] at p
    cases h1 : rdM c.μ d with
    | none => rw [h1] at p; exact p.elim
    | some xs =>
      cases h2 : rdM c.μ e with
      | none => rw [h1, h2] at p; exact p.elim
      | some ys =>
        rw [h1, h2] at p
        have p : Post K W σ c (Rp K) Q (if xs.length + ys.length ≤ lim then .ok (.lst (xs ++ ys)) c.μ else .stuck) := p
        by_cases hl : xs.length + ys.length ≤ lim
        · rw [if_pos hl] at p
          exact lists xs ys h1 h2 hl p
        · rw [if_neg hl] at p
          exact p.elim
  cases d with
  | int i =>
    cases e with
    | int j =>
      cases rv; cases ru
      exact .inl ⟨i, j, rfl, rfl, Post.same g p (.int _)⟩
    | _ => exact other rfl
  | str s =>
    cases e with
    | str t =>
      cases rv; cases ru
      have p : Post K W σ c (Rp K) Q (if s.length + t.length ≤ lim then .ok (.str (s ++ t)) c.μ else .stuck) := p
      by_cases hl : s.length + t.length ≤ lim
      · rw [if_pos hl] at p
        exact .inr (.inl ⟨s, t, rfl, rfl, lim_le hl, Post.same g p (.str _)⟩)
      · rw [if_neg hl] at p; exact p.elim
    | _ => exact other rfl
  | tup xs =>
    cases e with
    | tup ys =>
      obtain ⟨a, vs, rfl, ha, ra⟩ := rdT_ok rv rfl
      obtain ⟨b, ws, rfl, hb, rb⟩ := rdT_ok ru rfl
      have p : Post K W σ c (Rp K) Q (if xs.length + ys.length ≤ lim then .ok (.tup (xs ++ ys)) c.μ else .stuck) := p
      by_cases hl : xs.length + ys.length ≤ lim
      · rw [if_pos hl] at p
        refine .inr (.inr (.inl ⟨a, b, vs, ws, rfl, rfl, ha, hb, lim_le (by rw [ra.length, rb.length]; exact hl), fun h0 => ?_, fun h1 h0 => ?_, fun _ _ => Post.newTup g p (ra.append rb)⟩))
        · have e1 : xs = [] := ra.nil_iff.mp h0
          subst e1
          exact Post.same g p ru
        · have e1 : ys = [] := rb.nil_iff.mp h0
          subst e1
          rw [List.append_nil] at p
          exact Post.same g p rv
      · rw [if_neg hl] at p; exact p.elim
    | _ => exact other rfl
  | _ => cases e <;> exact other rfl
end
def dInt2 (C : Int → Int → Prop) [∀ i j, Decidable (C i j)] (f : Int → Int → D) (x y : D) (μ : Sto) : Res D := match x, y with
  | .int i, .int j => if C i j then .ok (f i j) μ else .stuck
  | _, _ => .stuck
theorem om_int2 {K : PySem.W.Frag} {C C' : Int → Int → Prop} [∀ i j, Decidable (C i j)] {f : Int → Int → D} {h : Int → Int → V} (hC : ∀ i j, C i j → C' i j) (hf : ∀ c i j, Rp K c (h i j) (f i j)) : OpM K (rI C' h) (dInt2 C f) := by
  intro W σ c v u d e Q g rv ru p
  cases d with
  | int i =>
    cases e with
    | int j =>
      cases rv; cases ru
      have p : Post K W σ c (Rp K) Q (if C i j then .ok (f i j) c.μ else .stuck) := p
      by_cases hl : C i j
      · rw [if_pos hl] at p; exact ⟨i, j, rfl, rfl, hC _ _ hl, Post.same g p (hf c i j)⟩
      · rw [if_neg hl] at p; exact p.elim
    | _ => exact p.elim
  | _ => exact p.elim
def dInt2' (f : Int → Int → D) (x y : D) (μ : Sto) : Res D := match x, y with
  | .int i, .int j => .ok (f i j) μ
  | _, _ => .stuck
theorem om_int2' {K : PySem.W.Frag} {f : Int → Int → D} {h : Int → Int → V} (hf : ∀ c i j, Rp K c (h i j) (f i j)) : OpM K (rI0 h) (dInt2' f) := by
  intro W σ c v u d e Q g rv ru p
  cases d with
  | int i =>
    cases e with
    | int j => cases rv; cases ru; exact ⟨i, j, rfl, rfl, Post.same g p (hf c i j)⟩
    | _ => exact p.elim
  | _ => exact p.elim
abbrev lg (i : Int) : Nat := i.natAbs.log2
def dSub : D → D → Sto → Res D := dInt2' fun i j => .int (i - j)
def dMul : D → D → Sto → Res D := dInt2 (fun i j => lg i + lg j < 1000000) fun i j => .int (i * j)
def dDiv : D → D → Sto → Res D := dInt2 (fun _ j => 0 < j ∧ lg j < 9000) fun i j => .int (i / j)
def dMod : D → D → Sto → Res D := dInt2 (fun _ j => 0 < j) fun i j => .int (i % j)
def dPow : D → D → Sto → Res D := dInt2 (fun i j => 0 ≤ j ∧ j ≤ 1000 ∧ lg i < 1000) fun i j => .int (i ^ j.toNat)
theorem om_sub {K : PySem.W.Frag} : OpM K (rI0 fun i j => .int (i - j)) dSub := om_int2' fun _ _ _ => .int _
theorem om_mul {K : PySem.W.Frag} : OpM K (rI CMulW fun i j => .int (i * j)) dMul := om_int2 (fun _ _ h => h) fun _ _ _ => .int _
theorem om_div {K : PySem.W.Frag} : OpM K (rI CDivW fun i j => .int (i / j)) dDiv := om_int2 (fun _ _ h => h) fun _ _ _ => .int _
theorem om_mod {K : PySem.W.Frag} : OpM K (rI (fun _ j => 0 < j) fun i j => .int (i % j)) dMod := om_int2 (fun _ _ h => h) fun _ _ _ => .int _
def CPowW (i j : Int) : Prop := 0 ≤ j ∧ j ≤ 1000 ∧ lg i < 1000
theorem op_powW {X : Cx} : OpR X (binaryOp .Pow) (rI CPowW fun i j => .int (i ^ j.toNat)) := opI fun i j _ _ _ _ _ hc q => by
  obtain ⟨h0, h1, h2⟩ := hc
  refine pow_int h0 ?_ q
  have b : Builtin.Int.intBits i ≤ 1001 := by
    unfold Builtin.Int.intBits
    split
    · omega
    · have : i.natAbs.log2 < 1000 := h2
      omega
  have e : ((Builtin.Int.intBits i : Nat) : Int) * j ≤ 1001 * 1000 := Int.mul_le_mul (by omega) h1 h0 (by omega)
  omega
theorem om_pow {K : PySem.W.Frag} : OpM K (rI CPowW fun i j => .int (i ^ j.toNat)) dPow := om_int2 (fun _ _ h => h) fun _ _ _ => .int _
def dLt : D → D → Sto → Res D := dInt2' fun i j => .bl (decide (i < j))
def dLe : D → D → Sto → Res D := dInt2' fun i j => .bl (decide (i ≤ j))
def dGt : D → D → Sto → Res D := dInt2' fun i j => .bl (decide (j < i))
def dGe : D → D → Sto → Res D := dInt2' fun i j => .bl (decide (j ≤ i))
theorem om_lt {K : PySem.W.Frag} : OpM K (rI0 fun i j => .bl (decide (i < j))) dLt := om_int2' fun _ _ _ => .bl _
theorem om_le {K : PySem.W.Frag} : OpM K (rI0 fun i j => .bl (decide (i ≤ j))) dLe := om_int2' fun _ _ _ => .bl _
theorem om_gt {K : PySem.W.Frag} : OpM K (rI0 fun i j => .bl (decide (j < i))) dGt := om_int2' fun _ _ _ => .bl _
theorem om_ge {K : PySem.W.Frag} : OpM K (rI0 fun i j => .bl (decide (j ≤ i))) dGe := om_int2' fun _ _ _ => .bl _
/-- 1 << n -/
def dShl : D → D → Sto → Res D := dInt2 (fun i j => 0 ≤ j ∧ j ≤ 1000000 ∧ i.natAbs < 2 ^ 64) fun i j => .int (i * 2 ^ j.toNat)
theorem om_shl {K : PySem.W.Frag} : OpM K (rI CPow fun i j => .int (i * 2 ^ j.toNat)) dShl := om_int2 (fun _ _ h => h) fun _ _ _ => .int _

/-! ### == -/
mutual
/-- == of data (as Python has it: True == 1) -/
def deq : D → D → Bool
  | .non, .non => true
  | .bl a, .bl b => a == b
  | .bl a, .int j => (if a then 1 else 0) == j
  | .int i, .bl b => i == (if b then 1 else 0)
  | .int i, .int j => i == j
  | .str x, .str y => x == y
  | .lst xs, .lst ys => deqAll xs ys
  | .tup xs, .tup ys => deqAll xs ys
  | _, _ => false
def deqAll : List D → List D → Bool
  | [], [] => true
  | x :: xs, y :: ys => deq x y && deqAll xs ys
  | _, _ => false
end
mutual
def pyD : D → Option PyData
  | .non => some .none
  | .bl b => some (.bool b)
  | .int i => some (.int i)
  | .str s => some (.str s)
  | .tup xs => (pyDs xs).map .tuple
  | .lst xs => (pyDs xs).map .list
  | .ptr _ => none
  | .scr _ => none
def pyDs : List D → Option (List PyData)
  | [] => some []
  | x :: xs => (match pyD x, pyDs xs with
    | some p, some ps => some (p :: ps)
    | _, _ => none)
end
mutual
/-- data of bounded texts, nested at most n deep, nothing mutable in it -/
def plainD : Nat → D → Bool
  | _, .non => true
  | _, .bl _ => true
  | _, .int _ => true
  | _, .str s => PyData.strOk s
  | 0, .tup _ => false
  | 0, .lst _ => false
  | n + 1, .tup xs => plainDs n xs
  | n + 1, .lst xs => plainDs n xs
  | _, .ptr _ => false
  | _, .scr _ => false
def plainDs : Nat → List D → Bool
  | _, [] => true
  | n, x :: xs => plainD n x && plainDs n xs
end
mutual
theorem pyD_some : ∀ (n : Nat) (d : D), plainD n d = true → ∃ p, pyD d = some p ∧ p.canLay0 = true ∧ p.depth ≤ n
  | n, .non, _ => ⟨_, rfl, rfl, Nat.zero_le _⟩
  | n, .bl b, _ => ⟨_, rfl, rfl, Nat.zero_le _⟩
  | n, .int i, _ => ⟨_, rfl, rfl, Nat.zero_le _⟩
  | n, .str s, h => ⟨_, rfl, (by simpa [plainD, PyData.canLay0] using h), Nat.zero_le _⟩
  | 0, .tup xs, h => by simp [plainD] at h
  | 0, .lst xs, h => by simp [plainD] at h
  | n + 1, .tup xs, h => by
    obtain ⟨ps, e, c1, c2⟩ := pyDs_some n xs (by simpa [plainD] using h)
    exact ⟨.tuple ps, by simp [pyD, e], by simpa [PyData.canLay0] using c1, by simp only [PyData.depth]; omega⟩
  | n + 1, .lst xs, h => by
    obtain ⟨ps, e, c1, c2⟩ := pyDs_some n xs (by simpa [plainD] using h)
    exact ⟨.list ps, by simp [pyD, e], by simpa [PyData.canLay0] using c1, by simp only [PyData.depth]; omega⟩
  | n, .ptr i, h => by simp [plainD] at h
  | n, .scr xs, h => by simp [plainD] at h
theorem pyDs_some : ∀ (n : Nat) (ds : List D), plainDs n ds = true → ∃ ps, pyDs ds = some ps ∧ PyData.canLayAll0 ps = true ∧ PyData.depthAll ps ≤ n
  | n, [], _ => ⟨[], rfl, rfl, Nat.zero_le _⟩
  | n, d :: ds, h => by
    have h' : plainD n d = true ∧ plainDs n ds = true := by simpa [plainDs] using h
    obtain ⟨p, e1, c1, l1⟩ := pyD_some n d h'.1
    obtain ⟨ps, e2, c2, l2⟩ := pyDs_some n ds h'.2
    exact ⟨p :: ps, by simp [pyDs, e1, e2], by simp [PyData.canLayAll0, c1, c2], by simp only [PyData.depthAll]; omega⟩
end
mutual
theorem eqv_deq : ∀ (x y : D) (p q : PyData), pyD x = some p → pyD y = some q → PyData.eqv p q = deq x y := by
  intro x y p q hx hy
  cases x with
  | tup xs =>
    obtain ⟨ps, e1, rfl⟩ := Option.map_eq_some_iff.mp (show (pyDs xs).map PyData.tuple = some p by simpa [pyD] using hx)
    cases y with
    | tup ys =>
      obtain ⟨qs, e2, rfl⟩ := Option.map_eq_some_iff.mp (show (pyDs ys).map PyData.tuple = some q by simpa [pyD] using hy)
      simp only [PyData.eqv, deq]
      exact eqv_deqs xs ys ps qs e1 e2
    | lst ys =>
      obtain ⟨qs, e2, rfl⟩ := Option.map_eq_some_iff.mp (show (pyDs ys).map PyData.list = some q by simpa [pyD] using hy)
      simp only [PyData.eqv, deq]
    | ptr i => simp [pyD] at hy
    | scr i => simp [pyD] at hy
    | _ => simp only [pyD, Option.some.injEq] at hy; subst hy; simp only [PyData.eqv, deq]
  | lst xs =>
    obtain ⟨ps, e1, rfl⟩ := Option.map_eq_some_iff.mp (show (pyDs xs).map PyData.list = some p by simpa [pyD] using hx)
    cases y with
    | lst ys =>
      obtain ⟨qs, e2, rfl⟩ := Option.map_eq_some_iff.mp (show (pyDs ys).map PyData.list = some q by simpa [pyD] using hy)
      simp only [PyData.eqv, deq]
      exact eqv_deqs xs ys ps qs e1 e2
    | tup ys =>
      obtain ⟨qs, e2, rfl⟩ := Option.map_eq_some_iff.mp (show (pyDs ys).map PyData.tuple = some q by simpa [pyD] using hy)
      simp only [PyData.eqv, deq]
    | ptr i => simp [pyD] at hy
    | scr i => simp [pyD] at hy
    | _ => simp only [pyD, Option.some.injEq] at hy; subst hy; simp only [PyData.eqv, deq]
  | ptr i => simp [pyD] at hx
  | scr i => simp [pyD] at hx
  | _ =>
    simp only [pyD, Option.some.injEq] at hx; subst hx
    cases y with
    | tup ys =>
      obtain ⟨qs, e2, rfl⟩ := Option.map_eq_some_iff.mp (show (pyDs ys).map PyData.tuple = some q by simpa [pyD] using hy)
      simp only [PyData.eqv, deq]
    | lst ys =>
      obtain ⟨qs, e2, rfl⟩ := Option.map_eq_some_iff.mp (show (pyDs ys).map PyData.list = some q by simpa [pyD] using hy)
      simp only [PyData.eqv, deq]
    | ptr i => simp [pyD] at hy
    | scr i => simp [pyD] at hy
    | _ => simp only [pyD, Option.some.injEq] at hy; subst hy; simp only [PyData.eqv, deq]
theorem eqv_deqs : ∀ (xs ys : List D) (ps qs : List PyData), pyDs xs = some ps → pyDs ys = some qs → PyData.eqvAll ps qs = deqAll xs ys := by
  intro xs ys ps qs hx hy
  cases xs with
  | nil =>
    simp only [pyDs, Option.some.injEq] at hx; subst hx
    cases ys with
    | nil => simp only [pyDs, Option.some.injEq] at hy; subst hy; simp only [PyData.eqvAll, deqAll]
    | cons y ys =>
      cases e1 : pyD y with
      | none => simp [pyDs, e1] at hy
      | some q1 =>
        cases e2 : pyDs ys with
        | none => simp [pyDs, e1, e2] at hy
        | some qs1 => simp [pyDs, e1, e2] at hy; subst hy; simp only [PyData.eqvAll, deqAll]
  | cons x xs =>
    cases e1 : pyD x with
    | none => simp [pyDs, e1] at hx
    | some p1 =>
      cases e2 : pyDs xs with
      | none => simp [pyDs, e1, e2] at hx
      | some ps1 =>
        simp [pyDs, e1, e2] at hx; subst hx
        cases ys with
        | nil => simp only [pyDs, Option.some.injEq] at hy; subst hy; simp only [PyData.eqvAll, deqAll]
        | cons y ys =>
          cases e3 : pyD y with
          | none => simp [pyDs, e3] at hy
          | some q1 =>
            cases e4 : pyDs ys with
            | none => simp [pyDs, e3, e4] at hy
            | some qs1 =>
              simp [pyDs, e3, e4] at hy; subst hy
              simp only [PyData.eqvAll, deqAll]
              rw [eqv_deq x y p1 q1 e1 e3, eqv_deqs xs ys ps1 qs1 e2 e4]
end
end FL
end S_FL3
section S_FL4
set_option Elab.async false
set_option linter.all false
set_option maxRecDepth 100000
set_option maxHeartbeats 4000000
/-! FL4: ==, in, is; displays; subscripts, slices; built-in calls. -/
namespace FL
open PySem PySem.Spec PyProof.Rows L2

/-! ### ==, != -/
def dscal : D → D → Option Bool
  | .int i, .int j => some (decide (i = j))
  | .str x, .str y => some (decide (x = y))
  | .bl a, .bl b => some (decide (a = b))
  | .non, .non => some true
  | .non, .int _ => some false
  | .int _, .non => some false
  | .non, .str _ => some false
  | .str _, .non => some false
  | .non, .bl _ => some false
  | .bl _, .non => some false
  | _, _ => none
theorem dscal_ok {K : PySem.W.Frag} {c : Cfg} {v u : V} {d e : D} {b : Bool} (rv : Rp K c v d) (ru : Rp K c u e) (h : dscal d e = some b) : scal v u = true ∧ decide (v = u) = b := by
  cases rv <;> cases ru <;> simp [dscal] at h <;> subst h <;> simp [scal]
def topD (μ : Sto) (d : D) : Option D := match d with
  | .ptr i => (rdM μ (.ptr i)).map .lst
  | d => some d
mutual
theorem Rp.dp {K : PySem.W.Frag} {c : Cfg} : ∀ {v : V} {d : D} {p : PyData}, Rp K c v d → pyD d = some p → Dp K c.H v p
  | _, _, _, .non, h => by simp [pyD] at h; subst h; exact .non
  | _, _, _, .bl b, h => by simp [pyD] at h; subst h; exact .bl b
  | _, _, _, .int i, h => by simp [pyD] at h; subst h; exact .int i
  | _, _, _, .str s, h => by simp [pyD] at h; subst h; exact .str s
  | _, _, _, .tup (ds := ds) h1 h2, h => by
    obtain ⟨ps, e, rfl⟩ := Option.map_eq_some_iff.mp (show (pyDs ds).map PyData.tuple = some _ by simpa [pyD] using h)
    exact .tup h1.sq (RpAll.dp h2 e)
  | _, _, _, .lst (ds := ds) h1 h2, h => by
    obtain ⟨ps, e, rfl⟩ := Option.map_eq_some_iff.mp (show (pyDs ds).map PyData.list = some _ by simpa [pyD] using h)
    exact .lst (SqL.of h1.1) (RpAll.dp h2 e)
  | _, _, _, .ptr _, h => by simp [pyD] at h
  | _, _, _, .scr _, h => by simp [pyD] at h
theorem RpAll.dp {K : PySem.W.Frag} {c : Cfg} : ∀ {vs : List V} {ds : List D} {ps : List PyData}, RpAll K c vs ds → pyDs ds = some ps → DpAll K c.H vs ps
  | _, _, _, .nil, h => by simp [pyDs] at h; subst h; exact .nil
  | _, _, _, .cons (d := d) (ds := ds) h r, q => by
    cases e1 : pyD d with
    | none => simp [pyDs, e1] at q
    | some p1 =>
      cases e2 : pyDs ds with
      | none => simp [pyDs, e1, e2] at q
      | some ps1 =>
        simp [pyDs, e1, e2] at q; subst q
        exact .cons (Rp.dp h e1) (RpAll.dp r e2)
end
theorem topD_dp {K : PySem.W.Frag} {c : Cfg} (g : Good K c) {v : V} {d d' : D} {p : PyData} (r : Rp K c v d) (h : topD c.μ d = some d') (hp : pyD d' = some p) : Dp K c.H v p := by
  cases d with
  | ptr i =>
    obtain ⟨xs, e, rfl⟩ := Option.map_eq_some_iff.mp (show (rdM c.μ (.ptr i)).map D.lst = some d' from h)
    obtain ⟨a, vs, rfl, h1, h2⟩ := rdM_ok g r e
    obtain ⟨ps, e2, rfl⟩ := Option.map_eq_some_iff.mp (show (pyDs xs).map PyData.list = some _ by simpa [pyD] using hp)
    exact .lst (SqL.of h1) (h2.dp e2)
  | _ => cases (show some _ = some d' from h); exact r.dp hp
/-- the answer of == -/
def eqD (μ : Sto) (x y : D) : Option Bool := match dscal x y with
  | some b => some b
  | none => (match topD μ x, topD μ y with
    | some x', some y' => if plainD 64 x' && plainD 64 y' then some (deq x' y') else none
    | _, _ => none)
def dEq (x y : D) (μ : Sto) : Res D := match eqD μ x y with
  | some b => .ok (.bl b) μ
  | none => .stuck
def dNe (x y : D) (μ : Sto) : Res D := match eqD μ x y with
  | some b => .ok (.bl (!b)) μ
  | none => .stuck
theorem eqD_ok {K : PySem.W.Frag} {c : Cfg} (g : Good K c) {v u : V} {d e : D} {b : Bool} (rv : Rp K c v d) (ru : Rp K c u e) (h : eqD c.μ d e = some b) :
    (scal v u = true ∧ decide (v = u) = b) ∨ ∃ p q, Dp K c.H v p ∧ Dp K c.H u q ∧ SeqAt.shaped p = true ∧ SeqAt.shaped q = true ∧ PyData.eqv p q = b := by
  unfold eqD at h
  cases q : dscal d e with
  | some b' => rw [q] at h; cases h; exact .inl (dscal_ok rv ru q)
  | none =>
    rw [q] at h
    cases e1 : topD c.μ d with
    | none => rw [e1] at h; cases h
    | some x' =>
      cases e2 : topD c.μ e with
      | none => rw [e1, e2] at h; cases h
      | some y' =>
        rw [e1, e2] at h
        have h : (if plainD 64 x' && plainD 64 y' then some (deq x' y') else none) = some b := h
        by_cases hp : (plainD 64 x' && plainD 64 y') = true
        · rw [if_pos hp] at h
          cases h
          obtain ⟨h1, h2⟩ := Bool.and_eq_true_iff.mp hp
          obtain ⟨p1, p2, p3, p4⟩ := pyD_some 64 x' h1
          obtain ⟨q1, q2, q3, q4⟩ := pyD_some 64 y' h2
          refine .inr ⟨p1, q1, topD_dp g rv e1 p2, topD_dp g ru e2 q2, ?_, ?_, eqv_deq _ _ _ _ p2 q2⟩
          · unfold SeqAt.shaped; rw [p3]; simp [p4]
          · unfold SeqAt.shaped; rw [q3]; simp [q4]
        · rw [if_neg hp] at h; cases h
abbrev rEqA (K : PySem.W.Frag) : R2 := fun x y H Q => rEq x y H Q ∨ rEqD K x y H Q
abbrev rNeA (K : PySem.W.Frag) : R2 := fun x y H Q => rNe x y H Q ∨ rNeD K x y H Q
theorem op_eqA {X : Cx} (hu : X.A.units + 64 < cLine) : OpR X (compareOp .Eq) (rEqA X.K) := op_eq.or (op_eqD hu)
theorem op_neA {X : Cx} (hu : X.A.units + 64 < cLine) : OpR X (compareOp .NotEq) (rNeA X.K) := op_ne.or (op_neD hu)
theorem om_eq {K : PySem.W.Frag} : OpM K (rEqA K) dEq := by
  intro W σ c v u d e Q g rv ru p
  unfold dEq at p
  cases q : eqD c.μ d e with
  | none => rw [q] at p; exact p.elim
  | some b =>
    rw [q] at p
    have fin := Post.same g p (.bl b)
    rcases eqD_ok g rv ru q with ⟨h1, h2⟩ | ⟨x, y, h1, h2, h3, h4, h5⟩
    · exact .inl ⟨h1, by rw [h2]; exact fin⟩
    · exact .inr ⟨x, y, h1, h2, h3, h4, by rw [h5]; exact fin⟩
theorem om_ne {K : PySem.W.Frag} : OpM K (rNeA K) dNe := by
  intro W σ c v u d e Q g rv ru p
  unfold dNe at p
  cases q : eqD c.μ d e with
  | none => rw [q] at p; exact p.elim
  | some b =>
    rw [q] at p
    have fin := Post.same g p (.bl (!b))
    rcases eqD_ok g rv ru q with ⟨h1, h2⟩ | ⟨x, y, h1, h2, h3, h4, h5⟩
    · exact .inl ⟨h1, by rw [h2]; exact fin⟩
    · exact .inr ⟨x, y, h1, h2, h3, h4, by rw [h5]; exact fin⟩

/-! ### is None, in -/
def isNon : D → Bool
  | .non => true
  | _ => false
def dIsN (x y : D) (μ : Sto) : Res D := match y with
  | .non => .ok (.bl (isNon x)) μ
  | _ => .stuck
def dNotN (x y : D) (μ : Sto) : Res D := match y with
  | .non => .ok (.bl (!isNon x)) μ
  | _ => .stuck
theorem isNon_ok {K : PySem.W.Frag} {c : Cfg} {v : V} {d : D} (r : Rp K c v d) : decide (v = .non) = isNon d := by cases r <;> simp [isNon]
theorem om_isN {K : PySem.W.Frag} : OpM K (fun x y H Q => y = .non ∧ Q (.bl (decide (x = .non))) H) dIsN := by
  intro W σ c v u d e Q g rv ru p
  cases ru with
  | non => exact ⟨rfl, by rw [isNon_ok rv]; exact Post.same g p (.bl _)⟩
  | _ => exact p.elim
theorem om_notN {K : PySem.W.Frag} : OpM K (fun x y H Q => y = .non ∧ Q (.bl (!decide (x = .non))) H) dNotN := by
  intro W σ c v u d e Q g rv ru p
  cases ru with
  | non => exact ⟨rfl, by rw [isNon_ok rv]; exact Post.same g p (.bl _)⟩
  | _ => exact p.elim
def flatD : D → Bool
  | .non => true
  | .bl _ => true
  | .int _ => true
  | .str _ => true
  | _ => false
theorem flat_ok {K : PySem.W.Frag} {c : Cfg} {v : V} {d : D} (r : Rp K c v d) (h : flatD d = true) : flatV v = true := by cases r <;> first | rfl | (simp [flatD] at h)
theorem flats_ok {K : PySem.W.Frag} {c : Cfg} : ∀ {vs : List V} {ds : List D}, RpAll K c vs ds → ds.all flatD = true → vs.all flatV = true
  | _, _, .nil, _ => rfl
  | _, _, .cons h r, q => by
    simp only [List.all_cons, Bool.and_eq_true] at q ⊢
    exact ⟨flat_ok h q.1, flats_ok r q.2⟩
theorem eqV_deq {K : PySem.W.Frag} {c : Cfg} {v u : V} {d e : D} (rv : Rp K c v d) (ru : Rp K c u e) (hd : flatD d = true) (he : flatD e = true) : eqV v u = deq d e := by
  cases rv <;> cases ru <;> first | rfl | (simp [flatD] at hd; done) | (simp [flatD] at he; done) | simp [eqV, deq]
theorem inV_deq {K : PySem.W.Frag} {c : Cfg} {v : V} {d : D} (rv : Rp K c v d) (hd : flatD d = true) : ∀ {vs : List V} {ds : List D}, RpAll K c vs ds → ds.all flatD = true → inV v vs = ds.any fun y => deq y d
  | _, _, .nil, _ => rfl
  | _, _, .cons h r, q => by
    simp only [List.all_cons, Bool.and_eq_true] at q
    have ih := inV_deq rv hd r q.2
    unfold inV at ih ⊢
    rw [List.any_cons, List.any_cons, eqV_deq h rv q.1 hd, ih]
def rdS (μ : Sto) (d : D) : Option (List D) := match rdT d with
  | some xs => some xs
  | none => rdL μ d
theorem rdS_ok {K : PySem.W.Frag} {c : Cfg} (g : Good K c) {v : V} {d : D} {xs : List D} (r : Rp K c v d) (h : rdS c.μ d = some xs) : ∃ a vs, v = .ref a ∧ (SqL K c.H a vs ∨ SqT K c.H a vs) ∧ RpAll K c vs xs := by
  unfold rdS at h
  cases q : rdT d with
  | some ys =>
    rw [q] at h; cases h
    obtain ⟨a, vs, e, h1, h2⟩ := rdT_ok r q
    exact ⟨a, vs, e, .inr h1, h2⟩
  | none =>
    rw [q] at h
    obtain ⟨a, vs, e, h1, h2⟩ := rdL_ok g r h
    exact ⟨a, vs, e, .inl h1, h2⟩
def inD (μ : Sto) (x y : D) : Option Bool := match y with
  | .str z => (match x with
    | .str s => (match s.cps.toList with
      | [k] => some (decide (k ∈ z.cps.toList))
      | _ => none)
    | _ => none)
  | y => (match rdS μ y with
    | some xs => if flatD x && xs.all flatD then some (xs.any fun z => deq z x) else none
    | none => none)
def dIn (x y : D) (μ : Sto) : Res D := match inD μ x y with
  | some b => .ok (.bl b) μ
  | none => .stuck
def dNotIn (x y : D) (μ : Sto) : Res D := match inD μ x y with
  | some b => .ok (.bl (!b)) μ
  | none => .stuck
theorem inD_ok {K : PySem.W.Frag} {c : Cfg} (g : Good K c) {v u : V} {d e : D} {b : Bool} (rv : Rp K c v d) (ru : Rp K c u e) (h : inD c.μ d e = some b) :
    (∃ (k : Nat) (z : Str), v = .str ⟨#[k]⟩ ∧ u = .str z ∧ decide (k ∈ z.cps.toList) = b) ∨ ∃ p xs, u = .ref p ∧ (SqL K c.H p xs ∨ SqT K c.H p xs) ∧ flatV v = true ∧ xs.all flatV = true ∧ inV v xs = b := by
  have seq : (match rdS c.μ e with
    | some xs => if flatD d && xs.all flatD then some (xs.any fun z => deq z d) else none
    | none => none) = some b → ∃ p xs, u = .ref p ∧ (SqL K c.H p xs ∨ SqT K c.H p xs) ∧ flatV v = true ∧ xs.all flatV = true ∧ inV v xs = b := fun h => by
    cases q : rdS c.μ e with
    | none => rw [q] at h; cases h
    | some xs =>
      rw [q] at h
      have h : (if flatD d && xs.all flatD then some (xs.any fun z => deq z d) else none) = some b := h
      by_cases hf : (flatD d && xs.all flatD) = true
      · rw [if_pos hf] at h
        cases h
        obtain ⟨h1, h2⟩ := Bool.and_eq_true_iff.mp hf
        obtain ⟨a, vs, e1, h3, h4⟩ := rdS_ok g ru q
        exact ⟨a, vs, e1, h3, flat_ok rv h1, flats_ok h4 h2, inV_deq rv h1 h4 h2⟩
      · rw [if_neg hf] at h; cases h
  cases e with
  | str z =>
    cases ru
    cases d with
    | str s =>
      cases rv
      have h : (match s.cps.toList with
        | [k] => some (decide (k ∈ z.cps.toList))
        | _ => none) = some b := h
      cases q : s.cps.toList with
      | nil => rw [q] at h; cases h
      | cons k r =>
        cases r with
        | nil =>
          rw [q] at h
          cases h
          refine .inl ⟨k, z, ?_, rfl, rfl⟩
          obtain ⟨cp⟩ := s
          have : cp = #[k] := by apply Array.toList_inj.mp; simpa using q
          rw [this]
        | cons k2 r2 => rw [q] at h; cases h
    | _ => cases h
  | _ => exact .inr (seq h)
abbrev rInA (K : PySem.W.Frag) : R2 := fun x y H Q => (∃ (k : Nat) (z : Str), x = .str ⟨#[k]⟩ ∧ y = .str z ∧ Q (.bl (decide (k ∈ z.cps.toList))) H) ∨ rIn K false x y H Q
abbrev rNotInA (K : PySem.W.Frag) : R2 := fun x y H Q => (∃ (k : Nat) (z : Str), x = .str ⟨#[k]⟩ ∧ y = .str z ∧ Q (.bl (!decide (k ∈ z.cps.toList))) H) ∨ rIn K true x y H Q
theorem op_inA {X : Cx} : OpR X (compareOp .In) (rInA X.K) := op_in_sign.or op_in_seq
theorem op_notInA {X : Cx} : OpR X (compareOp .NotIn) (rNotInA X.K) := op_notIn_sign.or op_notIn_seq
theorem om_in {K : PySem.W.Frag} : OpM K (rInA K) dIn := by
  intro W σ c v u d e Q g rv ru p
  unfold dIn at p
  cases q : inD c.μ d e with
  | none => rw [q] at p; exact p.elim
  | some b =>
    rw [q] at p
    have fin := Post.same g p (.bl b)
    rcases inD_ok g rv ru q with ⟨k, z, h1, h2, h3⟩ | ⟨p, xs, h1, h2, h3, h4, h5⟩
    · exact .inl ⟨k, z, h1, h2, by rw [h3]; exact fin⟩
    · exact .inr ⟨p, xs, h1, h2, h3, h4, by rw [← h5] at fin; exact fin⟩
theorem om_notIn {K : PySem.W.Frag} : OpM K (rNotInA K) dNotIn := by
  intro W σ c v u d e Q g rv ru p
  unfold dNotIn at p
  cases q : inD c.μ d e with
  | none => rw [q] at p; exact p.elim
  | some b =>
    rw [q] at p
    have fin := Post.same g p (.bl (!b))
    rcases inD_ok g rv ru q with ⟨k, z, h1, h2, h3⟩ | ⟨p, xs, h1, h2, h3, h4, h5⟩
    · exact .inl ⟨k, z, h1, h2, by rw [h3]; exact fin⟩
    · exact .inr ⟨p, xs, h1, h2, h3, h4, by rw [← h5] at fin; exact fin⟩

/-! ### arguments, displays -/
def aNil : Rho → Sto → Res (List D) := fun _ μ => .ok [] μ
def aCons (m : Rho → Sto → Res D) (n : Rho → Sto → Res (List D)) : Rho → Sto → Res (List D) := fun ρ μ => (m ρ μ).bind fun x μ1 => (n ρ μ1).bind fun xs μ2 => .ok (x :: xs) μ2
def aStar (m : Rho → Sto → Res D) (n : Rho → Sto → Res (List D)) : Rho → Sto → Res (List D) := fun ρ μ => (m ρ μ).bind fun x μ1 => match rdS μ1 x with
  | some xs => (n ρ μ1).bind fun ys μ2 => .ok (xs ++ ys) μ2
  | none => .stuck
def xTup (n : Rho → Sto → Res (List D)) : Rho → Sto → Res D := fun ρ μ => (n ρ μ).bind fun xs μ1 => if xs.length ≤ lim then .ok (.tup xs) μ1 else .stuck
def xLst (n : Rho → Sto → Res (List D)) : Rho → Sto → Res D := fun ρ μ => (n ρ μ).bind fun xs μ1 => if xs.length ≤ lim then .ok (.lst xs) μ1 else .stuck
/-- a list that will be changed: a new cell -/
def xLstM (n : Rho → Sto → Res (List D)) : Rho → Sto → Res D := fun ρ μ => (n ρ μ).bind fun xs μ1 => if xs.length ≤ lim then .ok (.ptr μ1.length) (μ1 ++ [.lst xs]) else .stuck
section
variable {K : PySem.W.Frag} {c : Cfg}
/-- the configuration with a new mutable thing -/
def Cfg.cell (c : Cfg) (p : Addr) (o : HO) (cell : Cell) : Cfg := ⟨upd c.H p o, c.ι ++ [p], c.μ ++ [cell], c.hid⟩
theorem Good.notIn (g : Good K c) {p : Addr} (h : c.H p = none) : p ∉ c.ι := fun hp => by
  obtain ⟨i, hi⟩ := List.getElem?_of_mem hp
  exact g.al i p hi h
theorem Mon.cell (g : Good K c) {p : Addr} (o : HO) (cell : Cell) (h : c.H p = none) : Mon c (c.cell p o cell) where
  keep := fun a u e _ => by
    show upd c.H p o a = some u
    rw [upd_ne (ne_of_none e h)]; exact e
  pre := fun i a e => by
    show (c.ι ++ [p])[i]? = some a
    rw [List.getElem?_append_left (by exact (List.getElem?_eq_some_iff.mp e).1)]; exact e
  lv := by
    rintro a (⟨i, ce, h1, h2, h3⟩ | h1)
    case inr => exact .inl (.inr h1)
    have h1 : (c.ι ++ [p])[i]? = some a := h1
    have h2 : (c.μ ++ [cell])[i]? = some ce := h2
    by_cases hi : i < c.ι.length
    · rw [List.getElem?_append_left hi] at h1
      rw [List.getElem?_append_left (by rw [← g.len]; exact hi)] at h2
      exact .inl (.inl ⟨i, ce, h1, h2, h3⟩)
    · rw [List.getElem?_append_right (by omega)] at h1
      have : a = p := by
        cases e : i - c.ι.length with
        | zero => rw [e] at h1; simpa using h1.symm
        | succ n => rw [e] at h1; simp at h1
      subst this
      exact .inr h
theorem Step.cell (g : Good K c) {p : Addr} (o : HO) (cell : Cell) (h : c.H p = none) : Step c (c.cell p o cell) := ⟨Mon.cell g o cell h, fun a ha => upd_ne (g.hid_ne h ha), rfl⟩
theorem Good.cell (g : Good K c) {p : Addr} {o : HO} {cell : Cell} (h : c.H p = none) (ok : CellOk K (c.cell p o cell) p cell) : Good K (c.cell p o cell) where
  len := by
    show (c.ι ++ [p]).length = (c.μ ++ [cell]).length
    rw [List.length_append, List.length_append, g.len]; rfl
  nd := by
    show (c.ι ++ [p]).Nodup
    rw [List.nodup_append]
    refine ⟨g.nd, by simp, fun a ha b hb e => ?_⟩
    simp at hb; subst hb; subst e
    exact g.notIn h ha
  ok := by
    intro i a ce h1 h2
    have h1 : (c.ι ++ [p])[i]? = some a := h1
    have h2 : (c.μ ++ [cell])[i]? = some ce := h2
    by_cases hi : i < c.ι.length
    · rw [List.getElem?_append_left hi] at h1
      rw [List.getElem?_append_left (by rw [← g.len]; exact hi)] at h2
      refine (g.ok i a ce h1 h2).mono (Mon.cell g o cell h) fun u e => ?_
      show upd c.H p o a = some u
      rw [upd_ne (ne_of_none e h)]; exact e
    · rw [List.getElem?_append_right (by omega)] at h1
      rw [List.getElem?_append_right (by rw [← g.len]; omega), ← g.len] at h2
      cases e : i - c.ι.length with
      | zero =>
        rw [e] at h1 h2
        simp at h1 h2
        subst h1; subst h2
        exact ok
      | succ n => rw [e] at h1; simp at h1
  al := by
    intro i a h1
    have h1 : (c.ι ++ [p])[i]? = some a := h1
    show upd c.H p o a ≠ none
    by_cases hi : i < c.ι.length
    · rw [List.getElem?_append_left hi] at h1
      have := g.al i a h1
      rw [upd_ne (fun z => this (by rw [z]; exact h))]; exact this
    · rw [List.getElem?_append_right (by omega)] at h1
      cases e : i - c.ι.length with
      | zero =>
        rw [e] at h1
        simp at h1
        subst h1
        rw [upd_same]; simp
      | succ n => rw [e] at h1; simp at h1
  hd := by
    intro a ha
    have hne := g.hid_ne h ha
    refine ⟨?_, fun z => ?_⟩
    · show upd c.H p o a ≠ none
      rw [upd_ne hne]; exact (g.hd a ha).1
    · have z : a ∈ c.ι ++ [p] := z
      rw [List.mem_append] at z
      rcases z with z | z
      · exact (g.hd a ha).2 z
      · simp at z; exact hne z
theorem Rp.cell (g : Good K c) {p : Addr} (o : HO) (cell : Cell) : Rp K (c.cell p o cell) (.ref p) (.ptr c.μ.length) := .ptr (by
  show (c.ι ++ [p])[c.μ.length]? = some p
  rw [← g.len, List.getElem?_append_right (Nat.le_refl _), Nat.sub_self]; rfl)
theorem Post.newCell {W : WX} {σ : L2.St} {Q : VK} {cell : Cell} {o : HO} (g : Good K c) (h : Post K W σ c (Rp K) Q (.ok (.ptr c.μ.length) (c.μ ++ [cell]))) (ok : ∀ p, c.H p = none → CellOk K (c.cell p o cell) p cell) : ∀ p, c.H p = none → Q (.ref p) (upd c.H p o) := fun p hp =>
  h (.ref p) (c.cell p o cell) (Step.cell g o cell hp) (g.cell hp (ok p hp)) rfl (Rp.cell g o cell)
theorem cellOk_lst {p : Addr} {vs : List V} {ds : List D} (g : Good K c) (h : c.H p = none) (r : RpAll K c vs ds) : CellOk K (c.cell p (.lst vs) (.lst ds)) p (.lst ds) := ⟨vs, upd_same, r.mono (Mon.cell g _ _ h)⟩
end
section
variable {X : Cx} {W : WX} {a b e : Expr} {es : List Expr} {pos : Pos} {ma mb m : Rho → Sto → Res D} {n : Rho → Sto → Res (List D)}
theorem am_nil : AM X W [] aNil := PA.imp pa_nil (by
  rintro σ H Q ⟨c, ρ, rfl, g, s, h⟩
  exact Post.same g h .nil)
theorem am_cons (ha : EM X W a m) (hr : AM X W es n) (hs : starEach (a :: es) X.env = (false, eval a X.env) :: starEach es X.env := by rfl) : AM X W (a :: es) (aCons m n) := PA.imp (pa_cons ha hr hs) (by
  rintro σ H Q ⟨c, ρ, rfl, g, s, h⟩
  refine gCan.intro g s ((Post.bind (R := Rp X.K) h).imp ?_)
  rintro v c' d st g' r' ⟨c1, x, e, s1, g1, r1, p1⟩
  rw [← e]
  refine gCan.intro g1 (s.mono s1) ((Post.bind (R := RpAll X.K) p1).imp ?_)
  rintro v2 c2' d2 st2 g2' r2' ⟨c2, xs, e2, s2, g2, r2, p2⟩
  rw [← e2]
  exact Post.same g2 p2 (.cons (r1.mono s2) r2))
theorem am_star {p : Pos} (ha : EM X W a m) (hr : AM X W es n) (hs : starEach (.Starred a p :: es) X.env = (true, eval a X.env) :: starEach es X.env := by rfl) : AM X W (.Starred a p :: es) (aStar m n) := PA.imp (StX.pa_star ha hr hs) (by
  rintro σ H Q ⟨c, ρ, rfl, g, s, h⟩
  refine gCan.intro g s ((Post.bind (R := Rp X.K) h).imp ?_)
  rintro v c' d st g' r' ⟨c1, x, e, s1, g1, r1, p1⟩
  rw [← e]
  cases q : rdS c1.μ x with
  | none => rw [q] at p1; exact p1.elim
  | some xs =>
    rw [q] at p1
    obtain ⟨a, vs, e1, h1, h2⟩ := rdS_ok g1 r1 q
    refine ⟨a, vs, e1, h1.symm, ?_⟩
    refine gCan.intro g1 (s.mono s1) ((Post.bind (R := RpAll X.K) p1).imp ?_)
    rintro v2 c2' d2 st2 g2' r2' ⟨c2, ys, e2, s2, g2, r2, p2⟩
    rw [← e2]
    exact Post.same g2 p2 ((h2.mono s2).append r2))
theorem em_tup {k} (h : AM X W es n) : EM X W (.Tuple es k pos) (xTup n) := PE.imp (pe_tup h) (by
  rintro σ H Q ⟨c, ρ, rfl, g, s, h⟩
  refine gCan.intro g s ((Post.bind (R := RpAll X.K) h).imp ?_)
  rintro v c' d st g' r' ⟨c1, xs, e, s1, g1, r1, p1⟩
  rw [← e]
  by_cases hl : xs.length ≤ lim
  · rw [if_pos hl] at p1
    exact ⟨lim_le (by rw [r1.length]; exact hl), Post.newTup g1 p1 r1⟩
  · rw [if_neg hl] at p1; exact p1.elim)
theorem em_lst (h : AM X W es n) : EM X W (.List es pos) (xLst n) := PE.imp (pe_lst h) (by
  rintro σ H Q ⟨c, ρ, rfl, g, s, h⟩
  refine gCan.intro g s ((Post.bind (R := RpAll X.K) h).imp ?_)
  rintro v c' d st g' r' ⟨c1, xs, e, s1, g1, r1, p1⟩
  rw [← e]
  by_cases hl : xs.length ≤ lim
  · rw [if_pos hl] at p1
    exact ⟨lim_le (by rw [r1.length]; exact hl), Post.newLst g1 p1 r1⟩
  · rw [if_neg hl] at p1; exact p1.elim)
theorem em_lstM (h : AM X W es n) : EM X W (.List es pos) (xLstM n) := PE.imp (pe_lst h) (by
  rintro σ H Q ⟨c, ρ, rfl, g, s, h⟩
  refine gCan.intro g s ((Post.bind (R := RpAll X.K) h).imp ?_)
  rintro v c' d st g' r' ⟨c1, xs, e, s1, g1, r1, p1⟩
  rw [← e]
  by_cases hl : xs.length ≤ lim
  · rw [if_pos hl] at p1
    exact ⟨lim_le (by rw [r1.length]; exact hl), Post.newCell g1 p1 fun p hp => cellOk_lst g1 hp r1⟩
  · rw [if_neg hl] at p1; exact p1.elim)
end
end FL
end S_FL4
section S_FL5
set_option Elab.async false
set_option linter.all false
set_option maxRecDepth 100000
set_option maxHeartbeats 4000000
/-! FL5: subscripts, slices, built-in calls, isinstance. -/
namespace FL
open PySem PySem.Spec PyProof.Rows L2

/-! ### subscripts -/
def ixD (μ : Sto) (x : D) (i : Int) : Option D := match x with
  | .str s => if s.length ≤ lim then (atI s.cps.toList i).map fun k => .str ⟨#[k]⟩ else none
  | x => (match rdS μ x with
    | some xs => atI xs i
    | none => none)
def dIx (x y : D) (μ : Sto) : Res D := match y with
  | .int i => (match ixD μ x i with
    | some d => .ok d μ
    | none => .stuck)
  | _ => .stuck
theorem RpAll.atI {K : PySem.W.Frag} {c : Cfg} {vs : List V} {ds : List D} {i : Int} {d : D} (r : RpAll K c vs ds) (h : L2.atI ds i = some d) : ∃ v, L2.atI vs i = some v ∧ Rp K c v d := by
  unfold L2.atI at h ⊢
  rw [r.length]
  cases e : ixN ds.length i with
  | none => rw [e] at h; cases h
  | some j =>
    rw [e] at h
    exact r.get h
theorem om_ix {K : PySem.W.Frag} : OpM K (rIx K) dIx := by
  intro W σ c v u d e Q g rv ru p
  cases ru with
  | int i =>
    have p : Post K W σ c (Rp K) Q (match ixD c.μ d i with
      | some d => .ok d c.μ
      | none => .stuck) := p
    cases q : ixD c.μ d i with
    | none => rw [q] at p; exact p.elim
    | some z =>
      rw [q] at p
      have seq : (match rdS c.μ d with
        | some xs => L2.atI xs i
        | none => none) = some z → rIx K v (.int i) c.H Q := fun h => by
        cases e1 : rdS c.μ d with
        | none => rw [e1] at h; cases h
        | some xs =>
          rw [e1] at h
          obtain ⟨a, vs, rfl, h1, h2⟩ := rdS_ok g rv e1
          obtain ⟨w, h3, h4⟩ := h2.atI h
          have fin := Post.same g p h4
          rcases h1 with h1 | h1
          · exact .inl ⟨a, vs, i, w, rfl, rfl, h1, h3, fin⟩
          · exact .inr (.inl ⟨a, vs, i, w, rfl, rfl, h1, h3, fin⟩)
      cases rv with
      | str s =>
        have q : (if s.length ≤ lim then (L2.atI s.cps.toList i).map fun k => D.str ⟨#[k]⟩ else none) = some z := q
        by_cases hl : s.length ≤ lim
        · rw [if_pos hl] at q
          obtain ⟨k, e1, rfl⟩ := Option.map_eq_some_iff.mp q
          exact .inr (.inr ⟨s, i, k, rfl, rfl, lim_le hl, e1, Post.same g p (.str _)⟩)
        · rw [if_neg hl] at q; cases q
      | non => exact seq q
      | bl b => exact seq q
      | int i => exact seq q
      | tup h1 h2 => exact seq q
      | lst h1 h2 => exact seq q
      | ptr h1 => exact seq q
      | scr h1 => exact seq q
  | _ => exact p.elim
section
variable {X : Cx} {W : WX} {a b e : Expr} {es : List Expr} {pos p2 : Pos} {ma mb m : Rho → Sto → Res D} {n : Rho → Sto → Res (List D)}
theorem em_ix (ha : EM X W a ma) (hb : EM X W b mb) (hs : PlainIx b := by exact fun _ _ => rfl) : EM X W (.Subscript a b pos) (xOp dIx ma mb) := PE.imp (pe_ix ix_seq ha hb hs) fun _ _ _ h => tOp_can om_ix h

/-! ### slices -/
def cutD (xs : List D) (lo hi : Option Int) : List D := (xs.drop (HT.sIx xs.length 0 lo)).take (HT.sIx xs.length xs.length hi - HT.sIx xs.length 0 lo)
theorem RpAll.cut {K : PySem.W.Frag} {c : Cfg} {vs : List V} {ds : List D} (r : RpAll K c vs ds) (lo hi : Option Int) : RpAll K c (cutV vs lo hi) (cutD ds lo hi) := by
  unfold cutV cutD
  rw [r.length]
  exact (r.drop _).take _
def slD (μ : Sto) (x : D) (lo hi : Option Int) : Option D := match x with
  | .str s => if s.length ≤ lim then some (.str (cutS s lo hi)) else none
  | .tup xs => some (.tup (cutD xs lo hi))
  | x => (rdL μ x).map fun xs => .lst (cutD xs lo hi)
def RO : Cfg → Option Int → Option Int → Prop := fun _ o o' => o = o'
def OM (X : Cx) (W : WX) (e : Option Expr) (m : Rho → Sto → Res (Option Int)) : Prop := PO X e (gCan X.K W RO m)
theorem PO.imp {X : Cx} {e : Option Expr} {t t' : TO} (h : PO X e t) (hi : ∀ σ H Q, t' σ H Q → t σ H Q) : PO X e t' := ⟨fun pins s σ H Q I q => h.run pins s σ H Q I (hi σ H Q q)⟩
def oNone : Rho → Sto → Res (Option Int) := fun _ μ => .ok none μ
def oSome (m : Rho → Sto → Res D) : Rho → Sto → Res (Option Int) := fun ρ μ => (m ρ μ).bind fun x μ1 => match x with
  | .int i => .ok (some i) μ1
  | _ => .stuck
theorem xm_none : OM X W none oNone := PO.imp po_none (by
  rintro σ H Q ⟨c, ρ, rfl, g, s, h⟩
  exact Post.same (R := RO) g h rfl)
theorem xm_some (h : EM X W e m) : OM X W (some e) (oSome m) := PO.imp (po_some h) (by
  rintro σ H Q ⟨c, ρ, rfl, g, s, h⟩
  refine gCan.intro g s ((Post.bind (R := Rp X.K) h).imp ?_)
  rintro v c' d st g' r' ⟨c1, x, e, s1, g1, r1, p1⟩
  rw [← e]
  cases r1 with
  | int i => exact ⟨i, rfl, Post.same (R := RO) g1 p1 rfl⟩
  | _ => exact p1.elim)
def xSl (m : Rho → Sto → Res D) (o1 o2 : Rho → Sto → Res (Option Int)) : Rho → Sto → Res D := fun ρ μ => (m ρ μ).bind fun x μ1 => (o1 ρ μ1).bind fun lo μ2 => (o2 ρ μ2).bind fun hi μ3 => match slD μ3 x lo hi with
  | some d => .ok d μ3
  | none => .stuck
theorem em_sl {lo hi : Option Expr} {o1 o2 : Rho → Sto → Res (Option Int)} (h : EM X W e m) (h1 : OM X W lo o1) (h2 : OM X W hi o2) : EM X W (.Subscript e (.Slice lo hi none p2) pos) (xSl m o1 o2) := PE.imp (pe_slice (sl_list.or (sl_tupA.or sl_str)) h h1 h2) (by
  rintro σ H Q ⟨c, ρ, rfl, g, s, h⟩
  refine gCan.intro g s ((Post.bind (R := Rp X.K) h).imp ?_)
  rintro v c' d st g' r' ⟨c1, x, e, s1, g1, r1, p1⟩
  rw [← e]
  refine gCan.intro g1 (s.mono s1) ((Post.bind (R := RO) p1).imp ?_)
  rintro v2 c2' d2 st2 g2' r2' ⟨c2, lo, e2, s2, g2, r2, p2⟩
  rw [← e2]
  cases r2
  refine gCan.intro g2 (s.mono (s1.trans s2)) ((Post.bind (R := RO) p2).imp ?_)
  rintro v3 c3' d3 st3 g3' r3' ⟨c3, hi, e3, s3, g3, r3, p3⟩
  rw [← e3]
  cases r3
  have r1 := r1.mono (s2.trans s3).toMon
  cases q : slD c3.μ x v2 v3 with
  | none => rw [q] at p3; exact p3.elim
  | some z =>
    rw [q] at p3
    have seq : (rdL c3.μ x).map (fun xs => D.lst (cutD xs v2 v3)) = some z → ∃ a xs, v = .ref a ∧ SqL X.K c3.H a xs ∧ ∀ p, c3.H p = none → Q (.ref p) (upd c3.H p (.lst (cutV xs v2 v3))) := fun h => by
      obtain ⟨xs, e1, rfl⟩ := Option.map_eq_some_iff.mp h
      obtain ⟨a, vs, rfl, h1, h2⟩ := rdL_ok g3 r1 e1
      exact ⟨a, vs, rfl, h1, Post.newLst g3 p3 (h2.cut _ _)⟩
    cases r1 with
    | str s =>
      have q : (if s.length ≤ lim then some (D.str (cutS s v2 v3)) else none) = some z := q
      by_cases hl : s.length ≤ lim
      · rw [if_pos hl] at q
        cases q
        exact .inr (.inr ⟨s, rfl, lim_le hl, Post.same g3 p3 (.str _)⟩)
      · rw [if_neg hl] at q; cases q
    | tup h1 h2 =>
      rename_i a vs ds
      cases q
      refine .inr (.inl ⟨a, vs, rfl, h1.sq, fun hw => ?_, fun _ => Post.newTup g3 p3 (h2.cut _ _)⟩)
      have e1 : cutD ds v2 v3 = ds := by
        unfold cutD
        rw [← h2.length, hw.1, hw.2, List.drop_zero, Nat.sub_zero, h2.length, List.take_length]
      rw [e1] at p3
      exact Post.same g3 p3 (.tup h1 h2)
    | non => exact .inl (seq q)
    | bl b => exact .inl (seq q)
    | int i => exact .inl (seq q)
    | lst h1 h2 => exact .inl (seq q)
    | ptr h1 => exact .inl (seq q)
    | scr h1 => exact .inl (seq q))

/-! ### -x -/
def xNeg (m : Rho → Sto → Res D) : Rho → Sto → Res D := fun ρ μ => (m ρ μ).bind fun x μ1 => match x with
  | .int i => .ok (.int (-i)) μ1
  | _ => .stuck
theorem em_neg (h : EM X W a m) : EM X W (.UnaryOp .USub a pos) (xNeg m) := PE.imp (pe_un un_neg h) (by
  rintro σ H Q ⟨c, ρ, rfl, g, s, h⟩
  refine gCan.intro g s ((Post.bind (R := Rp X.K) h).imp ?_)
  rintro v c' d st g' r' ⟨c1, x, e, s1, g1, r1, p1⟩
  rw [← e]
  cases r1 with
  | int i => exact ⟨i, rfl, Post.same g1 p1 (.int _)⟩
  | _ => exact p1.elim)
end

/-! ### built-in calls -/
def CallM (K : PySem.W.Frag) (r : List V → Hp → VK → Prop) (op : List D → Sto → Res D) : Prop :=
  ∀ (W : WX) (σ : L2.St) (c : Cfg) (vs : List V) (ds : List D) (Q : VK), Good K c → RpAll K c vs ds → Post K W σ c (Rp K) Q (op ds c.μ) → r vs c.H Q
def xCall (op : List D → Sto → Res D) (n : Rho → Sto → Res (List D)) : Rho → Sto → Res D := fun ρ μ => (n ρ μ).bind op
theorem CallR.or {X : Cx} {f : Value} {r r' : List V → Hp → VK → Prop} (h : CallR X f r) (h' : CallR X f r') : CallR X f (fun xs H Q => r xs H Q ∨ r' xs H Q) := by
  intro pins s σ H xs us Q I rv q
  rcases q with q | q
  · exact h pins s σ H xs us Q I rv q
  · exact h' pins s σ H xs us Q I rv q
theorem tCB_can {K : PySem.W.Frag} {W : WX} {r : List V → Hp → VK → Prop} {op : List D → Sto → Res D} {n : Rho → Sto → Res (List D)} (hm : CallM K r op) {σ : L2.St} {H : Hp} {Q : VK} (h : gCan K W (Rp K) (xCall op n) σ H Q) : tCB r (gCan K W (RpAll K) n) σ H Q := by
  obtain ⟨c, ρ, rfl, g, s, h⟩ := h
  refine gCan.intro g s ((Post.bind (R := RpAll K) h).imp ?_)
  rintro v c' d st g' r' ⟨c1, a, e, s1, g1, r1, p1⟩
  rw [← e]
  exact hm W σ c1 v a Q g1 r1 p1
section
variable {X : Cx} {W : WX} {a b e : Expr} {es : List Expr} {pos p : Pos} {x : Str} {id T : String} {r : List V → Hp → VK → Prop} {op : List D → Sto → Res D} {n : Rho → Sto → Res (List D)}
theorem em_callB (hc : CallR X (.builtin id) r) (ho : CallM X.K r op) (hg : Gl X x) (hm : X.mg x = none) (hv : bootBuiltins x = some (.builtin id)) (ha : AM X W (e :: es) n) (hn : x ≠ "__name__" := by decide) (hdb : (x == ("__debug__" : Str)) = false := by decide)
    (he : starEach (e :: es) X.env = (false, eval e X.env) :: starEach es X.env := by rfl) (hpl : (backTo pos (starEach es X.env)).any (·.1) = false := by rfl) : EM X W (.Call (.Name x p) (e :: es) [] pos) (xCall op n) :=
  PE.imp (pe_callB hc hg hm hv ha hn hdb he hpl) fun _ _ _ h => tCB_can ho h
theorem em_callTy (hc : CallR X (.type T) r) (ho : CallM X.K r op) (hg : Gl X x) (hm : X.mg x = none) (hv : bootBuiltins x = some (.type T)) (ha : AM X W (e :: es) n) (hn : x ≠ "__name__" := by decide) (hdb : (x == ("__debug__" : Str)) = false := by decide)
    (he : starEach (e :: es) X.env = (false, eval e X.env) :: starEach es X.env := by rfl) (hpl : (backTo pos (starEach es X.env)).any (·.1) = false := by rfl) : EM X W (.Call (.Name x p) (e :: es) [] pos) (xCall op n) :=
  PE.imp (pe_callTy hc hg hm hv ha hn hdb he hpl) fun _ _ _ h => tCB_can ho h
end
/-- len -/
def lenD (μ : Sto) : D → Option Int
  | .str s => if s.length ≤ lim then some s.length else none
  | x => (rdS μ x).map fun xs => (xs.length : Int)
def dLen (ds : List D) (μ : Sto) : Res D := match ds with
  | [x] => (match lenD μ x with
    | some n => .ok (.int n) μ
    | none => .stuck)
  | _ => .stuck
abbrev rLenA (K : PySem.W.Frag) : List V → Hp → VK → Prop := fun xs H Q => (∃ p ys, xs = [.ref p] ∧ (SqL K H p ys ∨ SqT K H p ys) ∧ Q (.int ys.length) H) ∨ ∃ z, xs = [.str z] ∧ z.length ≤ sizeLine ∧ Q (.int z.length) H
theorem call_lenA {X : Cx} : CallR X (.builtin "len") (rLenA X.K) := CallR.or call_len_seq call_len_str
theorem RpAll.one {K : PySem.W.Frag} {c : Cfg} {vs : List V} {d : D} (r : RpAll K c vs [d]) : ∃ v, vs = [v] ∧ Rp K c v d := by
  cases r with
  | cons h r => cases r; exact ⟨_, rfl, h⟩
theorem RpAll.two {K : PySem.W.Frag} {c : Cfg} {vs : List V} {d e : D} (r : RpAll K c vs [d, e]) : ∃ v u, vs = [v, u] ∧ Rp K c v d ∧ Rp K c u e := by
  cases r with
  | cons h r =>
    obtain ⟨u, rfl, hu⟩ := r.one
    exact ⟨_, u, rfl, h, hu⟩
theorem cm_len {K : PySem.W.Frag} : CallM K (rLenA K) dLen := by
  intro W σ c vs ds Q g rv p
  match ds, p, rv with
  | [x], p, rv =>
    obtain ⟨v, rfl, r1⟩ := rv.one
    have p : Post K W σ c (Rp K) Q (match lenD c.μ x with
      | some n => .ok (.int n) c.μ
      | none => .stuck) := p
    cases q : lenD c.μ x with
    | none => rw [q] at p; exact p.elim
    | some z =>
      rw [q] at p
      have seq : (rdS c.μ x).map (fun xs => (xs.length : Int)) = some z → rLenA K [v] c.H Q := fun h => by
        obtain ⟨xs, e1, rfl⟩ := Option.map_eq_some_iff.mp h
        obtain ⟨a, vs, rfl, h1, h2⟩ := rdS_ok g r1 e1
        exact .inl ⟨a, vs, rfl, h1, by rw [h2.length]; exact Post.same g p (.int _)⟩
      cases r1 with
      | str s =>
        have q : (if s.length ≤ lim then some (s.length : Int) else none) = some z := q
        by_cases hl : s.length ≤ lim
        · rw [if_pos hl] at q
          cases q
          exact .inr ⟨s, rfl, lim_le hl, Post.same g p (.int _)⟩
        · rw [if_neg hl] at q; cases q
      | non => exact seq q
      | bl b => exact seq q
      | int i => exact seq q
      | tup h1 h2 => exact seq q
      | lst h1 h2 => exact seq q
      | ptr h1 => exact seq q
      | scr h1 => exact seq q
  | [], p, _ => exact p.elim
  | _ :: _ :: _, p, _ => exact p.elim
/-- abs, int, tuple, list -/
def dAbs (ds : List D) (μ : Sto) : Res D := match ds with
  | [.int i] => .ok (.int (if i < 0 then -i else i)) μ
  | _ => .stuck
theorem cm_abs {K : PySem.W.Frag} : CallM K (fun xs H Q => ∃ i, xs = [.int i] ∧ Q (.int (if i < 0 then -i else i)) H) dAbs := by
  intro W σ c vs ds Q g rv p
  match ds, p, rv with
  | [.int i], p, rv => obtain ⟨v, rfl, r1⟩ := rv.one; cases r1; exact ⟨i, rfl, Post.same g p (.int _)⟩
  | [.non], p, _ => exact p.elim
  | [.bl _], p, _ => exact p.elim
  | [.str _], p, _ => exact p.elim
  | [.tup _], p, _ => exact p.elim
  | [.lst _], p, _ => exact p.elim
  | [.ptr _], p, _ => exact p.elim
  | [.scr _], p, _ => exact p.elim
  | [], p, _ => exact p.elim
  | a :: _ :: _, p, _ => cases a <;> exact p.elim
def dInt (ds : List D) (μ : Sto) : Res D := match ds with
  | [.int i] => .ok (.int i) μ
  | [.bl b] => .ok (.int (if b then 1 else 0)) μ
  | _ => .stuck
theorem cm_int {K : PySem.W.Frag} : CallM K (fun xs H Q => (∃ i, xs = [.int i] ∧ Q (.int i) H) ∨ ∃ k, xs = [.bl k] ∧ Q (.int (if k then 1 else 0)) H) dInt := by
  intro W σ c vs ds Q g rv p
  match ds, p, rv with
  | [.int i], p, rv => obtain ⟨v, rfl, r1⟩ := rv.one; cases r1; exact .inl ⟨i, rfl, Post.same g p (.int _)⟩
  | [.bl b], p, rv => obtain ⟨v, rfl, r1⟩ := rv.one; cases r1; exact .inr ⟨b, rfl, Post.same g p (.int _)⟩
  | [.non], p, _ => exact p.elim
  | [.str _], p, _ => exact p.elim
  | [.tup _], p, _ => exact p.elim
  | [.lst _], p, _ => exact p.elim
  | [.ptr _], p, _ => exact p.elim
  | [.scr _], p, _ => exact p.elim
  | [], p, _ => exact p.elim
  | a :: _ :: _, p, _ => cases a <;> exact p.elim
def dTuple (ds : List D) (μ : Sto) : Res D := match ds with
  | [x] => (match rdS μ x with
    | some xs => .ok (.tup xs) μ
    | none => .stuck)
  | _ => .stuck
theorem cm_tuple {K : PySem.W.Frag} : CallM K (fun xs H Q => ∃ p ys, xs = [.ref p] ∧ ((SqL K H p ys ∧ ∀ l, H l = none → Q (.ref l) (upd H l (.tup ys))) ∨ (SqT K H p ys ∧ Q (.ref p) H))) dTuple := by
  intro W σ c vs ds Q g rv p
  match ds, p, rv with
  | [x], p, rv =>
    obtain ⟨v, rfl, r1⟩ := rv.one
    have p : Post K W σ c (Rp K) Q (match rdS c.μ x with
      | some xs => .ok (.tup xs) c.μ
      | none => .stuck) := p
    cases q : rdS c.μ x with
    | none => rw [q] at p; exact p.elim
    | some xs =>
      rw [q] at p
      unfold rdS at q
      cases e1 : rdT x with
      | some ys =>
        rw [e1] at q; cases q
        cases r1 with
        | tup h1 h2 => cases e1; exact ⟨_, _, rfl, .inr ⟨h1.sq, Post.same g p (.tup h1 h2)⟩⟩
        | _ => cases e1
      | none =>
        rw [e1] at q
        obtain ⟨a, vs, rfl, h1, h2⟩ := rdL_ok g r1 q
        exact ⟨a, vs, rfl, .inl ⟨h1, Post.newTup g p h2⟩⟩
  | [], p, _ => exact p.elim
  | _ :: _ :: _, p, _ => exact p.elim
def dList (ds : List D) (μ : Sto) : Res D := match ds with
  | [x] => (match rdS μ x with
    | some xs => .ok (.lst xs) μ
    | none => .stuck)
  | _ => .stuck
theorem cm_list {K : PySem.W.Frag} : CallM K (fun xs H Q => ∃ p ys, xs = [.ref p] ∧ (SqL K H p ys ∨ SqT K H p ys) ∧ ∀ l, H l = none → Q (.ref l) (upd H l (.lst ys))) dList := by
  intro W σ c vs ds Q g rv p
  match ds, p, rv with
  | [x], p, rv =>
    obtain ⟨v, rfl, r1⟩ := rv.one
    have p : Post K W σ c (Rp K) Q (match rdS c.μ x with
      | some xs => .ok (.lst xs) c.μ
      | none => .stuck) := p
    cases q : rdS c.μ x with
    | none => rw [q] at p; exact p.elim
    | some xs =>
      rw [q] at p
      obtain ⟨a, vs, rfl, h1, h2⟩ := rdS_ok g r1 q
      exact ⟨a, vs, rfl, h1, Post.newLst g p h2⟩
  | [], p, _ => exact p.elim
  | _ :: _ :: _, p, _ => exact p.elim
/-- ints, bools out of data -/
def intsD : List D → Option (List Int)
  | [] => some []
  | .int i :: r => (intsD r).map (i :: ·)
  | _ :: _ => none
def blsD : List D → Option (List Bool)
  | [] => some []
  | .bl b :: r => (blsD r).map (b :: ·)
  | _ :: _ => none
theorem intsD_eq : ∀ {ds : List D} {ns : List Int}, intsD ds = some ns → ds = ns.map D.int
  | [], _, h => by cases h; rfl
  | .int i :: r, ns, h => by
    obtain ⟨ms, e, rfl⟩ := Option.map_eq_some_iff.mp (show (intsD r).map (i :: ·) = some ns from h)
    rw [intsD_eq e]; rfl
  | .non :: _, _, h => by cases h
  | .bl _ :: _, _, h => by cases h
  | .str _ :: _, _, h => by cases h
  | .tup _ :: _, _, h => by cases h
  | .lst _ :: _, _, h => by cases h
  | .ptr _ :: _, _, h => by cases h
  | .scr _ :: _, _, h => by cases h
theorem blsD_eq : ∀ {ds : List D} {ns : List Bool}, blsD ds = some ns → ds = ns.map D.bl
  | [], _, h => by cases h; rfl
  | .bl i :: r, ns, h => by
    obtain ⟨ms, e, rfl⟩ := Option.map_eq_some_iff.mp (show (blsD r).map (i :: ·) = some ns from h)
    rw [blsD_eq e]; rfl
  | .non :: _, _, h => by cases h
  | .int _ :: _, _, h => by cases h
  | .str _ :: _, _, h => by cases h
  | .tup _ :: _, _, h => by cases h
  | .lst _ :: _, _, h => by cases h
  | .ptr _ :: _, _, h => by cases h
  | .scr _ :: _, _, h => by cases h
theorem intsD_map (ns : List Int) : intsD (ns.map D.int) = some ns := by
  induction ns with
  | nil => rfl
  | cons n ns ih => show (intsD (ns.map D.int)).map (n :: ·) = _; rw [ih]; rfl
theorem blsD_map (ns : List Bool) : blsD (ns.map D.bl) = some ns := by
  induction ns with
  | nil => rfl
  | cons n ns ih => show (blsD (ns.map D.bl)).map (n :: ·) = _; rw [ih]; rfl
theorem RpAll.intsV {K : PySem.W.Frag} {c : Cfg} : ∀ {vs : List V} {ns : List Int}, RpAll K c vs (ns.map D.int) → vs = ns.map V.int
  | _, [], r => by cases r; rfl
  | _, n :: ns, r => by
    cases r with
    | cons h r => cases h; rw [RpAll.intsV r]; rfl
theorem RpAll.blsV {K : PySem.W.Frag} {c : Cfg} : ∀ {vs : List V} {ns : List Bool}, RpAll K c vs (ns.map D.bl) → vs = ns.map V.bl
  | _, [], r => by cases r; rfl
  | _, n :: ns, r => by
    cases r with
    | cons h r => cases h; rw [RpAll.blsV r]; rfl
def rdInts (μ : Sto) (x : D) : Option (List Int) := (rdL μ x).bind intsD
def rdBls (μ : Sto) (x : D) : Option (List Bool) := (rdL μ x).bind blsD
theorem rdInts_ok {K : PySem.W.Frag} {c : Cfg} (g : Good K c) {v : V} {d : D} {ns : List Int} (r : Rp K c v d) (h : rdInts c.μ d = some ns) : ∃ a, v = .ref a ∧ SqL K c.H a (ns.map V.int) := by
  obtain ⟨xs, e1, e2⟩ := Option.bind_eq_some_iff.mp h
  obtain ⟨a, vs, rfl, h1, h2⟩ := rdL_ok g r e1
  rw [intsD_eq e2] at h2
  rw [h2.intsV] at h1
  exact ⟨a, rfl, h1⟩
theorem rdBls_ok {K : PySem.W.Frag} {c : Cfg} (g : Good K c) {v : V} {d : D} {ns : List Bool} (r : Rp K c v d) (h : rdBls c.μ d = some ns) : ∃ a, v = .ref a ∧ SqL K c.H a (ns.map V.bl) := by
  obtain ⟨xs, e1, e2⟩ := Option.bind_eq_some_iff.mp h
  obtain ⟨a, vs, rfl, h1, h2⟩ := rdL_ok g r e1
  rw [blsD_eq e2] at h2
  rw [h2.blsV] at h1
  exact ⟨a, rfl, h1⟩
def dSum (ds : List D) (μ : Sto) : Res D := match ds with
  | [x] => (match rdInts μ x with
    | some ns => .ok (.int ns.sum) μ
    | none => .stuck)
  | _ => .stuck
theorem cm_sum {K : PySem.W.Frag} : CallM K (rSum K) dSum := by
  intro W σ c vs ds Q g rv p
  match ds, p, rv with
  | [x], p, rv =>
    obtain ⟨v, rfl, r1⟩ := rv.one
    have p : Post K W σ c (Rp K) Q (match rdInts c.μ x with
      | some ns => .ok (.int ns.sum) c.μ
      | none => .stuck) := p
    cases q : rdInts c.μ x with
    | none => rw [q] at p; exact p.elim
    | some ns =>
      rw [q] at p
      obtain ⟨a, rfl, h1⟩ := rdInts_ok g r1 q
      exact ⟨a, ns, rfl, h1, Post.same g p (.int _)⟩
  | [], p, _ => exact p.elim
  | _ :: _ :: _, p, _ => exact p.elim
def dAll (ds : List D) (μ : Sto) : Res D := match ds with
  | [x] => (match rdBls μ x with
    | some ns => .ok (.bl (ns.all id)) μ
    | none => .stuck)
  | _ => .stuck
def dAny (ds : List D) (μ : Sto) : Res D := match ds with
  | [x] => (match rdBls μ x with
    | some ns => .ok (.bl (ns.any id)) μ
    | none => .stuck)
  | _ => .stuck
theorem cm_all {K : PySem.W.Frag} : CallM K (rAll K) dAll := by
  intro W σ c vs ds Q g rv p
  match ds, p, rv with
  | [x], p, rv =>
    obtain ⟨v, rfl, r1⟩ := rv.one
    have p : Post K W σ c (Rp K) Q (match rdBls c.μ x with
      | some ns => .ok (.bl (ns.all id)) c.μ
      | none => .stuck) := p
    cases q : rdBls c.μ x with
    | none => rw [q] at p; exact p.elim
    | some ns =>
      rw [q] at p
      obtain ⟨a, rfl, h1⟩ := rdBls_ok g r1 q
      exact ⟨a, ns, rfl, h1, Post.same g p (.bl _)⟩
  | [], p, _ => exact p.elim
  | _ :: _ :: _, p, _ => exact p.elim
theorem cm_any {K : PySem.W.Frag} : CallM K (rAny K) dAny := by
  intro W σ c vs ds Q g rv p
  match ds, p, rv with
  | [x], p, rv =>
    obtain ⟨v, rfl, r1⟩ := rv.one
    have p : Post K W σ c (Rp K) Q (match rdBls c.μ x with
      | some ns => .ok (.bl (ns.any id)) c.μ
      | none => .stuck) := p
    cases q : rdBls c.μ x with
    | none => rw [q] at p; exact p.elim
    | some ns =>
      rw [q] at p
      obtain ⟨a, rfl, h1⟩ := rdBls_ok g r1 q
      exact ⟨a, ns, rfl, h1, Post.same g p (.bl _)⟩
  | [], p, _ => exact p.elim
  | _ :: _ :: _, p, _ => exact p.elim
/-- min, max of two ints, of a list of ints -/
def maxL (n : Int) : List Int → Int
  | [] => n
  | m :: r => maxL (if m > n then m else n) r
def minL (n : Int) : List Int → Int
  | [] => n
  | m :: r => minL (if m < n then m else n) r
theorem maxL_mem : ∀ (ns : List Int) (n : Int), maxL n ns ∈ n :: ns
  | [], n => by simp [maxL]
  | m :: r, n => by
    have h := maxL_mem r (if m > n then m else n)
    show maxL (if m > n then m else n) r ∈ n :: m :: r
    generalize maxL (if m > n then m else n) r = z at h ⊢
    rw [List.mem_cons] at h
    rcases h with h | h
    · split at h
      · subst h; simp
      · subst h; simp
    · simp [h]
theorem maxL_ge : ∀ (ns : List Int) (n y : Int), y ∈ n :: ns → y ≤ maxL n ns
  | [], n, y, h => by simp [maxL] at h ⊢; omega
  | m :: r, n, y, h => by
    show y ≤ maxL (if m > n then m else n) r
    have h1 := maxL_ge r (if m > n then m else n)
    have h2 := h1 (if m > n then m else n) List.mem_cons_self
    rw [List.mem_cons, List.mem_cons] at h
    rcases h with h | h | h
    · subst h; split at h2 <;> split <;> omega
    · subst h; split at h2 <;> split <;> omega
    · exact h1 y (List.mem_cons_of_mem _ h)
theorem minL_mem : ∀ (ns : List Int) (n : Int), minL n ns ∈ n :: ns
  | [], n => by simp [minL]
  | m :: r, n => by
    have h := minL_mem r (if m < n then m else n)
    show minL (if m < n then m else n) r ∈ n :: m :: r
    generalize minL (if m < n then m else n) r = z at h ⊢
    rw [List.mem_cons] at h
    rcases h with h | h
    · split at h
      · subst h; simp
      · subst h; simp
    · simp [h]
theorem minL_le : ∀ (ns : List Int) (n y : Int), y ∈ n :: ns → minL n ns ≤ y
  | [], n, y, h => by simp [minL] at h ⊢; omega
  | m :: r, n, y, h => by
    show minL (if m < n then m else n) r ≤ y
    have h1 := minL_le r (if m < n then m else n)
    have h2 := h1 (if m < n then m else n) List.mem_cons_self
    rw [List.mem_cons, List.mem_cons] at h
    rcases h with h | h | h
    · subst h; split at h2 <;> split <;> omega
    · subst h; split at h2 <;> split <;> omega
    · exact h1 y (List.mem_cons_of_mem _ h)
def dMax (ds : List D) (μ : Sto) : Res D := match ds with
  | [.int i, .int j] => .ok (.int (if j > i then j else i)) μ
  | [x] => (match rdInts μ x with
    | some (n :: ns) => .ok (.int (maxL n ns)) μ
    | _ => .stuck)
  | _ => .stuck
def dMin (ds : List D) (μ : Sto) : Res D := match ds with
  | [.int i, .int j] => .ok (.int (if j < i then j else i)) μ
  | [x] => (match rdInts μ x with
    | some (n :: ns) => .ok (.int (minL n ns)) μ
    | _ => .stuck)
  | _ => .stuck
abbrev rMaxA (K : PySem.W.Frag) : List V → Hp → VK → Prop := fun xs H Q => (∃ i j, xs = [.int i, .int j] ∧ Q (.int (if j > i then j else i)) H) ∨ rMax K xs H Q
abbrev rMinA (K : PySem.W.Frag) : List V → Hp → VK → Prop := fun xs H Q => (∃ i j, xs = [.int i, .int j] ∧ Q (.int (if j < i then j else i)) H) ∨ rMin K xs H Q
theorem call_maxA {X : Cx} (hc : X.calm = true) : CallR X (.builtin "max") (rMaxA X.K) := CallR.or (call_max2 hc) (cr_max hc)
theorem call_minA {X : Cx} (hc : X.calm = true) : CallR X (.builtin "min") (rMinA X.K) := CallR.or (call_min2 hc) (cr_min hc)
theorem dMax_one {x : D} {μ : Sto} : dMax [x] μ = (match rdInts μ x with
    | some (n :: ns) => .ok (.int (maxL n ns)) μ
    | _ => .stuck) := by cases x <;> rfl
theorem dMin_one {x : D} {μ : Sto} : dMin [x] μ = (match rdInts μ x with
    | some (n :: ns) => .ok (.int (minL n ns)) μ
    | _ => .stuck) := by cases x <;> rfl
theorem cm_max {K : PySem.W.Frag} : CallM K (rMaxA K) dMax := by
  intro W σ c vs ds Q g rv p
  match ds, p, rv with
  | [x], p, rv =>
    obtain ⟨v, rfl, r1⟩ := rv.one
    rw [dMax_one] at p
    cases q : rdInts c.μ x with
    | none => rw [q] at p; exact p.elim
    | some ns =>
      rw [q] at p
      cases ns with
      | nil => exact p.elim
      | cons n ns =>
        obtain ⟨a, rfl, h1⟩ := rdInts_ok g r1 q
        refine .inr ⟨a, n :: ns, rfl, h1, by simp, fun m hm hy => ?_⟩
        have e : m = maxL n ns := Int.le_antisymm (maxL_ge ns n m hm) (hy _ (maxL_mem ns n))
        rw [e]
        exact Post.same g p (.int _)
  | [x, y], p, rv =>
    obtain ⟨v, u, rfl, r1, r2⟩ := rv.two
    cases r1 with
    | int i =>
      cases r2 with
      | int j => exact .inl ⟨i, j, rfl, Post.same g p (.int _)⟩
      | _ => exact p.elim
    | _ => cases y <;> exact p.elim
  | [], p, _ => exact p.elim
  | a :: b :: _ :: _, p, _ => cases a <;> cases b <;> exact p.elim
theorem cm_min {K : PySem.W.Frag} : CallM K (rMinA K) dMin := by
  intro W σ c vs ds Q g rv p
  match ds, p, rv with
  | [x], p, rv =>
    obtain ⟨v, rfl, r1⟩ := rv.one
    rw [dMin_one] at p
    cases q : rdInts c.μ x with
    | none => rw [q] at p; exact p.elim
    | some ns =>
      rw [q] at p
      cases ns with
      | nil => exact p.elim
      | cons n ns =>
        obtain ⟨a, rfl, h1⟩ := rdInts_ok g r1 q
        refine .inr ⟨a, n :: ns, rfl, h1, by simp, fun m hm hy => ?_⟩
        have e : m = minL n ns := Int.le_antisymm (hy _ (minL_mem ns n)) (minL_le ns n m hm)
        rw [e]
        exact Post.same g p (.int _)
  | [x, y], p, rv =>
    obtain ⟨v, u, rfl, r1, r2⟩ := rv.two
    cases r1 with
    | int i =>
      cases r2 with
      | int j => exact .inl ⟨i, j, rfl, Post.same g p (.int _)⟩
      | _ => exact p.elim
    | _ => cases y <;> exact p.elim
  | [], p, _ => exact p.elim
  | a :: b :: _ :: _, p, _ => cases a <;> cases b <;> exact p.elim
end FL
end S_FL5
section S_FL6
set_option Elab.async false
set_option linter.all false
set_option maxRecDepth 100000
set_option maxHeartbeats 4000000
/-! FL6: statements: blocks, return, if, assignment and its targets, while, for. -/
namespace FL
open PySem PySem.Spec PyProof.Rows L2

inductive SRes where
  | nx (ρ : Rho) (μ : Sto) | rt (d : D) (μ : Sto) | bk (ρ : Rho) (μ : Sto) | ct (ρ : Rho) (μ : Sto) | exc (x : Ex) (ρ : Rho) (μ : Sto) | stuck
abbrev SMir := Rho → Sto → SRes
/-- a value, then the rest -/
def sB {α : Type} (r : Res α) (ρ : Rho) (k : α → Sto → SRes) : SRes := match r with
  | .ok a μ => k a μ
  | .exc x μ => .exc x ρ μ
  | .stuck => .stuck
/-- a statement, then the rest -/
def SRes.seq (r : SRes) (k : SMir) : SRes := match r with
  | .nx ρ μ => k ρ μ
  | r => r
/-- a turn of a loop, then the rest -/
def SRes.turn (r : SRes) (k : SMir) : SRes := match r with
  | .nx ρ μ => k ρ μ
  | .ct ρ μ => k ρ μ
  | .bk ρ μ => .nx ρ μ
  | r => r
@[simp] theorem sB_ok {α : Type} (a : α) (μ : Sto) (ρ : Rho) (k : α → Sto → SRes) : sB (.ok a μ) ρ k = k a μ := rfl
@[simp] theorem sB_exc {α : Type} (x : Ex) (μ : Sto) (ρ : Rho) (k : α → Sto → SRes) : sB (.exc x μ) ρ k = .exc x ρ μ := rfl
@[simp] theorem sB_stuck {α : Type} (ρ : Rho) (k : α → Sto → SRes) : sB .stuck ρ k = .stuck := rfl
@[simp] theorem seq_nx (ρ : Rho) (μ : Sto) (k : SMir) : (SRes.nx ρ μ).seq k = k ρ μ := rfl
@[simp] theorem seq_rt (d : D) (μ : Sto) (k : SMir) : (SRes.rt d μ).seq k = .rt d μ := rfl
@[simp] theorem seq_bk (ρ : Rho) (μ : Sto) (k : SMir) : (SRes.bk ρ μ).seq k = .bk ρ μ := rfl
@[simp] theorem seq_ct (ρ : Rho) (μ : Sto) (k : SMir) : (SRes.ct ρ μ).seq k = .ct ρ μ := rfl
@[simp] theorem seq_exc (x : Ex) (ρ : Rho) (μ : Sto) (k : SMir) : (SRes.exc x ρ μ).seq k = .exc x ρ μ := rfl
@[simp] theorem seq_stuck (k : SMir) : SRes.stuck.seq k = .stuck := rfl
@[simp] theorem turn_nx (ρ : Rho) (μ : Sto) (k : SMir) : (SRes.nx ρ μ).turn k = k ρ μ := rfl
@[simp] theorem turn_rt (d : D) (μ : Sto) (k : SMir) : (SRes.rt d μ).turn k = .rt d μ := rfl
@[simp] theorem turn_bk (ρ : Rho) (μ : Sto) (k : SMir) : (SRes.bk ρ μ).turn k = .nx ρ μ := rfl
@[simp] theorem turn_ct (ρ : Rho) (μ : Sto) (k : SMir) : (SRes.ct ρ μ).turn k = k ρ μ := rfl
@[simp] theorem turn_exc (x : Ex) (ρ : Rho) (μ : Sto) (k : SMir) : (SRes.exc x ρ μ).turn k = .exc x ρ μ := rfl
@[simp] theorem turn_stuck (k : SMir) : SRes.stuck.turn k = .stuck := rfl
section
variable (K : PySem.W.Frag)
def PostS (W : WX) (D' : Ends) (c : Cfg) : SRes → Prop
  | .nx ρ μ => ∀ σ c', Step c c' → Good K c' → c'.μ = μ → Slots K c' σ ρ → D'.nx σ c'.H
  | .rt d μ => ∀ v c', Step c c' → Good K c' → c'.μ = μ → Rp K c' v d → D'.rt v c'.H
  | .bk ρ μ => ∀ σ c', Step c c' → Good K c' → c'.μ = μ → Slots K c' σ ρ → D'.bk σ c'.H
  | .ct ρ μ => ∀ σ c', Step c c' → Good K c' → c'.μ = μ → Slots K c' σ ρ → D'.ct σ c'.H
  | .exc x ρ μ => ∀ σ c' dd, Step c c' → Good K c' → c'.μ = μ → Slots K c' σ ρ → ExAt K c' x dd → W (.ref (cad K x.cls)) dd σ c'.H
  | .stuck => False
def sCan (W : WX) (m : SMir) : TS := fun D' σ H => ∃ c ρ, c.H = H ∧ Good K c ∧ Slots K c σ ρ ∧ PostS K W D' c (m ρ c.μ)
end
def SM (X : Cx) (W : WX) (s : Stmt) (m : SMir) : Prop := PS X s (sCan X.K W m)
def BM (X : Cx) (W : WX) (s : List Stmt) (m : SMir) : Prop := PSs X s (sCan X.K W m)
section
variable {K : PySem.W.Frag} {W : WX} {σ : L2.St} {c c1 : Cfg} {ρ : Rho} {D' : Ends}
theorem sCan.intro {m : SMir} (g : Good K c) (s : Slots K c σ ρ) (h : PostS K W D' c (m ρ c.μ)) : sCan K W m D' σ c.H := ⟨c, ρ, rfl, g, s, h⟩
theorem PostS.step {r : SRes} (h : PostS K W D' c r) (s : Step c c1) : PostS K W D' c1 r := by
  cases r with
  | nx ρ μ => exact fun v c' s' g e q => h v c' (s.trans s') g e q
  | rt d μ => exact fun v c' s' g e q => h v c' (s.trans s') g e q
  | bk ρ μ => exact fun v c' s' g e q => h v c' (s.trans s') g e q
  | ct ρ μ => exact fun v c' s' g e q => h v c' (s.trans s') g e q
  | exc x ρ μ => exact fun v c' dd s' g e q => h v c' dd (s.trans s') g e q
  | stuck => exact h
/-- a value first -/
theorem PostS.ofB {α β : Type} {R : Cfg → β → α → Prop} {r : Res α} {k : α → Sto → SRes} (h : PostS K W D' c (sB r ρ k)) (s : Slots K c σ ρ) :
    Post K W σ c R (fun v H1 => ∃ c1 a, c1.H = H1 ∧ Step c c1 ∧ Good K c1 ∧ R c1 v a ∧ PostS K W D' c1 (k a c1.μ)) r := by
  cases r with
  | ok d μ =>
    intro v c' st g e q
    refine ⟨c', d, rfl, st, g, q, ?_⟩
    rw [e]
    exact PostS.step h st
  | exc x μ => exact fun c' dd st g e q => h σ c' dd st g e (s.mono st) q
  | stuck => exact h
/-- a statement first -/
theorem PostS.ofSeq {r : SRes} {k : SMir} (h : PostS K W D' c (r.seq k)) :
    PostS K W { D' with nx := fun σ H => ∃ c1 ρ1, c1.H = H ∧ Step c c1 ∧ Good K c1 ∧ Slots K c1 σ ρ1 ∧ PostS K W D' c1 (k ρ1 c1.μ) } c r := by
  cases r with
  | nx ρ μ =>
    intro σ c' st g e q
    refine ⟨c', ρ, rfl, st, g, q, ?_⟩
    rw [e]
    exact PostS.step h st
  | rt d μ => exact h
  | bk ρ μ => exact h
  | ct ρ μ => exact h
  | exc x ρ μ => exact h
  | stuck => exact h
theorem PostS.ofTurn {r : SRes} {k : SMir} (h : PostS K W D' c (r.turn k)) :
    PostS K W { D' with nx := fun σ H => (∃ c1 ρ1, c1.H = H ∧ Step c c1 ∧ Good K c1 ∧ Slots K c1 σ ρ1 ∧ PostS K W D' c1 (k ρ1 c1.μ)), ct := fun σ H => (∃ c1 ρ1, c1.H = H ∧ Step c c1 ∧ Good K c1 ∧ Slots K c1 σ ρ1 ∧ PostS K W D' c1 (k ρ1 c1.μ)), bk := D'.nx } c r := by
  cases r with
  | nx ρ μ =>
    intro σ c' st g e q
    refine ⟨c', ρ, rfl, st, g, q, ?_⟩
    rw [e]
    exact PostS.step h st
  | rt d μ => exact h
  | bk ρ μ => exact h
  | ct ρ μ =>
    intro σ c' st g e q
    refine ⟨c', ρ, rfl, st, g, q, ?_⟩
    rw [e]
    exact PostS.step h st
  | exc x ρ μ => exact h
  | stuck => exact h
/-- another end -/
theorem PostS.imp {D2 : Ends} {r : SRes} (h : PostS K W D' c r) (h1 : ∀ σ H, D'.nx σ H → D2.nx σ H) (h2 : ∀ v H, D'.rt v H → D2.rt v H) (h3 : ∀ σ H, D'.bk σ H → D2.bk σ H) (h4 : ∀ σ H, D'.ct σ H → D2.ct σ H) : PostS K W D2 c r := by
  cases r with
  | nx ρ μ => exact fun v c' s' g e q => h1 _ _ (h v c' s' g e q)
  | rt d μ => exact fun v c' s' g e q => h2 _ _ (h v c' s' g e q)
  | bk ρ μ => exact fun v c' s' g e q => h3 _ _ (h v c' s' g e q)
  | ct ρ μ => exact fun v c' s' g e q => h4 _ _ (h v c' s' g e q)
  | exc x ρ μ => exact h
  | stuck => exact h
theorem PostS.nxSame {ρ : Rho} (g : Good K c) (s : Slots K c σ ρ) (h : PostS K W D' c (.nx ρ c.μ)) : D'.nx σ c.H := h σ c (Step.refl c) g rfl s
end

/-! ### blocks, simple statements -/
def sNext : SMir := fun ρ μ => .nx ρ μ
def sSeq (m n : SMir) : SMir := fun ρ μ => (m ρ μ).seq n
def sRet (m : Rho → Sto → Res D) : SMir := fun ρ μ => sB (m ρ μ) ρ fun d μ1 => .rt d μ1
def sRetN : SMir := fun _ μ => .rt .non μ
def sExpr (m : Rho → Sto → Res D) : SMir := fun ρ μ => sB (m ρ μ) ρ fun _ μ1 => .nx ρ μ1
def sIf (t : Rho → Sto → Res Bool) (m n : SMir) : SMir := fun ρ μ => sB (t ρ μ) ρ fun b μ1 => if b = true then m ρ μ1 else n ρ μ1
def sBreak : SMir := fun ρ μ => .bk ρ μ
def sCont : SMir := fun ρ μ => .ct ρ μ
section
variable {X : Cx} {W : WX} {st : Stmt} {sts : List Stmt} {e : Expr} {pos : Pos} {m n : SMir} {me : Rho → Sto → Res D} {t : Rho → Sto → Res Bool}
theorem bm_nil : BM X W [] sNext := PSs.imp pss_nil (by
  rintro D' σ H ⟨c, ρ, rfl, g, s, h⟩
  exact PostS.nxSame g s h)
theorem bm_cons (h1 : SM X W st m) (h2 : BM X W sts n) : BM X W (st :: sts) (sSeq m n) := PSs.imp (pss_cons h1 h2) (by
  rintro D' σ H ⟨c, ρ, rfl, g, s, h⟩
  refine sCan.intro g s ((PostS.ofSeq h).imp ?_ (fun _ _ q => q) (fun _ _ q => q) (fun _ _ q => q))
  rintro σ' H' ⟨c1, ρ1, e, s1, g1, sl, p1⟩
  rw [← e]
  exact sCan.intro g1 sl p1)
theorem bm_one (h1 : SM X W st m) : BM X W [st] m := pss_one h1
theorem sm_pass : SM X W (.Pass pos) sNext := PS.imp ps_pass (by
  rintro D' σ H ⟨c, ρ, rfl, g, s, h⟩
  exact PostS.nxSame g s h)
theorem sm_break : SM X W (.Break pos) sBreak := PS.imp ps_break (by
  rintro D' σ H ⟨c, ρ, rfl, g, s, h⟩
  exact h σ c (Step.refl c) g rfl s)
theorem sm_continue : SM X W (.Continue pos) sCont := PS.imp ps_continue (by
  rintro D' σ H ⟨c, ρ, rfl, g, s, h⟩
  exact h σ c (Step.refl c) g rfl s)
theorem sm_ret (h : EM X W e me) : SM X W (.Return (some e) pos) (sRet me) := PS.imp (ps_ret h) (by
  rintro D' σ H ⟨c, ρ, rfl, g, s, h⟩
  refine gCan.intro g s ((PostS.ofB (R := Rp X.K) h s).imp ?_)
  rintro v c' d st g' r' ⟨c1, x, e, s1, g1, r1, p1⟩
  rw [← e]
  exact p1 v c1 (Step.refl c1) g1 rfl r1)
theorem sm_retN : SM X W (.Return none pos) sRetN := PS.imp ps_retN (by
  rintro D' σ H ⟨c, ρ, rfl, g, s, h⟩
  exact h .non c (Step.refl c) g rfl .non)
theorem sm_expr (h : EM X W e me) (hs : swapsWith e none pos.line X.env = pure false := by rfl) : SM X W (.Expr e pos) (sExpr me) := PS.imp (ps_expr h hs) (by
  rintro D' σ H ⟨c, ρ, rfl, g, s, h⟩
  refine gCan.intro g s ((PostS.ofB (R := Rp X.K) h s).imp ?_)
  rintro v c' d st g' r' ⟨c1, x, e, s1, g1, r1, p1⟩
  rw [← e]
  exact p1 σ c1 (Step.refl c1) g1 rfl (s.mono s1))
theorem sm_if {a b : List Stmt} (hc : TM X W e t) (ha : BM X W a m) (hb : BM X W b n) : SM X W (.If e a b pos) (sIf t m n) := PS.imp (ps_if hc ha hb) (by
  rintro D' σ H ⟨c, ρ, rfl, g, s, h⟩
  refine gCan.intro g s ((PostS.ofB (R := RB) h s).imp ?_)
  rintro v c' d st g' r' ⟨c1, x, e, s1, g1, r1, p1⟩
  rw [← e]
  cases r1
  cases v with
  | true => exact sCan.intro g1 (s.mono s1) p1
  | false => exact sCan.intro g1 (s.mono s1) p1)
end

/-! ### targets -/
abbrev GMir := D → Rho → Sto → SRes
abbrev GsMir := List D → Rho → Sto → SRes
abbrev onlyNx (Q : L2.St → Hp → Prop) : Ends := { nx := Q, rt := fun _ _ => False }
def gC (K : PySem.W.Frag) (W : WX) (m : GMir) : TG := fun v σ H Q => ∃ c ρ d, c.H = H ∧ Good K c ∧ Slots K c σ ρ ∧ Rp K c v d ∧ PostS K W (onlyNx Q) c (m d ρ c.μ)
def gsC (K : PySem.W.Frag) (W : WX) (m : GsMir) : TGs := fun vs σ H Q => ∃ c ρ ds, c.H = H ∧ Good K c ∧ Slots K c σ ρ ∧ RpAll K c vs ds ∧ PostS K W (onlyNx Q) c (m ds ρ c.μ)
def GM (X : Cx) (W : WX) (tg : Expr) (m : GMir) : Prop := PG X tg (gC X.K W m)
def GsM (X : Cx) (W : WX) (tgs : List Expr) (m : GsMir) : Prop := PGs X tgs (gsC X.K W m)
theorem PG.imp {X : Cx} {e : Expr} {t t' : TG} (h : PG X e t) (hi : ∀ v σ H Q, t' v σ H Q → t v σ H Q) : PG X e t' := ⟨fun pins s σ H v u Q I r q => h.run pins s σ H v u Q I r (hi v σ H Q q)⟩
theorem PGs.imp {X : Cx} {e : List Expr} {t t' : TGs} (h : PGs X e t) (hi : ∀ v σ H Q, t' v σ H Q → t v σ H Q) : PGs X e t' := ⟨fun pins s σ H v u Q I r q => h.run pins s σ H v u Q I r (hi v σ H Q q)⟩
def gN (i : Nat) : GMir := fun d ρ μ => .nx (ρ.set i (some d)) μ
def gsNil : GsMir := fun ds ρ μ => match ds with
  | [] => .nx ρ μ
  | _ => .stuck
def gsCons (g : GMir) (gs : GsMir) : GsMir := fun ds ρ μ => match ds with
  | d :: r => (g d ρ μ).seq fun ρ1 μ1 => gs r ρ1 μ1
  | [] => .stuck
def gT (n : Nat) (gs : GsMir) : GMir := fun d ρ μ => match rdT d with
  | some xs => if xs.length = n then gs xs ρ μ else .stuck
  | none => .stuck
section
variable {X : Cx} {W : WX} {pos : Pos}
theorem gm_name {i : Nat} {x : Str} (hN : X.N.Nodup) (hi : X.N[i]? = some x := by rfl) (hx : Loc X.env.scope x := by first | exact .inl rfl | exact .inr rfl) (hf : X.fn x = true ∨ X.env.scope.names.lookup x = some .local := by first | exact .inl rfl | exact .inr rfl | assumption) : GM X W (.Name x pos) (gN i) := PG.imp (pg_name hN hi hx hf) (by
  rintro v σ H Q ⟨c, ρ, d, rfl, g, s, r, h⟩
  exact h _ c (Step.refl c) g rfl (s.set r i))
theorem gms_nil : GsM X W [] gsNil := PGs.imp pgs_nil (by
  rintro v σ H Q ⟨c, ρ, ds, rfl, g, s, r, h⟩
  cases r with
  | nil => exact ⟨rfl, PostS.nxSame g s h⟩
  | cons _ _ => exact h.elim)
theorem gms_cons {e : Expr} {es : List Expr} {m : GMir} {ms : GsMir} (h1 : GM X W e m) (h2 : GsM X W es ms) (hs : (assignEach (e :: es) X.env).map (·.2) = assign e X.env :: (assignEach es X.env).map (·.2) := by rfl) : GsM X W (e :: es) (gsCons m ms) := PGs.imp (pgs_cons h1 h2 hs) (by
  rintro v σ H Q ⟨c, ρ, ds, rfl, g, s, r, h⟩
  cases r with
  | nil => exact h.elim
  | cons r rs =>
    refine ⟨_, _, rfl, c, ρ, _, rfl, g, s, r, (PostS.ofSeq h).imp ?_ (fun _ _ q => q) (fun _ _ q => q) (fun _ _ q => q)⟩
    rintro σ' H' ⟨c1, ρ1, e, s1, g1, sl, p1⟩
    rw [← e]
    exact ⟨c1, ρ1, _, rfl, g1, sl, rs.mono s1, p1⟩)
theorem gm_tup {es : List Expr} {k : Nat} {ms : GsMir} {n : Nat} (hc : X.calm = true) (h : GsM X W es ms) (hn : (assignEach es X.env).length = n := by rfl) (hst : (assignEach es X.env).findIdx? (·.1) = none := by rfl) : GM X W (.Tuple es k pos) (gT n ms) := PG.imp (pg_tup hc h hn hst) (by
  rintro v σ H Q ⟨c, ρ, d, rfl, g, s, r, h⟩
  unfold gT at h
  cases q : rdT d with
  | none => rw [q] at h; exact h.elim
  | some xs =>
    rw [q] at h
    have h : PostS X.K W (onlyNx Q) c (if xs.length = n then ms xs ρ c.μ else .stuck) := h
    by_cases hl : xs.length = n
    · rw [if_pos hl] at h
      obtain ⟨a, vs, rfl, h1, h2⟩ := rdT_ok r q
      exact ⟨a, vs, rfl, h1, by rw [h2.length]; exact hl, c, ρ, xs, rfl, g, s, h2, h⟩
    · rw [if_neg hl] at h; exact h.elim)
/-! ### assignment -/
def sAsg (me : Rho → Sto → Res D) (g : GMir) : SMir := fun ρ μ => sB (me ρ μ) ρ fun d μ1 => g d ρ μ1
variable {e : Expr} {me : Rho → Sto → Res D}
/-- what a target leaves: only next, or an exception that the def's own wish takes -/
theorem onlyNx_imp {K : PySem.W.Frag} {c : Cfg} {D' : Ends} {r : SRes} (h : PostS K W D' c r) (hr : ∀ d μ, r ≠ .rt d μ) (hb : ∀ ρ μ, r ≠ .bk ρ μ) (hc : ∀ ρ μ, r ≠ .ct ρ μ) : PostS K W (onlyNx D'.nx) c r := by
  cases r with
  | nx ρ μ => exact h
  | rt d μ => exact (hr d μ rfl).elim
  | bk ρ μ => exact (hb ρ μ rfl).elim
  | ct ρ μ => exact (hc ρ μ rfl).elim
  | exc x ρ μ => exact h
  | stuck => exact h
/-- a target's mirror: it goes on or is stuck -/
def GOk (g : GMir) : Prop := ∀ d ρ μ, (∃ ρ' μ', g d ρ μ = .nx ρ' μ') ∨ (∃ x ρ' μ', g d ρ μ = .exc x ρ' μ') ∨ g d ρ μ = .stuck
def GsOk (g : GsMir) : Prop := ∀ d ρ μ, (∃ ρ' μ', g d ρ μ = .nx ρ' μ') ∨ (∃ x ρ' μ', g d ρ μ = .exc x ρ' μ') ∨ g d ρ μ = .stuck
theorem gok_name {i : Nat} : GOk (gN i) := fun d ρ μ => .inl ⟨_, _, rfl⟩
theorem gsok_nil : GsOk gsNil := fun d ρ μ => by
  cases d with
  | nil => exact .inl ⟨_, _, rfl⟩
  | cons _ _ => exact .inr (.inr rfl)
theorem gsok_cons {g : GMir} {gs : GsMir} (h : GOk g) (hs : GsOk gs) : GsOk (gsCons g gs) := fun d ρ μ => by
  cases d with
  | nil => exact .inr (.inr rfl)
  | cons d r =>
    show (∃ ρ' μ', (g d ρ μ).seq _ = .nx ρ' μ') ∨ (∃ x ρ' μ', (g d ρ μ).seq _ = .exc x ρ' μ') ∨ (g d ρ μ).seq _ = .stuck
    rcases h d ρ μ with ⟨ρ', μ', e⟩ | ⟨x, ρ', μ', e⟩ | e
    · rw [e]; exact hs r ρ' μ'
    · rw [e]; exact .inr (.inl ⟨x, ρ', μ', rfl⟩)
    · rw [e]; exact .inr (.inr rfl)
theorem gok_tup {n : Nat} {gs : GsMir} (h : GsOk gs) : GOk (gT n gs) := fun d ρ μ => by
  unfold gT
  cases q : rdT d with
  | none => exact .inr (.inr rfl)
  | some xs =>
    show (∃ ρ' μ', (if xs.length = n then gs xs ρ μ else .stuck) = .nx ρ' μ') ∨ (∃ x ρ' μ', (if xs.length = n then gs xs ρ μ else .stuck) = .exc x ρ' μ') ∨ (if xs.length = n then gs xs ρ μ else .stuck) = .stuck
    split
    · exact h xs ρ μ
    · exact .inr (.inr rfl)
theorem GOk.only {K : PySem.W.Frag} {c : Cfg} {D' : Ends} {g : GMir} (k : GOk g) {d : D} {ρ : Rho} {μ : Sto} (h : PostS K W D' c (g d ρ μ)) : PostS K W (onlyNx D'.nx) c (g d ρ μ) := by
  rcases k d ρ μ with ⟨ρ', μ', e⟩ | ⟨x, ρ', μ', e⟩ | e
  · rw [e] at h ⊢; exact h
  · rw [e] at h ⊢; exact h
  · rw [e] at h ⊢; exact h
theorem sm_asg {tg : Expr} {g : GMir} (he : EM X W e me) (hg : GM X W tg g) (k : GOk g) (hs : swapsWithSole [tg] e pos.line X.env = pure false := by rfl) (hw : swappedStores [tg] e X.env = pure none := by rfl) (h1 : (assignEach [tg] X.env).map (·.2) = [assign tg X.env] := by rfl) : SM X W (.Assign [tg] e pos) (sAsg me g) := PS.imp (ps_asg he hg hs hw h1) (by
  rintro D' σ H ⟨c, ρ, rfl, g, s, h⟩
  refine gCan.intro g s ((PostS.ofB (R := Rp X.K) h s).imp ?_)
  rintro v c' d st g' r' ⟨c1, x, e, s1, g1, r1, p1⟩
  rw [← e]
  exact ⟨c1, ρ, x, rfl, g1, s.mono s1, r1, k.only p1⟩)
def sSet (i : Nat) (me : Rho → Sto → Res D) : SMir := sAsg me (gN i)
theorem sm_set {i : Nat} {x : Str} {pos' : Pos} (hN : X.N.Nodup) (he : EM X W e me) (hi : X.N[i]? = some x := by rfl) (hx : Loc X.env.scope x := by first | exact .inl rfl | exact .inr rfl) (hs : swapsWith e (some (.Name x pos')) pos.line X.env = pure false := by rfl) (hf : X.fn x = true ∨ X.env.scope.names.lookup x = some .local := by first | exact .inl rfl | exact .inr rfl | assumption) :
    SM X W (.Assign [.Name x pos'] e pos) (sSet i me) := PS.imp (ps_set hN hi hx he hs hf) (by
  rintro D' σ H ⟨c, ρ, rfl, g, s, h⟩
  refine gCan.intro g s ((PostS.ofB (R := Rp X.K) h s).imp ?_)
  rintro v c' d st g' r' ⟨c1, x, e, s1, g1, r1, p1⟩
  rw [← e]
  exact p1 _ c1 (Step.refl c1) g1 rfl ((s.mono s1).set r1 i))
/-- a, b = e1, e2; a, b, c = e1, e2, e3 of local names -/
def sPar2 (i j : Nat) (n : Rho → Sto → Res (List D)) : SMir := fun ρ μ => sB (n ρ μ) ρ fun ds μ1 => match ds with
  | [x, y] => .nx ((ρ.set i (some x)).set j (some y)) μ1
  | _ => .stuck
def sPar3 (i j l : Nat) (n : Rho → Sto → Res (List D)) : SMir := fun ρ μ => sB (n ρ μ) ρ fun ds μ1 => match ds with
  | [x, y, z] => .nx (((ρ.set i (some x)).set j (some y)).set l (some z)) μ1
  | _ => .stuck
variable {n : Rho → Sto → Res (List D)}
theorem sm_par2 {i j : Nat} {x y : Str} {a b : Expr} {px py pt : Pos} {kt k2 pt2} (hc : X.calm = true) (hN : X.N.Nodup) (hn : AM X W [a, b] n) (hi : X.N[i]? = some x := by rfl) (hj : X.N[j]? = some y := by rfl) (hij : i ≠ j := by decide)
    (hx : X.env.scope.names.lookup x = some .local := by rfl) (hy : X.env.scope.names.lookup y = some .local := by rfl)
    (hw : swappedStores [.Tuple [.Name x px, .Name y py] kt pt] (.Tuple [a, b] k2 pt2) X.env = pure (some [x, y]) := by rfl)
    (hs : swapsWithSole [.Tuple [.Name x px, .Name y py] kt pt] (.Tuple [a, b] k2 pt2) pos.line X.env = pure false := by rfl) :
    SM X W (.Assign [.Tuple [.Name x px, .Name y py] kt pt] (.Tuple [a, b] k2 pt2) pos) (sPar2 i j n) := PS.imp (ps_par hc hN hi hj hij hx hy hn hw hs) (by
  rintro D' σ H ⟨c, ρ, rfl, g, s, h⟩
  refine gCan.intro g s ((PostS.ofB (R := RpAll X.K) h s).imp ?_)
  rintro v c' d st g' r' ⟨c1, ds, e, s1, g1, r1, p1⟩
  rw [← e]
  match ds, r1, p1 with
  | [x, y], r1, p1 =>
    obtain ⟨v, u, rfl, h1, h2⟩ := r1.two
    exact ⟨v, u, rfl, p1 _ c1 (Step.refl c1) g1 rfl (((s.mono s1).set h1 i).set h2 j)⟩
  | [], _, p1 => exact p1.elim
  | [_], _, p1 => exact p1.elim
  | _ :: _ :: _ :: _, _, p1 => exact p1.elim)
theorem sm_par3 {i j l : Nat} {x y z : Str} {a b c' : Expr} {px py pz pt : Pos} {kt k2 pt2} (hc : X.calm = true) (hN : X.N.Nodup) (hn : AM X W [a, b, c'] n) (hi : X.N[i]? = some x := by rfl) (hj : X.N[j]? = some y := by rfl) (hl : X.N[l]? = some z := by rfl) (hij : i ≠ j := by decide) (hil : i ≠ l := by decide) (hjl : j ≠ l := by decide)
    (hx : X.env.scope.names.lookup x = some .local := by rfl) (hy : X.env.scope.names.lookup y = some .local := by rfl) (hz : X.env.scope.names.lookup z = some .local := by rfl)
    (hw : swappedStores [.Tuple [.Name x px, .Name y py, .Name z pz] kt pt] (.Tuple [a, b, c'] k2 pt2) X.env = pure (some [x, y, z]) := by rfl)
    (hs : swapsWithSole [.Tuple [.Name x px, .Name y py, .Name z pz] kt pt] (.Tuple [a, b, c'] k2 pt2) pos.line X.env = pure false := by rfl) :
    SM X W (.Assign [.Tuple [.Name x px, .Name y py, .Name z pz] kt pt] (.Tuple [a, b, c'] k2 pt2) pos) (sPar3 i j l n) := PS.imp (ps_par3 hc hN hi hj hl hij hil hjl hx hy hz hn hw hs) (by
  rintro D' σ H ⟨c, ρ, rfl, g, s, h⟩
  refine gCan.intro g s ((PostS.ofB (R := RpAll X.K) h s).imp ?_)
  rintro v c' d st g' r' ⟨c1, ds, e, s1, g1, r1, p1⟩
  rw [← e]
  match ds, r1, p1 with
  | [x, y, z], r1, p1 =>
    cases r1 with
    | cons h0 r1 =>
      obtain ⟨v, u, rfl, h1, h2⟩ := r1.two
      exact ⟨_, v, u, rfl, p1 _ c1 (Step.refl c1) g1 rfl ((((s.mono s1).set h0 i).set h1 j).set h2 l)⟩
  | [], _, p1 => exact p1.elim
  | [_], _, p1 => exact p1.elim
  | [_, _], _, p1 => exact p1.elim
  | _ :: _ :: _ :: _ :: _, _, p1 => exact p1.elim)
end

/-! ### while -/
def whileF (t : Rho → Sto → Res Bool) (b : SMir) : Nat → SMir
  | 0 => fun _ _ => .stuck
  | n + 1 => fun ρ μ => sB (t ρ μ) ρ fun k μ1 => if k = true then (b ρ μ1).turn (whileF t b n) else .nx ρ μ1
open Classical in
noncomputable def sWhile (t : Rho → Sto → Res Bool) (b : SMir) : SMir := fun ρ μ => if h : ∃ n, whileF t b n ρ μ ≠ .stuck then whileF t b h.choose ρ μ else .stuck
theorem turn_mono {r : SRes} {k k' : SMir} (h : r.turn k ≠ .stuck) (hk : ∀ ρ μ, k ρ μ ≠ .stuck → k' ρ μ = k ρ μ) : r.turn k' = r.turn k := by
  cases r with
  | nx ρ μ => exact hk ρ μ h
  | ct ρ μ => exact hk ρ μ h
  | _ => rfl
theorem whileF_mono {t : Rho → Sto → Res Bool} {b : SMir} : ∀ (n : Nat) (ρ : Rho) (μ : Sto), whileF t b n ρ μ ≠ .stuck → ∀ m, n ≤ m → whileF t b m ρ μ = whileF t b n ρ μ
  | 0, ρ, μ, h, _, _ => (h rfl).elim
  | n + 1, ρ, μ, h, 0, hm => by omega
  | n + 1, ρ, μ, h, m + 1, hm => by
    have h : (sB (t ρ μ) ρ fun k μ1 => if k = true then (b ρ μ1).turn (whileF t b n) else .nx ρ μ1) ≠ .stuck := h
    show (sB (t ρ μ) ρ fun k μ1 => if k = true then (b ρ μ1).turn (whileF t b m) else .nx ρ μ1) = (sB (t ρ μ) ρ fun k μ1 => if k = true then (b ρ μ1).turn (whileF t b n) else .nx ρ μ1)
    cases e : t ρ μ with
    | ok k μ1 =>
      rw [e] at h
      cases k with
      | true => exact turn_mono h fun ρ' μ' h' => whileF_mono n ρ' μ' h' m (by omega)
      | false => rfl
    | exc x μ1 => rfl
    | stuck => rfl
theorem sWhile_eq {t : Rho → Sto → Res Bool} {b : SMir} {ρ : Rho} {μ : Sto} (n : Nat) {r : SRes} (h : whileF t b n ρ μ = r) (hr : r ≠ .stuck) : sWhile t b ρ μ = r := by
  have hx : ∃ n, whileF t b n ρ μ ≠ .stuck := ⟨n, by rw [h]; exact hr⟩
  unfold sWhile
  rw [dif_pos hx]
  rcases Nat.le_total n hx.choose with q | q
  · rw [whileF_mono n ρ μ (by rw [h]; exact hr) _ q, h]
  · rw [← whileF_mono hx.choose ρ μ hx.choose_spec n q, h]
section
variable {X : Cx} {W : WX} {e : Expr} {pos : Pos} {t : Rho → Sto → Res Bool} {b : SMir} {body : List Stmt}
theorem sm_while (hp : PassesOwn (model X.prog X.w) X.A X.env X.xe) (ht : TM X W e t) (hb : BM X W body b) : SM X W (.While e body [] pos) (sWhile t b) := PS.imp (ps_while hp ht hb) (by
  rintro D' σ H ⟨c, ρ, rfl, g, s, h⟩
  have h : PostS X.K W D' c (sWhile t b ρ c.μ) := h
  unfold sWhile at h
  by_cases hx : ∃ n, whileF t b n ρ c.μ ≠ .stuck
  case neg => rw [dif_neg hx] at h; exact h.elim
  rw [dif_pos hx] at h
  refine ⟨fun n σ H => ∃ c ρ, c.H = H ∧ Good X.K c ∧ Slots X.K c σ ρ ∧ PostS X.K W D' c (whileF t b n ρ c.μ), ⟨_, c, ρ, rfl, g, s, h⟩, ?_⟩
  rintro n σ H ⟨c, ρ, rfl, g, s, h⟩
  cases n with
  | zero => exact h.elim
  | succ n =>
    refine gCan.intro g s ((PostS.ofB (R := RB) h s).imp ?_)
    rintro v c' d st g' r' ⟨c1, x, e, s1, g1, r1, p1⟩
    rw [← e]
    cases r1
    cases v with
    | false => exact PostS.nxSame g1 (s.mono s1) p1
    | true =>
      rw [if_pos rfl]
      refine ⟨fun σ H => ∃ c ρ, c.H = H ∧ Good X.K c ∧ Slots X.K c σ ρ ∧ PostS X.K W D' c (whileF t b n ρ c.μ), fun σ' H' q => ⟨n, Nat.lt_succ_self n, q⟩, ?_⟩
      refine sCan.intro g1 (s.mono s1) ((PostS.ofTurn p1).imp ?_ (fun _ _ q => q) (fun _ _ q => q) ?_)
      · rintro σ' H' ⟨c2, ρ2, e, s2, g2, sl, p2⟩
        exact ⟨c2, ρ2, e, g2, sl, p2⟩
      · rintro σ' H' ⟨c2, ρ2, e, s2, g2, sl, p2⟩
        exact ⟨c2, ρ2, e, g2, sl, p2⟩)
end

/-! ### for: over a tuple or a list that stands still, over a range -/
def forL (g : GMir) (b : SMir) : List D → SMir
  | [] => fun ρ μ => .nx ρ μ
  | x :: xs => fun ρ μ => ((g x ρ μ).seq b).turn (forL g b xs)
/-- the items of a list that nothing can change -/
def rdFL : D → Option (List D)
  | .lst xs => some xs
  | .scr ns => some (ns.map .int)
  | _ => none
def rdF (d : D) : Option (List D) := match rdT d with
  | some xs => some xs
  | none => rdFL d
def sFor (m : Rho → Sto → Res D) (g : GMir) (b : SMir) : SMir := fun ρ μ => sB (m ρ μ) ρ fun x μ1 => match rdF x with
  | some xs => forL g b xs ρ μ1
  | none => .stuck
theorem rdFL_ok {K : PySem.W.Frag} {c : Cfg} {v : V} {d : D} {xs : List D} (r : Rp K c v d) (h : rdFL d = some xs) : ∃ a vs, v = .ref a ∧ RpAll K c vs xs ∧ ∀ c', Mon c c' → SqL K c'.H a vs := by
  cases r with
  | lst h1 h2 => cases h; exact ⟨_, _, rfl, h2, fun c' s => SqL.of (h1.mono s).1⟩
  | scr h1 => cases h; exact ⟨_, _, rfl, RpAll.ints _, fun c' s => (h1.mono s).sq⟩
  | _ => cases h
theorem rdFT_ok {K : PySem.W.Frag} {c : Cfg} {v : V} {d : D} {xs : List D} (r : Rp K c v d) (h : rdT d = some xs) : ∃ a vs, v = .ref a ∧ RpAll K c vs xs ∧ ∀ c', Mon c c' → SqT K c'.H a vs := by
  cases r with
  | tup h1 h2 => cases h; exact ⟨_, _, rfl, h2, fun c' s => (h1.mono s).sq⟩
  | _ => cases h
theorem PI.or {X : Cx} {tg e : Expr} {w w' : TI} (h : PI X tg e w) (h' : PI X tg e w') : PI X tg e (fun σ H R => w σ H R ∨ w' σ H R) := ⟨fun pins s σ H R I q => by
  rcases q with q | q
  · exact h.run pins s σ H R I q
  · exact h'.run pins s σ H R I q⟩
/-- what is walked: a list or a tuple told by the mirror -/
abbrev iSeq (K : PySem.W.Frag) (t : TE) : TI := fun σ H R => iList K t σ H R ∨ iTup K t σ H R
section
variable {X : Cx} {W : WX} {e tg : Expr} {pos : Pos} {m : Rho → Sto → Res D} {g : GMir} {b : SMir} {body : List Stmt}
/-- the rule behind the three: the walk J's turns are told by the items -/
theorem turn_can {K : PySem.W.Frag} {tb : TS} {D' : Ends} {c0 : Cfg} {vs : List V} {xs : List D} (rs : RpAll K c0 vs xs) (k : GOk g) (hb : ∀ D2 σ H, sCan K W b D2 σ H → tb D2 σ H) {i : Nat} {x : V} {σ : L2.St} {H : Hp} (hi : vs[i]? = some x)
    (p : ∃ c ρ, c.H = H ∧ Step c0 c ∧ Good K c ∧ Slots K c σ ρ ∧ PostS K W D' c (forL g b (xs.drop i) ρ c.μ)) :
    gC K W g x σ H fun σ2 H2 => tb { D' with nx := fun σ H => (∃ c ρ, c.H = H ∧ Step c0 c ∧ Good K c ∧ Slots K c σ ρ ∧ PostS K W D' c (forL g b (xs.drop (i + 1)) ρ c.μ)), ct := fun σ H => (∃ c ρ, c.H = H ∧ Step c0 c ∧ Good K c ∧ Slots K c σ ρ ∧ PostS K W D' c (forL g b (xs.drop (i + 1)) ρ c.μ)), bk := D'.nx } σ2 H2 := by
  obtain ⟨c, ρ, rfl, s0, gd, s, h⟩ := p
  obtain ⟨d, h1, h2⟩ := rs.getV hi
  have ed : xs.drop i = d :: xs.drop (i + 1) := by
    obtain ⟨hl, he⟩ := List.getElem?_eq_some_iff.mp h1
    rw [List.drop_eq_getElem_cons hl, he]
  rw [ed] at h
  have h : PostS K W D' c (((g d ρ c.μ).seq b).turn (forL g b (xs.drop (i + 1)))) := h
  refine ⟨c, ρ, d, rfl, gd, s, h2.mono s0.toMon, ?_⟩
  have q := PostS.ofSeq (PostS.ofTurn h)
  refine (k.only q).imp ?_ (fun _ _ z => z.elim) (fun _ _ z => z.elim) (fun _ _ z => z.elim)
  rintro σ' H' ⟨c1, ρ1, e, s1, g1, sl, p1⟩
  rw [← e]
  refine hb _ _ _ (sCan.intro g1 sl (p1.imp ?_ (fun _ _ q => q) (fun _ _ q => q) ?_))
  · rintro σ' H' ⟨c2, ρ2, e, s2, g2, sl, p2⟩
    exact ⟨c2, ρ2, e, s0.trans s2, g2, sl, p2⟩
  · rintro σ' H' ⟨c2, ρ2, e, s2, g2, sl, p2⟩
    exact ⟨c2, ρ2, e, s0.trans s2, g2, sl, p2⟩
theorem end_can {K : PySem.W.Frag} {D' : Ends} {c0 : Cfg} {vs : List V} {xs : List D} (rs : RpAll K c0 vs xs) {σ : L2.St} {H : Hp} (p : ∃ c ρ, c.H = H ∧ Step c0 c ∧ Good K c ∧ Slots K c σ ρ ∧ PostS K W D' c (forL g b (xs.drop vs.length) ρ c.μ)) : D'.nx σ H := by
  obtain ⟨c, ρ, rfl, s0, gd, s, h⟩ := p
  rw [rs.length, List.drop_length] at h
  exact PostS.nxSame gd s h
theorem sm_for (hp : PassesOwn (model X.prog X.w) X.A X.env X.xe) (hc : X.calm = true) (hm : EM X W e m) (hg : GM X W tg g) (k : GOk g) (hb : BM X W body b) (hs : ∀ x, foldedSetIterable e X.env x = pure x := by intro _; rfl) :
    SM X W (.For tg e body [] pos) (sFor m g b) := PS.imp (ps_for hp hc (PI.or (pi_list hm) (pi_tup hm)) hg hb hs) (by
  rintro D' σ H ⟨c, ρ, rfl, gd, s, h⟩
  have h : PostS X.K W D' c (sB (m ρ c.μ) ρ fun x μ1 => match rdF x with
    | some xs => forL g b xs ρ μ1
    | none => .stuck) := h
  cases em : m ρ c.μ with
  | stuck => rw [em] at h; exact h.elim
  | exc x μ1 =>
    rw [em] at h
    refine .inl (gCan.intro gd s ?_)
    rw [em]
    exact fun c' dd st g' e' q => h σ c' dd st g' e' (s.mono st) q
  | ok x μ1 =>
    rw [em] at h
    cases et : rdT x with
    | some xs =>
      refine .inr (gCan.intro gd s ?_)
      rw [em]
      intro v c1 s1 g1 e1 r1
      obtain ⟨a, vs, rfl, rs, hT⟩ := rdFT_ok r1 et
      have h : PostS X.K W D' c (forL g b xs ρ μ1) := by
        have e2 : rdF x = some xs := by unfold rdF; rw [et]
        have h : PostS X.K W D' c (match rdF x with
          | some xs => forL g b xs ρ μ1
          | none => .stuck) := h
        rw [e2] at h; exact h
      refine ⟨a, rfl, ⟨vs, hT c1 (Step.refl c1).toMon⟩, for_tup (K := X.K) (a := a) (xs := vs) (fun i σ H => ∃ c ρ, c.H = H ∧ Step c1 c ∧ Good X.K c ∧ Slots X.K c σ ρ ∧ PostS X.K W D' c (forL g b (xs.drop i) ρ c.μ)) ⟨c1, ρ, rfl, Step.refl c1, g1, s.mono s1, ?_⟩ ?_ ?_ ?_⟩
      · rw [e1]; exact h.step s1
      · rintro i σ H _ ⟨c2, _, rfl, s2, _⟩; exact hT c2 s2.toMon
      · intro i x σ H hi p; exact turn_can rs k (fun _ _ _ q => q) hi p
      · intro σ H p; exact end_can rs p
    | none =>
      refine .inl (gCan.intro gd s ?_)
      rw [em]
      intro v c1 s1 g1 e1 r1
      have h : PostS X.K W D' c (match rdF x with
          | some xs => forL g b xs ρ μ1
          | none => .stuck) := h
      have e2 : rdF x = rdFL x := by unfold rdF; rw [et]
      rw [e2] at h
      cases el : rdFL x with
      | none => rw [el] at h; exact h.elim
      | some xs =>
        rw [el] at h
        have h : PostS X.K W D' c (forL g b xs ρ μ1) := h
        obtain ⟨a, vs, rfl, rs, hT⟩ := rdFL_ok r1 el
        refine ⟨a, rfl, ⟨vs, hT c1 (Step.refl c1).toMon⟩, for_list (K := X.K) (a := a) (xs := vs) (fun i σ H => ∃ c ρ, c.H = H ∧ Step c1 c ∧ Good X.K c ∧ Slots X.K c σ ρ ∧ PostS X.K W D' c (forL g b (xs.drop i) ρ c.μ)) ⟨c1, ρ, rfl, Step.refl c1, g1, s.mono s1, ?_⟩ ?_ ?_ ?_⟩
        · rw [e1]; exact h.step s1
        · rintro i σ H _ ⟨c2, _, rfl, s2, _⟩; exact hT c2 s2.toMon
        · intro i x σ H hi p; exact turn_can rs k (fun _ _ _ q => q) hi p
        · intro σ H p; exact end_can rs p)
/-- over range(n), range(a, b) -/
def rngL (lo : Int) (n : Nat) : List D := (List.range n).map fun (i : Nat) => D.int (lo + (i : Int))
theorem rngL_rp (K : PySem.W.Frag) (c : Cfg) (lo : Int) (n : Nat) : RpAll K c ((List.range n).map fun (i : Nat) => V.int (lo + (i : Int))) (rngL lo n) := by
  unfold rngL
  induction (List.range n) with
  | nil => exact .nil
  | cons i r ih => exact .cons (.int _) ih
def rngD1 : List D → Option (Int × Nat)
  | [.int j] => if -(2 ^ 62) ≤ j ∧ j < 2 ^ 62 then some (0, j.toNat) else none
  | _ => none
def rngD2 : List D → Option (Int × Nat)
  | [.int i, .int j] => if -(2 ^ 62) ≤ i ∧ i < 2 ^ 62 ∧ -(2 ^ 62) ≤ j ∧ j < 2 ^ 62 then some (i, (j - i).toNat) else none
  | _ => none
theorem rngD1_eq {ds : List D} {lo : Int} {k : Nat} (h : rngD1 ds = some (lo, k)) : ∃ j : Int, ds = [.int j] ∧ -(2 ^ 62) ≤ j ∧ j < 2 ^ 62 ∧ lo = 0 ∧ k = j.toNat := by
  cases ds with
  | nil => cases h
  | cons d r =>
    cases r with
    | cons _ _ => cases d <;> cases h
    | nil =>
      cases d with
      | int j =>
        have h : (if -(2 ^ 62) ≤ j ∧ j < 2 ^ 62 then some ((0 : Int), j.toNat) else none) = some (lo, k) := h
        by_cases hj : -(2 ^ 62) ≤ j ∧ j < 2 ^ 62
        · rw [if_pos hj] at h; cases h; exact ⟨j, rfl, hj.1, hj.2, rfl, rfl⟩
        · rw [if_neg hj] at h; cases h
      | _ => cases h
theorem rngD2_eq {ds : List D} {lo : Int} {k : Nat} (h : rngD2 ds = some (lo, k)) : ∃ i j : Int, ds = [.int i, .int j] ∧ (-(2 ^ 62) ≤ i ∧ i < 2 ^ 62 ∧ -(2 ^ 62) ≤ j ∧ j < 2 ^ 62) ∧ lo = i ∧ k = (j - i).toNat := by
  cases ds with
  | nil => cases h
  | cons d r =>
    cases r with
    | nil => cases d <;> cases h
    | cons e r =>
      cases r with
      | cons _ _ => cases d <;> cases e <;> cases h
      | nil =>
        cases d with
        | int i =>
          cases e with
          | int j =>
            have h : (if -(2 ^ 62) ≤ i ∧ i < 2 ^ 62 ∧ -(2 ^ 62) ≤ j ∧ j < 2 ^ 62 then some (i, (j - i).toNat) else none) = some (lo, k) := h
            by_cases hj : -(2 ^ 62) ≤ i ∧ i < 2 ^ 62 ∧ -(2 ^ 62) ≤ j ∧ j < 2 ^ 62
            · rw [if_pos hj] at h; cases h; exact ⟨_, j, rfl, hj, rfl, rfl⟩
            · rw [if_neg hj] at h; cases h
          | _ => cases h
        | _ => cases e <;> cases h
def sForR (rd : List D → Option (Int × Nat)) (n : Rho → Sto → Res (List D)) (g : GMir) (b : SMir) : SMir := fun ρ μ => sB (n ρ μ) ρ fun ds μ1 => match rd ds with
  | some (lo, k) => forL g b (rngL lo k) ρ μ1
  | none => .stuck
/-- range(a, b, -1) -/
def rngDL (hi : Int) (n : Nat) : List D := (List.range n).map fun (i : Nat) => D.int (hi + (i : Int) * (-1))
theorem rngDL_rp (K : PySem.W.Frag) (c : Cfg) (lo : Int) (n : Nat) : RpAll K c ((List.range n).map fun (i : Nat) => V.int (lo + (i : Int) * (-1))) (rngDL lo n) := by
  unfold rngDL
  induction (List.range n) with
  | nil => exact .nil
  | cons i r ih => exact .cons (.int _) ih
variable {n : Rho → Sto → Res (List D)} {a1 a2 : Expr} {p : Pos}
theorem range_turns {K : PySem.W.Frag} {tb : TS} {D' : Ends} {c1 : Cfg} {lo : Int} {k : Nat} {σ : L2.St} {ρ : Rho} (kg : GOk g) (hb : ∀ D2 σ H, sCan K W b D2 σ H → tb D2 σ H) (g1 : Good K c1) (s : Slots K c1 σ ρ) (h : PostS K W D' c1 (forL g b (rngL lo k) ρ c1.μ)) :
    ∃ W1 : Nat → Nat → L2.St → Hp → Prop, (∃ m, W1 0 m σ c1.H) ∧ ∀ i m σ H, W1 i m σ H →
      ((Itr lo k).stop i H ∧ D'.nx σ H) ∨ ((Itr lo k).go i H ∧ ∃ N : L2.St → Hp → Prop, (∀ σ' H', N σ' H' → ∃ m', m' < m ∧ W1 (i + 1) m' σ' H') ∧ ∀ x H', (Itr lo k).yld i H x H' → gC K W g x σ H' fun σ2 H2 => tb { D' with nx := N, ct := N, bk := D'.nx } σ2 H2) := by
  have rs := rngL_rp K c1 lo k
  refine for_range (lo := lo) (n := k) (fun i σ H => ∃ c ρ, c.H = H ∧ Step c1 c ∧ Good K c ∧ Slots K c σ ρ ∧ PostS K W D' c (forL g b ((rngL lo k).drop i) ρ c.μ)) ⟨c1, ρ, rfl, Step.refl c1, g1, s, h⟩ ?_ ?_
  · intro i σ H hi p
    refine turn_can rs kg hb ?_ p
    rw [List.getElem?_map, List.getElem?_range hi]; rfl
  · intro σ H p
    refine end_can (W := W) (g := g) (b := b) rs ?_
    rw [List.length_map, List.length_range]
    exact p
theorem sm_forR1 (hp : PassesOwn (model X.prog X.w) X.A X.env X.xe) (hc : X.calm = true) (hn : AM X W [a1] n) (hg : GM X W tg g) (k : GOk g) (hb : BM X W body b) (hm : X.mg "range" = none) (hr : Gl X "range" := by rfl) (hs1 : starEach [a1] X.env = [(false, eval a1 X.env)] := by rfl) {ps : Pos}
    (hs : ∀ x, foldedSetIterable (.Call (.Name "range" p) [a1] [] ps) X.env x = pure x := by intro _; rfl) : SM X W (.For tg (.Call (.Name "range" p) [a1] [] ps) body [] pos) (sForR rngD1 n g b) := PS.imp (ps_for hp hc (pi_range1 hr hm hn hs1) hg hb hs) (by
  rintro D' σ H ⟨c, ρ, rfl, gd, s, h⟩
  refine gCan.intro gd s ((PostS.ofB (R := RpAll X.K) h s).imp ?_)
  rintro v c' d st g' r' ⟨c1, ds, e, s1, g1, r1, p1⟩
  rw [← e]
  cases q : rngD1 ds with
  | none => rw [q] at p1; exact p1.elim
  | some z =>
    obtain ⟨lo, kk⟩ := z
    rw [q] at p1
    obtain ⟨j, rfl, h1, h2, rfl, rfl⟩ := rngD1_eq q
    obtain ⟨v, rfl, h3⟩ := r1.one
    cases h3
    exact ⟨j, rfl, h1, h2, range_turns k (fun _ _ _ q => q) g1 (s.mono s1) p1⟩)
theorem sm_forR2 (hp : PassesOwn (model X.prog X.w) X.A X.env X.xe) (hc : X.calm = true) (hn : AM X W [a1, a2] n) (hg : GM X W tg g) (k : GOk g) (hb : BM X W body b) (hm : X.mg "range" = none) (hr : Gl X "range" := by rfl) (hs1 : starEach [a1, a2] X.env = [(false, eval a1 X.env), (false, eval a2 X.env)] := by rfl) (hs2 : starEach [a2] X.env = [(false, eval a2 X.env)] := by rfl) {ps : Pos}
    (hs : ∀ x, foldedSetIterable (.Call (.Name "range" p) [a1, a2] [] ps) X.env x = pure x := by intro _; rfl) : SM X W (.For tg (.Call (.Name "range" p) [a1, a2] [] ps) body [] pos) (sForR rngD2 n g b) := PS.imp (ps_for hp hc (pi_range2 hr hm hn hs1 hs2) hg hb hs) (by
  rintro D' σ H ⟨c, ρ, rfl, gd, s, h⟩
  refine gCan.intro gd s ((PostS.ofB (R := RpAll X.K) h s).imp ?_)
  rintro v c' d st g' r' ⟨c1, ds, e, s1, g1, r1, p1⟩
  rw [← e]
  cases q : rngD2 ds with
  | none => rw [q] at p1; exact p1.elim
  | some z =>
    obtain ⟨lo, kk⟩ := z
    rw [q] at p1
    obtain ⟨i, j, rfl, h1, h5, rfl⟩ := rngD2_eq q
    subst h5
    obtain ⟨v, u, rfl, h3, h4⟩ := r1.two
    cases h3; cases h4
    exact ⟨_, j, rfl, h1, range_turns k (fun _ _ _ q => q) g1 (s.mono s1) p1⟩)
def rngD3 : List D → Option (Int × Nat)
  | [.int i, .int j, .int c] => if c = -1 ∧ -(2 ^ 62) ≤ i ∧ i < 2 ^ 62 ∧ -(2 ^ 62) ≤ j ∧ j < 2 ^ 62 then some (i, (i - j).toNat) else none
  | _ => none
theorem rngD3_eq {ds : List D} {lo : Int} {k : Nat} (h : rngD3 ds = some (lo, k)) : ∃ j : Int, ds = [.int lo, .int j, .int (-1)] ∧ (-(2 ^ 62) ≤ lo ∧ lo < 2 ^ 62 ∧ -(2 ^ 62) ≤ j ∧ j < 2 ^ 62) ∧ k = (lo - j).toNat := by
  unfold rngD3 at h
  split at h
  · rename_i i j c
    by_cases hj : c = -1 ∧ -(2 ^ 62) ≤ i ∧ i < 2 ^ 62 ∧ -(2 ^ 62) ≤ j ∧ j < 2 ^ 62
    · rw [if_pos hj] at h; cases h
      obtain ⟨rfl, hj⟩ := hj
      exact ⟨j, rfl, hj, rfl⟩
    · rw [if_neg hj] at h; cases h
  · cases h
/-- for i in range(a, b, -1) -/
def sForD (n : Rho → Sto → Res (List D)) (g : GMir) (b : SMir) : SMir := fun ρ μ => sB (n ρ μ) ρ fun ds μ1 => match rngD3 ds with
  | some (lo, k) => forL g b (rngDL lo k) ρ μ1
  | none => .stuck
theorem range_down {K : PySem.W.Frag} {tb : TS} {D' : Ends} {c1 : Cfg} {lo : Int} {k : Nat} {σ : L2.St} {ρ : Rho} (kg : GOk g) (hb : ∀ D2 σ H, sCan K W b D2 σ H → tb D2 σ H) (g1 : Good K c1) (s : Slots K c1 σ ρ) (h : PostS K W D' c1 (forL g b (rngDL lo k) ρ c1.μ)) :
    ∃ W1 : Nat → Nat → L2.St → Hp → Prop, (∃ m, W1 0 m σ c1.H) ∧ ∀ i m σ H, W1 i m σ H →
      ((Itc lo (-1) k).stop i H ∧ D'.nx σ H) ∨ ((Itc lo (-1) k).go i H ∧ ∃ N : L2.St → Hp → Prop, (∀ σ' H', N σ' H' → ∃ m', m' < m ∧ W1 (i + 1) m' σ' H') ∧ ∀ x H', (Itc lo (-1) k).yld i H x H' → gC K W g x σ H' fun σ2 H2 => tb { D' with nx := N, ct := N, bk := D'.nx } σ2 H2) := by
  have rs := rngDL_rp K c1 lo k
  refine for_rangeC (lo := lo) (c := -1) (n := k) (fun i σ H => ∃ c ρ, c.H = H ∧ Step c1 c ∧ Good K c ∧ Slots K c σ ρ ∧ PostS K W D' c (forL g b ((rngDL lo k).drop i) ρ c.μ)) ⟨c1, ρ, rfl, Step.refl c1, g1, s, h⟩ ?_ ?_
  · intro i σ H hi p
    refine turn_can rs kg hb ?_ p
    rw [List.getElem?_map, List.getElem?_range hi]; rfl
  · intro σ H p
    refine end_can (W := W) (g := g) (b := b) rs ?_
    rw [List.length_map, List.length_range]
    exact p
theorem sm_forD {a3 : Expr} (hp : PassesOwn (model X.prog X.w) X.A X.env X.xe) (hc : X.calm = true) (hn : AM X W [a1, a2, a3] n) (hg : GM X W tg g) (k : GOk g) (hb : BM X W body b) (hm : X.mg "range" = none) (hr : Gl X "range" := by rfl) (hs1 : starEach [a1, a2, a3] X.env = (false, eval a1 X.env) :: starEach [a2, a3] X.env := by rfl) {ps : Pos} (hpl : (backTo ps (starEach [a2, a3] X.env)).any (·.1) = false := by rfl)
    (hs : ∀ x, foldedSetIterable (.Call (.Name "range" p) [a1, a2, a3] [] ps) X.env x = pure x := by intro _; rfl) : SM X W (.For tg (.Call (.Name "range" p) [a1, a2, a3] [] ps) body [] pos) (sForD n g b) := PS.imp (ps_for hp hc (pi_range3 hr hm hn hs1 hpl) hg hb hs) (by
  rintro D' σ H ⟨c, ρ, rfl, gd, s, h⟩
  refine gCan.intro gd s ((PostS.ofB (R := RpAll X.K) h s).imp ?_)
  rintro v c' d st g' r' ⟨c1, ds, e, s1, g1, r1, p1⟩
  rw [← e]
  cases q : rngD3 ds with
  | none => rw [q] at p1; exact p1.elim
  | some z =>
    obtain ⟨lo, kk⟩ := z
    rw [q] at p1
    obtain ⟨j, rfl, h1, rfl⟩ := rngD3_eq q
    cases r1 with
    | cons h0 r1 =>
      obtain ⟨v, u, rfl, h3, h4⟩ := r1.two
      cases h0; cases h3; cases h4
      exact ⟨lo, j, -1, _, rfl, RgC.neg h1.1 h1.2.1 h1.2.2.1 h1.2.2.2, range_down k (fun _ _ _ q => q) g1 (s.mono s1) p1⟩)
end
end FL
end S_FL6
section S_FL7
set_option Elab.async false
set_option linter.all false
set_option maxRecDepth 100000
set_option maxHeartbeats 4000000
/-! FL7: defs and their calls, classes that are made, methods, fields, raise, lists that change. -/
namespace FL
open PySem PySem.Spec PyProof.Rows L2

abbrev FMir := List D → Sto → Res D
/-- what a def of n parameters promises, by its mirror -/
def spM (K : PySem.W.Frag) (n : Nat) (m : FMir) : Sp := fun vs H Q E => ∃ c ds, c.H = H ∧ Good K c ∧ RpAll K c vs ds ∧ ds.length = n ∧ Post K (fun cls dd _ H => E cls dd H) [] c (Rp K) Q (m ds c.μ)
theorem spM_len {K : PySem.W.Frag} {n : Nat} {m : FMir} : ∀ vs H Q E, spM K n m vs H Q E → vs.length = n := fun vs H Q E ⟨c, ds, _, _, r, hl, _⟩ => by rw [r.length, hl]
theorem Post.wish {K : PySem.W.Frag} {W : WX} {σ σ' : L2.St} {c : Cfg} {α β : Type} {R : Cfg → β → α → Prop} {Q : β → Hp → Prop} {r : Res α} (h : Post K W σ c R Q r) : Post K (fun cls dd _ H => W cls dd σ H) σ' c R Q r := by
  cases r with
  | ok d μ => exact h
  | exc x μ => exact h
  | stuck => exact h
/-- the mirror of a def: n names, the body's mirror -/
def mDef (n : Nat) (b : SMir) : FMir := fun ds μ => match b (ds.map some ++ List.replicate (n - ds.length) none) μ with
  | .nx _ μ1 => .ok .non μ1
  | .rt d μ1 => .ok d μ1
  | .exc x _ μ1 => .exc x μ1
  | _ => .stuck
theorem slots_start {K : PySem.W.Frag} {c : Cfg} {vs : List V} {ds : List D} {N : List Str} (r : RpAll K c vs ds) : Slots K c (L2.start N vs) (ds.map some ++ List.replicate (N.length - ds.length) none) := by
  unfold L2.start
  refine ⟨by simp [r.length], fun i d h => ?_⟩
  by_cases hi : i < ds.length
  · rw [List.getElem?_append_left (by simpa using hi)] at h
    rw [List.getElem?_map] at h
    obtain ⟨e, h1, h2⟩ := Option.map_eq_some_iff.mp h
    cases h2
    obtain ⟨v, h3, h4⟩ := r.get h1
    refine ⟨v, ?_, h4⟩
    rw [List.getElem?_append_left (by simpa [r.length] using hi), List.getElem?_map, h3]; rfl
  · rw [List.getElem?_append_right (by simpa using Nat.le_of_not_lt hi)] at h
    rw [List.getElem?_replicate] at h
    split at h <;> cases h
section
variable {P : Program} {w : World} {K : PySem.W.Frag} {mg : Str → Option Value} {base : Heap} {N ps : List Str} {qual : Str} {scope : Scope} {f : Addr} {cd : Value} {A : Around} {outer : List Env} {s : Shared} {H : Hp} {E : XK}
abbrev cxM (P : Program) (w : World) (K : PySem.W.Frag) (mg : Str → Option Value) (base : Heap) (N : List Str) (qual : Str) (scope : Scope) (f : Addr) (cd : Value) (A : Around) (outer : List Env) (s : Shared) (H : Hp) (E : XK) : Cx := cxOf (L2.CX P w) P w K mg base N qual scope f cd A outer s H E
abbrev wE (E : XK) : WX := fun cls d _ H => E cls d H
theorem cx_takes : Takes (cxM P w K mg base N qual scope f cd A outer s H E) (wE E) := takes_of rfl rfl rfl rfl
theorem cx_pass : PassesOwn (model P w) (cxM P w K mg base N qual scope f cd A outer s H E).A (cxM P w K mg base N qual scope f cd A outer s H E).env (cxM P w K mg base N qual scope f cd A outer s H E).xe := passes_of rfl
end
section
variable {P : Program} {w : World} {K : PySem.W.Frag} {mg : Str → Option Value} {base : Heap} {x qual : Str} {params : Arguments} {body : List Stmt} {scope : Scope} {dvs : List V} {kws : List (Str × V)} {f : Addr} {fd : FuncData}
/-- THE RULE for a def: its body's mirror -/
theorem fm_ok {N ps : List Str} {k : Nat} {b : SMir} (F : FunD K x qual params body scope dvs kws f fd) (S : FnScope N ps scope)
    (hb : ∀ (cdv : Value) (A : Around) (outer : List Env) (s : Shared) (H : Hp) (E : XK), Room k (A.deeper (envOfC qual scope s.heap.objs.size f cdv)) → BM (cxM P w K mg base N qual scope f cdv A outer s H E) (wE E) body b) :
    FnOk P w K mg base (L2.CX P w) (k + 1) f fd ps (spM K ps.length (mDef N.length b)) := by
  refine F.ok S spM_len fun cdv A outer s H vs Q E hr h => ?_
  obtain ⟨c, ds, rfl, g, r, hl, p⟩ := h
  refine ⟨_, hb cdv A outer s c.H E hr, ?_⟩
  refine sCan.intro g (slots_start r) ?_
  unfold mDef at p
  cases e : b (ds.map some ++ List.replicate (N.length - ds.length) none) c.μ with
  | nx ρ μ => rw [e] at p; exact fun σ c' st g' e' _ => p .non c' st g' e' .non
  | rt d μ => rw [e] at p; exact p
  | bk ρ μ => rw [e] at p; exact p.elim
  | ct ρ μ => rw [e] at p; exact p.elim
  | exc z ρ μ => rw [e] at p; exact fun σ c' dd st g' e' _ q => p c' dd st g' e' q
  | stuck => rw [e] at p; exact p.elim
end

/-! ### calls by values -/
/-- a call of the value f with values does what m tells -/
def CallF (X : Cx) (W : WX) (f : Value) (m : FMir) : Prop :=
  ∀ (pins : List (Addr × Obj)) (s : Shared) (σ : L2.St) (c : Cfg) (us : List Value) (vs : List V) (ds : List D) (Q : VK), Inv X pins σ c.H s → Good X.K c → Vals vs us → RpAll X.K c vs ds → Post X.K W σ c (Rp X.K) Q (m ds c.μ) → wpAny (model X.prog X.w) X.A (call f us) (EP X pins σ Q) X.xe s
/-- a def of n parameters, called with less: the defaults es behind -/
def appN (n : Nat) (es : List D) (m : FMir) : FMir := fun ds μ => if (ds ++ es).length = n then m (ds ++ es) μ else .stuck
section
variable {X : Cx} {W : WX} {k n : Nat} {f : Addr} {fd : FuncData} {ps : List Str} {m : FMir}
theorem run_fnD {pins : List (Addr × Obj)} {σ : L2.St} {H : Hp} {s : Shared} {Q : VK} {us ds : List Value} {vs dvs : List V} {sp : Sp} {E : XK} (F : FnOk X.prog X.w X.K X.mg X.base (L2.CX X.prog X.w) k f fd ps sp) (hr : Room k X.A) (hb : Binds X.K fd ps ds) (hd : Vals dvs ds) (hx : PassesAt (L2.CX X.prog X.w) X σ E)
    (I : Inv X pins σ H s) (r : Vals vs us) (h : sp (vs ++ dvs) H Q E) : wpAny (model X.prog X.w) X.A (call (.ref f) us) (EP X pins σ Q) X.xe s := by
  have r2 : Vals (vs ++ dvs) (us ++ ds) := r.append hd
  have hl : (us ++ ds).length = ps.length := by rw [← r2.length]; exact F.len _ _ _ _ h
  refine wpAny_call (codeAny_mono (F.run X.A X.stack s H ⟨us, []⟩ (us ++ ds) (vs ++ dvs) Q E hr I.env0 (hb s us I.kIn hl) r2 h) fun r s' hq => ?_)
  cases r with
  | error e => exact hx pins H s e s' I hq
  | ok fl =>
    cases fl with
    | ret u => exact I.after hq
    | next => exact False.elim hq
    | brk => exact False.elim hq
    | cont => exact False.elim hq
theorem callF_fn {es : List D} {dvs : List V} {ds : List Value} (F : FnOk X.prog X.w X.K X.mg X.base (L2.CX X.prog X.w) k f fd ps (spM X.K n m)) (hr : Room k X.A) (hb : Binds X.K fd ps ds) (hd : Vals dvs ds) (he : ∀ c, RpAll X.K c dvs es) (tk : Takes X W) : CallF X W (.ref f) (appN n es m) := by
  intro pins s σ c us vs xs Q I g r rx p
  unfold appN at p
  by_cases hl : (xs ++ es).length = n
  · rw [if_pos hl] at p
    exact run_fnD F hr hb hd (passAt tk σ) I r ⟨c, xs ++ es, rfl, g, rx.append (he c), hl, p.wish⟩
  · rw [if_neg hl] at p; exact p.elim
/-- no defaults -/
theorem callF_fn0 (F : FnOk X.prog X.w X.K X.mg X.base (L2.CX X.prog X.w) k f fd ps (spM X.K n m)) (hr : Room k X.A) (hb : Binds X.K fd ps []) (tk : Takes X W) : CallF X W (.ref f) (appN n [] m) := callF_fn F hr hb .nil (fun _ => .nil) tk
end
def xFn (m : FMir) (n : Rho → Sto → Res (List D)) : Rho → Sto → Res D := fun ρ μ => (n ρ μ).bind m
section
variable {X : Cx} {W : WX} {f : Addr} {m : FMir} {x : Str} {p pos : Pos} {e : Expr} {es : List Expr} {n : Rho → Sto → Res (List D)}
theorem em_call (hf : CallF X W (.ref f) m) (hm : X.mg x = some (.ref f)) (hk : PySem.W.keepIn X.K (.ref f) = true) (ha : AM X W (e :: es) n) (hg : Gl X x := by rfl)
    (hdb : (x == ("__debug__" : Str)) = false := by decide) (he : starEach (e :: es) X.env = (false, eval e X.env) :: starEach es X.env := by rfl) (hpl : (backTo pos (starEach es X.env)).any (·.1) = false := by rfl) :
    EM X W (.Call (.Name x p) (e :: es) [] pos) (xFn m n) := by
  refine ⟨fun pins s σ H Q I h => ?_⟩
  obtain ⟨c, ρ, rfl, g, sl, h⟩ := h
  refine wpAny_Call_Name_kw (ld_glob I hg hm ?_ hdb)
  have h2 : gCan X.K W (RpAll X.K) n σ c.H (fun vs H1 => ∃ c1 a, c1.H = H1 ∧ Step c c1 ∧ Good X.K c1 ∧ RpAll X.K c1 vs a ∧ Post X.K W σ c1 (Rp X.K) Q (m a c1.μ)) := gCan.intro g sl (Post.bind (R := RpAll X.K) h)
  refine PySem.W.callWith_K (h₀ := X.base) I.ok.mod.kin hk (thn (ha.run pos pins s σ c.H _ I h2) fun us s1 hh => ?_) he hpl
  obtain ⟨vs, H1, I1, r, c1, ds, rfl, s1', g1, r1, p1⟩ := hh
  exact ⟨I1.kIn, hf pins s1 σ c1 us vs ds Q I1 g1 r r1 p1⟩
theorem em_call0 (hf : CallF X W (.ref f) m) (hm : X.mg x = some (.ref f)) (hk : PySem.W.keepIn X.K (.ref f) = true) (hg : Gl X x := by rfl) (hdb : (x == ("__debug__" : Str)) = false := by decide) : EM X W (.Call (.Name x p) [] [] pos) (xFn m aNil) := by
  refine ⟨fun pins s σ H Q I h => ?_⟩
  obtain ⟨c, ρ, rfl, g, sl, h⟩ := h
  refine wpAny_Call_Name_kw (ld_glob I hg hm ?_ hdb)
  exact PySem.W.callWith_K0 I.kIn hk (hf pins s σ c [] [] [] Q I g .nil .nil h)
end

/-! ### fields -/
def lookF (f : Str) (fs : List (Str × D)) : Option D := fs.lookup f
theorem RpF.look {K : PySem.W.Frag} {c : Cfg} {f : Str} : ∀ {fv : List (Str × V)} {fs : List (Str × D)} {d : D}, RpF K c fv fs → fs.lookup f = some d → ∃ v, fv.lookup f = some v ∧ Rp K c v d
  | _, _, _, .nil, h => by cases h
  | (x, v) :: fv, (y, e) :: fs, d, .cons h r, q => by
    obtain ⟨h1, h2⟩ := h
    have h1 : x = y := h1
    subst h1
    rw [List.lookup_cons] at q ⊢
    cases b : (f == x) with
    | true => rw [b] at q; cases q; exact ⟨v, rfl, h2⟩
    | false => rw [b] at q; exact RpF.look r q
theorem RpF.lookNone {K : PySem.W.Frag} {c : Cfg} {f : Str} : ∀ {fv : List (Str × V)} {fs : List (Str × D)}, RpF K c fv fs → fs.lookup f = none → fv.lookup f = none
  | _, _, .nil, h => rfl
  | (x, v) :: fv, (y, e) :: fs, .cons h r, q => by
    obtain ⟨h1, h2⟩ := h
    have h1 : x = y := h1
    subst h1
    rw [List.lookup_cons] at q ⊢
    cases b : (f == x) with
    | true => rw [b] at q; cases q
    | false => rw [b] at q; exact RpF.lookNone r q
theorem RpF.len {K : PySem.W.Frag} {c : Cfg} {κ : Type} : ∀ {fv : List (κ × V)} {fs : List (κ × D)}, RpF K c fv fs → fv.length = fs.length := fun r => Paired.length r
/-- an instance's field -/
def fldD (μ : Sto) (x : D) (C f : Str) : Option D := match x with
  | .ptr i => (match μ[i]? with
    | some (.ins C' fs) => if C' = C then fs.lookup f else none
    | _ => none)
  | _ => none
def xFld (C f : Str) (m : Rho → Sto → Res D) : Rho → Sto → Res D := fun ρ μ => (m ρ μ).bind fun x μ1 => match fldD μ1 x C f with
  | some d => .ok d μ1
  | none => .stuck
theorem fldD_ok {K : PySem.W.Frag} {c : Cfg} (g : Good K c) {v : V} {d e : D} {C f : Str} (r : Rp K c v d) (h : fldD c.μ d C f = some e) : ∃ a dx fv u, v = .ref a ∧ c.H a = some (.ins (cad K C) dx fv) ∧ fv.lookup f = some u ∧ Rp K c u e := by
  cases r with
  | ptr hi =>
    rename_i a i
    have h : (match c.μ[i]? with
      | some (.ins C' fs) => if C' = C then fs.lookup f else none
      | _ => none) = some e := h
    cases q : c.μ[i]? with
    | none => rw [q] at h; cases h
    | some cell =>
      rw [q] at h
      cases cell with
      | ins C' fs =>
        have hh : (if C' = C then fs.lookup f else none) = some e := h
        by_cases hC : C' = C
        · rw [if_pos hC] at hh
          obtain ⟨dx, fv, h1, h2⟩ := g.ok i a _ hi q
          obtain ⟨u, h3, h4⟩ := h2.look hh
          exact ⟨a, dx, fv, u, rfl, by rw [← hC]; exact h1, h3, h4⟩
        · rw [if_neg hC] at hh; cases hh
      | lst _ => cases h
      | dit _ => cases h
      | dik _ => cases h
      | dead => cases h
  | _ => cases h
section
variable {X : Cx} {W : WX} {C f : Str} {e o : Expr} {pos pos' : Pos} {m mo : Rho → Sto → Res D}
theorem em_fld (he : EM X W e m) (cl : Cls X.K (cad X.K C)) (na : NoAttr X.K (cad X.K C) f) (hb : attributeBase e f X.env (eval e X.env) = eval e X.env := by rfl) : EM X W (.Attribute e f pos) (xFld C f m) := PE.imp (pe_fld he hb) (by
  rintro σ H Q ⟨c, ρ, rfl, g, s, h⟩
  refine gCan.intro g s ((Post.bind (R := Rp X.K) h).imp ?_)
  rintro v c' d st g' r' ⟨c1, x, e, s1, g1, r1, p1⟩
  rw [← e]
  cases q : fldD c1.μ x C f with
  | none => rw [q] at p1; exact p1.elim
  | some z =>
    rw [q] at p1
    obtain ⟨a, dx, fv, u, h1, h2, h3, h4⟩ := fldD_ok g1 r1 q
    exact ⟨a, _, dx, fv, u, h1, h2, cl, na, h3, Post.same g1 p1 h4⟩)
/-! ### a thing of the store is written -/
end
section
variable {K : PySem.W.Frag} {c : Cfg}
def Cfg.put (c : Cfg) (i : Nat) (a : Addr) (o : HO) (cell : Cell) : Cfg := ⟨upd c.H a o, c.ι, c.μ.set i cell, c.hid⟩
theorem Good.inj (g : Good K c) {i j : Nat} {a : Addr} (hi : c.ι[i]? = some a) (hj : c.ι[j]? = some a) : i = j := nd_ix g.nd hi hj
theorem live_of {i : Nat} {a : Addr} {cell : Cell} (hi : c.ι[i]? = some a) (hc : c.μ[i]? = some cell) (hn : cell ≠ .dead) : c.live a := .inl ⟨i, cell, hi, hc, hn⟩
theorem Mon.put {i : Nat} {a : Addr} {cell' : Cell} (o : HO) (cell : Cell) (hi : c.ι[i]? = some a) (hc : c.μ[i]? = some cell') (hn : cell' ≠ .dead) : Mon c (c.put i a o cell) where
  keep := fun b u e hl => by
    show upd c.H a o b = some u
    rw [upd_ne (fun z => hl (by rw [z]; exact live_of hi hc hn))]; exact e
  pre := fun _ _ e => e
  lv := by
    rintro b (⟨j, ce, h1, h2, h3⟩ | h1)
    · have h2 : (c.μ.set i cell)[j]? = some ce := h2
      by_cases hj : i = j
      · subst hj
        have h1 : c.ι[i]? = some b := h1
        rw [hi] at h1; cases h1
        exact .inl (live_of hi hc hn)
      · rw [List.getElem?_set_ne hj] at h2
        exact .inl (.inl ⟨j, ce, h1, h2, h3⟩)
    · exact .inl (.inr h1)
theorem Good.put (g : Good K c) {i : Nat} {a : Addr} {cell' cell : Cell} {o : HO} (hi : c.ι[i]? = some a) (hc : c.μ[i]? = some cell') (hn : cell' ≠ .dead) (ok : CellOk K (c.put i a o cell) a cell) : Good K (c.put i a o cell) where
  len := by show c.ι.length = (c.μ.set i cell).length; rw [List.length_set, g.len]
  nd := g.nd
  ok := by
    intro j b ce h1 h2
    have h2 : (c.μ.set i cell)[j]? = some ce := h2
    have h1 : c.ι[j]? = some b := h1
    by_cases hj : i = j
    · subst hj
      rw [hi] at h1; cases h1
      have hl := (List.getElem?_eq_some_iff.mp hc).1
      rw [List.getElem?_set_self hl] at h2
      cases h2
      exact ok
    · rw [List.getElem?_set_ne hj] at h2
      refine (g.ok j b ce h1 h2).mono (Mon.put o cell hi hc hn) fun u e => ?_
      show upd c.H a o b = some u
      rw [upd_ne (fun z => hj (g.inj hi (by rw [← z]; exact h1)))]; exact e
  al := by
    intro j b h1
    show upd c.H a o b ≠ none
    by_cases hb : b = a
    · rw [hb, upd_same]; simp
    · rw [upd_ne hb]; exact g.al j b h1
  hd := by
    intro b hb
    have hne : b ≠ a := fun z => (g.hd b hb).2 (by rw [z]; exact List.mem_of_getElem? hi)
    refine ⟨?_, (g.hd b hb).2⟩
    show upd c.H a o b ≠ none
    rw [upd_ne hne]; exact (g.hd b hb).1
theorem Step.put (g : Good K c) {i : Nat} {a : Addr} {cell' : Cell} (o : HO) (cell : Cell) (hi : c.ι[i]? = some a) (hc : c.μ[i]? = some cell') (hn : cell' ≠ .dead) : Step c (c.put i a o cell) := ⟨Mon.put o cell hi hc hn, fun b hb => by
  show upd c.H a o b = c.H b
  exact upd_ne (fun z => (g.hd b hb).2 (by rw [z]; exact List.mem_of_getElem? hi)), rfl⟩
end
/-! ### o.f = e -/
def putFD (f : Str) (d : D) : List (Str × D) → List (Str × D)
  | [] => [(f, d)]
  | (x, e) :: r => if x = f then (x, d) :: r else (x, e) :: putFD f d r
theorem RpF.put {K : PySem.W.Frag} {c : Cfg} {f : Str} {v : V} {d : D} (h : Rp K c v d) : ∀ {fv : List (Str × V)} {fs : List (Str × D)}, RpF K c fv fs → RpF K c (putF f v fv) (putFD f d fs)
  | _, _, .nil => .cons ⟨rfl, h⟩ .nil
  | (x, v') :: fv, (y, e) :: fs, .cons q r => by
    obtain ⟨h1, h2⟩ := q
    have h1 : x = y := h1
    subst h1
    show RpF K c (if x = f then (x, v) :: fv else (x, v') :: putF f v fv) (if x = f then (x, d) :: fs else (x, e) :: putFD f d fs)
    by_cases hf : x = f
    · rw [if_pos hf, if_pos hf]; exact .cons ⟨rfl, h⟩ r
    · rw [if_neg hf, if_neg hf]; exact .cons ⟨rfl, h2⟩ (RpF.put h r)
def sFldM (C f : Str) (mv mo : Rho → Sto → Res D) : SMir := fun ρ μ => sB (mv ρ μ) ρ fun d μ1 => sB (mo ρ μ1) ρ fun x μ2 => match x with
  | .ptr i => (match μ2[i]? with
    | some (.ins C' fs) => if C' = C ∧ fs.length < 1000 then .nx ρ (μ2.set i (.ins C' (putFD f d fs))) else .stuck
    | _ => .stuck)
  | _ => .stuck
section
variable {X : Cx} {W : WX} {C f : Str} {e o value : Expr} {pos pos' : Pos} {m mo mv : Rho → Sto → Res D}
theorem sm_fld (ho : EM X W o mo) (hv : EM X W value mv) (cl : Cls X.K (cad X.K C)) (na : NoAttr X.K (cad X.K C) f) (hs : swapsWith value (some (.Attribute o f pos')) pos.line X.env = pure false := by rfl) : SM X W (.Assign [.Attribute o f pos'] value pos) (sFldM C f mv mo) := PS.imp (ps_fld ho hv hs) (by
  rintro D' σ H ⟨c, ρ, rfl, g, s, h⟩
  refine gCan.intro g s ((PostS.ofB (R := Rp X.K) h s).imp ?_)
  rintro v c' d' st g' r' ⟨c1, d, e, s1, g1, r1, p1⟩
  rw [← e]
  refine gCan.intro g1 (s.mono s1) ((PostS.ofB (R := Rp X.K) p1 (s.mono s1)).imp ?_)
  rintro v2 c2' d2 st2 g2' r2' ⟨c2, x, e2, s2, g2, r2, p2⟩
  rw [← e2]
  cases r2 with
  | ptr hi =>
    rename_i a i
    have p2 : PostS X.K W D' c2 (match c2.μ[i]? with
      | some (.ins C' fs) => if C' = C ∧ fs.length < 1000 then .nx ρ (c2.μ.set i (.ins C' (putFD f d fs))) else .stuck
      | _ => .stuck) := p2
    cases q : c2.μ[i]? with
    | none => rw [q] at p2; exact p2.elim
    | some cell =>
      rw [q] at p2
      cases cell with
      | ins C' fs =>
        have p3 : PostS X.K W D' c2 (if C' = C ∧ fs.length < 1000 then .nx ρ (c2.μ.set i (.ins C' (putFD f d fs))) else .stuck) := p2
        by_cases hC : C' = C ∧ fs.length < 1000
        · rw [if_pos hC] at p3
          obtain ⟨dx, fv, h1, h2⟩ := g2.ok i a _ hi q
          have st3 := Step.put g2 (.ins (cad X.K C') dx (putF f v fv)) (.ins C' (putFD f d fs)) hi q (by simp)
          refine ⟨a, _, dx, fv, rfl, by rw [← hC.1]; exact h1, cl, na, by rw [h2.len]; exact hC.2, ?_⟩
          rw [← hC.1]
          refine p3 σ (c2.put i a _ _) st3 (g2.put hi q (by simp) ?_) rfl ((s.mono s1).mono (s2.trans st3).toMon)
          exact ⟨dx, putF f v fv, upd_same, RpF.put (r1.mono (s2.trans st3).toMon) (h2.mono st3.toMon)⟩
        · rw [if_neg hC] at p3; exact p3.elim
      | lst _ => exact p2.elim
      | dit _ => exact p2.elim
      | dik _ => exact p2.elim
      | dead => exact p2.elim
  | _ => exact p2.elim)
end
end FL
end S_FL7
section S_FL8
set_option Elab.async false
set_option linter.all false
set_option maxRecDepth 100000
set_option maxHeartbeats 4000000
/-! FL8: what is walked, told once for loops and comprehensions; list comprehensions. -/
namespace FL
open PySem PySem.Spec PyProof.Rows L2

/-- the walk J yields these data, one a turn -/
structure Walks (K : PySem.W.Frag) (c0 : Cfg) (J : It) (ds : List D) : Prop where
  go : ∀ (i : Nat) (c : Cfg), Mon c0 c → Good K c → i < ds.length → J.go i c.H
  yld : ∀ (i : Nat) (c : Cfg) (x : V) (H' : Hp), Mon c0 c → Good K c → i < ds.length → J.yld i c.H x H' → ∃ c' d, c'.H = H' ∧ Step c c' ∧ Good K c' ∧ c'.μ = c.μ ∧ ds[i]? = some d ∧ Rp K c' x d
  stop : ∀ (c : Cfg), Mon c0 c → Good K c → J.stop ds.length c.H
def RW (K : PySem.W.Frag) : Cfg → It → List D → Prop := fun c J ds => Walks K c J ds
def IM (X : Cx) (W : WX) (tg iter : Expr) (m : Rho → Sto → Res (List D)) : Prop := PI X tg iter (gCan X.K W (RW X.K) m)
theorem PI.imp {X : Cx} {tg e : Expr} {t t' : TI} (h : PI X tg e t) (hi : ∀ σ H R, t' σ H R → t σ H R) : PI X tg e t' := ⟨fun pins s σ H R I q => h.run pins s σ H R I (hi σ H R q)⟩
theorem Walks.step {K : PySem.W.Frag} {c c1 : Cfg} {J : It} {ds : List D} (h : Walks K c J ds) (s : Mon c c1) : Walks K c1 J ds := ⟨fun i c2 s2 => h.go i c2 (s.trans s2), fun i c2 x H' s2 => h.yld i c2 x H' (s.trans s2), fun c2 s2 => h.stop c2 (s.trans s2)⟩
section
variable {K : PySem.W.Frag} {c : Cfg}
theorem walks_list {a : Addr} {vs : List V} {ds : List D} (rs : RpAll K c vs ds) (h : ∀ c', Mon c c' → SqL K c'.H a vs) : Walks K c (Itl K a) ds where
  go := fun i c1 s g hi => by
    obtain ⟨v, h1, _⟩ := rs.get (List.getElem?_eq_getElem hi)
    exact ⟨vs, v, h c1 s, h1⟩
  yld := fun i c1 x H' s g hi y => by
    obtain ⟨e, y⟩ := y
    obtain ⟨d, h1, h2⟩ := rs.getV (y vs (h c1 s))
    exact ⟨c1, d, e.symm, Step.refl c1, g, rfl, h1, h2.mono s⟩
  stop := fun c1 s g => ⟨vs, h c1 s, by rw [rs.length]; exact Nat.le_refl _⟩
theorem walks_tup {a : Addr} {vs : List V} {ds : List D} (rs : RpAll K c vs ds) (h : ∀ c', Mon c c' → SqT K c'.H a vs) : Walks K c (Itt K a) ds where
  go := fun i c1 s g hi => by
    obtain ⟨v, h1, _⟩ := rs.get (List.getElem?_eq_getElem hi)
    exact ⟨vs, v, h c1 s, h1⟩
  yld := fun i c1 x H' s g hi y => by
    obtain ⟨e, y⟩ := y
    obtain ⟨d, h1, h2⟩ := rs.getV (y vs (h c1 s))
    exact ⟨c1, d, e.symm, Step.refl c1, g, rfl, h1, h2.mono s⟩
  stop := fun c1 s g => ⟨vs, h c1 s, by rw [rs.length]; exact Nat.le_refl _⟩
theorem walks_rng {lo : Int} {n : Nat} : Walks K c (Itr lo n) (rngL lo n) where
  go := fun i c1 s g hi => by
    show i < n
    simpa [rngL] using hi
  yld := fun i c1 x H' s g hi y => by
    obtain ⟨rfl, rfl⟩ := y
    have hi : i < n := by simpa [rngL] using hi
    exact ⟨c1, _, rfl, Step.refl c1, g, rfl, by unfold rngL; rw [List.getElem?_map, List.getElem?_range hi]; rfl, .int _⟩
  stop := fun c1 s g => by
    show n ≤ (rngL lo n).length
    simp [rngL]
theorem walks_rngD {lo : Int} {n : Nat} : Walks K c (Itc lo (-1) n) (rngDL lo n) where
  go := fun i c1 s g hi => by
    show i < n
    simpa [rngDL] using hi
  yld := fun i c1 x H' s g hi y => by
    obtain ⟨rfl, rfl⟩ := y
    have hi : i < n := by simpa [rngDL] using hi
    exact ⟨c1, _, rfl, Step.refl c1, g, rfl, by unfold rngDL; rw [List.getElem?_map, List.getElem?_range hi]; rfl, .int _⟩
  stop := fun c1 s g => by
    show n ≤ (rngDL lo n).length
    simp [rngDL]
/-- pairs -/
def zipD (xs ys : List D) : List D := (xs.zip ys).map fun p => .tup [p.1, p.2]
theorem pair_new (g : Good K c) {T : Addr} (hT : c.H T = none) {x y : V} {d e : D} (h1 : Rp K c x d) (h2 : Rp K c y e) : Rp K (c.new T (.tup [x, y])) (.ref T) (.tup [d, e]) := Rp.newTup g hT (.cons h1 (.cons h2 .nil))
theorem zipD_get {xs ys : List D} {i : Nat} {d e : D} (h1 : xs[i]? = some d) (h2 : ys[i]? = some e) : (zipD xs ys)[i]? = some (.tup [d, e]) := by
  unfold zipD
  rw [List.getElem?_map]
  have : (xs.zip ys)[i]? = some (d, e) := by rw [List.getElem?_zip_eq_some]; exact ⟨h1, h2⟩
  rw [this]; rfl
theorem zipD_len (xs ys : List D) : (zipD xs ys).length = min xs.length ys.length := by unfold zipD; rw [List.length_map, List.length_zip]
theorem walks_zip {a b : Addr} {vs us : List V} {ds es : List D} (rs : RpAll K c vs ds) (rt : RpAll K c us es) (h : ∀ c', Mon c c' → SqL K c'.H a vs) (h' : ∀ c', Mon c c' → SqL K c'.H b us) : Walks K c (Itz K a b) (zipD ds es) where
  go := fun i c1 s g hi => by
    rw [zipD_len] at hi
    obtain ⟨v, h1, _⟩ := rs.get (List.getElem?_eq_getElem (show i < ds.length by omega))
    obtain ⟨u, h2, _⟩ := rt.get (List.getElem?_eq_getElem (show i < es.length by omega))
    exact ⟨vs, us, v, u, h c1 s, h' c1 s, h1, h2⟩
  yld := fun i c1 x H' s g hi y => by
    obtain ⟨T, x, y, rfl, hT, rfl, hx, hy⟩ := y
    obtain ⟨d, h1, h2⟩ := rs.getV (hx vs (h c1 s))
    obtain ⟨e, h3, h4⟩ := rt.getV (hy us (h' c1 s))
    exact ⟨c1.new T (.tup [x, y]), _, rfl, Step.new g _ hT, g.new hT, rfl, zipD_get h1 h3, pair_new g hT (h2.mono s) (h4.mono s)⟩
  stop := fun c1 s g => ⟨vs, us, h c1 s, h' c1 s, by rw [rs.length, rt.length, zipD_len]; omega⟩
theorem walks_zipT {a b : Addr} {vs us : List V} {ds es : List D} (rs : RpAll K c vs ds) (rt : RpAll K c us es) (h : ∀ c', Mon c c' → SqT K c'.H a vs) (h' : ∀ c', Mon c c' → SqT K c'.H b us) : Walks K c (RZ.ItzT K a b) (zipD ds es) where
  go := fun i c1 s g hi => by
    rw [zipD_len] at hi
    obtain ⟨v, h1, _⟩ := rs.get (List.getElem?_eq_getElem (show i < ds.length by omega))
    obtain ⟨u, h2, _⟩ := rt.get (List.getElem?_eq_getElem (show i < es.length by omega))
    exact ⟨vs, us, v, u, h c1 s, h' c1 s, h1, h2⟩
  yld := fun i c1 x H' s g hi y => by
    obtain ⟨T, x, y, rfl, hT, rfl, hx, hy⟩ := y
    obtain ⟨d, h1, h2⟩ := rs.getV (hx vs (h c1 s))
    obtain ⟨e, h3, h4⟩ := rt.getV (hy us (h' c1 s))
    exact ⟨c1.new T (.tup [x, y]), _, rfl, Step.new g _ hT, g.new hT, rfl, zipD_get h1 h3, pair_new g hT (h2.mono s) (h4.mono s)⟩
  stop := fun c1 s g => ⟨vs, us, h c1 s, h' c1 s, by rw [rs.length, rt.length, zipD_len]; omega⟩
/-- enumerate -/
def enumD (i : Nat) : List D → List D
  | [] => []
  | d :: r => .tup [.int (i : Int), d] :: enumD (i + 1) r
theorem enumD_get : ∀ {ds : List D} {i j : Nat} {d : D}, ds[i]? = some d → (enumD j ds)[i]? = some (.tup [.int ((j + i : Nat) : Int), d])
  | [], i, j, d, h => by simp at h
  | x :: r, 0, j, d, h => by simp at h; subst h; rfl
  | x :: r, i + 1, j, d, h => by
    have q := enumD_get (ds := r) (i := i) (j := j + 1) (d := d) (by simpa using h)
    show (enumD (j + 1) r)[i]? = _
    rw [q, show j + 1 + i = j + (i + 1) by omega]
theorem enumD_len : ∀ (ds : List D) (j : Nat), (enumD j ds).length = ds.length
  | [], _ => rfl
  | _ :: r, j => by show (enumD (j + 1) r).length + 1 = r.length + 1; rw [enumD_len r]
theorem walks_enum {a : Addr} {vs : List V} {ds : List D} (rs : RpAll K c vs ds) (h : ∀ c', Mon c c' → SqL K c'.H a vs) : Walks K c (Ite K a) (enumD 0 ds) where
  go := fun i c1 s g hi => by
    rw [enumD_len] at hi
    obtain ⟨v, h1, _⟩ := rs.get (List.getElem?_eq_getElem hi)
    exact ⟨vs, v, h c1 s, h1⟩
  yld := fun i c1 x H' s g hi y => by
    obtain ⟨T, x, rfl, hT, rfl, hx⟩ := y
    obtain ⟨d, h1, h2⟩ := rs.getV (hx vs (h c1 s))
    refine ⟨c1.new T (.tup [.int (i : Nat), x]), _, rfl, Step.new g _ hT, g.new hT, rfl, enumD_get h1, ?_⟩
    rw [Nat.zero_add]
    exact pair_new g hT (.int _) (h2.mono s)
  stop := fun c1 s g => ⟨vs, h c1 s, by rw [rs.length, enumD_len]; exact Nat.le_refl _⟩
theorem walks_rev {a : Addr} {vs : List V} {ds : List D} (rs : RpAll K c vs ds) (h : ∀ c', Mon c c' → SqL K c'.H a vs) : Walks K c (Itv K a vs.length) ds.reverse where
  go := fun i c1 s g hi => by
    rw [List.length_reverse, ← rs.length] at hi
    exact ⟨hi, vs, vs[vs.length - 1 - i], h c1 s, List.getElem?_eq_getElem (by omega)⟩
  yld := fun i c1 x H' s g hi y => by
    obtain ⟨e, y⟩ := y
    obtain ⟨d, h1, h2⟩ := rs.getV (y vs (h c1 s))
    rw [List.length_reverse] at hi
    refine ⟨c1, d, e.symm, Step.refl c1, g, rfl, ?_, h2.mono s⟩
    rw [List.getElem?_reverse hi, ← rs.length]; exact h1
  stop := fun c1 s g => by
    show vs.length ≤ ds.reverse.length
    rw [List.length_reverse, rs.length]; exact Nat.le_refl _
theorem walks_revT {a : Addr} {vs : List V} {ds : List D} (rs : RpAll K c vs ds) (h : ∀ c', Mon c c' → SqT K c'.H a vs) : Walks K c (RT.ItvT K a vs.length) ds.reverse where
  go := fun i c1 s g hi => by
    rw [List.length_reverse, ← rs.length] at hi
    exact ⟨hi, vs, vs[vs.length - 1 - i], h c1 s, List.getElem?_eq_getElem (by omega)⟩
  yld := fun i c1 x H' s g hi y => by
    obtain ⟨e, y⟩ := y
    obtain ⟨d, h1, h2⟩ := rs.getV (y vs (h c1 s))
    rw [List.length_reverse] at hi
    refine ⟨c1, d, e.symm, Step.refl c1, g, rfl, ?_, h2.mono s⟩
    rw [List.getElem?_reverse hi, ← rs.length]; exact h1
  stop := fun c1 s g => by
    show vs.length ≤ ds.reverse.length
    rw [List.length_reverse, rs.length]; exact Nat.le_refl _
end
/-- a value that is walked -/
def iVal (m : Rho → Sto → Res D) : Rho → Sto → Res (List D) := fun ρ μ => (m ρ μ).bind fun x μ1 => match rdF x with
  | some xs => .ok xs μ1
  | none => .stuck
def iOf (rd : List D → Option (List D)) (n : Rho → Sto → Res (List D)) : Rho → Sto → Res (List D) := fun ρ μ => (n ρ μ).bind fun ds μ1 => match rd ds with
  | some xs => .ok xs μ1
  | none => .stuck
def rdR1 (ds : List D) : Option (List D) := (rngD1 ds).map fun p => rngL p.1 p.2
def rdR2 (ds : List D) : Option (List D) := (rngD2 ds).map fun p => rngL p.1 p.2
def rdR3 (ds : List D) : Option (List D) := (rngD3 ds).map fun p => rngDL p.1 p.2
def rdZip : List D → Option (List D)
  | [x, y] => (match rdFL x, rdFL y with
    | some xs, some ys => some (zipD xs ys)
    | _, _ => (match rdT x, rdT y with
      | some xs, some ys => some (zipD xs ys)
      | _, _ => none))
  | _ => none
def rdEnum : List D → Option (List D)
  | [x] => (rdFL x).map (enumD 0)
  | _ => none
section
variable {X : Cx} {W : WX} {tg e e2 e3 : Expr} {m : Rho → Sto → Res D} {n : Rho → Sto → Res (List D)} {p pos tpos : Pos} {elts : List Expr} {kk : Nat}
theorem im_val (h : EM X W e m) : IM X W tg e (iVal m) := PI.imp (PI.or (pi_list h) (pi_tup h)) (by
  rintro σ H R ⟨c, ρ, rfl, g, s, h⟩
  have h : Post X.K W σ c (RW X.K) R ((m ρ c.μ).bind fun x μ1 => match rdF x with
    | some xs => .ok xs μ1
    | none => .stuck) := h
  cases em : m ρ c.μ with
  | stuck => rw [em] at h; exact h.elim
  | exc x μ1 =>
    rw [em] at h
    refine .inl (gCan.intro g s ?_)
    rw [em]
    exact h
  | ok x μ1 =>
    rw [em] at h
    cases et : rdT x with
    | some xs =>
      refine .inr (gCan.intro g s ?_)
      rw [em]
      intro v c1 s1 g1 e1 r1
      obtain ⟨a, vs, rfl, rs, hT⟩ := rdFT_ok r1 et
      have h : Post X.K W σ c (RW X.K) R (.ok xs μ1) := by
        have e2 : rdF x = some xs := by unfold rdF; rw [et]
        have h : Post X.K W σ c (RW X.K) R (match rdF x with
          | some xs => .ok xs μ1
          | none => .stuck) := h
        rw [e2] at h; exact h
      exact ⟨a, rfl, ⟨vs, hT c1 (Mon.refl c1)⟩, h _ c1 s1 g1 e1 (walks_tup rs hT)⟩
    | none =>
      refine .inl (gCan.intro g s ?_)
      rw [em]
      intro v c1 s1 g1 e1 r1
      have h : Post X.K W σ c (RW X.K) R (match rdF x with
          | some xs => .ok xs μ1
          | none => .stuck) := h
      have e2 : rdF x = rdFL x := by unfold rdF; rw [et]
      rw [e2] at h
      cases el : rdFL x with
      | none => rw [el] at h; exact h.elim
      | some xs =>
        rw [el] at h
        obtain ⟨a, vs, rfl, rs, hT⟩ := rdFL_ok r1 el
        exact ⟨a, rfl, ⟨vs, hT c1 (Mon.refl c1)⟩, h _ c1 s1 g1 e1 (walks_list rs hT)⟩)
theorem im_rng1 (hn : AM X W [e] n) (hm : X.mg "range" = none) (hr : Gl X "range" := by rfl) (hs1 : starEach [e] X.env = [(false, eval e X.env)] := by rfl) : IM X W tg (.Call (.Name "range" p) [e] [] pos) (iOf rdR1 n) := PI.imp (pi_range1 hr hm hn hs1) (by
  rintro σ H R ⟨c, ρ, rfl, g, s, h⟩
  refine gCan.intro g s ((Post.bind (R := RpAll X.K) h).imp ?_)
  rintro v c' d st g' r' ⟨c1, ds, e, s1, g1, r1, p1⟩
  rw [← e]
  cases q : rngD1 ds with
  | none => rw [show rdR1 ds = none by unfold rdR1; rw [q]; rfl] at p1; exact p1.elim
  | some z =>
    obtain ⟨lo, k⟩ := z
    rw [show rdR1 ds = some (rngL lo k) by unfold rdR1; rw [q]; rfl] at p1
    obtain ⟨j, rfl, h1, h2, rfl, rfl⟩ := rngD1_eq q
    obtain ⟨v, rfl, h3⟩ := r1.one
    cases h3
    exact ⟨j, rfl, h1, h2, Post.same (R := RW X.K) g1 p1 walks_rng⟩)
theorem im_rng2 (hn : AM X W [e, e2] n) (hm : X.mg "range" = none) (hr : Gl X "range" := by rfl) (hs1 : starEach [e, e2] X.env = [(false, eval e X.env), (false, eval e2 X.env)] := by rfl) (hs2 : starEach [e2] X.env = [(false, eval e2 X.env)] := by rfl) : IM X W tg (.Call (.Name "range" p) [e, e2] [] pos) (iOf rdR2 n) := PI.imp (pi_range2 hr hm hn hs1 hs2) (by
  rintro σ H R ⟨c, ρ, rfl, g, s, h⟩
  refine gCan.intro g s ((Post.bind (R := RpAll X.K) h).imp ?_)
  rintro v c' d st g' r' ⟨c1, ds, e, s1, g1, r1, p1⟩
  rw [← e]
  cases q : rngD2 ds with
  | none => rw [show rdR2 ds = none by unfold rdR2; rw [q]; rfl] at p1; exact p1.elim
  | some z =>
    obtain ⟨lo, k⟩ := z
    rw [show rdR2 ds = some (rngL lo k) by unfold rdR2; rw [q]; rfl] at p1
    obtain ⟨i, j, rfl, h1, h5, rfl⟩ := rngD2_eq q
    subst h5
    obtain ⟨v, u, rfl, h3, h4⟩ := r1.two
    cases h3; cases h4
    exact ⟨_, j, rfl, h1, Post.same (R := RW X.K) g1 p1 walks_rng⟩)
theorem im_rng3 (hn : AM X W [e, e2, e3] n) (hm : X.mg "range" = none) (hr : Gl X "range" := by rfl) (hs1 : starEach [e, e2, e3] X.env = (false, eval e X.env) :: starEach [e2, e3] X.env := by rfl) (hpl : (backTo pos (starEach [e2, e3] X.env)).any (·.1) = false := by rfl) : IM X W tg (.Call (.Name "range" p) [e, e2, e3] [] pos) (iOf rdR3 n) := PI.imp (pi_range3 hr hm hn hs1 hpl) (by
  rintro σ H R ⟨c, ρ, rfl, g, s, h⟩
  refine gCan.intro g s ((Post.bind (R := RpAll X.K) h).imp ?_)
  rintro v c' d st g' r' ⟨c1, ds, e, s1, g1, r1, p1⟩
  rw [← e]
  cases q : rngD3 ds with
  | none => rw [show rdR3 ds = none by unfold rdR3; rw [q]; rfl] at p1; exact p1.elim
  | some z =>
    obtain ⟨lo, k⟩ := z
    rw [show rdR3 ds = some (rngDL lo k) by unfold rdR3; rw [q]; rfl] at p1
    obtain ⟨j, rfl, h1, rfl⟩ := rngD3_eq q
    cases r1 with
    | cons h0 r1 =>
      obtain ⟨v, u, rfl, h3, h4⟩ := r1.two
      cases h0; cases h3; cases h4
      exact ⟨lo, j, -1, _, rfl, RgC.neg h1.1 h1.2.1 h1.2.2.1 h1.2.2.2, Post.same (R := RW X.K) g1 p1 walks_rngD⟩)
theorem im_zip (hn : AM X W [e, e2] n) (hm : X.mg "zip" = none) (hg : Gl X "zip" := by rfl) (hs : starEach [e, e2] X.env = (false, eval e X.env) :: starEach [e2] X.env := by rfl) (hpl : (backTo pos (starEach [e2] X.env)).any (·.1) = false := by rfl) :
    IM X W (.Tuple elts kk tpos) (.Call (.Name "zip" p) [e, e2] [] pos) (iOf rdZip n) := PI.imp (RZ.pi_zipA hg hm hn hs hpl) (by
  rintro σ H R ⟨c, ρ, rfl, g, s, h⟩
  refine gCan.intro g s ((Post.bind (R := RpAll X.K) h).imp ?_)
  rintro v c' d st g' r' ⟨c1, ds, e, s1, g1, r1, p1⟩
  rw [← e]
  match ds, r1, p1 with
  | [x, y], r1, p1 =>
    obtain ⟨v, u, rfl, h1, h2⟩ := r1.two
    have tups : (match rdT x, rdT y with
        | some xs, some ys => some (zipD xs ys)
        | _, _ => none) = rdZip [x, y] → ∃ a b xs ys, [v, u] = [V.ref a, V.ref b] ∧ ((SqL X.K c1.H a xs ∧ SqL X.K c1.H b ys ∧ R (Itz X.K a b) c1.H) ∨ (SqT X.K c1.H a xs ∧ SqT X.K c1.H b ys ∧ R (RZ.ItzT X.K a b) c1.H)) := fun q => by
      rw [← q] at p1
      cases q1 : rdT x with
      | none => rw [q1] at p1; exact p1.elim
      | some xs =>
        cases q2 : rdT y with
        | none => rw [q1, q2] at p1; exact p1.elim
        | some ys =>
          rw [q1, q2] at p1
          obtain ⟨a, vs, e1, rs, hT⟩ := rdFT_ok h1 q1
          obtain ⟨b, us, e2, rt, hU⟩ := rdFT_ok h2 q2
          exact ⟨a, b, vs, us, by rw [e1, e2], .inr ⟨hT c1 (Mon.refl c1), hU c1 (Mon.refl c1), Post.same (R := RW X.K) g1 p1 (walks_zipT rs rt hT hU)⟩⟩
    cases q1 : rdFL x with
    | none => exact tups (by simp only [rdZip, q1])
    | some xs =>
      cases q2 : rdFL y with
      | none => exact tups (by simp only [rdZip, q1, q2])
      | some ys =>
        have p1 : Post X.K W σ c1 (RW X.K) R (.ok (zipD xs ys) c1.μ) := by
          have e3 : rdZip [x, y] = some (zipD xs ys) := by simp only [rdZip, q1, q2]
          rw [e3] at p1; exact p1
        obtain ⟨a, vs, e1, rs, hT⟩ := rdFL_ok h1 q1
        obtain ⟨b, us, e2, rt, hU⟩ := rdFL_ok h2 q2
        exact ⟨a, b, vs, us, by rw [e1, e2], .inl ⟨hT c1 (Mon.refl c1), hU c1 (Mon.refl c1), Post.same (R := RW X.K) g1 p1 (walks_zip rs rt hT hU)⟩⟩
  | [], _, p1 => exact p1.elim
  | [_], _, p1 => exact p1.elim
  | _ :: _ :: _ :: _, _, p1 => exact p1.elim)
theorem im_enum (hn : AM X W [e] n) (hm : X.mg "enumerate" = none) (hg : Gl X "enumerate" := by rfl) (hs : starEach [e] X.env = [(false, eval e X.env)] := by rfl) :
    IM X W (.Tuple elts kk tpos) (.Call (.Name "enumerate" p) [e] [] pos) (iOf rdEnum n) := PI.imp (pi_enum hg hm hn hs) (by
  rintro σ H R ⟨c, ρ, rfl, g, s, h⟩
  refine gCan.intro g s ((Post.bind (R := RpAll X.K) h).imp ?_)
  rintro v c' d st g' r' ⟨c1, ds, e, s1, g1, r1, p1⟩
  rw [← e]
  match ds, r1, p1 with
  | [x], r1, p1 =>
    obtain ⟨v, rfl, h1⟩ := r1.one
    have p1 : Post X.K W σ c1 (RW X.K) R (match (rdFL x).map (enumD 0) with
      | some xs => .ok xs c1.μ
      | none => .stuck) := p1
    cases q1 : rdFL x with
    | none => rw [q1] at p1; exact p1.elim
    | some xs =>
      rw [q1] at p1
      obtain ⟨a, vs, rfl, rs, hT⟩ := rdFL_ok h1 q1
      exact ⟨a, vs, rfl, hT c1 (Mon.refl c1), Post.same (R := RW X.K) g1 p1 (walks_enum rs hT)⟩
  | [], _, p1 => exact p1.elim
  | _ :: _ :: _, _, p1 => exact p1.elim)
theorem im_rev (h : EM X W e m) (hm : X.mg "reversed" = none) (hg : Gl X "reversed" := by rfl) (hs : starEach [e] X.env = (false, eval e X.env) :: starEach [] X.env := by rfl) : IM X W tg (.Call (.Name "reversed" p) [e] [] pos) (fun ρ μ => (iVal m ρ μ).bind fun xs μ1 => .ok xs.reverse μ1) := PI.imp (RT.pi_revA hg hm h hs) (by
  rintro σ H R ⟨c, ρ, rfl, g, s, h⟩
  have h : Post X.K W σ c (RW X.K) R (((m ρ c.μ).bind fun x μ1 => match rdF x with
    | some xs => Res.ok xs μ1
    | none => .stuck).bind fun xs μ1 => .ok xs.reverse μ1) := h
  refine gCan.intro g s ?_
  cases em : m ρ c.μ with
  | stuck => rw [em] at h; exact h.elim
  | exc x μ1 => rw [em] at h; exact h
  | ok x μ1 =>
    rw [em] at h
    intro v c1 s1 g1 e1 r1
    have h : Post X.K W σ c (RW X.K) R ((match rdF x with
      | some xs => Res.ok xs μ1
      | none => .stuck).bind fun xs μ1 => .ok xs.reverse μ1) := h
    cases et : rdT x with
    | some xs =>
      have e2 : rdF x = some xs := by unfold rdF; rw [et]
      rw [e2] at h
      obtain ⟨a, vs, rfl, rs, hT⟩ := rdFT_ok r1 et
      exact ⟨a, vs, rfl, .inr ⟨hT c1 (Mon.refl c1), h _ c1 s1 g1 e1 (walks_revT rs hT)⟩⟩
    | none =>
      have e2 : rdF x = rdFL x := by unfold rdF; rw [et]
      rw [e2] at h
      cases el : rdFL x with
      | none => rw [el] at h; exact h.elim
      | some xs =>
        rw [el] at h
        obtain ⟨a, vs, rfl, rs, hT⟩ := rdFL_ok r1 el
        exact ⟨a, vs, rfl, .inl ⟨hT c1 (Mon.refl c1), h _ c1 s1 g1 e1 (walks_rev rs hT)⟩⟩)
end

/-! ### for, over any walk -/
def sForI (im : Rho → Sto → Res (List D)) (g : GMir) (b : SMir) : SMir := fun ρ μ => sB (im ρ μ) ρ fun xs μ1 => forL g b xs ρ μ1
section
variable {X : Cx} {W : WX} {tg e : Expr} {pos : Pos} {im : Rho → Sto → Res (List D)} {g : GMir} {b : SMir} {body : List Stmt}
theorem sm_forI (hp : PassesOwn (model X.prog X.w) X.A X.env X.xe) (hc : X.calm = true) (hi : IM X W tg e im) (hg : GM X W tg g) (k : GOk g) (hb : BM X W body b) (hs : ∀ x, foldedSetIterable e X.env x = pure x := by intro _; rfl) : SM X W (.For tg e body [] pos) (sForI im g b) := PS.imp (ps_for hp hc hi hg hb hs) (by
  rintro D' σ H ⟨c, ρ, rfl, gd, s, h⟩
  refine gCan.intro gd s ((PostS.ofB (R := RW X.K) h s).imp ?_)
  rintro J c' d st g' r' ⟨c1, ds, e, s1, g1, wk, p1⟩
  rw [← e]
  refine ⟨fun i m σ H => m = ds.length - i ∧ i ≤ ds.length ∧ ∃ c ρ, c.H = H ∧ Step c1 c ∧ Good X.K c ∧ Slots X.K c σ ρ ∧ PostS X.K W D' c (forL g b (ds.drop i) ρ c.μ), ⟨_, rfl, Nat.zero_le _, c1, ρ, rfl, Step.refl c1, g1, s.mono s1.toMon, p1⟩, ?_⟩
  rintro i m σ H ⟨rfl, hi, c2, ρ2, rfl, s2, g2, sl2, p2⟩
  by_cases hlt : i < ds.length
  · refine .inr ⟨wk.go i c2 s2.toMon g2 hlt, fun σ H => i + 1 ≤ ds.length ∧ ∃ c ρ, c.H = H ∧ Step c1 c ∧ Good X.K c ∧ Slots X.K c σ ρ ∧ PostS X.K W D' c (forL g b (ds.drop (i + 1)) ρ c.μ), fun σ' H' q => ⟨_, (by omega : ds.length - (i + 1) < ds.length - i), rfl, q⟩, fun x H' y => ?_⟩
    obtain ⟨c3, d, rfl, s3, g3, e3, hd, rx⟩ := wk.yld i c2 x H' s2.toMon g2 hlt y
    have ed : ds.drop i = d :: ds.drop (i + 1) := by
      obtain ⟨hl, he⟩ := List.getElem?_eq_some_iff.mp hd
      rw [List.drop_eq_getElem_cons hl, he]
    rw [ed] at p2
    have p2 : PostS X.K W D' c2 (((g d ρ2 c2.μ).seq b).turn (forL g b (ds.drop (i + 1)))) := p2
    have p3 := p2.step s3
    rw [← e3] at p3
    refine ⟨c3, ρ2, d, rfl, g3, sl2.mono s3.toMon, rx, ?_⟩
    refine (k.only (PostS.ofSeq (PostS.ofTurn p3))).imp ?_ (fun _ _ z => z.elim) (fun _ _ z => z.elim) (fun _ _ z => z.elim)
    rintro σ' H' ⟨c4, ρ4, e, s4, g4, sl, p4⟩
    rw [← e]
    refine sCan.intro g4 sl (p4.imp ?_ (fun _ _ q => q) (fun _ _ q => q) ?_)
    · rintro σ' H' ⟨c5, ρ5, e, s5, g5, sl, p5⟩
      exact ⟨hlt, c5, ρ5, e, (s2.trans s3).trans s5, g5, sl, p5⟩
    · rintro σ' H' ⟨c5, ρ5, e, s5, g5, sl, p5⟩
      exact ⟨hlt, c5, ρ5, e, (s2.trans s3).trans s5, g5, sl, p5⟩
  · have e : i = ds.length := by omega
    subst e
    rw [List.drop_length] at p2
    exact .inl ⟨wk.stop c2 s2.toMon g2, PostS.nxSame g2 sl2 p2⟩)
end
end FL
end S_FL8
section S_FL9
set_option Elab.async false
set_option linter.all false
set_option maxRecDepth 100000
set_option maxHeartbeats 4000000
/-! FL9: list comprehensions. -/
namespace FL
open PySem PySem.Spec PyProof.Rows L2

/-! ### targets of names alone -/
inductive NT where
  | nm (j : Nat) | tp (ts : List NT)
mutual
def ntG (K : PySem.W.Frag) : NT → TG
  | .nm j => gName j
  | .tp ts => gTup K ts.length (ntGs K ts)
def ntGs (K : PySem.W.Frag) : List NT → TGs
  | [] => gNil
  | t :: r => gCons (ntG K t) (ntGs K r)
end
mutual
def ntM : NT → D → Rho → Option Rho
  | .nm j, d, ρ => some (ρ.set j (some d))
  | .tp ts, d, ρ => (match rdT d with
    | some xs => if xs.length = ts.length then ntMs ts xs ρ else none
    | none => none)
def ntMs : List NT → List D → Rho → Option Rho
  | [], [], ρ => some ρ
  | t :: r, d :: ds, ρ => (match ntM t d ρ with
    | some ρ1 => ntMs r ds ρ1
    | none => none)
  | _, _, _ => none
end
mutual
def ntIn (vs : List Nat) : NT → Bool
  | .nm j => decide (j ∈ vs)
  | .tp ts => ntIns vs ts
def ntIns (vs : List Nat) : List NT → Bool
  | [] => true
  | t :: r => ntIn vs t && ntIns vs r
end
def wipeR (ρ : Rho) : List Nat → Rho
  | [] => ρ
  | v :: vs => (wipeR ρ vs).set v none
theorem wipe_get (σ : L2.St) (i : Nat) : ∀ vs : List Nat, (wipe σ vs)[i]? = if i ∈ vs ∧ i < σ.length then some none else σ[i]?
  | [] => by simp [wipe]
  | v :: vs => by
    unfold wipe
    rw [List.getElem?_set, wipe_length]
    by_cases h : v = i
    · subst h
      by_cases hl : v < σ.length
      · simp [hl]
      · simp [hl]
    · rw [if_neg h, wipe_get σ i vs]
      have : (i ∈ v :: vs) ↔ i ∈ vs := by
        rw [List.mem_cons]
        exact ⟨fun z => z.resolve_left fun e => h e.symm, .inr⟩
      simp only [this]
theorem wipe_set (σ : L2.St) {j : Nat} {vs : List Nat} (x : Option V) (h : j ∈ vs) : wipe (σ.set j x) vs = wipe σ vs := by
  apply List.ext_getElem?
  intro i
  rw [wipe_get, wipe_get, List.length_set, List.getElem?_set]
  by_cases hi : j = i
  · subst hi
    by_cases hl : j < σ.length
    · simp [h, hl]
    · simp [hl]
  · rw [if_neg hi]
theorem wipe_wipe (σ : L2.St) (vs : List Nat) : wipe (wipe σ vs) vs = wipe σ vs := by
  apply List.ext_getElem?
  intro i
  rw [wipe_get, wipe_length, wipe_get]
  split <;> rfl
theorem Slots.wipe {K : PySem.W.Frag} {c : Cfg} {σ : L2.St} {ρ : Rho} (h : Slots K c σ ρ) : ∀ vs : List Nat, Slots K c (L2.wipe σ vs) (wipeR ρ vs)
  | [] => h
  | v :: vs => (Slots.wipe h vs).forget v none
section
variable {K : PySem.W.Frag} {c : Cfg}
mutual
theorem ntG_ok {vs : List Nat} {Q : L2.St → Hp → Prop} : ∀ (t : NT) {v : V} {d : D} {σ : L2.St} {ρ ρ' : Rho}, Rp K c v d → Slots K c σ ρ → ntM t d ρ = some ρ' → ntIn vs t = true → (∀ σ', Slots K c σ' ρ' → wipe σ' vs = wipe σ vs → Q σ' c.H) → ntG K t v σ c.H Q
  | .nm j, v, d, σ, ρ, ρ', r, s, h, hi, q => by
    cases h
    exact q _ (s.set r j) (wipe_set σ _ (by simpa [ntIn] using hi))
  | .tp ts, v, d, σ, ρ, ρ', r, s, h, hi, q => by
    unfold ntM at h
    cases e : rdT d with
    | none => rw [e] at h; cases h
    | some xs =>
      rw [e] at h
      have h : (if xs.length = ts.length then ntMs ts xs ρ else none) = some ρ' := h
      by_cases hl : xs.length = ts.length
      · rw [if_pos hl] at h
        obtain ⟨a, us, rfl, h1, h2⟩ := rdT_ok r e
        exact ⟨a, us, rfl, h1, by rw [h2.length]; exact hl, ntGs_ok ts h2 s h (by simpa [ntIn] using hi) q⟩
      · rw [if_neg hl] at h; cases h
theorem ntGs_ok {vs : List Nat} {Q : L2.St → Hp → Prop} : ∀ (ts : List NT) {us : List V} {ds : List D} {σ : L2.St} {ρ ρ' : Rho}, RpAll K c us ds → Slots K c σ ρ → ntMs ts ds ρ = some ρ' → ntIns vs ts = true → (∀ σ', Slots K c σ' ρ' → wipe σ' vs = wipe σ vs → Q σ' c.H) → ntGs K ts us σ c.H Q
  | [], us, ds, σ, ρ, ρ', r, s, h, hi, q => by
    cases ds with
    | nil =>
      cases r
      cases h
      exact ⟨rfl, q _ s rfl⟩
    | cons _ _ => cases h
  | t :: ts, us, ds, σ, ρ, ρ', r, s, h, hi, q => by
    cases ds with
    | nil => cases h
    | cons d ds =>
      cases r with
      | cons r rs =>
        have h : (match ntM t d ρ with
          | some ρ1 => ntMs ts ds ρ1
          | none => none) = some ρ' := h
        have hi : ntIn vs t = true ∧ ntIns vs ts = true := by simpa [ntIns] using hi
        cases e : ntM t d ρ with
        | none => rw [e] at h; cases h
        | some ρ1 =>
          rw [e] at h
          exact ⟨_, _, rfl, ntG_ok t r s e hi.1 fun σ1 s1 w1 => ntGs_ok ts rs s1 h hi.2 fun σ2 s2 w2 => q σ2 s2 (w2.trans w1)⟩
end
end
section
variable {X : Cx} {pos : Pos}
theorem pnt_nm {i : Nat} {x : Str} (hN : X.N.Nodup) (hi : X.N[i]? = some x := by rfl) (hx : Loc X.env.scope x := by first | exact .inl rfl | exact .inr rfl) (hf : X.fn x = true ∨ X.env.scope.names.lookup x = some .local := by first | exact .inl rfl | exact .inr rfl | assumption) : PG X (.Name x pos) (ntG X.K (.nm i)) := pg_name hN hi hx hf
theorem pnt_tp {es : List Expr} {k : Nat} {ts : List NT} (hc : X.calm = true) (h : PGs X es (ntGs X.K ts)) (hn : (assignEach es X.env).length = ts.length := by rfl) (hst : (assignEach es X.env).findIdx? (·.1) = none := by rfl) : PG X (.Tuple es k pos) (ntG X.K (.tp ts)) := pg_tup hc h hn hst
theorem pnts_nil : PGs X [] (ntGs X.K []) := pgs_nil
theorem pnts_cons {e : Expr} {es : List Expr} {t : NT} {ts : List NT} (h1 : PG X e (ntG X.K t)) (h2 : PGs X es (ntGs X.K ts)) (hs : (assignEach (e :: es) X.env).map (·.2) = assign e X.env :: (assignEach es X.env).map (·.2) := by rfl) : PGs X (e :: es) (ntGs X.K (t :: ts)) := pgs_cons h1 h2 hs
end

/-! ### the comprehension -/
def noX {α : Type} : Res α → Res α
  | .ok a μ => .ok a μ
  | _ => .stuck
@[simp] theorem noX_ok {α : Type} (a : α) (μ : Sto) : noX (.ok a μ) = .ok a μ := rfl
@[simp] theorem noX_stuck {α : Type} : noX (.stuck : Res α) = .stuck := rfl
@[simp] theorem noX_exc {α : Type} (x : Ex) (μ : Sto) : noX (.exc x μ : Res α) = .stuck := rfl
def lcL (t : NT) (tt : Rho → Sto → Res Bool) (m : Rho → Sto → Res D) (vs : List Nat) : List D → Rho → Sto → Res (List D)
  | [], _, μ => .ok [] μ
  | x :: xs, ρ, μ => (match ntM t x (wipeR ρ vs) with
    | none => .stuck
    | some ρ1 => (noX (tt ρ1 μ)).bind fun b μ1 => if b = true then (noX (m ρ1 μ1)).bind fun y μ2 => (lcL t tt m vs xs ρ μ2).bind fun ys μ3 => .ok (y :: ys) μ3 else lcL t tt m vs xs ρ μ1)
def xLc (im : Rho → Sto → Res (List D)) (t : NT) (tt : Rho → Sto → Res Bool) (m : Rho → Sto → Res D) (vs : List Nat) : Rho → Sto → Res D := fun ρ μ => (im ρ μ).bind fun xs μ1 => if xs.length ≤ lim then (lcL t tt m vs xs ρ μ1).bind fun ys μ2 => .ok (.lst ys) μ2 else .stuck
def ttYes : Rho → Sto → Res Bool := fun _ μ => .ok true μ
abbrev w0 : WX := fun _ _ _ _ => False
def TsM (X : Cx) (W : WX) (ifs : List Expr) (m : Rho → Sto → Res Bool) : Prop := PTs X ifs (gCan X.K W RB m)
theorem tsm_nil {X : Cx} {W : WX} : TsM X W [] ttYes := ⟨fun pins s σ H Q I h => pts_nil.run pins s σ H Q I (by
  obtain ⟨c, ρ, rfl, g, sl, h⟩ := h
  exact Post.same (R := RB) g h rfl)⟩
theorem tsm_one {X : Cx} {W : WX} {e : Expr} {m : Rho → Sto → Res Bool} (h : TM X W e m) : TsM X W [e] m := pts_one h
/-- a hidden list, as it grows -/
def Cfg.hideL (c : Cfg) (L : Addr) (acc : List V) : Cfg := ⟨upd c.H L (.lst acc), c.ι, c.μ, c.hid⟩
section
variable {K : PySem.W.Frag} {c : Cfg} {L : Addr}
theorem Mon.hideL (acc : List V) (hL : L ∈ c.hid) : Mon c (c.hideL L acc) := ⟨fun a o h n => by
  show upd c.H L (.lst acc) a = some o
  rw [upd_ne (fun z => n (.inr (by rw [z]; exact hL)))]; exact h, fun _ _ h => h, fun _ l => .inl l⟩
theorem Good.hideL (g : Good K c) (acc : List V) (hL : L ∈ c.hid) : Good K (c.hideL L acc) where
  len := g.len
  nd := g.nd
  ok := fun i a cell h1 h2 => (g.ok i a cell h1 h2).mono (Mon.hideL acc hL) fun o e => by
    show upd c.H L (.lst acc) a = some o
    rw [upd_ne (fun z => (g.hd L hL).2 (by rw [← z]; exact List.mem_of_getElem? h1))]; exact e
  al := fun i a h1 => by
    show upd c.H L (.lst acc) a ≠ none
    rw [upd_ne (fun z => (g.hd L hL).2 (by rw [← z]; exact List.mem_of_getElem? h1))]; exact g.al i a h1
  hd := fun a ha => by
    refine ⟨?_, (g.hd a ha).2⟩
    show upd c.H L (.lst acc) a ≠ none
    by_cases z : a = L
    · rw [z, upd_same]; simp
    · rw [upd_ne z]; exact (g.hd a ha).1
/-- the start -/
def Cfg.hide0 (c : Cfg) (L : Addr) : Cfg := ⟨upd c.H L (.lst []), c.ι, c.μ, L :: c.hid⟩
theorem Mon.hide0 (h : c.H L = none) : Mon c (c.hide0 L) := ⟨fun a o e n => by
  show upd c.H L (.lst []) a = some o
  rw [upd_ne (ne_of_none e h)]; exact e, fun _ _ e => e, fun a l => by
  rcases l with l | l
  · exact .inl (.inl l)
  · have l : a ∈ L :: c.hid := l
    rw [List.mem_cons] at l
    rcases l with l | l
    · exact .inr (by rw [l]; exact h)
    · exact .inl (.inr l)⟩
theorem Good.hide0 (g : Good K c) (h : c.H L = none) : Good K (c.hide0 L) where
  len := g.len
  nd := g.nd
  ok := fun i a cell h1 h2 => (g.ok i a cell h1 h2).mono (Mon.hide0 h) fun o e => by
    show upd c.H L (.lst []) a = some o
    rw [upd_ne (ne_of_none e h)]; exact e
  al := fun i a h1 => by
    show upd c.H L (.lst []) a ≠ none
    rw [upd_ne (fun z => g.al i a h1 (by rw [z]; exact h))]; exact g.al i a h1
  hd := fun a ha => by
    have ha : a ∈ L :: c.hid := ha
    rw [List.mem_cons] at ha
    rcases ha with ha | ha
    · subst ha
      exact ⟨by show upd c.H a (.lst []) a ≠ none; rw [upd_same]; simp, g.notIn h⟩
    · refine ⟨?_, (g.hd a ha).2⟩
      show upd c.H L (.lst []) a ≠ none
      rw [upd_ne (g.hid_ne h ha)]; exact (g.hd a ha).1
/-- the end: the list is data -/
def Cfg.show_ (c : Cfg) (hid : List Addr) : Cfg := ⟨c.H, c.ι, c.μ, hid⟩
theorem Mon.show_ {hid : List Addr} (e : c.hid = L :: hid) : Mon c (c.show_ hid) := ⟨fun _ _ h _ => h, fun _ _ h => h, fun a l => by
  rcases l with l | l
  · exact .inl (.inl l)
  · exact .inl (.inr (by rw [e]; exact List.mem_cons_of_mem _ l))⟩
theorem Good.show_ (g : Good K c) {hid : List Addr} (e : c.hid = L :: hid) : Good K (c.show_ hid) where
  len := g.len
  nd := g.nd
  ok := fun i a cell h1 h2 => (g.ok i a cell h1 h2).mono (Mon.show_ e) fun o e => e
  al := g.al
  hd := fun a ha => g.hd a (by rw [e]; exact List.mem_cons_of_mem _ ha)
end
section
variable {X : Cx} {W : WX} {σ : L2.St} {H : Hp} {Q : VK} {im : Rho → Sto → Res (List D)} {t : NT} {tt : Rho → Sto → Res Bool} {m : Rho → Sto → Res D} {vs : List Nat}
theorem xLc_can {K : PySem.W.Frag} (hin : ntIn vs t = true) (h : gCan K W (Rp K) (xLc im t tt m vs) σ H Q) : tLc (gCan K W (RW K) im) (ntG K t) (gCan K w0 RB tt) (gCan K w0 (Rp K) m) vs σ H Q := by
  obtain ⟨c, ρ, rfl, g, s, h⟩ := h
  refine gCan.intro g s ((Post.bind (R := RW K) h).imp ?_)
  rintro J c' d st g' r' ⟨c1, xs, e, s1, g1, wk, p1⟩
  rw [← e]
  by_cases hxs : xs.length ≤ lim
  case neg => rw [if_neg hxs] at p1; exact p1.elim
  rw [if_pos hxs] at p1
  intro L hL
  have sl1 : Slots K c1 σ ρ := s.mono s1.toMon
  -- what is left to do, by the store
  let PF : Res (List D) → Prop := fun r => Post K W σ c1 (Rp K) Q (r.bind fun ys μ2 => .ok (.lst ys) μ2)
  refine ⟨fun i n H => n = xs.length - i ∧ i ≤ xs.length ∧ ∃ c2 acc ys0, c2.H = H ∧ Mon c1 c2 ∧ (∀ a ∈ c1.hid, c2.H a = c1.H a) ∧ Good K c2 ∧ c2.hid = L :: c1.hid ∧ c2.H L = some (.lst acc) ∧ RpAll K c2 acc ys0 ∧ acc.length ≤ i ∧ PF ((lcL t tt m vs (xs.drop i) ρ c2.μ).bind fun ys μ => .ok (ys0 ++ ys) μ), ?_, ?_⟩
  · refine ⟨_, rfl, Nat.zero_le _, c1.hide0 L, [], [], rfl, Mon.hide0 hL, fun a ha => upd_ne (g1.hid_ne hL ha), g1.hide0 hL, rfl, upd_same, .nil, Nat.le_refl _, ?_⟩
    show Post K W σ c1 (Rp K) Q (((lcL t tt m vs xs ρ c1.μ).bind fun ys μ => .ok ([] ++ ys) μ).bind fun ys μ2 => .ok (.lst ys) μ2)
    cases q : lcL t tt m vs xs ρ c1.μ with
    | ok ys μ => rw [q] at p1; exact p1
    | exc x μ => rw [q] at p1; exact p1
    | stuck => rw [q] at p1; exact p1
  · rintro i n H ⟨rfl, hi, c2, acc, ys0, rfl, m2, k2, g2, hd2, hL2, ra, hl2, p2⟩
    have hLm : L ∈ c2.hid := by rw [hd2]; exact List.mem_cons_self
    by_cases hlt : i < xs.length
    case neg =>
      have ei : i = xs.length := by omega
      subst ei
      rw [List.drop_length] at p2
      refine .inl ⟨wk.stop c2 m2 g2, ?_⟩
      have p2 : Post K W σ c1 (Rp K) Q (.ok (.lst (ys0 ++ [])) c2.μ) := p2
      rw [List.append_nil] at p2
      have mE : Mon c1 (c2.show_ c1.hid) := m2.trans (Mon.show_ hd2)
      refine p2 (.ref L) (c2.show_ c1.hid) ⟨mE, k2, rfl⟩ (g2.show_ hd2) rfl (.lst ⟨hL2, ?_⟩ (ra.mono (Mon.show_ hd2)))
      rintro (⟨j, ce, h1, h2, h3⟩ | h1)
      · exact (g2.hd L hLm).2 (List.mem_of_getElem? h1)
      · exact (g1.hd L h1).1 hL
    case pos =>
      refine .inr ⟨wk.go i c2 m2 g2 hlt, fun H => i + 1 ≤ xs.length ∧ ∃ c2 acc ys0, c2.H = H ∧ Mon c1 c2 ∧ (∀ a ∈ c1.hid, c2.H a = c1.H a) ∧ Good K c2 ∧ c2.hid = L :: c1.hid ∧ c2.H L = some (.lst acc) ∧ RpAll K c2 acc ys0 ∧ acc.length ≤ i + 1 ∧ PF ((lcL t tt m vs (xs.drop (i + 1)) ρ c2.μ).bind fun ys μ => .ok (ys0 ++ ys) μ), fun H' q => ⟨_, (by omega : xs.length - (i + 1) < xs.length - i), rfl, q⟩, fun x H' y => ?_⟩
      obtain ⟨c3, d, rfl, s3, g3, e3, hd, rx⟩ := wk.yld i c2 x H' m2 g2 hlt y
      have ed : xs.drop i = d :: xs.drop (i + 1) := by
        obtain ⟨hl, he⟩ := List.getElem?_eq_some_iff.mp hd
        rw [List.drop_eq_getElem_cons hl, he]
      rw [ed] at p2
      cases qt : ntM t d (wipeR ρ vs) with
      | none =>
        have : lcL t tt m vs (d :: xs.drop (i + 1)) ρ c2.μ = .stuck := by unfold lcL; rw [qt]
        rw [this] at p2; exact p2.elim
      | some ρ1 =>
        have el : lcL t tt m vs (d :: xs.drop (i + 1)) ρ c2.μ = (noX (tt ρ1 c2.μ)).bind fun b μ1 => if b = true then (noX (m ρ1 μ1)).bind fun y μ2 => (lcL t tt m vs (xs.drop (i + 1)) ρ μ2).bind fun ys μ3 => .ok (y :: ys) μ3 else lcL t tt m vs (xs.drop (i + 1)) ρ μ1 := by
          conv => lhs; unfold lcL
          rw [qt]
        rw [el] at p2
        have m3 : Mon c1 c3 := m2.trans s3.toMon
        refine ntG_ok t rx ((sl1.mono m3).wipe vs) qt hin fun σ2 sl2 w2 => ⟨w2.trans (wipe_wipe σ vs), ?_⟩
        refine gCan.intro g3 sl2 ?_
        rw [e3]
        cases qb : tt ρ1 c2.μ with
        | stuck => rw [qb] at p2; exact p2.elim
        | exc z μ => rw [qb] at p2; exact p2.elim
        | ok b μ1 =>
          rw [qb] at p2
          intro b' c4 s4 g4 e4 hb
          rw [show b' = b from hb]
          have hL4 : c4.H L = some (.lst acc) := by rw [s4.hk L (by rw [s3.he]; exact hLm), s3.hk L hLm]; exact hL2
          have h4 : c4.hid = L :: c1.hid := by rw [s4.he, s3.he, hd2]
          have k4 : ∀ a ∈ c1.hid, c4.H a = c1.H a := fun a ha => by
            have z : a ∈ c2.hid := by rw [hd2]; exact List.mem_cons_of_mem _ ha
            rw [s4.hk a (by rw [s3.he]; exact z), s3.hk a z, k2 a ha]
          have m4 : Mon c1 c4 := m3.trans s4.toMon
          have ra4 : RpAll K c4 acc ys0 := ra.mono (s3.trans s4).toMon
          cases b with
          | false =>
            rw [if_neg (by simp)]
            have p2 : PF ((lcL t tt m vs (xs.drop (i + 1)) ρ μ1).bind fun ys μ => .ok (ys0 ++ ys) μ) := p2
            rw [← e4] at p2
            exact ⟨hlt, c4, acc, ys0, rfl, m4, k4, g4, h4, hL4, ra4, by omega, p2⟩
          | true =>
            rw [if_pos rfl]
            have p2 : PF (((noX (m ρ1 μ1)).bind fun y μ2 => (lcL t tt m vs (xs.drop (i + 1)) ρ μ2).bind fun ys μ3 => .ok (y :: ys) μ3).bind fun ys μ => .ok (ys0 ++ ys) μ) := p2
            refine gCan.intro g4 (sl2.mono s4.toMon) ?_
            rw [e4]
            cases qm : m ρ1 μ1 with
            | stuck => rw [qm] at p2; exact p2.elim
            | exc z μ => rw [qm] at p2; exact p2.elim
            | ok y μ2 =>
              rw [qm] at p2
              intro yv c5 s5 g5 e5 ry
              have hL5m : L ∈ c5.hid := by rw [s5.he, h4]; exact List.mem_cons_self
              have hL5 : c5.H L = some (.lst acc) := by rw [s5.hk L (by rw [h4]; exact List.mem_cons_self)]; exact hL4
              have mh := Mon.hideL (c := c5) (acc ++ [yv]) hL5m
              refine ⟨acc, hL5, lim_lt (by omega), hlt, c5.hideL L (acc ++ [yv]), acc ++ [yv], ys0 ++ [y], rfl, (m4.trans s5.toMon).trans mh, fun a ha => ?_, g5.hideL _ hL5m, by show c5.hid = _; rw [s5.he, h4], upd_same, ((ra4.mono s5.toMon).append (.cons ry .nil)).mono mh, by rw [List.length_append]; show acc.length + 1 ≤ i + 1; omega, ?_⟩
              · show upd c5.H L (.lst (acc ++ [yv])) a = c1.H a
                rw [upd_ne (g1.hid_ne hL ha), s5.hk a (by rw [h4]; exact List.mem_cons_of_mem _ ha), k4 a ha]
              · show Post K W σ c1 (Rp K) Q (((lcL t tt m vs (xs.drop (i + 1)) ρ c5.μ).bind fun ys μ => .ok ((ys0 ++ [y]) ++ ys) μ).bind fun ys μ2 => .ok (.lst ys) μ2)
                rw [e5]
                have p2 : Post K W σ c1 (Rp K) Q ((((lcL t tt m vs (xs.drop (i + 1)) ρ μ2).bind fun ys μ3 => .ok (y :: ys) μ3).bind fun ys μ => .ok (ys0 ++ ys) μ).bind fun ys μ2 => .ok (.lst ys) μ2) := p2
                cases q : lcL t tt m vs (xs.drop (i + 1)) ρ μ2 with
                | ok ys μ =>
                  rw [q] at p2
                  have p2 : Post K W σ c1 (Rp K) Q (.ok (.lst (ys0 ++ y :: ys)) μ) := p2
                  show Post K W σ c1 (Rp K) Q (.ok (.lst (ys0 ++ [y] ++ ys)) μ)
                  rw [List.append_assoc]
                  exact p2
                | exc x μ => rw [q] at p2; exact p2
                | stuck => rw [q] at p2; exact p2
variable {elt tg iter : Expr} {ifs : List Expr} {scope : Scope} {own : List (Str × Nat)} {pos spos : Pos}
theorem em_lc (hc : X.calm = true) (hN : X.N.Nodup) (hi : IM X W tg iter im) (hin : ntIn (own.map (·.2)) t = true) (ok : BlkOk X.N X.env.scope scope own)
    (hg : ∀ (s : Shared) (H : Hp) (C : Addr) (cl : List (Str × Addr)) (fp : List Addr), PG (X.blk s H scope (compEnvC scope cl C X.env) fp) tg (ntG X.K t)) (ht : ∀ (s : Shared) (H : Hp) (C : Addr) (cl : List (Str × Addr)) (fp : List Addr), TsM (X.blk s H scope (compEnvC scope cl C X.env) fp) w0 ifs tt)
    (he : ∀ (s : Shared) (H : Hp) (C : Addr) (cl : List (Str × Addr)) (fp : List Addr), EM (X.blk s H scope (compEnvC scope cl C X.env) fp) w0 elt m) (hs : ∀ x, foldedSetIterable iter X.env x = pure x := by intro _; rfl) :
    EM X W (.ListComp elt [⟨tg, iter, ifs, 0⟩] scope pos) (xLc im t tt m (own.map (·.2))) := PE.imp (pe_lc (tt := gCan X.K w0 RB tt) (te := gCan X.K w0 (Rp X.K) m) hc hN hi ok hg ht he hs) fun _ _ _ h => xLc_can hin h
theorem sm_setLc {i : Nat} {y : Str} {py : Pos} (hc : X.calm = true) (hN : X.N.Nodup) (hi : IM X W tg iter im) (hin : ntIn (own.map (·.2)) t = true) (ok : BlkOk X.N X.env.scope scope own)
    (hg : ∀ (s : Shared) (H : Hp) (C : Addr) (cl : List (Str × Addr)) (fp : List Addr), PG (X.blk s H scope (compEnvC scope cl C X.env) fp) tg (ntG X.K t)) (ht : ∀ (s : Shared) (H : Hp) (C : Addr) (cl : List (Str × Addr)) (fp : List Addr), TsM (X.blk s H scope (compEnvC scope cl C X.env) fp) w0 ifs tt)
    (he : ∀ (s : Shared) (H : Hp) (C : Addr) (cl : List (Str × Addr)) (fp : List Addr), EM (X.blk s H scope (compEnvC scope cl C X.env) fp) w0 elt m)
    (hsw : swapsWith (.ListComp elt [⟨tg, iter, ifs, 0⟩] scope pos) (some (.Name y py)) spos.line X.env = pure true) (hy : X.N[i]? = some y := by rfl) (hyl : X.env.scope.names.lookup y = some .local := by rfl) (hs : ∀ x, foldedSetIterable iter X.env x = pure x := by intro _; rfl) :
    SM X W (.Assign [.Name y py] (.ListComp elt [⟨tg, iter, ifs, 0⟩] scope pos) spos) (sSet i (xLc im t tt m (own.map (·.2)))) := PS.imp (ps_setLc (tt := gCan X.K w0 RB tt) (te := gCan X.K w0 (Rp X.K) m) hc hN hy hyl hsw hi ok hg ht he hs) (by
  rintro D' σ H ⟨c, ρ, rfl, g, s, h⟩
  refine xLc_can hin ⟨c, ρ, rfl, g, s, (PostS.ofB (R := Rp X.K) h s).imp ?_⟩
  rintro v c' d st g' r' ⟨c1, x, e, s1, g1, r1, p1⟩
  rw [← e]
  exact p1 _ c1 (Step.refl c1) g1 rfl ((s.mono s1).set r1 i))
end
end FL
end S_FL9
section S_FL10
set_option Elab.async false
set_option linter.all false
set_option maxRecDepth 100000
set_option maxHeartbeats 4000000
/-! FL10: raise, try; lists that change; isinstance; classes made; methods, properties. -/
namespace FL
open PySem PySem.Spec PyProof.Rows L2

/-! ### raise X() -/
/-- what is known of an own exception class of no __init__ of its own -/
structure ExcOk (K : PySem.W.Frag) (x : Str) : Prop where
  ex : PySem.W.excIn K (cad K x) He.veBase "ValueError.__new__" = true
  kp : PySem.W.keepIn K (.ref (cad K x)) = true
  sb : PySem.W.subIn K (.ref (cad K x)) (.type "BaseException") = some true
  ty : PySem.W.typeIn K (.ref (cad K x)) = some (.type "type")
theorem ExcOk.of {K : PySem.W.Frag} {x : Str} (c : (He.Fa.exc x).ok K = true) : ExcOk K x := let ⟨a, b, d, e⟩ := He.exc_ok c; ⟨a, b, d, e⟩
def sRaise (x : Str) : SMir := fun ρ μ => .exc ⟨x, []⟩ ρ μ
section
variable {X : Cx} {W : WX} {x : Str} {p pos pos2 : Pos}
theorem pmk_none (T : ExcOk X.K x) (gC : X.mg x = some (.ref (cad X.K x))) (hg : Gl X x) (hdb : (x == ("__debug__" : Str)) = false := by decide) : PMk X (.Call (.Name x p) [] [] pos) (fun _ H Q => Q (.ref (cad X.K x)) none H) := by
  intro pins s σ H Q I h
  refine wpAny_Call_Name_kw (ld_glob I hg gC ?_ hdb)
  refine PySem.W.callWith_K0 I.kIn T.kp ?_
  obtain ⟨bm, N, nm, qn, bs, hdct, sn, sub, ab, col, dd, k0, k1, k2, k3, k5, mN, hC, hN, hni, tl⟩ := exc_obj I.kIn T.ex
  refine wpAny_call_exc_subT PySem.F.excBase_ValueError tl hC hN hni (fun h' e hm => ?_) (Nat.zero_le _)
  exact mk_of I hm (raises_own T.sb T.ty) h (I.hok.gone hm.new)
theorem sm_raise0 (T : ExcOk X.K x) (gC : X.mg x = some (.ref (cad X.K x))) (hc : X.calm = true) (tk : Takes X W) (hg : Gl X x := by rfl) (hdb : (x == ("__debug__" : Str)) = false := by decide) : SM X W (.Raise (some (.Call (.Name x p) [] [] pos)) none pos2) (sRaise x) := PS.imp (ps_raise hc tk (pmk_none T gC hg hdb)) (by
  rintro D' σ H ⟨c, ρ, rfl, g, s, h⟩
  exact h σ c none (Step.refl c) g rfl s (.inl ⟨rfl, rfl⟩))
end

/-! ### xs.append(e), xs[i] = e -/
/-- the number of a list that may change -/
def lstP (μ : Sto) : D → Option Nat
  | .ptr i => (match μ[i]? with
    | some (.lst _) => some i
    | _ => none)
  | _ => none
def lstAt (μ : Sto) (i : Nat) : Option (List D) := match μ[i]? with
  | some (.lst xs) => some xs
  | _ => none
theorem lstAt_eq {μ : Sto} {i : Nat} {xs : List D} (h : lstAt μ i = some xs) : μ[i]? = some (.lst xs) := by
  unfold lstAt at h
  cases e : μ[i]? with
  | none => rw [e] at h; cases h
  | some c =>
    rw [e] at h
    cases c with
    | lst ys => cases h; rfl
    | _ => cases h
theorem lstP_eq {μ : Sto} {x : D} {i : Nat} (h : lstP μ x = some i) : x = .ptr i ∧ ∃ xs, μ[i]? = some (.lst xs) := by
  cases x with
  | ptr j =>
    have h : (match μ[j]? with
      | some (.lst _) => some j
      | _ => none) = some i := h
    cases e : μ[j]? with
    | none => rw [e] at h; cases h
    | some c =>
      rw [e] at h
      cases c with
      | lst ys => cases h; exact ⟨rfl, ys, e⟩
      | _ => cases h
  | _ => cases h
def sAppend (mo me : Rho → Sto → Res D) : SMir := fun ρ μ => sB (mo ρ μ) ρ fun x μ1 => match lstP μ1 x with
  | some i => sB (me ρ μ1) ρ fun d μ2 => (match lstAt μ2 i with
    | some xs => if xs.length < lim then .nx ρ (μ2.set i (.lst (xs ++ [d]))) else .stuck
    | none => .stuck)
  | none => .stuck
/-- o[i] = v of such a list, as a target -/
def gSubM (mo mi : Rho → Sto → Res D) : GMir := fun d ρ μ => sB (mo ρ μ) ρ fun x μ1 => sB (mi ρ μ1) ρ fun y μ2 => match x, y with
  | .ptr i, .int k => (match lstAt μ2 i with
    | some xs => (match ixN xs.length k with
      | some j => .nx ρ (μ2.set i (.lst (xs.set j d)))
      | none => .stuck)
    | none => .stuck)
  | _, _ => .stuck
section
variable {X : Cx} {W : WX} {o i value e : Expr} {pos apos cpos : Pos} {mo mi me : Rho → Sto → Res D}
theorem sm_append (ho : EM X W o mo) (he : EM X W e me) (hs : swapsWith (.Call (.Attribute o "append" apos) [e] [] cpos) none pos.line X.env = pure false := by rfl)
    (hbase : attributeBase o "append" X.env (eval o X.env) = eval o X.env := by rfl)
    (hfew : ((backTo cpos (starEach [e] X.env)).all (fun x => !x.1) && (backToKw cpos (keywordEach [] X.env)).all (fun x => x.1.isSome) && decide ([e].length + ([] : List Keyword).length + (if ([] : List Keyword).isEmpty then 0 else 1) < 30)) = true := by rfl)
    (hline : (apos.endLine == cpos.line) = true := by rfl) (hst : starEach [e] X.env = (false, eval e X.env) :: starEach [] X.env := by rfl) (hplain : (backTo cpos (starEach [] X.env)).any (·.1) = false := by rfl) :
    SM X W (.Expr (.Call (.Attribute o "append" apos) [e] [] cpos) pos) (sAppend mo me) := PS.imp (ps_expr (pe_bm PySem.F.plainAttrs_list PySem.F.slot_list_append PySem.F.type_list_append mt_append ho (pa_cons he pa_nil hst) hbase hfew hline hst hplain) hs) (by
  rintro D' σ H ⟨c, ρ, rfl, g, s, h⟩
  refine gCan.intro g s ((PostS.ofB (R := Rp X.K) h s).imp ?_)
  rintro v c' d' st g' r' ⟨c1, x, e, s1, g1, r1, p1⟩
  rw [← e]
  cases q : lstP c1.μ x with
  | none => rw [q] at p1; exact p1.elim
  | some j =>
    rw [q] at p1
    obtain ⟨rfl, ys, ey⟩ := lstP_eq q
    cases r1 with
    | ptr hi =>
      rename_i a
      obtain ⟨us, hu, _⟩ := g1.ok j a _ hi ey
      refine ⟨.inl ⟨rfl, us, SqL.of hu⟩, ?_⟩
      refine gCan.intro g1 (s.mono s1.toMon) ((PostS.ofB (R := Rp X.K) p1 (s.mono s1.toMon)).imp ?_)
      rintro v2 c2' d2 st2 g2' r2' ⟨c2, d, e2, s2, g2, r2, p2⟩
      show ∃ l xs y, V.ref a = .ref l ∧ [v2] = [y] ∧ _
      rw [← e2]
      cases qx : lstAt c2.μ j with
      | none => rw [qx] at p2; exact p2.elim
      | some xs =>
        rw [qx] at p2
        have p2 : PostS X.K W D' c2 (if xs.length < lim then .nx ρ (c2.μ.set j (.lst (xs ++ [d]))) else .stuck) := p2
        by_cases hl : xs.length < lim
        case neg => rw [if_neg hl] at p2; exact p2.elim
        rw [if_pos hl] at p2
        have hi2 := s2.pre j a hi
        have ec := lstAt_eq qx
        obtain ⟨ws, hw, rw_⟩ := g2.ok j a _ hi2 ec
        have st3 := Step.put g2 (.lst (ws ++ [v2])) (.lst (xs ++ [d])) hi2 ec (by simp)
        refine ⟨a, ws, v2, rfl, rfl, hw, lim_lt (by rw [rw_.length]; exact hl), ?_⟩
        refine p2 σ (c2.put j a _ _) st3 (g2.put hi2 ec (by simp) ?_) rfl (s.mono ((s1.trans s2).trans st3).toMon)
        exact ⟨ws ++ [v2], upd_same, (rw_.mono st3.toMon).append (.cons (r2.mono st3.toMon) .nil)⟩)
theorem gok_sub : GOk (gSubM mo mi) := fun d ρ μ => by
  unfold gSubM
  cases mo ρ μ with
  | exc x μ1 => exact .inr (.inl ⟨_, _, _, rfl⟩)
  | stuck => exact .inr (.inr rfl)
  | ok x μ1 =>
    show (∃ ρ' μ', sB (mi ρ μ1) ρ _ = .nx ρ' μ') ∨ (∃ x ρ' μ', sB (mi ρ μ1) ρ _ = .exc x ρ' μ') ∨ sB (mi ρ μ1) ρ _ = .stuck
    cases mi ρ μ1 with
    | exc x μ1 => exact .inr (.inl ⟨_, _, _, rfl⟩)
    | stuck => exact .inr (.inr rfl)
    | ok y μ2 =>
      simp only [sB_ok]
      split
      · split
        · split
          · exact .inl ⟨_, _, rfl⟩
          · exact .inr (.inr rfl)
        · exact .inr (.inr rfl)
      · exact .inr (.inr rfl)
theorem gm_sub (ho : EM X W o mo) (hi : EM X W i mi) (ha : ∀ v, assign (.Subscript o i pos) X.env v = (do
      let ov ← holding [v] (eval o X.env)
      let iv ← holding [v, ov] (eval i X.env)
      standAt pos
      holding [v, ov, iv] (setItem ov iv v)
      release [v, ov, iv] []) := by intro _; rfl) : GM X W (.Subscript o i pos) (gSubM mo mi) := PG.imp (pg_sub ho hi set_list ha) (by
  rintro v σ H Q ⟨c, ρ, d, rfl, g, s, r, h⟩
  refine gCan.intro g s ((PostS.ofB (R := Rp X.K) h s).imp ?_)
  rintro ov c' d' st g' r' ⟨c1, x, e, s1, g1, r1, p1⟩
  rw [← e]
  refine gCan.intro g1 (s.mono s1.toMon) ((PostS.ofB (R := Rp X.K) p1 (s.mono s1.toMon)).imp ?_)
  rintro iv c2' d2 st2 g2' r2' ⟨c2, y, e2, s2, g2, r2, p2⟩
  rw [← e2]
  cases r1 with
  | ptr hi =>
    rename_i a j
    cases r2 with
    | int k =>
      have p2 : PostS X.K W (onlyNx Q) c2 (match lstAt c2.μ j with
        | some xs => (match ixN xs.length k with
          | some n => .nx ρ (c2.μ.set j (.lst (xs.set n d)))
          | none => .stuck)
        | none => .stuck) := p2
      cases qx : lstAt c2.μ j with
      | none => rw [qx] at p2; exact p2.elim
      | some xs =>
        rw [qx] at p2
        have p2 : PostS X.K W (onlyNx Q) c2 (match ixN xs.length k with
          | some n => .nx ρ (c2.μ.set j (.lst (xs.set n d)))
          | none => .stuck) := p2
        cases qn : ixN xs.length k with
        | none => rw [qn] at p2; exact p2.elim
        | some n =>
          rw [qn] at p2
          have hi2 := s2.pre j a hi
          have ec := lstAt_eq qx
          obtain ⟨ws, hw, rw_⟩ := g2.ok j a _ hi2 ec
          have st3 := Step.put g2 (.lst (ws.set n v)) (.lst (xs.set n d)) hi2 ec (by simp)
          refine ⟨a, ws, k, n, rfl, rfl, hw, by rw [rw_.length]; exact qn, ?_⟩
          refine p2 σ (c2.put j a _ _) st3 (g2.put hi2 ec (by simp) ?_) rfl (s.mono ((s1.trans s2).trans st3).toMon)
          exact ⟨ws.set n v, upd_same, RpAll.set (r.mono ((s1.trans s2).trans st3).toMon) n (rw_.mono st3.toMon)⟩
    | _ => exact p2.elim
  | _ => cases r2 <;> exact p2.elim)
end

/-! ### isinstance with built-in types -/
/-- a value's type: a built-in one, an own class -/
inductive TyN where
  | b (T : String) | o (C : Str)
def tyN (μ : Sto) : D → Option TyN
  | .non => some (.b "NoneType")
  | .bl _ => some (.b "bool")
  | .int _ => some (.b "int")
  | .str _ => some (.b "str")
  | .tup _ => some (.b "tuple")
  | .lst _ => some (.b "list")
  | .scr _ => some (.b "list")
  | .ptr i => (match μ[i]? with
    | some (.lst _) => some (.b "list")
    | some (.dit _) => some (.b "dict")
    | some (.dik _) => some (.b "dict")
    | some (.ins C _) => some (.o C)
    | _ => none)
/-- what is known of an own class whose instances are asked -/
structure InsTy (K : PySem.W.Frag) (C : Str) : Prop where
  cl : Cls K (cad K C)
  ha : PySem.W.findIn K (.ref (cad K C)) "__class__" = some (some (.builtin "object.__class__"))
  hn : PySem.W.specialIn K (.builtin "object.__class__") "__get__" = some (some (.builtin "getset_descriptor.__get__"))
  htk : PySem.W.takesIn K (.builtin "object.__class__") = some true
  hm : PySem.W.mroIn K (cad K C) (.type "object") = some true
  no : ∀ T ∈ (["int", "bool", "str", "tuple", "list"] : List String), PySem.W.kitOne K (.ref (cad K C)) (.type T) = some false
def tysB : List String := ["NoneType", "bool", "int", "str", "tuple", "list", "dict"]
def isiB (a T : String) : Bool := decide (a = T) || (decide (a = "bool") && decide (T = "int"))
theorem kitB_eq : ∀ a ∈ tysB, ∀ T ∈ (["int", "bool", "str", "tuple", "list"] : List String), kitB a T = some (isiB a T) := by decide +kernel
/-- the answer: own, the own classes known -/
def isiD (own : List Str) (μ : Sto) (x : D) (T : String) : Option Bool := match tyN μ x with
  | some (.b a) => some (isiB a T)
  | some (.o C) => if C ∈ own then some false else none
  | none => none
def tyVal (K : PySem.W.Frag) : TyN → Value
  | .b a => .type a
  | .o C => .ref (cad K C)
def tyKnown (own : List Str) : TyN → Prop
  | .b a => a ∈ tysB
  | .o C => C ∈ own
theorem tyN_ok {K : PySem.W.Frag} {c : Cfg} {own : List Str} (hO : ∀ C ∈ own, InsTy K C) (g : Good K c) {v : V} {d : D} {t : TyN} (r : Rp K c v d) (h : tyN c.μ d = some t) (hk : ∀ C, t = .o C → C ∈ own) : TyX K c.H v (tyVal K t) ∧ tyKnown own t := by
  cases r with
  | non => cases h; exact ⟨.base .non, (show _ ∈ tysB by decide)⟩
  | bl b => cases h; exact ⟨.base (.bl b), (show _ ∈ tysB by decide)⟩
  | int i => cases h; exact ⟨.base (.int i), (show _ ∈ tysB by decide)⟩
  | str s => cases h; exact ⟨.base (.str s), (show _ ∈ tysB by decide)⟩
  | tup h1 h2 =>
    cases h
    refine ⟨?_, (show _ ∈ tysB by decide)⟩
    rcases h1 with ⟨h1 | ⟨o, h1⟩, _⟩ | h1
    · exact .base (.tup h1)
    · exact .fTuple h1
    · rcases h1 with (h1 | ⟨o, h1⟩) | ⟨o, its, n, h1, h2, _⟩
      · cases h1
      · cases h1
      · exact .kTuple h1 h2
  | lst h1 h2 => cases h; exact ⟨.base (.lst h1.1), (show _ ∈ tysB by decide)⟩
  | scr h1 =>
    cases h
    refine ⟨?_, (show _ ∈ tysB by decide)⟩
    rcases h1 with ⟨h1 | ⟨o, h1⟩, _⟩ | h1
    · exact .base (.lst h1)
    · exact .base (.frz h1)
    · rcases h1 with (h1 | ⟨o, h1⟩) | ⟨o, its, n, h1, h2, _⟩
      · cases h1
      · cases h1
      · exact .kList h1 h2
  | ptr hi =>
    rename_i a i
    have h : (match c.μ[i]? with
      | some (.lst _) => some (TyN.b "list")
      | some (.dit _) => some (.b "dict")
      | some (.dik _) => some (.b "dict")
      | some (.ins C _) => some (.o C)
      | _ => none) = some t := h
    cases e : c.μ[i]? with
    | none => rw [e] at h; cases h
    | some cell =>
      rw [e] at h
      have ok := g.ok i a _ hi e
      cases cell with
      | lst xs => cases h; obtain ⟨_, z, _⟩ := ok; exact ⟨.base (.lst z), (show _ ∈ tysB by decide)⟩
      | dit xs => cases h; obtain ⟨_, z, _⟩ := ok; exact ⟨.base (.dT z), (show _ ∈ tysB by decide)⟩
      | dik xs => cases h; obtain ⟨_, z, _⟩ := ok; exact ⟨.base (.dK z), (show _ ∈ tysB by decide)⟩
      | ins C fs =>
        cases h
        obtain ⟨_, _, z, _⟩ := ok
        have hc := hk C rfl
        have T := hO C hc
        exact ⟨.base (.ins z T.cl T.ha T.hn T.htk T.hm), hc⟩
      | dead => cases h
theorem isiD_ok {K : PySem.W.Frag} {c : Cfg} {own : List Str} (hO : ∀ C ∈ own, InsTy K C) (g : Good K c) {v : V} {d : D} {T : String} {b : Bool} (hT : T ∈ (["int", "bool", "str", "tuple", "list"] : List String)) (r : Rp K c v d) (h : isiD own c.μ d T = some b) :
    ∃ t, tyN c.μ d = some t ∧ TyX K c.H v (tyVal K t) ∧ PySem.W.kitOne K (tyVal K t) (.type T) = some b := by
  unfold isiD at h
  cases q : tyN c.μ d with
  | none => rw [q] at h; cases h
  | some t =>
    rw [q] at h
    cases t with
    | b a =>
      cases h
      obtain ⟨h1, h2⟩ := tyN_ok hO g r q (fun C e => by cases e)
      exact ⟨.b a, rfl, h1, kit_ty (kitB_eq a h2 T hT)⟩
    | o C =>
      have h : (if C ∈ own then some false else none) = some b := h
      by_cases hc : C ∈ own
      · rw [if_pos hc] at h
        cases h
        obtain ⟨h1, h2⟩ := tyN_ok hO g r q (fun C' e => by cases e; exact hc)
        exact ⟨.o C, rfl, h1, (hO C hc).no T hT⟩
      · rw [if_neg hc] at h; cases h
def xIsi (own : List Str) (T : String) (ma : Rho → Sto → Res D) : Rho → Sto → Res D := fun ρ μ => (ma ρ μ).bind fun x μ1 => match isiD own μ1 x T with
  | some b => .ok (.bl b) μ1
  | none => .stuck
def xIsi2 (own : List Str) (T U : String) (ma : Rho → Sto → Res D) : Rho → Sto → Res D := fun ρ μ => (ma ρ μ).bind fun x μ1 => match isiD own μ1 x T, isiD own μ1 x U with
  | some b, some b' => .ok (.bl (b || b')) μ1
  | _, _ => .stuck
section
variable {X : Cx} {W : WX} {a : Expr} {p q pos : Pos} {T U : Str} {ma : Rho → Sto → Res D}
theorem em_isi {own : List Str} {TS : String} (hO : ∀ C ∈ own, InsTy X.K C) (ha : EM X W a ma) (hm : X.mg "isinstance" = none) (hT : TS ∈ (["int", "bool", "str", "tuple", "list"] : List String)) (hmT : X.mg T = none) (hv : bootBuiltins T = some (.type TS)) (hg : Gl X "isinstance" := by rfl) (hgT : Gl X T := by rfl)
    (hn : T ≠ "__name__" := by decide) (hd : (T == ("__debug__" : Str)) = false := by decide)
    (he : starEach [a, .Name T q] X.env = (false, eval a X.env) :: starEach [.Name T q] X.env := by rfl) (hpl : (backTo pos (starEach [.Name T q] X.env)).any (·.1) = false := by rfl) (hs2 : starEach [.Name T q] X.env = (false, eval (.Name T q) X.env) :: starEach [] X.env := by rfl) :
    EM X W (.Call (.Name "isinstance" p) [a, .Name T q] [] pos) (xIsi own TS ma) := PE.imp (pe_callB call_isi hg hm (by decide +kernel) (pa_cons ha (pa_cons (pe_bltn (v := .ty TS) hgT hmT hv rfl hn hd) pa_nil hs2) he) (by decide) (by decide) he hpl) (by
  rintro σ H Q ⟨c, ρ, rfl, g, s, h⟩
  refine gCan.intro g s ((Post.bind (R := Rp X.K) h).imp ?_)
  rintro v c' d st g' r' ⟨c1, x, e, s1, g1, r1, p1⟩
  rw [← e]
  cases q : isiD own c1.μ x TS with
  | none => rw [q] at p1; exact p1.elim
  | some b =>
    rw [q] at p1
    obtain ⟨t, _, h1, h2⟩ := isiD_ok hO g1 hT r1 q
    exact ⟨v, .ty TS, _, _, b, rfl, .ty TS, h1, h2, Post.same g1 p1 (.bl b)⟩)
theorem kitAny2 {K : PySem.W.Frag} {t c1 c2 : Value} {b1 b2 : Bool} (h1 : PySem.W.kitOne K t c1 = some b1) (h2 : PySem.W.kitOne K t c2 = some b2) : PySem.W.kitAny K t [c1, c2] = some (b1 || b2) := by
  refine kitAny_cons h1 (fun e => ?_) (fun e => by rw [e]; rfl)
  rw [e]
  refine kitAny_cons h2 (fun e2 => ?_) (fun e2 => by rw [e2]; rfl)
  rw [e2]; exact kitAny_nil
theorem em_isi2 {own : List Str} {TS US : String} {k : Nat} {q2 tp : Pos} (hO : ∀ C ∈ own, InsTy X.K C) (ha : EM X W a ma) (hm : X.mg "isinstance" = none) (hT : TS ∈ (["int", "bool", "str", "tuple", "list"] : List String)) (hU : US ∈ (["int", "bool", "str", "tuple", "list"] : List String)) (hmT : X.mg T = none) (hmU : X.mg U = none) (hv : bootBuiltins T = some (.type TS)) (hw : bootBuiltins U = some (.type US)) (hg : Gl X "isinstance" := by rfl) (hgT : Gl X T := by rfl) (hgU : Gl X U := by rfl)
    (hn : T ≠ "__name__" := by decide) (hd : (T == ("__debug__" : Str)) = false := by decide) (hn2 : U ≠ "__name__" := by decide) (hd2 : (U == ("__debug__" : Str)) = false := by decide)
    (he : starEach [a, .Tuple [.Name T q, .Name U q2] k tp] X.env = (false, eval a X.env) :: starEach [.Tuple [.Name T q, .Name U q2] k tp] X.env := by rfl) (hpl : (backTo pos (starEach [.Tuple [.Name T q, .Name U q2] k tp] X.env)).any (·.1) = false := by rfl) (hs2 : starEach [.Tuple [.Name T q, .Name U q2] k tp] X.env = (false, eval (.Tuple [.Name T q, .Name U q2] k tp) X.env) :: starEach [] X.env := by rfl)
    (hs3 : starEach [.Name T q, .Name U q2] X.env = (false, eval (.Name T q) X.env) :: starEach [.Name U q2] X.env := by rfl) (hs4 : starEach [.Name U q2] X.env = (false, eval (.Name U q2) X.env) :: starEach [] X.env := by rfl) :
    EM X W (.Call (.Name "isinstance" p) [a, .Tuple [.Name T q, .Name U q2] k tp] [] pos) (xIsi2 own TS US ma) := PE.imp (pe_callB call_isiT hg hm (by decide +kernel) (pa_cons ha (pa_cons (pe_tup (pa_cons (pe_bltn (v := .ty TS) hgT hmT hv rfl hn hd) (pa_cons (pe_bltn (v := .ty US) hgU hmU hw rfl hn2 hd2) pa_nil hs4) hs3)) pa_nil hs2) he) (by decide) (by decide) he hpl) (by
  rintro σ H Q ⟨c, ρ, rfl, g, s, h⟩
  refine gCan.intro g s ((Post.bind (R := Rp X.K) h).imp ?_)
  rintro v c' d st g' r' ⟨c1, x, e, s1, g1, r1, p1⟩
  rw [← e]
  cases q : isiD own c1.μ x TS with
  | none => rw [q] at p1; exact p1.elim
  | some b =>
    cases q' : isiD own c1.μ x US with
    | none => rw [q, q'] at p1; exact p1.elim
    | some b' =>
      rw [q, q'] at p1
      refine ⟨(by show 2 ≤ sizeLine; decide), fun t ht => ?_⟩
      have g2 := g1.new (o := .tup [.ty TS, .ty US]) ht
      have s2 := Step.new g1 (.tup [.ty TS, .ty US]) ht
      obtain ⟨t1, z1, h1, h2⟩ := isiD_ok hO g2 hT (r1.mono s2.toMon) q
      obtain ⟨t2, z2, h3, h4⟩ := isiD_ok hO g2 hU (r1.mono s2.toMon) q'
      have et : t1 = t2 := Option.some.inj (z1.symm.trans z2)
      subst et
      exact ⟨v, t, [.ty TS, .ty US], _, [.type TS, .type US], _, rfl, upd_same, .cons (.ty TS) (.cons (.ty US) .nil), h1, kitAny2 h2 h4, p1 _ (c1.new t _) s2 g2 rfl (.bl _)⟩)
end
end FL
end S_FL10
section S_FL11
set_option Elab.async false
set_option linter.all false
set_option maxRecDepth 100000
set_option maxHeartbeats 4000000
/-! FL11: promises by positional values; classes that are made, methods, properties, own operators. -/
namespace FL
open PySem PySem.Spec PyProof.Rows L2

/-- a def's promise by positional values -/
def spV (K : PySem.W.Frag) (m : FMir) : Sp := fun vs H Q E => ∃ c ds, c.H = H ∧ Good K c ∧ RpAll K c vs ds ∧ Post K (fun cls dd _ H => E cls dd H) [] c (Rp K) Q (m ds c.μ)
abbrev FR (P : Program) (w : World) (K : PySem.W.Frag) (mg : Str → Option Value) (base : Heap) (k : Nat) (f : Addr) (m : FMir) : Prop := FnR P w K mg base (L2.CX P w) k f (spV K m)
section
variable {P : Program} {w : World} {K : PySem.W.Frag} {mg : Str → Option Value} {base : Heap} {k n : Nat} {f : Addr} {fd : FuncData} {ps : List Str} {m : FMir}
theorem fr_ofD {es : List D} {dvs : List V} {ds : List Value} (F : FnOk P w K mg base (L2.CX P w) k f fd ps (spM K n m)) (hb : Binds K fd ps ds) (hd : Vals dvs ds) (he : ∀ c, RpAll K c dvs es) : FR P w K mg base k f (appN n es m) :=
  (FnOk.raw F hb hd).imp fun vs H Q E ⟨c, xs, e, g, r, p⟩ => by
    unfold appN at p
    by_cases hl : (xs ++ es).length = n
    · rw [if_pos hl] at p
      exact ⟨c, xs ++ es, e, g, r.append (he c), hl, p⟩
    · rw [if_neg hl] at p; exact p.elim
theorem fr_of (F : FnOk P w K mg base (L2.CX P w) k f fd ps (spM K n m)) (hb : Binds K fd ps []) : FR P w K mg base k f (appN n [] m) := fr_ofD F hb .nil fun _ => .nil
theorem FR.mono {j : Nat} (F : FR P w K mg base j f m) (h : j ≤ k) : FR P w K mg base k f m := FnR.mono F h
end
section
variable {X : Cx} {W : WX} {k : Nat} {f C : Addr} {m : FMir} {CX : CXT} {sp : Sp}
theorem runR {pins : List (Addr × Obj)} {σ : L2.St} {H : Hp} {s : Shared} {Q : VK} {us : List Value} {vs : List V} {E : XK} (F : FnR X.prog X.w X.K X.mg X.base CX k f sp) (hr : Room k X.A) (hx : PassesAt CX X σ E) (I : Inv X pins σ H s) (r : Vals vs us) (h : sp vs H Q E) :
    codeAny (model X.prog X.w) X.A (.call (.ref f) ⟨us, []⟩) (fun r s' => match r with | .ok (.ret v) => EP X pins σ Q v s' | .ok _ => False | .error e => X.xe e s') s := by
  refine codeAny_mono (F X.A X.stack s H us vs Q E hr I.env0 r h) fun r s' hq => ?_
  cases r with
  | error e => exact hx pins H s e s' I hq
  | ok fl =>
    cases fl with
    | ret u => exact I.after hq
    | next => exact False.elim hq
    | brk => exact False.elim hq
    | cont => exact False.elim hq
theorem FR.callF (F : FR X.prog X.w X.K X.mg X.base k f m) (hr : Room k X.A) (tk : Takes X W) : CallF X W (.ref f) m := fun pins s σ c us vs ds Q I g r rx p =>
  wpAny_call (runR F hr (passAt tk σ) I r ⟨c, ds, rfl, g, rx, p.wish⟩)

/-! ### a class is made -/
def mkM (C : Str) (m : FMir) : FMir := fun ds μ => match m (.ptr μ.length :: ds) (μ ++ [.ins C []]) with
  | .ok .non μ' => .ok (.ptr μ.length) μ'
  | .exc x μ' => .exc x μ'
  | _ => .stuck
theorem RpF.nl {κ : Type} {K : PySem.W.Frag} {c : Cfg} : RpF (κ := κ) K c [] [] := Paired.nil
theorem mk_sp {Cn : Str} {σ : L2.St} {c : Cfg} {vs : List V} {ds : List D} {Q : VK} (g : Good X.K c) (rx : RpAll X.K c vs ds) (p : Post X.K W σ c (Rp X.K) Q (mkM Cn m ds c.μ)) :
    ∀ x dx, c.H x = none → c.H dx = none → dx ≠ x → spV X.K m (V.ref x :: vs) (upd (upd c.H dx (.own x)) x (.ins (cad X.K Cn) dx [])) (fun v H2 => v = .non ∧ Q (.ref x) H2) (WE W σ) := by
  intro x dx hn1 hn0 hne
  have g1 := g.new (o := .own x) hn0
  have s1 := Step.new g (.own x) hn0
  have hx1 : (c.new dx (.own x)).H x = none := by
    show upd c.H dx (.own x) x = none
    rw [upd_ne hne.symm]; exact hn1
  have ok : CellOk X.K ((c.new dx (.own x)).cell x (.ins (cad X.K Cn) dx []) (.ins Cn [])) x (.ins Cn []) := ⟨dx, [], upd_same, RpF.nl⟩
  have g2 := g1.cell hx1 ok
  have s2 := s1.trans (Step.cell g1 (.ins (cad X.K Cn) dx []) (.ins Cn []) hx1)
  refine ⟨_, .ptr c.μ.length :: ds, rfl, g2, .cons (Rp.cell g1 _ _) (rx.mono s2.toMon), ?_⟩
  unfold mkM at p
  show Post X.K _ [] _ (Rp X.K) _ (m (.ptr c.μ.length :: ds) (c.μ ++ [.ins Cn []]))
  cases em : m (.ptr c.μ.length :: ds) (c.μ ++ [.ins Cn []]) with
  | stuck => rw [em] at p; exact p.elim
  | exc z μ' =>
    rw [em] at p
    exact fun c' dd st g' e' q => p c' dd (s2.trans st) g' e' q
  | ok d μ' =>
    rw [em] at p
    cases d with
    | non =>
      intro v c' st g' e' q
      cases q
      refine ⟨rfl, p _ c' (s2.trans st) g' e' ?_⟩
      exact .ptr (st.pre _ _ (by show (c.ι ++ [x])[c.μ.length]? = some x; rw [← g.len]; simp))
    | _ => exact p.elim
theorem FR.make {Cn : Str} (M : Mk X.K (cad X.K Cn) f) (F : FR X.prog X.w X.K X.mg X.base k f m) (hr : Room (k + 1) X.A) (tk : Takes X W) : CallF X W (.ref (cad X.K Cn)) (mkM Cn m) := by
  intro pins s σ c us vs ds Q I g r rx p
  have hall := mk_sp (Cn := Cn) g rx p
  have hq := hall (s.heap.objs.size + 1) s.heap.objs.size (I.hok.fresh (Nat.le_succ _)) (I.hok.fresh (Nat.le_refl _)) (Nat.ne_of_lt (Nat.lt_succ_self _))
  have I2 := Inv.made (C := cad X.K Cn) I
  have r2 : Vals (V.ref (s.heap.objs.size + 1) :: vs) (Value.ref (s.heap.objs.size + 1) :: us) := .cons rfl r
  refine wpAny_call (make_map (f := f) I.kIn M.makes M.init (beq_iff_eq.mp M.fn) (codeAny_mono (F _ X.stack _ _ (Value.ref (s.heap.objs.size + 1) :: us) _ _ (WE W σ) (hr.make (cad X.K Cn) us []) (I2.env0.make (cad X.K Cn) us []) r2 hq) fun r s' hq' => ?_))
  cases r with
  | error e => exact passAt tk σ pins _ _ e s' I2 hq'
  | ok fl =>
    cases fl with
    | ret u =>
      obtain ⟨v, H', I3, rv, ev, q3⟩ := I2.after hq'
      subst ev
      exact ⟨rv, ⟨V.ref (s.heap.objs.size + 1), H', I3, rfl, q3⟩⟩
    | next => exact False.elim hq'
    | brk => exact False.elim hq'
    | cont => exact False.elim hq'
end
end FL
end S_FL11
section S_FL12
set_option Elab.async false
set_option linter.all false
set_option maxRecDepth 100000
set_option maxHeartbeats 4000000
/-! FL12: methods, properties, own operators, star targets. -/
namespace FL
open PySem PySem.Spec PyProof.Rows L2

/-! ### instances -/
def insD (μ : Sto) : D → Option (Str × List (Str × D))
  | .ptr i => (match μ[i]? with
    | some (.ins C fs) => some (C, fs)
    | _ => none)
  | _ => none
/-- an instance of C without an own attribute m -/
def hasM (C m : Str) (μ : Sto) (x : D) : Bool := match insD μ x with
  | some (C', fs) => decide (C' = C) && (fs.lookup m).isNone
  | none => false
def isIns (C : Str) (μ : Sto) (x : D) : Bool := match insD μ x with
  | some (C', _) => decide (C' = C)
  | none => false
section
variable {K : PySem.W.Frag} {c : Cfg}
theorem insD_ok (g : Good K c) {v : V} {d : D} {C : Str} {fs : List (Str × D)} (r : Rp K c v d) (h : insD c.μ d = some (C, fs)) : ∃ a dx fv, v = .ref a ∧ c.H a = some (.ins (cad K C) dx fv) ∧ RpF K c fv fs := by
  cases r with
  | ptr hi =>
    rename_i a i
    have h : (match c.μ[i]? with
      | some (.ins C fs) => some (C, fs)
      | _ => none) = some (C, fs) := h
    cases q : c.μ[i]? with
    | none => rw [q] at h; cases h
    | some cell =>
      rw [q] at h
      cases cell with
      | ins C' fs' =>
        cases h
        obtain ⟨dx, fv, h1, h2⟩ := g.ok i a _ hi q
        exact ⟨a, dx, fv, rfl, h1, h2⟩
      | _ => cases h
  | _ => cases h
theorem hasM_ok (g : Good K c) {v : V} {d : D} {C m : Str} (r : Rp K c v d) (h : hasM C m c.μ d = true) : ∃ a dx fv, v = .ref a ∧ c.H a = some (.ins (cad K C) dx fv) ∧ fv.lookup m = none := by
  unfold hasM at h
  cases q : insD c.μ d with
  | none => rw [q] at h; cases h
  | some p =>
    obtain ⟨C', fs⟩ := p
    rw [q] at h
    have h : (decide (C' = C) && (fs.lookup m).isNone) = true := h
    rw [Bool.and_eq_true, decide_eq_true_iff] at h
    obtain ⟨rfl, h2⟩ := h
    obtain ⟨a, dx, fv, e, h3, h4⟩ := insD_ok g r q
    exact ⟨a, dx, fv, e, h3, h4.lookNone (Option.isNone_iff_eq_none.mp h2)⟩
theorem isIns_ok (g : Good K c) {v : V} {d : D} {C : Str} (r : Rp K c v d) (h : isIns C c.μ d = true) : ∃ a dx fv, v = .ref a ∧ c.H a = some (.ins (cad K C) dx fv) := by
  unfold isIns at h
  cases q : insD c.μ d with
  | none => rw [q] at h; cases h
  | some p =>
    obtain ⟨C', fs⟩ := p
    rw [q] at h
    have h : decide (C' = C) = true := h
    rw [decide_eq_true_iff] at h
    subst h
    obtain ⟨a, dx, fv, e, h3, h4⟩ := insD_ok g r q
    exact ⟨a, dx, fv, e, h3⟩
theorem isIns_inst {X : Cx} {pins : List (Addr × Obj)} {σ : L2.St} {s : Shared} (I : Inv X pins σ c.H s) {a C dx : Addr} {fv : List (Str × V)} (h : c.H a = some (.ins C dx fv)) : ∃ ox od, PySem.W.InstAt s.heap a ox C od ∧ ox.data = .plain := by
  obtain ⟨mA, O, _⟩ := ins_get I.hok h
  obtain ⟨od, J, _⟩ := O.look
  exact ⟨_, _, J, rfl⟩
end

/-! ### o.m(e, ..) -/
def xMeth (C m : Str) (mm : FMir) (ma : Rho → Sto → Res D) (n : Rho → Sto → Res (List D)) : Rho → Sto → Res D := fun ρ μ => (ma ρ μ).bind fun x μ1 => if hasM C m μ1 x = true then (n ρ μ1).bind fun ds μ2 => mm (x :: ds) μ2 else .stuck
section
variable {X : Cx} {W : WX} {C m : Str} {f : Addr} {mm : FMir} {o e : Expr} {es : List Expr} {apos pos : Pos} {ma : Rho → Sto → Res D} {n : Rho → Sto → Res (List D)} {pl : Sem Bool}
theorem em_meth (he : EM X W o ma) (c : Cls X.K (cad X.K C)) (hm : Meth X.K (cad X.K C) m f) (F : CallF X W (.ref f) mm) (ha : AM X W (e :: es) n)
    (hst : starEach (e :: es) X.env = (false, eval e X.env) :: starEach es X.env := by rfl) (hpl : (backTo pos (starEach es X.env)).any (·.1) = false := by rfl)
    (ht : eval (.Call (.Attribute o m apos) (e :: es) [] pos) X.env = (do
      let ov ← eval o X.env
      standAt apos.atName
      let (f, first) ← holding [ov] (getMethod ov m pl)
      callWith pos f first (backTo pos (starEach (e :: es) X.env)) (backToKw pos (keywordEach [] X.env))) := by rfl) :
    EM X W (.Call (.Attribute o m apos) (e :: es) [] pos) (xMeth C m mm ma n) := by
  refine ⟨fun pins s σ H Q I h => ?_⟩
  obtain ⟨c0, ρ, rfl, g, sl, h⟩ := h
  refine PySem.W.methodCall_KW (pl := pl) (thn (he.run pins s σ c0.H _ I (gCan.intro g sl (Post.bind (R := Rp X.K) h))) fun u s1 hh => ?_) ht
  obtain ⟨x, H1, I1, rx, c1, d, rfl, st1, g1, r1, p1⟩ := hh
  by_cases hM : hasM C m c1.μ d = true
  · rw [if_pos hM] at p1
    obtain ⟨a, dx, fv, rfl, ea, l⟩ := hasM_ok g1 r1 hM
    obtain rfl : u = Value.ref a := rx
    refine getmeth_ok I1 ea c hm l ?_
    refine PySem.W.callWith_K (first := [.ref a]) (h₀ := X.base) I.ok.mod.kin hm.kp (thn (ha.run pos pins s1 σ c1.H _ I1 (gCan.intro g1 (sl.mono st1) (Post.bind (R := RpAll X.K) p1))) fun us s2 hh => ?_) hst hpl
    obtain ⟨vs, H2, I2, r, c2, ds, rfl, st2, g2, r2, p2⟩ := hh
    exact ⟨I2.kIn, F pins s2 σ c2 (.ref a :: us) (.ref a :: vs) (d :: ds) Q I2 g2 (.cons rfl r) (.cons (r1.mono st2) r2) p2⟩
  · rw [if_neg hM] at p1; exact p1.elim
theorem em_meth0 (he : EM X W o ma) (c : Cls X.K (cad X.K C)) (hm : Meth X.K (cad X.K C) m f) (F : CallF X W (.ref f) mm)
    (ht : eval (.Call (.Attribute o m apos) [] [] pos) X.env = (do
      let ov ← eval o X.env
      standAt apos.atName
      let (f, first) ← holding [ov] (getMethod ov m pl)
      callWith pos f first (backTo pos (starEach [] X.env)) (backToKw pos (keywordEach [] X.env))) := by rfl) :
    EM X W (.Call (.Attribute o m apos) [] [] pos) (xMeth C m mm ma aNil) := by
  refine ⟨fun pins s σ H Q I h => ?_⟩
  obtain ⟨c0, ρ, rfl, g, sl, h⟩ := h
  refine PySem.W.methodCall_KW (pl := pl) (thn (he.run pins s σ c0.H _ I (gCan.intro g sl (Post.bind (R := Rp X.K) h))) fun u s1 hh => ?_) ht
  obtain ⟨x, H1, I1, rx, c1, d, rfl, st1, g1, r1, p1⟩ := hh
  by_cases hM : hasM C m c1.μ d = true
  · rw [if_pos hM] at p1
    obtain ⟨a, dx, fv, rfl, ea, l⟩ := hasM_ok g1 r1 hM
    obtain rfl : u = Value.ref a := rx
    refine getmeth_ok I1 ea c hm l ?_
    exact PySem.W.callWith_K0 (first := [.ref a]) I1.kIn hm.kp (F pins s1 σ c1 [.ref a] [.ref a] [d] Q I1 g1 (.cons rfl .nil) (.cons r1 .nil) p1)
  · rw [if_neg hM] at p1; exact p1.elim
end

/-! ### e.f, a property -/
def xProp (C : Str) (m : FMir) (ma : Rho → Sto → Res D) : Rho → Sto → Res D := fun ρ μ => (ma ρ μ).bind fun x μ1 => if isIns C μ1 x = true then noX (m [x] μ1) else .stuck
section
variable {X : Cx} {W : WX} {C f : Str} {p gg : Addr} {mm : FMir} {e : Expr} {pos : Pos} {ma : Rho → Sto → Res D} {k : Nat}
theorem em_prop (he : EM X W e ma) (c : Cls X.K (cad X.K C)) (hp : PropOf X.K (cad X.K C) f p gg) (F : FR X.prog X.w X.K X.mg X.base k gg mm) (hr : Room (k + 1) X.A) (hab : attributeBase e f X.env (eval e X.env) = eval e X.env := by rfl) :
    EM X W (.Attribute e f pos) (xProp C mm ma) := by
  refine ⟨fun pins s σ H Q I h => ?_⟩
  obtain ⟨c0, ρ, rfl, g, sl, h⟩ := h
  refine attr_of hab (thn (he.run pins s σ c0.H _ I (gCan.intro g sl (Post.bind (R := Rp X.K) h))) fun u s1 hh => ?_)
  obtain ⟨x, H1, I1, rx, c1, d, rfl, st1, g1, r1, p1⟩ := hh
  by_cases hM : isIns C c1.μ d = true
  · rw [if_pos hM] at p1
    obtain ⟨a, dx, fv, rfl, ea⟩ := isIns_ok g1 r1 hM
    obtain rfl : u = Value.ref a := rx
    have h : spV X.K mm [V.ref a] c1.H Q (fun _ _ _ => False) := by
      refine ⟨c1, [d], rfl, g1, .cons r1 .nil, ?_⟩
      cases em : mm [d] c1.μ with
      | ok z μ => rw [em] at p1; exact p1
      | exc z μ => rw [em] at p1; exact p1.elim
      | stuck => rw [em] at p1; exact p1.elim
    obtain ⟨mA, O, _, _, _, _⟩ := ins_get I1.hok ea
    obtain ⟨od, J, _⟩ := O.look
    obtain ⟨rest, hrec⟩ := hp.rec_
    have I2 := I1.tok (s1.toks + 1)
    have hc : (PySem.W.clsIn X.K (cad X.K C)).isSome = true := by
      obtain ⟨cd, hc, _⟩ := PySem.W.any_some c.hd
      rw [hc]
      rfl
    refine PySem.W.get_bind I1.kIn J (PySem.W.plainGet_of (c.get f)).1 (PySem.W.findObj_data hc hp.at_ hp.get hp.tak) (PySem.W.plainGet_of (c.get f)).2 (wpAny_call (PySem.W.prop_get (s := { s1 with toks := s1.toks + 1 }) I1.kIn hrec ?_))
    refine codeAny_mono (F X.A.in1 X.stack { s1 with toks := s1.toks + 1 } c1.H [.ref a] [.ref a] Q (fun _ _ _ => False) hr.in1 I2.env0.in1 (.cons rfl .nil) h) fun r s' hq => ?_
    cases r with
    | error er => exact False.elim (by obtain ⟨_, _, _, _, _, _, _, _, _, _, _, _, z⟩ := hq; exact z)
    | ok fl =>
      cases fl with
      | ret u =>
        obtain ⟨v, H', I3, rv, q3⟩ := I2.after hq
        show wpAny _ _ (handedOut u) _ _ _
        rw [PySem.W.handedOut_of (handed_of rv)]
        exact wpAny_pure ⟨v, H', I3, rv, q3⟩
      | next => exact False.elim hq
      | brk => exact False.elim hq
      | cont => exact False.elim hq
  · rw [if_neg hM] at p1; exact p1.elim
end
end FL
end S_FL12
section S_FL13
set_option Elab.async false
set_option linter.all false
set_option maxRecDepth 100000
set_option maxHeartbeats 4000000
/-! FL13: own operators. -/
namespace FL
open PySem PySem.Spec PyProof.Rows L2

/-! ### an operator, told with the wish -/
def OpW (X : Cx) (W : WX) (f : Value → Value → Sem Value) (op : D → D → Sto → Res D) : Prop :=
  ∀ (pins : List (Addr × Obj)) (s : Shared) (σ : L2.St) (c : Cfg) (x y : V) (v u : Value) (d e : D) (Q : VK), Inv X pins σ c.H s → Good X.K c → RelV x v → RelV y u → Rp X.K c x d → Rp X.K c y e → Post X.K W σ c (Rp X.K) Q (op d e c.μ) →
    wpAny (model X.prog X.w) X.A (f v u) (EP X pins σ Q) X.xe s
section
variable {X : Cx} {W : WX} {f : Value → Value → Sem Value} {op : D → D → Sto → Res D} {r : R2} {a b : Expr} {pos : Pos} {ma mb : Rho → Sto → Res D}
theorem OpW.of (ho : OpR X f r) (hm : OpM X.K r op) : OpW X W f op := fun pins s σ c x y v u d e Q I g rv ru rx ry p => ho pins s σ c.H x y v u Q I rv ru (hm W σ c x y d e Q g rx ry p)
theorem em_opW {o : Operator} (ho : OpW X W (binaryOp o) op) (ha : EM X W a ma) (hb : EM X W b mb) : EM X W (.BinOp a o b pos) (xOp op ma mb) := by
  refine ⟨fun pins s σ H Q I h => ?_⟩
  obtain ⟨c0, ρ, rfl, g, sl, h⟩ := h
  refine wpAny_BinOp (thn (ha.run pins s σ c0.H _ I (gCan.intro g sl (Post.bind (R := Rp X.K) h))) fun v s1 hh => ?_)
  obtain ⟨x, H1, I1, rx, c1, d, rfl, st1, g1, r1, p1⟩ := hh
  refine thn (hb.run pins s1 σ c1.H _ I1 (gCan.intro g1 (sl.mono st1) (Post.bind (R := Rp X.K) p1))) fun u s2 hh => ?_
  obtain ⟨y, H2, I2, ry, c2, e, rfl, st2, g2, r2, p2⟩ := hh
  exact ho pins s2 σ c2 x y v u d e Q I2 g2 rx ry (r1.mono st2) r2 p2
theorem em_cmpW {o : CmpOp} (ho : OpW X W (compareOp o) op) (ha : EM X W a ma) (hb : EM X W b mb) (hk : behindInMarks o b = false) : EM X W (.Compare a [o] [b] pos) (xOp op ma mb) := by
  refine ⟨fun pins s σ H Q I h => ?_⟩
  obtain ⟨c0, ρ, rfl, g, sl, h⟩ := h
  refine wpAny_Compare1 (thn (ha.run pins s σ c0.H _ I (gCan.intro g sl (Post.bind (R := Rp X.K) h))) fun v s1 hh => ?_) hk
  obtain ⟨x, H1, I1, rx, c1, d, rfl, st1, g1, r1, p1⟩ := hh
  refine thn (hb.run pins s1 σ c1.H _ I1 (gCan.intro g1 (sl.mono st1) (Post.bind (R := Rp X.K) p1))) fun u s2 hh => ?_
  obtain ⟨y, H2, I2, ry, c2, e, rfl, st2, g2, r2, p2⟩ := hh
  exact ho pins s2 σ c2 x y v u d e Q I2 g2 rx ry (r1.mono st2) r2 p2
theorem tm_cmpW {o : CmpOp} (ho : OpW X W (compareOp o) op) (ha : EM X W a ma) (hb : EM X W b mb) (hk : behindInMarks o b = false) : TM X W (.Compare a [o] [b] pos) (tB1 (xOp op ma mb)) := by
  refine ⟨fun pins s σ H Q I h => ?_⟩
  obtain ⟨c0, ρ, rfl, g, sl, h⟩ := h
  have hh : Post X.K W σ c0 (Rp X.K) (fun v H => ∃ c1 d, c1.H = H ∧ Step c0 c1 ∧ Good X.K c1 ∧ Rp X.K c1 v d ∧ Post X.K W σ c1 RB Q (asB d c1.μ)) (xOp op ma mb ρ c0.μ) := Post.bind (R := Rp X.K) h
  refine wpAny_isTrue_Compare1 (thn (ha.run pins s σ c0.H _ I (gCan.intro g sl (Post.bind (R := Rp X.K) hh))) fun v s1 hq => ?_) hk
  obtain ⟨x, H1, I1, rx, c1, d, rfl, st1, g1, r1, p1⟩ := hq
  refine thn (hb.run pins s1 σ c1.H _ I1 (gCan.intro g1 (sl.mono st1) (Post.bind (R := Rp X.K) p1))) fun u s2 hq => ?_
  obtain ⟨y, H2, I2, ry, c2, e, rfl, st2, g2, r2, p2⟩ := hq
  refine thn (ho pins s2 σ c2 x y v u d e _ I2 g2 rx ry (r1.mono st2) r2 p2) fun cv s3 hq => ?_
  obtain ⟨z, H3, I3, rz, c3, dz, rfl, st3, g3, r3, p3⟩ := hq
  cases r3 with
  | bl k =>
    cases rz
    exact wpAny_truthy_bool ⟨c3.H, I3, Post.same (R := RB) g3 p3 rfl⟩
  | _ => exact p3.elim
end
/-! ### types -/
theorem looks_cls {M : Model} {h : Heap} {a : Addr} {o : Obj} {t : Value} (ha : h.get? a = some o) (hc : o.cls = t) : PySem.W.Looks M h (typeOf (.ref a)) t := hc ▸ (PySem.W.Looks.ld ha).andThen .now
theorem tyN_looks {X : Cx} {pins : List (Addr × Obj)} {σ : L2.St} {c : Cfg} {s : Shared} (I : Inv X pins σ c.H s) (g : Good X.K c) {y : V} {u : Value} {e : D} {t : TyN} (ry : RelV y u) (r : Rp X.K c y e) (h : tyN c.μ e = some t) (hd : t ≠ .b "dict") (M : Model) : PySem.W.Looks M s.heap (typeOf u) (tyVal X.K t) := by
  have seqL : ∀ {a : Addr} {vs : List V}, SqL X.K c.H a vs → u = .ref a → PySem.W.Looks M s.heap (typeOf u) (.type "list") := fun {a vs} hs e => by
    obtain ⟨its, _, ⟨o, n, h1, h2, _, _⟩, _⟩ := I.list hs
    rw [e]; exact looks_cls h1 h2
  cases r with
  | non => cases h; cases ry; exact PySem.W.Looks.of_pure rfl
  | bl b => cases h; cases ry; exact PySem.W.Looks.of_pure rfl
  | int i => cases h; obtain ⟨t, rfl⟩ := ry; exact PySem.W.Looks.of_pure rfl
  | str z => cases h; obtain ⟨t, rfl⟩ := ry; exact PySem.W.Looks.of_pure rfl
  | tup h1 h2 =>
    cases h
    obtain ⟨its, _, ⟨o, h3, h4, _⟩, _⟩ := I.tuple h1.sq
    cases ry
    exact looks_cls h3 h4
  | lst h1 h2 => cases h; exact seqL (SqL.of h1.1) (by cases ry; rfl)
  | scr h1 => cases h; exact seqL h1.sq (by cases ry; rfl)
  | ptr hi =>
    rename_i a i
    have h : (match c.μ[i]? with
      | some (.lst _) => some (TyN.b "list")
      | some (.dit _) => some (.b "dict")
      | some (.dik _) => some (.b "dict")
      | some (.ins C _) => some (.o C)
      | _ => none) = some t := h
    cases ry
    cases q : c.μ[i]? with
    | none => rw [q] at h; cases h
    | some cell =>
      rw [q] at h
      have ok := g.ok i a _ hi q
      cases cell with
      | lst xs => cases h; obtain ⟨_, z, _⟩ := ok; exact seqL (SqL.of z) rfl
      | dit xs => cases h; exact (hd rfl).elim
      | dik xs => cases h; exact (hd rfl).elim
      | ins C fs =>
        cases h
        obtain ⟨_, _, z, _⟩ := ok
        obtain ⟨ox, od, J, _⟩ := isIns_inst I z
        exact J.type
      | dead => cases h
/-! ### a def's answer as an operator's -/
theorem callF_cmp {X : Cx} {pins : List (Addr × Obj)} {σ : L2.St} {Q : VK} {s : Shared} {f : Value} {us : List Value} (h : wpAny (model X.prog X.w) X.A (call f us) (EP X pins σ Q) X.xe s) : wpAny (model X.prog X.w) X.A (call f us) (PySem.W.CmpBack (EP X pins σ Q)) X.xe s :=
  wpAny_mono h (fun v s' hv => by
    obtain ⟨x, H', I', rx, q⟩ := hv
    cases v with
    | notImplemented => cases x <;> first | exact rx.elim | (obtain ⟨_, e⟩ := rx; cases e; done) | (cases rx; done)
    | _ => exact ⟨x, H', I', rx, q⟩) fun _ _ z => z
structure OwnOp (K : PySem.W.Frag) (C : Str) (nm : String) (f : Addr) : Prop where
  first : PySem.W.selfFirst K (cad K C) = true
  hs : PySem.W.findIn K (.ref (cad K C)) (PySem.dunder nm) = some (some (.ref f))
  fn : PySem.W.isFn K (.ref f) = true
  hr : PySem.W.findIn K (.ref (cad K C)) (dunderR nm) = some none
structure OpTy (K : PySem.W.Frag) (C : Str) (nm T : String) : Prop where
  h1 : ∃ fo, PySem.W.findIn K (.type T) (PySem.dunder nm) = some fo
  h2 : ∃ ro, PySem.W.findIn K (.type T) (dunderR nm) = some ro
  hs : PySem.W.subIn K (.type T) (.ref (cad K C)) = some false
section
open PySem.W
variable {prog : Program} {w : World} {M : Model} {A : Around} {E : Value → Shared → Prop} {s : Shared} {K : Frag} {x C f : Addr} {ox : Obj} {od : Option Obj} {nm T : String}
/-- ksp_binT, told of a right operand of any kind whose type is a built-in one -/
theorem bin_own {op : Operator} {b : Value} {fo ro rc : Option Value} {Q : Value → Shared → Prop} (X : K.In s.heap) (I : InstAt s.heap x ox C od) (hb : Looks (model prog w) s.heap (typeOf b) (.type T)) (hc : selfFirst K C = true)
    (hs : findIn K (.ref C) (PySem.dunder op.info.2) = some (some (.ref f))) (hf : isFn K (.ref f) = true) (hr : findIn K (.ref C) (dunderR op.info.2) = some rc) (hp : rc = none ∨ ∃ g : Addr, rc = some (.ref g))
    (h1 : findIn K (.type T) (PySem.dunder op.info.2) = some fo) (h2 : findIn K (.type T) (dunderR op.info.2) = some ro) (hsub : subIn K (.type T) (.ref C) = some false)
    (h : wpAny (model prog w) A (call (.ref f) [.ref x, b]) (PySem.W.CmpBack Q) E s) : wpAny (model prog w) A (binaryOp op (.ref x) b) Q E s := by
  obtain ⟨cd, rest, hcd, hm⟩ := ksp_first hc
  rcases hi : op.info with ⟨sym, nm'⟩
  rw [hi] at hs hr h1 h2
  dsimp only at hs hr h1 h2
  have one := ksp_try X I hs hf h
  obtain ⟨hh, g, d, tt, os⟩ := s
  have L1 : Looks (model prog w) hh (typeOf (.ref x)) (.ref C) := I.type
  have L2 : Looks (model prog w) hh (typeOf b) (.type T) := hb
  have L3 : Looks (model prog w) hh (fillsNumberSlot (.ref C) nm') true := fills_K X hcd hm hs
  have L4 : Looks (model prog w) hh (fillsNumberSlot (.type T) nm') ((fo.isSome && !isSeqSlot fo) || (ro.isSome && !isSeqSlot ro)) := ksp_fillsT X h1 h2
  have L5 : Looks (model prog w) hh (isSubtype (.type T) (.ref C)) false := looks_subIn X hsub
  have L6 : Looks (model prog w) hh (numberSlotInPython (.ref C) nm') true := ksp_inPy X hs hr hp
  have L7 : Looks (model prog w) hh (numberSlotInPython (.type T) nm') false := Looks.of_pure rfl
  have L8 : Looks (model prog w) hh (typeLookup (.type T) (dunderR nm')) ro := looks_findIn X h2
  generalize ((fo.isSome && !isSeqSlot fo) || (ro.isSome && !isSeqSlot ro)) = right at L4
  have hne : (Value.ref C == Value.type T) = false := Bool.eq_false_iff.mpr fun q => by cases beq_iff_eq.mp q
  simp only [binaryOp, hi]
  refine wpAny_holding (wpAny_bind ?_)
  unfold binaryOp1
  refine wpAny_bind (L1.at (wpAny_bind (L2.at (wpAny_bind (L3.at ?_)))))
  simp only [hne, Bool.false_eq_true, if_false]
  cases right with
  | false =>
    ksp_lk
    refine wpAny_mono one (fun r s' hr' => ?_) fun _ _ e => e
    obtain ⟨v, rfl, hq⟩ := hr'
    ksp_lk
    exact hq
  | true =>
    ksp_lk
    refine wpAny_mono one (fun r s' hr' => ?_) fun _ _ e => e
    obtain ⟨v, rfl, hq⟩ := hr'
    ksp_lk
    exact hq
end
def ownBin (C : Str) (Ts : List String) (m : FMir) (base : D → D → Sto → Res D) : D → D → Sto → Res D := fun x y μ =>
  if isIns C μ x = true then (match tyN μ y with
    | some (.b T) => if T ∈ Ts then m [x, y] μ else .stuck
    | some (.o C') => if C' = C then m [x, y] μ else .stuck
    | none => .stuck) else base x y μ
theorem opw_own {X : Cx} {W : WX} {C : Str} {Ts : List String} {m : FMir} {base : D → D → Sto → Res D} {o : Operator} {f : Addr} (F : CallF X W (.ref f) m) (O : OwnOp X.K C o.info.2 f) (hT : ∀ T ∈ Ts, T ≠ "dict" ∧ OpTy X.K C o.info.2 T) (hb : OpW X W (binaryOp o) base) : OpW X W (binaryOp o) (ownBin C Ts m base) := by
  intro pins s σ c x y v u d e Q I g rv ru rx ry p
  unfold ownBin at p
  by_cases hi : isIns C c.μ d = true
  · rw [if_pos hi] at p
    obtain ⟨a, dx, fv, rfl, ea⟩ := isIns_ok g rx hi
    cases rv
    obtain ⟨ox, od, J, _⟩ := isIns_inst I ea
    have run : Post X.K W σ c (Rp X.K) Q (m [d, e] c.μ) → wpAny (model X.prog X.w) X.A (call (.ref f) [.ref a, u]) (PySem.W.CmpBack (EP X pins σ Q)) X.xe s := fun p => callF_cmp (F pins s σ c [.ref a, u] [.ref a, y] [d, e] Q I g (.cons rfl (.cons ru .nil)) (.cons rx (.cons ry .nil)) p)
    cases q : tyN c.μ e with
    | none => rw [q] at p; exact p.elim
    | some t =>
      rw [q] at p
      cases t with
      | b T =>
        have p : Post X.K W σ c (Rp X.K) Q (if T ∈ Ts then m [d, e] c.μ else .stuck) := p
        by_cases hm : T ∈ Ts
        · rw [if_pos hm] at p
          obtain ⟨hd, ⟨fo, h1⟩, ⟨ro, h2⟩, h3⟩ := hT T hm
          exact bin_own I.kIn J (tyN_looks I g ru ry q (fun z => by cases z; exact hd rfl) _) O.first O.hs O.fn O.hr (.inl rfl) h1 h2 h3 (run p)
        · rw [if_neg hm] at p; exact p.elim
      | o C' =>
        replace p : Post X.K W σ c (Rp X.K) Q (if C' = C then m [d, e] c.μ else .stuck) := p
        by_cases hm : C' = C
        · rw [if_pos hm] at p
          subst hm
          obtain ⟨mF, hF⟩ := I.fr
          exact PySem.W.binop_K hF I.ok.mod.kin J (tyN_looks I g ru ry q (fun z => by cases z) _) O.first O.hs O.fn (run p)
        · rw [if_neg hm] at p; exact p.elim
  · rw [if_neg hi] at p
    exact hb pins s σ c x y v u d e Q I g rv ru rx ry p
/-! ### ~x -/
def ownUn (C : Str) (m : FMir) : Rho → Sto → Res D := fun _ _ => .stuck
def xUn (C : Str) (m : FMir) (ma : Rho → Sto → Res D) : Rho → Sto → Res D := fun ρ μ => (ma ρ μ).bind fun x μ1 => if isIns C μ1 x = true then m [x] μ1 else .stuck
theorem em_inv {X : Cx} {W : WX} {C : Str} {m : FMir} {f : Addr} {a : Expr} {pos : Pos} {ma : Rho → Sto → Res D} (F : CallF X W (.ref f) m) (hs : PySem.W.findIn X.K (.ref (cad X.K C)) "__invert__" = some (some (.ref f))) (hf : PySem.W.isFn X.K (.ref f) = true) (ha : EM X W a ma) :
    EM X W (.UnaryOp .Invert a pos) (xUn C m ma) := by
  refine ⟨fun pins s σ H Q I h => ?_⟩
  obtain ⟨c0, ρ, rfl, g, sl, h⟩ := h
  refine UnaryOp_ (thn (ha.run pins s σ c0.H _ I (gCan.intro g sl (Post.bind (R := Rp X.K) h))) fun v s1 hh => ?_)
  obtain ⟨x, H1, I1, rx, c1, d, rfl, st1, g1, r1, p1⟩ := hh
  by_cases hi : isIns C c1.μ d = true
  · rw [if_pos hi] at p1
    obtain ⟨a, dx, fv, rfl, ea⟩ := isIns_ok g1 r1 hi
    cases rx
    obtain ⟨ox, od, J, _⟩ := isIns_inst I1 ea
    obtain ⟨mF, hF⟩ := I1.fr
    exact PySem.W.ksp_inv hF I1.ok.mod.kin J hs hf (F pins s1 σ c1 [.ref a] [.ref a] [d] Q I1 g1 (.cons rfl .nil) (.cons r1 .nil) p1)
  · rw [if_neg hi] at p1; exact p1.elim
end FL
end S_FL13
section S_FL14
set_option Elab.async false
set_option linter.all false
set_option maxRecDepth 100000
set_option maxHeartbeats 4000000
/-! FL14: calls of any value, star calls, instances called, defs with a star parameter, star targets, len and isinstance of own classes. -/
namespace FL
open PySem PySem.Spec PyProof.Rows L2

/-! ### built-in calls, told with the wish -/
theorem CallF.ofB {X : Cx} {W : WX} {f : Value} {r : List V → Hp → VK → Prop} {op : List D → Sto → Res D} (hc : CallR X f r) (ho : CallM X.K r op) : CallF X W f op := fun pins s σ c us vs ds Q I g rv rx p => hc pins s σ c.H vs us Q I rv (ho W σ c vs ds Q g rx p)
section
variable {X : Cx} {W : WX} {x : Str} {id T : String} {m : FMir} {e : Expr} {es : List Expr} {p pos : Pos} {n : Rho → Sto → Res (List D)}
theorem em_bF (hf : CallF X W (.builtin id) m) (hg : Gl X x) (hm : X.mg x = none) (hv : bootBuiltins x = some (.builtin id)) (ha : AM X W (e :: es) n) (hn : x ≠ "__name__" := by decide) (hdb : (x == ("__debug__" : Str)) = false := by decide)
    (he : starEach (e :: es) X.env = (false, eval e X.env) :: starEach es X.env := by rfl) (hpl : (backTo pos (starEach es X.env)).any (·.1) = false := by rfl) : EM X W (.Call (.Name x p) (e :: es) [] pos) (xFn m n) := by
  refine ⟨fun pins s σ H Q I h => ?_⟩
  obtain ⟨c, ρ, rfl, g, sl, h⟩ := h
  refine wpAny_Call_Name_kw (ld_blt I hg hm hv ?_ hn hdb)
  refine PyProof.Rows.callWith_builtin1 (thn (ha.run pos pins s σ c.H _ I (gCan.intro g sl (Post.bind (R := RpAll X.K) h))) fun us s1 hh => ?_) he hpl
  obtain ⟨vs, H1, I1, r1, c1, ds, rfl, st1, g1, rd, p1⟩ := hh
  exact hf pins s1 σ c1 us vs ds Q I1 g1 r1 rd p1
/-- x(e, .., *y, ..) -/
theorem em_callS {f : Addr} (hf : CallF X W (.ref f) m) (hm : X.mg x = some (.ref f)) (hk : PySem.W.keepIn X.K (.ref f) = true) (ha : AM X W (e :: es) n) (hg : Gl X x := by rfl)
    (hdb : (x == ("__debug__" : Str)) = false := by decide) (he : starEach (e :: es) X.env = (false, eval e X.env) :: starEach es X.env := by rfl) (hst : (backTo pos (starEach es X.env)).any (·.1) = true := by rfl) :
    EM X W (.Call (.Name x p) (e :: es) [] pos) (xFn m n) := by
  refine ⟨fun pins s σ H Q I h => ?_⟩
  obtain ⟨c, ρ, rfl, g, sl, h⟩ := h
  refine wpAny_Call_Name_kw (ld_glob I hg hm ?_ hdb)
  refine PySem.W.callWith_S2 (h₀ := X.base) I.ok.mod.kin hk (thn (ha.run pos pins s σ c.H _ I (gCan.intro g sl (Post.bind (R := RpAll X.K) h))) fun us s1 hh => ?_) he hst
  obtain ⟨vs, H1, I1, r, c1, ds, rfl, s1', g1, r1, p1⟩ := hh
  exact ⟨I1.kIn, hf pins s1 σ c1 us vs ds Q I1 g1 r r1 p1⟩
end

/-! ### an instance called -/
def xCallO (C : Str) (m : FMir) (mf : Rho → Sto → Res D) (n : Rho → Sto → Res (List D)) : Rho → Sto → Res D := fun ρ μ => (mf ρ μ).bind fun x μ1 => if isIns C μ1 x = true then (n ρ μ1).bind fun ds μ2 => if isIns C μ2 x = true then m (x :: ds) μ2 else .stuck else .stuck
theorem em_callO {X : Cx} {W : WX} {C : Str} {k : Nat} {gg : Addr} {m : FMir} {fe e : Expr} {es : List Expr} {pos : Pos} {mf : Rho → Sto → Res D} {n : Rho → Sto → Res (List D)} (hf : EM X W fe mf) (co : StX.CallO X.K (cad X.K C) gg) (F : FR X.prog X.w X.K X.mg X.base k gg m) (hr : Room k X.A) (tk : Takes X W) (ha : AM X W (e :: es) n)
    (ht : eval (.Call fe (e :: es) [] pos) X.env = (do callWith pos (← eval fe X.env) [] (backTo pos (starEach (e :: es) X.env)) (backToKw pos (keywordEach [] X.env))) := by rfl)
    (he : starEach (e :: es) X.env = (false, eval e X.env) :: starEach es X.env := by rfl) (hpl : (backTo pos (starEach es X.env)).any (·.1) = false := by rfl) : EM X W (.Call fe (e :: es) [] pos) (xCallO C m mf n) := by
  refine ⟨fun pins s σ H Q I h => ?_⟩
  obtain ⟨c, ρ, rfl, g, sl, h⟩ := h
  refine Call_ (thn (hf.run pins s σ c.H _ I (gCan.intro g sl (Post.bind (R := Rp X.K) h))) fun u s1 hh => ?_) ht
  obtain ⟨y, H1, I1, ry, c1, d, rfl, st1, g1, rd, p1⟩ := hh
  by_cases h0 : isIns C c1.μ d = true
  · rw [if_pos h0] at p1
    obtain ⟨a, _, _, rfl, _⟩ := isIns_ok g1 rd h0
    obtain rfl : u = Value.ref a := ry
    refine StX.callO_with (thn (ha.run pos pins s1 σ c1.H _ I1 (gCan.intro g1 (sl.mono st1) (Post.bind (R := RpAll X.K) p1))) fun us s2 hh => ?_) he hpl
    obtain ⟨vs, H2, I2, r, c2, ds, rfl, st2, g2, rds, p2⟩ := hh
    by_cases hi : isIns C c2.μ d = true
    · rw [if_pos hi] at p2
      obtain ⟨a', dx, fv, ea', ea⟩ := isIns_ok g2 (rd.mono st2) hi
      cases ea'
      obtain ⟨ox, od, J, hd⟩ := isIns_inst I2 ea
      refine ⟨⟨_, ox, od, J, hd⟩, ?_⟩
      exact wpAny_call (PySem.W.kco_code I2.kIn J hd co.at_ co.fn co.fi (runR (us := .ref a :: us) (vs := .ref a :: vs) F hr (passAt tk σ) I2 (.cons rfl r) ⟨c2, d :: ds, rfl, g2, .cons (rd.mono st2) rds, p2.wish⟩))
    · rw [if_neg hi] at p2; exact p2.elim
  · rw [if_neg h0] at p1; exact p1.elim

/-! ### def f(a, .., *v) -/
def starM (n : Nat) (m : FMir) : FMir := fun ds μ => if n ≤ ds.length ∧ (ds.drop n).length ≤ lim then m (ds.take n ++ [.tup (ds.drop n)]) μ else .stuck
theorem RpAll.split {K : PySem.W.Frag} {c : Cfg} (n : Nat) {vs : List V} {ds : List D} (r : RpAll K c vs ds) (h : n ≤ ds.length) : ∃ ws rest, vs = ws ++ rest ∧ ws.length = n ∧ RpAll K c ws (ds.take n) ∧ RpAll K c rest (ds.drop n) :=
  ⟨vs.take n, vs.drop n, (List.take_append_drop n vs).symm, by rw [List.length_take, r.length]; omega, r.take n, r.drop n⟩
section
variable {P : Program} {w : World} {K : PySem.W.Frag} {mg : Str → Option Value} {base : Heap} {x qual : Str} {params : Arguments} {body : List Stmt} {scope : Scope} {dvs : List V} {kws : List (Str × V)} {f : Addr} {fd : FuncData}
/-- a body's mirror, as fn_of and fn_star ask for it -/
theorem body_sp {N : List Str} {k n : Nat} {b : SMir} {cdv : Value} (hb : ∀ (cdv : Value) (A : Around) (outer : List Env) (s : Shared) (H : Hp) (E : XK), Room k (A.deeper (envOfC qual scope s.heap.objs.size f cdv)) → BM (cxM P w K mg base N qual scope f cdv A outer s H E) (wE E) body b)
    (A : Around) (outer : List Env) (s : Shared) (H : Hp) (vs : List V) (Q : VK) (E : XK) (hr : Room k (A.deeper (envOfC qual scope s.heap.objs.size f cdv))) (h : spM K n (mDef N.length b) vs H Q E) :
    ∃ t, PSs (cxM P w K mg base N qual scope f cdv A outer s H E) body t ∧ t { nx := fun _ H' => Q .non H', rt := Q } (start N vs) H := by
  obtain ⟨c, ds, rfl, g, r, hl, p⟩ := h
  refine ⟨_, hb cdv A outer s c.H E hr, ?_⟩
  refine sCan.intro g (slots_start r) ?_
  unfold mDef at p
  cases e : b (ds.map some ++ List.replicate (N.length - ds.length) none) c.μ with
  | nx ρ μ => rw [e] at p; exact fun σ c' st g' e' _ => p .non c' st g' e' .non
  | rt d μ => rw [e] at p; exact p
  | bk ρ μ => rw [e] at p; exact p.elim
  | ct ρ μ => rw [e] at p; exact p.elim
  | exc z ρ μ => rw [e] at p; exact fun σ c' dd st g' e' _ q => p c' dd st g' e' q
  | stuck => rw [e] at p; exact p.elim
theorem spM_star {n : Nat} {m : FMir} {vs : List V} {H : Hp} {Q : VK} {E : XK} (h : spV K (starM n m) vs H Q E) :
    ∃ ws rest, vs = ws ++ rest ∧ ws.length = n ∧ rest.length ≤ sizeLine ∧ ∀ p, H p = none → spM K (n + 1) m (ws ++ [V.ref p]) (upd H p (.tup rest)) Q E := by
  obtain ⟨c, ds, rfl, g, r, p⟩ := h
  unfold starM at p
  by_cases hl : n ≤ ds.length ∧ (ds.drop n).length ≤ lim
  · rw [if_pos hl] at p
    obtain ⟨ws, rest, e, l1, r1, r2⟩ := r.split n hl.1
    refine ⟨ws, rest, e, l1, by rw [r2.length]; exact lim_le hl.2, fun t ht => ?_⟩
    have s2 := Step.new g (.tup rest) ht
    refine ⟨c.new t (.tup rest), ds.take n ++ [.tup (ds.drop n)], rfl, g.new ht, (r1.mono s2.toMon).append (.cons (Rp.newTup g ht r2) .nil), ?_, p.step s2⟩
    rw [List.length_append, ← r1.length, l1]; rfl
  · rw [if_neg hl] at p; exact p.elim
theorem fr_star {N ps : List Str} {pv : Str} {k : Nat} {b : SMir} (F : FunD K x qual params body scope [] kws f fd) (S : FnScope N (ps ++ [pv]) scope)
    (hbi : ∀ (kV doc pm : Value) (an : Option Addr) (cdv ct : Value) (us rest : List Value), us.length = ps.length → bindArgs (PySem.W.fnOf x qual params body scope .none kV doc pm an cdv ct) ⟨us ++ rest, []⟩ = (newTuple rest >>= fun t => pure (ps.zip us ++ [(pv, t)])))
    (hb : ∀ (cdv : Value) (A : Around) (outer : List Env) (s : Shared) (H : Hp) (E : XK), Room k (A.deeper (envOfC qual scope s.heap.objs.size f cdv)) → BM (cxM P w K mg base N qual scope f cdv A outer s H E) (wE E) body b) :
    FR P w K mg base (k + 1) f (starM ps.length (mDef N.length b)) := by
  obtain ⟨oc, od, dV, kV, doc, pm, an, cdv, ct, osl, rfl, lk, hcd, hD, _⟩ := F.ex
  obtain rfl : dV = .none := by
    rcases hD with ⟨_, h⟩ | ⟨e, _⟩
    · exact h
    · exact absurd rfl e
  exact (StX.fn_star (sp := spM K (ps.length + 1) (mDef N.length b)) lk hcd S StX.cxUp (hbi kV doc pm an cdv ct) (body_sp hb)).imp fun vs H Q E h => spM_star h

/-! ### calls with keywords -/
/-- what is at these places -/
def permL {α : Type} (px : List Nat) (xs : List α) : List α := px.filterMap fun i => xs[i]?
theorem RpAll.perm {c : Cfg} {vs : List V} {ds : List D} (r : RpAll K c vs ds) : ∀ px : List Nat, RpAll K c (permL px vs) (permL px ds)
  | [] => .nil
  | i :: px => by
    unfold permL
    rw [List.filterMap_cons, List.filterMap_cons]
    cases e : ds[i]? with
    | none =>
      have : vs[i]? = none := by rw [List.getElem?_eq_none_iff] at e ⊢; rw [r.length]; exact e
      rw [this]; exact RpAll.perm r px
    | some d =>
      obtain ⟨v, h1, h2⟩ := r.get e
      rw [h1]; exact .cons h2 (RpAll.perm r px)
theorem vals_perm {vs : List V} {us : List Value} (r : Vals vs us) : ∀ px : List Nat, Vals (permL px vs) (permL px us)
  | [] => .nil
  | i :: px => by
    unfold permL
    rw [List.filterMap_cons, List.filterMap_cons]
    cases e : vs[i]? with
    | none =>
      have : us[i]? = none := by rw [List.getElem?_eq_none_iff] at e ⊢; rw [← r.length]; exact e
      rw [this]; exact vals_perm r px
    | some d =>
      obtain ⟨v, h1, h2⟩ := r.get e
      rw [h1]; exact .cons h2 (vals_perm r px)
/-- a def's promise for n positional values and keywords ks: m sees the values in the call's order -/
def FRK (P : Program) (w : World) (K : PySem.W.Frag) (mg : Str → Option Value) (base : Heap) (k : Nat) (f : Addr) (n : Nat) (ks : List Str) (m : FMir) : Prop :=
  ∀ (A : Around) (outer : List Env) (s : Shared) (H : Hp) (us ws : List Value) (vs zs : List V) (Q : VK) (E : XK), Room k A → Env0 P w K mg base A outer s H → us.length = n → ws.length = ks.length → Vals vs us → Vals zs ws → spV K m (vs ++ zs) H Q E →
    codeAny (model P w) A (.call (.ref f) ⟨us, ks.zip ws⟩) (CR (L2.CX P w) outer P w H s Q E) s
def kwM (N : Nat) (px : List Nat) (m : FMir) : FMir := fun ds μ => if (permL px ds).length = N then m (permL px ds) μ else .stuck
theorem frk_of {ps : List Str} {k n N : Nat} {ks : List Str} {px : List Nat} {m : FMir} (F : FnOk P w K mg base (L2.CX P w) k f fd ps (spM K N m)) (hb : ∀ us ws : List Value, us.length = n → ws.length = ks.length → bindArgs fd ⟨us, ks.zip ws⟩ = pure (ps.zip (permL px (us ++ ws)))) :
    FRK P w K mg base k f n ks (kwM N px m) := by
  intro A outer s H us ws vs zs Q E hr e0 l1 l2 r rz h
  obtain ⟨c, ds, rfl, g, rd, p⟩ := h
  unfold kwM at p
  by_cases hl : (permL px ds).length = N
  · rw [if_pos hl] at p
    exact F.run A outer s c.H ⟨us, ks.zip ws⟩ (permL px (us ++ ws)) (permL px (vs ++ zs)) Q E hr e0 (.of_eq (hb us ws l1 l2)) (vals_perm (r.append rz) px) ⟨c, permL px ds, rfl, g, rd.perm px, hl, p⟩
  · rw [if_neg hl] at p; exact p.elim
/-- a def with a star parameter, nothing for it -/
theorem frk_star {N ps : List Str} {pv : Str} {k n : Nat} {b : SMir} {ks : List Str} {px : List Nat} (F : FunD K x qual params body scope [] kws f fd) (S : FnScope N (ps ++ [pv]) scope) (hpx : ∀ {α : Type} (xs : List α), xs.length = n + ks.length → (permL px xs).length = ps.length)
    (hbi : ∀ (kV doc pm : Value) (an : Option Addr) (cdv ct : Value) (us ws : List Value), us.length = n → ws.length = ks.length → bindArgs (PySem.W.fnOf x qual params body scope .none kV doc pm an cdv ct) ⟨us, ks.zip ws⟩ = (newTuple [] >>= fun t => pure (ps.zip (permL px (us ++ ws)) ++ [(pv, t)])))
    (hb : ∀ (cdv : Value) (A : Around) (outer : List Env) (s : Shared) (H : Hp) (E : XK), Room k (A.deeper (envOfC qual scope s.heap.objs.size f cdv)) → BM (cxM P w K mg base N qual scope f cdv A outer s H E) (wE E) body b) :
    FRK P w K mg base (k + 1) f n ks (fun ds μ => starM ps.length (mDef N.length b) (permL px ds) μ) := by
  intro A outer s H us ws vs zs Q E hr e0 l1 l2 r rz h
  obtain ⟨oc, od, dV, kV, doc, pm, an, cdv, ct, osl, rfl, lk, hcd, hD, _⟩ := F.ex
  obtain rfl : dV = .none := by
    rcases hD with ⟨_, h⟩ | ⟨e, _⟩
    · exact h
    · exact absurd rfl e
  obtain ⟨c, ds, rfl, g, rd, p⟩ := h
  have hlu : (permL px (us ++ ws)).length = ps.length := hpx _ (by rw [List.length_append, l1, l2])
  have rp := vals_perm (r.append rz) px
  have rdp := rd.perm px
  have hlv : (permL px (vs ++ zs)).length = ps.length := by rw [rp.length]; exact hlu
  obtain ⟨vs1, rest, e1, h1, h2, hq⟩ := spM_star (n := ps.length) (m := mDef N.length b) (E := E) ⟨c, permL px ds, rfl, g, rdp, p⟩
  have hr0 : rest = [] := by
    have : (permL px (vs ++ zs)).length = vs1.length + rest.length := by rw [e1, List.length_append]
    exact List.eq_nil_of_length_eq_zero (by omega)
  subst hr0
  rw [List.append_nil] at e1
  have hn : c.H s.heap.objs.size = Option.none := e0.hok.fresh (Nat.le_refl _)
  refine StX.run_bnd lk hcd S hr e0 (G := fun xs H2 => ∃ p, c.H p = Option.none ∧ xs = vs1 ++ [V.ref p] ∧ H2 = upd c.H p (.tup [])) (fun A' Ex Q' h => ?_) fun s2 H2 xs ⟨p, hp, ex, eH⟩ hr' => ?_
  · rw [hbi kV doc pm an cdv ct us ws l1 l2]
    refine wpAny_bind (wpAny_newTuple (wpAny_pure ?_) (Nat.zero_le _))
    have new : ObjOk P w (upd c.H s.heap.objs.size (.tup [])) (s.heap.push ({ cls := .type "tuple", data := .seq ([] : List Value).toArray } : Obj)) s.heap.objs.size (.tup []) := ⟨Nat.zero_le _, [], .nil, ⟨_, Heap.get?_push_size _ rfl, rfl, _, rfl⟩⟩
    have un := StX.un_laid (fs := frs outer) (s := s) (o := ({ cls := .type "tuple", data := .seq ([] : List Value).toArray } : Obj)) (u := .tup []) hn
    have z := h _ _ (vs1 ++ [V.ref s.heap.objs.size]) (permL px (us ++ ws) ++ [Value.ref s.heap.objs.size]) (StX.env0_laid e0 new) un rfl (fun e s' => StX.cxUp outer s c.H _ _ E e s' un (fun b o q => Heap.get?_push_of_some _ q) rfl) ((e1 ▸ rp).append (.cons rfl .nil))
      (by rw [List.length_append, List.length_append, h1] <;> rfl) ⟨_, hn, rfl, rfl⟩
    rw [List.zip_append hlu.symm] at z
    exact z
  · subst ex eH
    exact body_sp hb A outer s2 _ _ Q E hr' (hq p hp)
end
def CallK (X : Cx) (W : WX) (f : Value) (n : Nat) (ks : List Str) (m : FMir) : Prop :=
  ∀ (pins : List (Addr × Obj)) (s : Shared) (σ : L2.St) (c : Cfg) (us ws : List Value) (vs zs : List V) (ds : List D) (Q : VK), Inv X pins σ c.H s → Good X.K c → us.length = n → ws.length = ks.length → Vals vs us → Vals zs ws → RpAll X.K c (vs ++ zs) ds → Post X.K W σ c (Rp X.K) Q (m ds c.μ) → wpAny (model X.prog X.w) X.A (call f us (ks.zip ws)) (EP X pins σ Q) X.xe s
section
variable {X : Cx} {W : WX} {k n : Nat} {f : Addr} {m : FMir} {ks : List Str}
theorem FRK.callK (F : FRK X.prog X.w X.K X.mg X.base k f n ks m) (hr : Room k X.A) (tk : Takes X W) : CallK X W (.ref f) n ks m := by
  intro pins s σ c us ws vs zs ds Q I g l1 l2 r rz rx p
  refine wpAny_call (codeAny_mono (F X.A X.stack s c.H us ws vs zs Q (WE W σ) hr I.env0 l1 l2 r rz ⟨c, ds, rfl, g, rx, p.wish⟩) fun r s' hq => ?_)
  cases r with
  | error e => exact passAt tk σ pins _ _ e s' I hq
  | ok fl =>
    cases fl with
    | ret u => exact I.after hq
    | next => exact False.elim hq
    | brk => exact False.elim hq
    | cont => exact False.elim hq
theorem FRK.make {Cn : Str} (M : Mk X.K (cad X.K Cn) f) (F : FRK X.prog X.w X.K X.mg X.base k f (n + 1) ks m) (hr : Room (k + 1) X.A) (tk : Takes X W) : CallK X W (.ref (cad X.K Cn)) n ks (mkM Cn m) := by
  intro pins s σ c us ws vs zs ds Q I g l1 l2 r rz rx p
  have hq := mk_sp (Cn := Cn) g rx p (s.heap.objs.size + 1) s.heap.objs.size (I.hok.fresh (Nat.le_succ _)) (I.hok.fresh (Nat.le_refl _)) (Nat.ne_of_lt (Nat.lt_succ_self _))
  have I2 := Inv.made (C := cad X.K Cn) I
  have r2 : Vals (V.ref (s.heap.objs.size + 1) :: vs) (Value.ref (s.heap.objs.size + 1) :: us) := .cons rfl r
  refine wpAny_call (make_map (f := f) I.kIn M.makes M.init (beq_iff_eq.mp M.fn) (codeAny_mono (F _ X.stack _ _ (Value.ref (s.heap.objs.size + 1) :: us) ws _ zs _ (WE W σ) (hr.make (cad X.K Cn) us (ks.zip ws)) (I2.env0.make (cad X.K Cn) us (ks.zip ws)) (by rw [List.length_cons, l1]) l2 r2 rz hq) fun r s' hq' => ?_))
  cases r with
  | error e => exact passAt tk σ pins _ _ e s' I2 hq'
  | ok fl =>
    cases fl with
    | ret u =>
      obtain ⟨v, H', I3, rv, ev, q3⟩ := I2.after hq'
      subst ev
      exact ⟨rv, ⟨V.ref (s.heap.objs.size + 1), H', I3, rfl, q3⟩⟩
    | next => exact False.elim hq'
    | brk => exact False.elim hq'
    | cont => exact False.elim hq'
end
/-- the keywords' values -/
def KM (X : Cx) (W : WX) (kws : List Keyword) (m : Rho → Sto → Res (List D)) : Prop := PK X kws (gCan X.K W (RpAll X.K) m)
theorem PK.imp {X : Cx} {e : List Keyword} {t t' : TA} (h : PK X e t) (hi : ∀ σ H Q, t' σ H Q → t σ H Q) : PK X e t' := ⟨fun pos pins s σ H Q I q => h.run pos pins s σ H Q I (hi σ H Q q)⟩
section
variable {X : Cx} {W : WX} {e : Expr} {es : List Expr} {kws : List Keyword} {nm : Option Str} {kpos pos p : Pos} {m : Rho → Sto → Res D} {n mk : Rho → Sto → Res (List D)} {x : Str} {f : Addr} {fm : FMir} {ks : List Str}
theorem km_nil : KM X W [] aNil := PK.imp pk_nil (by
  rintro σ H Q ⟨c, ρ, rfl, g, s, h⟩
  exact Post.same (R := RpAll X.K) g h .nil)
theorem km_cons (ha : EM X W e m) (hr : KM X W kws n) : KM X W (⟨nm, e, kpos⟩ :: kws) (aCons m n) := PK.imp (pk_cons ha hr) (by
  rintro σ H Q ⟨c, ρ, rfl, g, s, h⟩
  refine gCan.intro g s ((Post.bind (R := Rp X.K) h).imp ?_)
  rintro v c' d st g' r' ⟨c1, x, e, s1, g1, r1, p1⟩
  rw [← e]
  refine gCan.intro g1 (s.mono s1.toMon) ((Post.bind (R := RpAll X.K) p1).imp ?_)
  rintro vs c2' d2 st2 g2' r2' ⟨c2, xs, e2, s2, g2, r2, p2⟩
  rw [← e2]
  exact Post.same (R := RpAll X.K) g2 p2 (.cons (r1.mono s2.toMon) r2))
def xKw (fm : FMir) (na : Nat) (n mk : Rho → Sto → Res (List D)) : Rho → Sto → Res D := fun ρ μ => (n ρ μ).bind fun ds μ1 => (mk ρ μ1).bind fun es μ2 => fm (ds ++ es) μ2
/-- x(k = v, ..) -/
theorem em_kw0 (hf : CallK X W (.ref f) 0 ks fm) (hm : X.mg x = some (.ref f)) (hk : PySem.W.keepIn X.K (.ref f) = true) (hkw : KM X W kws mk) (hlen : kws.length = ks.length := by rfl) (hg : Gl X x := by rfl) (hall : (backToKw pos (keywordEach kws X.env)).all (·.1.isSome) = true := by rfl) (hks : (backToKw pos (keywordEach kws X.env)).filterMap (·.1) = ks := by rfl) (hdb : (x == ("__debug__" : Str)) = false := by decide)
    (hpl : ((backTo pos (starEach [] X.env)).any (·.1) || (backToKw pos (keywordEach kws X.env)).any (·.1.isNone)) = false := by rfl) :
    EM X W (.Call (.Name x p) [] kws pos) (xFn (fun ds μ => if ds.length = ks.length then fm ds μ else .stuck) mk) := by
  refine ⟨fun pins s σ H Q I h => ?_⟩
  obtain ⟨c, ρ, rfl, g, sl, h⟩ := h
  refine wpAny_Call_Name_kw (ld_glob I hg hm ?_ hdb)
  refine PySem.W.callWith_KW0 (h₀ := X.base) I.ok.mod.kin hk hall ?_ hpl
  refine thn (hkw.run pos pins s σ c.H _ I (gCan.intro g sl (Post.bind (R := RpAll X.K) h))) fun ws s2 hh => ?_
  obtain ⟨zs, H2, I2, rz, c2, ds, rfl, st2, g2, rds, p2⟩ := hh
  refine ⟨I2.kIn, ?_⟩
  rw [hks]
  by_cases hl : ds.length = ks.length
  · rw [if_pos hl] at p2
    exact hf pins s2 σ c2 [] ws [] zs ds Q I2 g2 rfl (by rw [← rz.length, rds.length]; exact hl) .nil rz rds p2
  · rw [if_neg hl] at p2; exact p2.elim
/-- x(e, .., k = v, ..) -/
theorem em_kw {na : Nat} (hf : CallK X W (.ref f) na ks fm) (hm : X.mg x = some (.ref f)) (hk : PySem.W.keepIn X.K (.ref f) = true) (ha : AM X W (e :: es) n) (hkw : KM X W kws mk) (hg : Gl X x := by rfl) (hall : (backToKw pos (keywordEach kws X.env)).all (·.1.isSome) = true := by rfl) (hks : (backToKw pos (keywordEach kws X.env)).filterMap (·.1) = ks := by rfl) (hdb : (x == ("__debug__" : Str)) = false := by decide)
    (he : starEach (e :: es) X.env = (false, eval e X.env) :: starEach es X.env := by rfl) (hpl : ((backTo pos (starEach (e :: es) X.env)).any (·.1) || (backToKw pos (keywordEach kws X.env)).any (·.1.isNone)) = false := by rfl) :
    EM X W (.Call (.Name x p) (e :: es) kws pos) (fun ρ μ => (n ρ μ).bind fun ds μ1 => (mk ρ μ1).bind fun es μ2 => if ds.length = na ∧ es.length = ks.length then fm (ds ++ es) μ2 else .stuck) := by
  refine ⟨fun pins s σ H Q I h => ?_⟩
  obtain ⟨c, ρ, rfl, g, sl, h⟩ := h
  refine wpAny_Call_Name_kw (ld_glob I hg hm ?_ hdb)
  refine PySem.W.callWith_KW (h₀ := X.base) I.ok.mod.kin hk hall (thn (ha.run pos pins s σ c.H _ I (gCan.intro g sl (Post.bind (R := RpAll X.K) h))) fun us s1 hh => ?_) hpl he
  obtain ⟨vs, H1, I1, r, c1, ds, rfl, st1, g1, rds, p1⟩ := hh
  refine thn (hkw.run pos pins s1 σ c1.H _ I1 (gCan.intro g1 (sl.mono st1) (Post.bind (R := RpAll X.K) p1))) fun ws s2 hh => ?_
  obtain ⟨zs, H2, I2, rz, c2, es, rfl, st2, g2, res, p2⟩ := hh
  refine ⟨I2.kIn, ?_⟩
  rw [hks]
  by_cases hl : ds.length = na ∧ es.length = ks.length
  · rw [if_pos hl] at p2
    exact hf pins s2 σ c2 us ws vs zs (ds ++ es) Q I2 g2 (by rw [← r.length, rds.length]; exact hl.1) (by rw [← rz.length, res.length]; exact hl.2) r rz ((rds.mono st2.toMon).append res) p2
  · rw [if_neg hl] at p2; exact p2.elim
end
end FL
end S_FL14
section S_FL15
set_option Elab.async false
set_option linter.all false
set_option maxRecDepth 100000
set_option maxHeartbeats 4000000
/-! FL15: len, isinstance, == of own classes; star targets. -/
namespace FL
open PySem PySem.Spec PyProof.Rows L2

/-! ### len(x), x of an own class -/
section
variable {X : Cx} {W : WX} {k : Nat} {f : Addr} {m : FMir}
/-- a def run inside a built-in -/
theorem FR.in1 (F : FR X.prog X.w X.K X.mg X.base k f m) (hr : Room (k + 1) X.A) (tk : Takes X W) {pins : List (Addr × Obj)} {s : Shared} {σ : L2.St} {c : Cfg} {us : List Value} {vs : List V} {ds : List D} {Q : VK} (I : Inv X pins σ c.H s) (g : Good X.K c) (r : Vals vs us) (rx : RpAll X.K c vs ds) (p : Post X.K W σ c (Rp X.K) Q (m ds c.μ)) :
    wpAny (model X.prog X.w) X.A.in1 (call (.ref f) us) (EP X pins σ Q) X.xe s := by
  refine wpAny_call (codeAny_mono (F X.A.in1 X.stack s c.H us vs Q (WE W σ) hr.in1 I.env0.in1 r ⟨c, ds, rfl, g, rx, p.wish⟩) fun r s' hq => ?_)
  cases r with
  | error e => exact passAt tk σ pins _ _ e s' I hq
  | ok fl =>
    cases fl with
    | ret u => exact I.after hq
    | next => exact False.elim hq
    | brk => exact False.elim hq
    | cont => exact False.elim hq
end
def lenChk : D → Sto → Res D := fun d μ => match d with
  | .int n => if 0 ≤ n ∧ n < 2 ^ 63 then .ok (.int n) μ else .stuck
  | _ => .stuck
def ownLen (C : Str) (m : FMir) : FMir := fun ds μ => match ds with
  | [x] => if isIns C μ x = true then (m [x] μ).bind lenChk else dLen [x] μ
  | _ => .stuck
theorem cf_lenOwn {X : Cx} {W : WX} {C : Str} {k : Nat} {f : Addr} {m : FMir} (F : FR X.prog X.w X.K X.mg X.base k f m) (hr : Room (k + 1) X.A) (tk : Takes X W) (hs : PySem.W.findIn X.K (.ref (cad X.K C)) "__len__" = some (some (.ref f))) (hf : PySem.W.isFn X.K (.ref f) = true) : CallF X W (.builtin "len") (ownLen C m) := by
  intro pins s σ c us vs ds Q I g r rx p
  match ds, rx, p with
  | [x], rx, p =>
    have p : Post X.K W σ c (Rp X.K) Q (if isIns C c.μ x = true then (m [x] c.μ).bind lenChk else dLen [x] c.μ) := p
    by_cases hi : isIns C c.μ x = true
    · rw [if_pos hi] at p
      obtain ⟨v, rfl, rv⟩ := rx.one
      obtain ⟨a, dx, fv, rfl, ea⟩ := isIns_ok g rv hi
      obtain ⟨ox, od, J, _⟩ := isIns_inst I ea
      obtain ⟨mF, hF⟩ := I.fr
      obtain ⟨u, rfl, ru⟩ : ∃ u, us = [u] ∧ RelV (.ref a) u := by
        cases r with
        | cons r t => cases t; exact ⟨_, rfl, r⟩
      obtain rfl : u = Value.ref a := ru
      refine PySem.W.len_K hF I.ok.mod.kin J hs hf (wpAny_mono (F.in1 (us := [.ref a]) (vs := [.ref a]) (ds := [x]) hr tk I g (.cons rfl .nil) (.cons rv .nil) (Post.bind (R := Rp X.K) p)) (fun v s' hv => ?_) fun _ _ z => z)
      obtain ⟨y, H', I', ry, c1, d, rfl, st1, g1, rd, p1⟩ := hv
      cases rd with
      | int n =>
        obtain ⟨tk, rfl⟩ := ry
        have p1 : Post X.K W σ c1 (Rp X.K) Q (if 0 ≤ n ∧ n < 2 ^ 63 then .ok (.int n) c1.μ else .stuck) := p1
        by_cases hn : 0 ≤ n ∧ n < 2 ^ 63
        · rw [if_pos hn] at p1
          exact ⟨hn, ⟨.int n, c1.H, I'.tok _, ⟨_, rfl⟩, Post.same g1 p1 (.int n)⟩⟩
        · rw [if_neg hn] at p1; exact p1.elim
      | _ => exact p1.elim
    · rw [if_neg hi] at p
      exact CallF.ofB (W := W) call_lenA cm_len pins s σ c us vs [x] Q I g r rx p
  | [], _, p => exact p.elim
  | _ :: _ :: _, _, p => exact p.elim

/-! ### isinstance(x, C), C an own class -/
structure IsiO (K : PySem.W.Frag) (own : List Str) (C : Str) : Prop where
  tb : ∀ a ∈ tysB, PySem.W.kitOne K (.type a) (.ref (cad K C)) = some false
  to : ∀ B ∈ own, PySem.W.kitOne K (.ref (cad K B)) (.ref (cad K C)) = some (decide (B = C))
def isoD (own : List Str) (μ : Sto) (x : D) (C : Str) : Option Bool := match tyN μ x with
  | some (.b _) => some false
  | some (.o B) => if B ∈ own then some (decide (B = C)) else none
  | none => none
def xIso (own : List Str) (C : Str) (ma : Rho → Sto → Res D) : Rho → Sto → Res D := fun ρ μ => (ma ρ μ).bind fun x μ1 => match isoD own μ1 x C with
  | some b => .ok (.bl b) μ1
  | none => .stuck
theorem em_iso {X : Cx} {W : WX} {a : Expr} {p q pos : Pos} {C : Str} {ma : Rho → Sto → Res D} {own : List Str} (hO : ∀ C ∈ own, InsTy X.K C) (hC : IsiO X.K own C) (ha : EM X W a ma) (hm : X.mg "isinstance" = none) (hmT : X.mg C = some (.ref (cad X.K C))) (hg : Gl X "isinstance" := by rfl) (hgT : Gl X C := by rfl) (hd : (C == ("__debug__" : Str)) = false := by decide)
    (he : starEach [a, .Name C q] X.env = (false, eval a X.env) :: starEach [.Name C q] X.env := by rfl) (hpl : (backTo pos (starEach [.Name C q] X.env)).any (·.1) = false := by rfl) (hs2 : starEach [.Name C q] X.env = (false, eval (.Name C q) X.env) :: starEach [] X.env := by rfl) :
    EM X W (.Call (.Name "isinstance" p) [a, .Name C q] [] pos) (xIso own C ma) := PE.imp (pe_callB call_isi hg hm (by decide +kernel) (pa_cons ha (pa_cons (pe_glob (v := .ref (cad X.K C)) hgT hmT rfl hd) pa_nil hs2) he) (by decide) (by decide) he hpl) (by
  rintro σ H Q ⟨c, ρ, rfl, g, s, h⟩
  refine gCan.intro g s ((Post.bind (R := Rp X.K) h).imp ?_)
  rintro v c' d st g' r' ⟨c1, x, e, s1, g1, r1, p1⟩
  rw [← e]
  unfold isoD at p1
  cases q : tyN c1.μ x with
  | none => rw [q] at p1; exact p1.elim
  | some t =>
    rw [q] at p1
    cases t with
    | b T =>
      obtain ⟨h1, h2⟩ := tyN_ok hO g1 r1 q (fun C e => by cases e)
      exact ⟨v, .ref (cad X.K C), _, _, false, rfl, .own _, h1, hC.tb T h2, Post.same g1 p1 (.bl false)⟩
    | o B =>
      have p1 : Post X.K W σ c1 (Rp X.K) Q (match (if B ∈ own then some (decide (B = C)) else none) with
        | some b => .ok (.bl b) c1.μ
        | none => .stuck) := p1
      by_cases hb : B ∈ own
      · rw [if_pos hb] at p1
        obtain ⟨h1, h2⟩ := tyN_ok hO g1 r1 q (fun C' e => by cases e; exact hb)
        exact ⟨v, .ref (cad X.K C), _, _, _, rfl, .own _, h1, hC.to B hb, Post.same g1 p1 (.bl _)⟩
      · rw [if_neg hb] at p1; exact p1.elim)

/-! ### ==, != of own classes -/
/-- == where the left one is an instance of C: its own == -/
def ownEq (C : Str) (m : FMir) (base : D → D → Sto → Res D) : D → D → Sto → Res D := fun x y μ =>
  if isIns C μ x = true then (match tyN μ y with
    | some (.o C') => if C' = C then m [x, y] μ else .stuck
    | _ => .stuck) else base x y μ
theorem opw_eqOwn {X : Cx} {W : WX} {C : Str} {m : FMir} {base : D → D → Sto → Res D} {f : Addr} (hu : X.A.units < cLine) (F : CallF X W (.ref f) m) (hs : PySem.W.findIn X.K (.ref (cad X.K C)) "__eq__" = some (some (.ref f))) (hf : PySem.W.isFn X.K (.ref f) = true) (hb : OpW X W (compareOp .Eq) base) : OpW X W (compareOp .Eq) (ownEq C m base) := by
  intro pins s σ c x y v u d e Q I g rv ru rx ry p
  unfold ownEq at p
  by_cases hi : isIns C c.μ d = true
  · rw [if_pos hi] at p
    obtain ⟨a, dx, fv, rfl, ea⟩ := isIns_ok g rx hi
    cases rv
    obtain ⟨ox, od, J, _⟩ := isIns_inst I ea
    obtain ⟨mF, hF⟩ := I.fr
    cases q : tyN c.μ e with
    | none => rw [q] at p; exact p.elim
    | some t =>
      rw [q] at p
      cases t with
      | b T => exact p.elim
      | o C' =>
        replace p : Post X.K W σ c (Rp X.K) Q (if C' = C then m [d, e] c.μ else .stuck) := p
        by_cases hm : C' = C
        · rw [if_pos hm] at p
          subst hm
          have hL := tyN_looks I g ru ry q (fun z => by cases z) (model X.prog X.w)
          exact PySem.W.cmp_K (op := .Eq) (tb := .ref (cad X.K C')) hu hF I.ok.mod.kin J hL (by simp [PySem.W.notFirst]) hs hf (callF_cmp (F pins s σ c [.ref a, u] [.ref a, y] [d, e] Q I g (.cons rfl (.cons ru .nil)) (.cons rx (.cons ry .nil)) p))
        · rw [if_neg hm] at p; exact p.elim
  · rw [if_neg hi] at p
    exact hb pins s σ c x y v u d e Q I g rv ru rx ry p

/-! ### *a, b = e -/
/-- the values for the targets: the star's target has a new list of what is between -/
def starL (n i : Nat) (xs : List D) : List D := xs.take i ++ [.lst ((xs.drop i).take (xs.length + 1 - n))] ++ (xs.drop i).drop (xs.length + 1 - n)
def gStar (n i : Nat) (gs : GsMir) : GMir := fun d ρ μ => match rdT d with
  | some xs => if n ≤ xs.length + 1 then gs (starL n i xs) ρ μ else .stuck
  | none => .stuck
theorem gok_star {n i : Nat} {gs : GsMir} (h : GsOk gs) : GOk (gStar n i gs) := fun d ρ μ => by
  unfold gStar
  cases q : rdT d with
  | none => exact .inr (.inr rfl)
  | some xs =>
    show (∃ ρ' μ', (if n ≤ xs.length + 1 then gs (starL n i xs) ρ μ else .stuck) = .nx ρ' μ') ∨ (∃ x ρ' μ', (if n ≤ xs.length + 1 then gs (starL n i xs) ρ μ else .stuck) = .exc x ρ' μ') ∨ (if n ≤ xs.length + 1 then gs (starL n i xs) ρ μ else .stuck) = .stuck
    split
    · exact h _ ρ μ
    · exact .inr (.inr rfl)
section
open PySem.W
/-- kun_starT, with all that stood kept -/
theorem unpack_star {prog : Program} {w : World} {A : Around} {E : Value → Shared → Prop} {s : Shared} {l : Addr} {items : Array Value} {n i : Nat} {Q : List Value → Shared → Prop} (hl : IsTup s.heap l items) (hh : A.handled = none) (hi : i < n) (hn : n ≤ items.size + 1) (hz : items.size ≤ sizeLine)
    (h : ∀ h₂ tk, Heap.ExtBut s.heap.objs.size s.heap h₂ → Q (items.toList.take i ++ [.ref h₂.objs.size] ++ (items.toList.drop i).drop (items.size + 1 - n)) { s with heap := h₂.push { cls := .type "list", data := .seq ((items.toList.drop i).take (items.size + 1 - n)).toArray }, toks := tk }) :
    wpAny (model prog w) A (unpackItems (.ref l) n (some i)) Q E s := by
  have hlt : l ≠ s.heap.objs.size := by obtain ⟨o, ho, _⟩ := hl; exact Nat.ne_of_lt (Heap.lt_size ho)
  unfold unpackItems
  refine wpAny_bind ?_
  unfold notIterableAtAll
  refine wpAny_bind (wpAny_specialOf hl.typeIs PySem.F.slot_tuple_iter.lookup ?_)
  refine wpAny_pure ?_
  simp only [Bool.false_eq_true, if_false]
  refine wpAny_bind (wpAny_holding (iter_tuple hl ?_))
  refine wpAny_bind (wpAny_holding (draw_tuple hlt i 0 _ _ ⟨_, Heap.get?_push_size _ rfl, rfl, rfl⟩ (hl.push _) (by omega) fun h₁ hit₁ hs₁ => ?_))
  have hl₁ : IsTup h₁ l items := (hl.push _).extBut hs₁.extBut hlt
  rw [Nat.zero_add] at hit₁
  have hit₁' := hit₁
  obtain ⟨oi, hoi, _⟩ := hit₁'
  have hl₁' := hl₁
  obtain ⟨ol, hol, _⟩ := hl₁'
  rw [List.drop_zero]
  have hfl : (items.toList.take i).length = i := by rw [List.length_take, Array.length_toList]; omega
  rw [if_neg (show ¬ ((items.toList.take i).length < i) by rw [hfl]; omega)]
  refine wpAny_bind (wpAny_holding (kun_collect (s := { s with heap := h₁ }) (T := "tuple_iterator") (.inr (.inr (.inr rfl))) (Walks.tuple (A := A.in1) hh s.heap.objs.size l hlt items) (fun j u st => st.1.typeIs) (k := i) (by omega) ⟨hit₁, hl₁⟩ (Heap.lt_size hoi) (Heap.lt_size hol) (fun h₂ tk hk => ?_) hz))
  have hrl : (items.toList.drop i).length = items.size - i := by rw [List.length_drop, Array.length_toList]
  have hmid : (items.toList.drop i).length - (n - 1 - i) = items.size + 1 - n := by rw [hrl]; omega
  show wpAny _ _ (if (items.toList.drop i).length < n - 1 - i then _ else _) _ _ _
  rw [if_neg (by rw [hrl]; omega)]
  show wpAny _ _ (newList ((items.toList.drop i).take ((items.toList.drop i).length - (n - 1 - i))) >>= fun d => pure (items.toList.take i ++ [d] ++ (items.toList.drop i).drop ((items.toList.drop i).length - (n - 1 - i)))) _ _ _
  rw [hmid]
  have he : Heap.ExtBut s.heap.objs.size s.heap h₂ := fun b o hb e => hk b o hb (hs₁.extBut b o hb (Heap.get?_push_of_some _ e))
  refine wpAny_bind (wpAny_newList (wpAny_pure (h h₂ tk he)) (by rw [List.length_take, hrl]; omega))
end
theorem vals_take {vs : List V} {us : List Value} (r : Vals vs us) : ∀ n, Vals (vs.take n) (us.take n) := fun n => by
  induction n generalizing vs us with
  | zero => exact .nil
  | succ n ih => cases r with
    | nil => exact .nil
    | cons a r => exact .cons a (ih r)
theorem vals_drop {vs : List V} {us : List Value} (r : Vals vs us) : ∀ n, Vals (vs.drop n) (us.drop n) := fun n => by
  induction n generalizing vs us with
  | zero => exact r
  | succ n ih => cases r with
    | nil => exact .nil
    | cons a r => exact ih r
theorem gm_star {X : Cx} {W : WX} {es : List Expr} {k n i : Nat} {ms : GsMir} {pos : Pos} (hc : X.calm = true) (h : GsM X W es ms) (hin : i < n) (hsw : (assignEach es X.env).length = n := by rfl) (hst : (assignEach es X.env).findIdx? (·.1) = some i := by rfl) : GM X W (.Tuple es k pos) (gStar n i ms) := by
  refine ⟨fun pins s σ H v u Q I rv hq => ?_⟩
  obtain ⟨c, ρ, d, rfl, g, sl, r, p⟩ := hq
  unfold gStar at p
  cases q : rdT d with
  | none => rw [q] at p; exact p.elim
  | some xs =>
    rw [q] at p
    replace p : PostS X.K W (onlyNx Q) c (if n ≤ xs.length + 1 then ms (starL n i xs) ρ c.μ else .stuck) := p
    by_cases hl : n ≤ xs.length + 1
    · rw [if_pos hl] at p
      obtain ⟨a, vs, rfl, h1, h2⟩ := rdT_ok r q
      cases rv
      obtain ⟨its, ri, ht, hz⟩ := I.tuple h1
      have hsz : its.toArray.size = xs.length := by rw [List.size_toArray, ← ri.length, h2.length]
      rw [assign_Tuple]
      refine wpAny_bind (wpAny_standAt ?_)
      unfold unpack
      rw [hsw, hst]
      refine wpAny_bind (wpAny_holding (unpack_star ht (I.ok.hd hc) hin (by rw [hsz]; exact hl) (by rw [hsz, ← h2.length]; exact hz) fun h₂ tk he => ?_))
      have I1 : Inv X pins σ c.H { s with heap := h₂, toks := tk } := I.kept (t' := tk) fun b o e => he b o (Nat.ne_of_lt (Heap.lt_size e)) e
      have hf : c.H h₂.objs.size = none := I1.hok.fresh (Nat.le_refl _)
      have rm := vals_take (vals_drop ri i) (xs.length + 1 - n)
      have I2 : Inv X pins σ (upd c.H h₂.objs.size (.lst ((vs.drop i).take (xs.length + 1 - n)))) { s with heap := h₂.push { cls := .type "list", data := .seq (((its.drop i).take (xs.length + 1 - n))).toArray }, toks := tk } :=
        I1.laid (t' := tk) (fun b u e => Heap.get?_push_of_some _ e) (Nat.le_refl _) ⟨by rw [List.length_take, List.length_drop]; omega, _, 0, rm, Heap.get?_push_size _ rfl⟩
      have s2 := Step.new g (.lst ((vs.drop i).take (xs.length + 1 - n))) hf
      have g2 := g.new (o := .lst ((vs.drop i).take (xs.length + 1 - n))) hf
      have e1 : its.toArray.toList = its := rfl
      rw [e1, hsz]
      refine h.run pins _ σ _ (vs.take i ++ [.ref h₂.objs.size] ++ (vs.drop i).drop (xs.length + 1 - n)) _ Q I2 (((vals_take ri i).append (show Vals [V.ref h₂.objs.size] [Value.ref h₂.objs.size] from .cons rfl .nil)).append (vals_drop (vals_drop ri i) _)) ?_
      refine ⟨c.new h₂.objs.size _, ρ, starL n i xs, rfl, g2, sl.mono s2.toMon, ?_, p.step s2⟩
      exact (((h2.take i).mono s2.toMon).append (.cons (Rp.newLst g hf ((h2.drop i).take _)) .nil)).append (((h2.drop i).drop _).mono s2.toMon)
    · rw [if_neg hl] at p; exact p.elim
/-- the star's target among the targets -/
theorem gms_starred {X : Cx} {W : WX} {e : Expr} {es : List Expr} {m : GMir} {ms : GsMir} {sp : Pos} (h1 : GM X W e m) (h2 : GsM X W es ms) (hs : (assignEach (.Starred e sp :: es) X.env).map (·.2) = assign e X.env :: (assignEach es X.env).map (·.2) := by rfl) : GsM X W (.Starred e sp :: es) (gsCons m ms) := by
  refine ⟨fun pins s σ H vs us Q I rv hq => ?_⟩
  obtain ⟨c, ρ, ds, rfl, g, sl, r, h⟩ := hq
  cases r with
  | nil => exact h.elim
  | cons r rs =>
    cases rv with
    | cons rv rvs =>
      rw [hs]
      refine assignInOrder_cons (thn (h1.run pins s σ c.H _ _ _ I rv ⟨c, ρ, _, rfl, g, sl, r, (PostS.ofSeq h).imp (fun _ _ q => q) (fun _ _ q => q) (fun _ _ q => q) (fun _ _ q => q)⟩) fun _ s1 hh => ?_)
      obtain ⟨σ1, H1, I1, c1, ρ1, rfl, s1', g1, sl1, p1⟩ := hh
      exact h2.run pins s1 σ1 c1.H _ _ Q I1 rvs ⟨c1, ρ1, _, rfl, g1, sl1, rs.mono s1'.toMon, p1⟩
end FL
end S_FL15
section S_FL16
set_option Elab.async false
set_option linter.all false
set_option maxRecDepth 100000
set_option maxHeartbeats 4000000
/-! FL16: comprehensions with two sources; zip of a tuple and a list. -/
namespace FL
open PySem PySem.Spec PyProof.Rows L2

theorem Res.bind_assoc {α β γ : Type} (r : Res α) (f : α → Sto → Res β) (g : β → Sto → Res γ) : (r.bind f).bind g = r.bind fun a μ => (f a μ).bind g := by cases r <;> rfl
def lcN (t : NT) (tt : Rho → Sto → Res Bool) (m : Rho → Sto → Res D) (vs : List Nat) : Nat → List D → Rho → Sto → Res (List D)
  | _, [], _, μ => .ok [] μ
  | n, x :: xs, ρ, μ => (match ntM t x (wipeR ρ vs) with
    | none => .stuck
    | some ρ1 => (noX (tt ρ1 μ)).bind fun b μ1 => if b = true then (noX (m ρ1 μ1)).bind fun y μ2 => (if n < lim then (lcN t tt m vs (n + 1) xs ρ μ2).bind fun ys μ3 => .ok (y :: ys) μ3 else .stuck) else lcN t tt m vs n xs ρ μ1)
def lcO (t : NT) (tt : Rho → Sto → Res Bool) (im1 : Rho → Sto → Res (List D)) (t1 : NT) (tt1 : Rho → Sto → Res Bool) (m : Rho → Sto → Res D) (vs vs1 : List Nat) : Nat → List D → Rho → Sto → Res (List D)
  | _, [], _, μ => .ok [] μ
  | n, x :: xs, ρ, μ => (match ntM t x (wipeR ρ vs) with
    | none => .stuck
    | some ρ1 => (noX (tt ρ1 μ)).bind fun b μ1 => if b = true then (noX (im1 ρ1 μ1)).bind fun zs μ2 => (lcN t1 tt1 m vs1 n zs ρ1 μ2).bind fun ys μ3 => (lcO t tt im1 t1 tt1 m vs vs1 (n + ys.length) xs ρ μ3).bind fun us μ4 => .ok (ys ++ us) μ4
      else lcO t tt im1 t1 tt1 m vs vs1 n xs ρ μ1)
def xLc2 (im : Rho → Sto → Res (List D)) (t : NT) (tt : Rho → Sto → Res Bool) (im1 : Rho → Sto → Res (List D)) (t1 : NT) (tt1 : Rho → Sto → Res Bool) (m : Rho → Sto → Res D) (vs vs1 : List Nat) : Rho → Sto → Res D :=
  fun ρ μ => (im ρ μ).bind fun xs μ1 => (lcO t tt im1 t1 tt1 m vs vs1 0 xs ρ μ1).bind fun ys μ2 => .ok (.lst ys) μ2
/-- the list that grows -/
structure HL (K : PySem.W.Frag) (c1 : Cfg) (L : Addr) (c : Cfg) (acc : List V) (ys : List D) : Prop where
  mon : Mon c1 c
  hk : ∀ a ∈ c1.hid, c.H a = c1.H a
  g : Good K c
  hid : c.hid = L :: c1.hid
  at_ : c.H L = some (.lst acc)
  ra : RpAll K c acc ys
section
variable {K : PySem.W.Frag} {c1 c c' : Cfg} {L : Addr} {acc : List V} {ys : List D}
theorem HL.start (g1 : Good K c1) (hL : c1.H L = none) : HL K c1 L (c1.hide0 L) [] [] := ⟨Mon.hide0 hL, fun a ha => upd_ne (g1.hid_ne hL ha), g1.hide0 hL, rfl, upd_same, .nil⟩
theorem HL.mem (h : HL K c1 L c acc ys) : L ∈ c.hid := by rw [h.hid]; exact List.mem_cons_self
theorem HL.step (h : HL K c1 L c acc ys) (s : Step c c') (g' : Good K c') : HL K c1 L c' acc ys := ⟨h.mon.trans s.toMon, fun a ha => by rw [s.hk a (by rw [h.hid]; exact List.mem_cons_of_mem _ ha), h.hk a ha], g', by rw [s.he, h.hid], by rw [s.hk L h.mem]; exact h.at_, h.ra.mono s.toMon⟩
theorem HL.push (h : HL K c1 L c acc ys) (g1 : Good K c1) (hL : c1.H L = none) {v : V} {d : D} (r : Rp K c v d) : HL K c1 L (c.hideL L (acc ++ [v])) (acc ++ [v]) (ys ++ [d]) := by
  have mh := Mon.hideL (c := c) (acc ++ [v]) h.mem
  refine ⟨h.mon.trans mh, fun a ha => ?_, h.g.hideL _ h.mem, h.hid, upd_same, (h.ra.append (.cons r .nil)).mono mh⟩
  show upd c.H L (.lst (acc ++ [v])) a = c1.H a
  rw [upd_ne (g1.hid_ne hL ha), h.hk a ha]
theorem HL.done (h : HL K c1 L c acc ys) (g1 : Good K c1) (hL : c1.H L = none) : Step c1 (c.show_ c1.hid) ∧ Good K (c.show_ c1.hid) ∧ Rp K (c.show_ c1.hid) (.ref L) (.lst ys) := by
  refine ⟨⟨h.mon.trans (Mon.show_ h.hid), h.hk, rfl⟩, h.g.show_ h.hid, .lst ⟨h.at_, ?_⟩ (h.ra.mono (Mon.show_ h.hid))⟩
  rintro (⟨j, ce, h1, h2, h3⟩ | h1)
  · exact (h.g.hd L h.mem).2 (List.mem_of_getElem? h1)
  · exact (g1.hd L h1).1 hL
end
section
variable {W : WX} {σ : L2.St} {H : Hp} {Q : VK} {im im1 : Rho → Sto → Res (List D)} {t t1 : NT} {tt tt1 : Rho → Sto → Res Bool} {m : Rho → Sto → Res D} {vs vs1 : List Nat}
theorem xLc2_can {K : PySem.W.Frag} (hin : ntIn vs t = true) (hin1 : ntIn vs1 t1 = true) (h : gCan K W (Rp K) (xLc2 im t tt im1 t1 tt1 m vs vs1) σ H Q) :
    tLc2 (gCan K W (RW K) im) (ntG K t) (gCan K w0 RB tt) (gCan K w0 (RW K) im1) (ntG K t1) (gCan K w0 RB tt1) (gCan K w0 (Rp K) m) vs vs1 σ H Q := by
  obtain ⟨c, ρ, rfl, g, s, h⟩ := h
  refine gCan.intro g s ((Post.bind (R := RW K) h).imp ?_)
  rintro J c' d st g' r' ⟨c1, xs, e, s1, g1, wk, p1⟩
  rw [← e]
  intro L hL
  have sl1 : Slots K c1 σ ρ := s.mono s1.toMon
  let PF : Res (List D) → Prop := fun r => Post K W σ c1 (Rp K) Q (r.bind fun ys μ2 => .ok (.lst ys) μ2)
  let Wo : Nat → Hp → Prop := fun i H => i ≤ xs.length ∧ ∃ c2 acc ys0, c2.H = H ∧ HL K c1 L c2 acc ys0 ∧ PF ((lcO t tt im1 t1 tt1 m vs vs1 acc.length (xs.drop i) ρ c2.μ).bind fun ys μ => .ok (ys0 ++ ys) μ)
  refine ⟨fun i n H => n = xs.length - i ∧ Wo i H, ?_, ?_⟩
  · refine ⟨_, rfl, Nat.zero_le _, c1.hide0 L, [], [], rfl, HL.start g1 hL, ?_⟩
    show Post K W σ c1 (Rp K) Q (((lcO t tt im1 t1 tt1 m vs vs1 0 xs ρ c1.μ).bind fun ys μ => .ok ([] ++ ys) μ).bind fun ys μ2 => .ok (.lst ys) μ2)
    rw [Res.bind_assoc]
    exact p1
  · rintro i n H ⟨rfl, hi, c2, acc, ys0, rfl, hl, p2⟩
    by_cases hlt : i < xs.length
    case neg =>
      have ei : i = xs.length := by omega
      subst ei
      rw [List.drop_length] at p2
      refine .inl ⟨wk.stop c2 hl.mon hl.g, ?_⟩
      have p2 : Post K W σ c1 (Rp K) Q (.ok (.lst (ys0 ++ [])) c2.μ) := p2
      rw [List.append_nil] at p2
      obtain ⟨z1, z2, z3⟩ := hl.done g1 hL
      exact p2 (.ref L) (c2.show_ c1.hid) z1 z2 rfl z3
    case pos =>
      refine .inr ⟨wk.go i c2 hl.mon hl.g hlt, Wo (i + 1), fun H' q => ⟨_, (by omega : xs.length - (i + 1) < xs.length - i), rfl, q⟩, fun x H' y => ?_⟩
      obtain ⟨c3, d, rfl, s3, g3, e3, hd, rx⟩ := wk.yld i c2 x H' hl.mon hl.g hlt y
      have hl3 := hl.step s3 g3
      have ed : xs.drop i = d :: xs.drop (i + 1) := by
        obtain ⟨hl, he⟩ := List.getElem?_eq_some_iff.mp hd
        rw [List.drop_eq_getElem_cons hl, he]
      rw [ed] at p2
      cases qt : ntM t d (wipeR ρ vs) with
      | none =>
        have : lcO t tt im1 t1 tt1 m vs vs1 acc.length (d :: xs.drop (i + 1)) ρ c2.μ = .stuck := by unfold lcO; rw [qt]
        rw [this] at p2; exact p2.elim
      | some ρ1 =>
        have el : lcO t tt im1 t1 tt1 m vs vs1 acc.length (d :: xs.drop (i + 1)) ρ c2.μ = (noX (tt ρ1 c2.μ)).bind fun b μ1 => if b = true then (noX (im1 ρ1 μ1)).bind fun zs μ2 => (lcN t1 tt1 m vs1 acc.length zs ρ1 μ2).bind fun ys μ3 => (lcO t tt im1 t1 tt1 m vs vs1 (acc.length + ys.length) (xs.drop (i + 1)) ρ μ3).bind fun us μ4 => .ok (ys ++ us) μ4
            else lcO t tt im1 t1 tt1 m vs vs1 acc.length (xs.drop (i + 1)) ρ μ1 := by
          conv => lhs; unfold lcO
          rw [qt]
        rw [el] at p2
        refine ntG_ok t rx ((sl1.mono hl3.mon).wipe vs) qt hin fun σ2 sl2 w2 => ⟨w2.trans (wipe_wipe σ vs), ?_⟩
        refine gCan.intro g3 sl2 ?_
        rw [e3]
        cases qb : tt ρ1 c2.μ with
        | stuck => rw [qb] at p2; exact p2.elim
        | exc z μ => rw [qb] at p2; exact p2.elim
        | ok b μ1 =>
          rw [qb] at p2
          intro b' c4 s4 g4 e4 hb
          rw [show b' = b from hb]
          have hl4 := hl3.step s4 g4
          cases b with
          | false =>
            rw [if_neg (by simp)]
            have p2 : PF ((lcO t tt im1 t1 tt1 m vs vs1 acc.length (xs.drop (i + 1)) ρ μ1).bind fun ys μ => .ok (ys0 ++ ys) μ) := p2
            rw [← e4] at p2
            exact ⟨hlt, c4, acc, ys0, rfl, hl4, p2⟩
          | true =>
            rw [if_pos rfl]
            have p2 : PF (((noX (im1 ρ1 μ1)).bind fun zs μ2 => (lcN t1 tt1 m vs1 acc.length zs ρ1 μ2).bind fun ys μ3 => (lcO t tt im1 t1 tt1 m vs vs1 (acc.length + ys.length) (xs.drop (i + 1)) ρ μ3).bind fun us μ4 => .ok (ys ++ us) μ4).bind fun ys μ => .ok (ys0 ++ ys) μ) := p2
            have sl4 : Slots K c4 σ2 ρ1 := sl2.mono s4.toMon
            refine gCan.intro g4 sl4 ?_
            rw [e4]
            cases qz : im1 ρ1 μ1 with
            | stuck => rw [qz] at p2; exact p2.elim
            | exc z μ => rw [qz] at p2; exact p2.elim
            | ok zs μ2 =>
              rw [qz] at p2
              have p2 : PF (((lcN t1 tt1 m vs1 acc.length zs ρ1 μ2).bind fun ys μ3 => (lcO t tt im1 t1 tt1 m vs vs1 (acc.length + ys.length) (xs.drop (i + 1)) ρ μ3).bind fun us μ4 => .ok (ys ++ us) μ4).bind fun ys μ => .ok (ys0 ++ ys) μ) := p2
              intro J1 c5 s5 g5 e5 wk1
              have hl5 := hl4.step s5 g5
              let Wi : Nat → Hp → Prop := fun j H => j ≤ zs.length ∧ ∃ c6 acc6 ys6, c6.H = H ∧ HL K c1 L c6 acc6 ys6 ∧ Mon c5 c6 ∧ PF ((lcN t1 tt1 m vs1 acc6.length (zs.drop j) ρ1 c6.μ).bind fun ys' μ3 => (lcO t tt im1 t1 tt1 m vs vs1 (acc6.length + ys'.length) (xs.drop (i + 1)) ρ μ3).bind fun us μ4 => .ok (ys6 ++ (ys' ++ us)) μ4)
              refine ⟨fun j k H => k = zs.length - j ∧ Wi j H, ⟨_, rfl, Nat.zero_le _, c5, acc, ys0, rfl, hl5, Mon.refl _, ?_⟩, ?_⟩
              · rw [List.drop_zero, e5]
                simp only [Res.bind_assoc, Res.bind_ok] at p2
                exact p2
              · rintro j k H ⟨rfl, hj, c6, acc6, ys6, rfl, hl6, m6, p6⟩
                by_cases hjt : j < zs.length
                case neg =>
                  have ej : j = zs.length := by omega
                  subst ej
                  rw [List.drop_length] at p6
                  refine .inl ⟨wk1.stop c6 m6 hl6.g, hlt, c6, acc6, ys6, rfl, hl6, ?_⟩
                  have p6 : PF ((lcO t tt im1 t1 tt1 m vs vs1 (acc6.length + 0) (xs.drop (i + 1)) ρ c6.μ).bind fun us μ4 => .ok (ys6 ++ ([] ++ us)) μ4) := p6
                  exact p6
                case pos =>
                  refine .inr ⟨wk1.go j c6 m6 hl6.g hjt, Wi (j + 1), fun H' q => ⟨_, (by omega : zs.length - (j + 1) < zs.length - j), rfl, q⟩, fun x1 H1 y1 => ?_⟩
                  obtain ⟨c7, d1, rfl, s7, g7, e7, hd1, rx1⟩ := wk1.yld j c6 x1 H1 m6 hl6.g hjt y1
                  have hl7 := hl6.step s7 g7
                  have m7 := m6.trans s7.toMon
                  have ed1 : zs.drop j = d1 :: zs.drop (j + 1) := by
                    obtain ⟨hl, he⟩ := List.getElem?_eq_some_iff.mp hd1
                    rw [List.drop_eq_getElem_cons hl, he]
                  rw [ed1] at p6
                  cases qt1 : ntM t1 d1 (wipeR ρ1 vs1) with
                  | none =>
                    have : lcN t1 tt1 m vs1 acc6.length (d1 :: zs.drop (j + 1)) ρ1 c6.μ = .stuck := by unfold lcN; rw [qt1]
                    rw [this] at p6; exact p6.elim
                  | some ρ2 =>
                    have el1 : lcN t1 tt1 m vs1 acc6.length (d1 :: zs.drop (j + 1)) ρ1 c6.μ = (noX (tt1 ρ2 c6.μ)).bind fun b μ1 => if b = true then (noX (m ρ2 μ1)).bind fun y μ2 => (if acc6.length < lim then (lcN t1 tt1 m vs1 (acc6.length + 1) (zs.drop (j + 1)) ρ1 μ2).bind fun ys μ3 => .ok (y :: ys) μ3 else .stuck) else lcN t1 tt1 m vs1 acc6.length (zs.drop (j + 1)) ρ1 μ1 := by
                      conv => lhs; unfold lcN
                      rw [qt1]
                    rw [el1] at p6
                    refine ntG_ok t1 rx1 ((sl4.mono (s5.toMon.trans m7)).wipe vs1) qt1 hin1 fun σ3 sl3 w3 => ⟨w3.trans (wipe_wipe σ2 vs1), ?_⟩
                    refine gCan.intro g7 sl3 ?_
                    rw [e7]
                    cases qb1 : tt1 ρ2 c6.μ with
                    | stuck => rw [qb1] at p6; exact p6.elim
                    | exc z μ => rw [qb1] at p6; exact p6.elim
                    | ok b1 μ7 =>
                      rw [qb1] at p6
                      intro b' c8 s8 g8 e8 hb
                      rw [show b' = b1 from hb]
                      have hl8 := hl7.step s8 g8
                      have m8 := m7.trans s8.toMon
                      cases b1 with
                      | false =>
                        rw [if_neg (by simp)]
                        refine ⟨hjt, c8, acc6, ys6, rfl, hl8, m8, ?_⟩
                        rw [e8]
                        exact p6
                      | true =>
                        rw [if_pos rfl]
                        refine gCan.intro g8 (sl3.mono s8.toMon) ?_
                        rw [e8]
                        cases qm : m ρ2 μ7 with
                        | stuck =>
                          simp only [noX_ok, Res.bind_ok, if_true, qm, noX_stuck, Res.bind_stuck] at p6
                          exact p6.elim
                        | exc z μ =>
                          simp only [noX_ok, Res.bind_ok, if_true, qm, noX_exc, Res.bind_stuck] at p6
                          exact p6.elim
                        | ok y μ9 =>
                          simp only [noX_ok, Res.bind_ok, if_true, qm] at p6
                          intro yv c9 s9 g9 e9 ry
                          have hl9 := hl8.step s9 g9
                          by_cases hlim : acc6.length < lim
                          case neg => rw [if_neg hlim] at p6; exact p6.elim
                          rw [if_pos hlim] at p6
                          have hlP := hl9.push g1 hL ry
                          refine ⟨acc6, hl9.at_, lim_lt (by omega), hjt, c9.hideL L (acc6 ++ [yv]), acc6 ++ [yv], ys6 ++ [y], rfl, hlP, (m8.trans s9.toMon).trans (Mon.hideL _ hl9.mem), ?_⟩
                          show PF ((lcN t1 tt1 m vs1 (acc6 ++ [yv]).length (zs.drop (j + 1)) ρ1 c9.μ).bind _)
                          rw [e9, List.length_append]
                          simp only [Res.bind_assoc, Res.bind_ok, List.length_cons, List.length_nil] at p6 ⊢
                          have e10 : ∀ (ys' us : List D), ys6 ++ [y] ++ (ys' ++ us) = ys6 ++ (y :: ys' ++ us) := fun ys' us => by simp
                          simp only [e10]
                          have e11 : ∀ k : Nat, acc6.length + (0 + 1) + k = acc6.length + (k + 1) := fun k => by omega
                          simp only [Nat.zero_add, Nat.add_assoc, Nat.add_comm 1] at p6 ⊢
                          exact p6
variable {X : Cx} {elt tg iter tg1 iter1 : Expr} {ifs ifs1 : List Expr} {scope : Scope} {own : List (Str × Nat)} {pos : Pos}
theorem em_lc2 (hc : X.calm = true) (hN : X.N.Nodup) (hi : IM X W tg iter im) (hin : ntIn (own.map (·.2)) t = true) (hin1 : ntIn vs1 t1 = true) (ok : BlkOk X.N X.env.scope scope own) (hv : ∀ i ∈ vs1, i ∈ own.map (·.2))
    (hg : ∀ (s : Shared) (H : Hp) (C : Addr) (cl : List (Str × Addr)) (fp : List Addr), PG (X.blk s H scope (compEnvC scope cl C X.env) fp) tg (ntG X.K t)) (ht : ∀ (s : Shared) (H : Hp) (C : Addr) (cl : List (Str × Addr)) (fp : List Addr), TsM (X.blk s H scope (compEnvC scope cl C X.env) fp) w0 ifs tt)
    (hi1 : ∀ (s : Shared) (H : Hp) (C : Addr) (cl : List (Str × Addr)) (fp : List Addr), IM (X.blk s H scope (compEnvC scope cl C X.env) fp) w0 tg1 iter1 im1)
    (hg1 : ∀ (s : Shared) (H : Hp) (C : Addr) (cl : List (Str × Addr)) (fp : List Addr), PG (X.blk s H scope (compEnvC scope cl C X.env) fp) tg1 (ntG X.K t1)) (ht1 : ∀ (s : Shared) (H : Hp) (C : Addr) (cl : List (Str × Addr)) (fp : List Addr), TsM (X.blk s H scope (compEnvC scope cl C X.env) fp) w0 ifs1 tt1)
    (he : ∀ (s : Shared) (H : Hp) (C : Addr) (cl : List (Str × Addr)) (fp : List Addr), EM (X.blk s H scope (compEnvC scope cl C X.env) fp) w0 elt m) (hs : ∀ x, foldedSetIterable iter X.env x = pure x := by intro _; rfl) (hs1 : ∀ env x, foldedSetIterable iter1 env x = pure x := by intro _ _; rfl) :
    EM X W (.ListComp elt [⟨tg, iter, ifs, 0⟩, ⟨tg1, iter1, ifs1, 0⟩] scope pos) (xLc2 im t tt im1 t1 tt1 m (own.map (·.2)) vs1) := PE.imp (pe_lc2 (tt := gCan X.K w0 RB tt) (wi1 := gCan X.K w0 (RW X.K) im1) (tt1 := gCan X.K w0 RB tt1) (te := gCan X.K w0 (Rp X.K) m) hc hN hi ok hv hg ht hi1 hg1 ht1 he hs hs1) fun _ _ _ h => xLc2_can hin hin1 h
end
end FL
end S_FL16
section S_FL17
set_option Elab.async false
set_option linter.all false
set_option maxRecDepth 100000
set_option maxHeartbeats 4000000
/-! FL17: a loop over a list that may change but does not; what generated texts use. -/
namespace FL
open PySem PySem.Spec PyProof.Rows L2

open Classical in
/-- the loop over the cell i, whose list is xs0 all the time -/
noncomputable def forLP (i : Nat) (xs0 : List D) (g : GMir) (b : SMir) : List D → SMir
  | [] => fun ρ μ => if lstAt μ i = some xs0 then .nx ρ μ else .stuck
  | x :: xs => fun ρ μ => if lstAt μ i = some xs0 then ((g x ρ μ).seq b).turn (forLP i xs0 g b xs) else .stuck
noncomputable def sForP (m : Rho → Sto → Res D) (g : GMir) (b : SMir) : SMir := fun ρ μ => sB (m ρ μ) ρ fun x μ1 => match x with
  | .ptr i => (match lstAt μ1 i with
    | some xs => forLP i xs g b xs ρ μ1
    | none => .stuck)
  | _ => .stuck
theorem tkW0 {X : Cx} : Takes X w0 := fun u s' ⟨_, _, _, _, _, _, _, _, _, _, _, _, _, _, _, _, z⟩ => z.elim
section
variable {X : Cx} {W : WX} {tg e : Expr} {pos : Pos} {m : Rho → Sto → Res D} {g : GMir} {b : SMir} {body : List Stmt}
theorem sm_forP (hp : PassesOwn (model X.prog X.w) X.A X.env X.xe) (hc : X.calm = true) (hm : EM X W e m) (hg : GM X W tg g) (k : GOk g) (hb : BM X W body b) (hs : ∀ x, foldedSetIterable e X.env x = pure x := by intro _; rfl) :
    SM X W (.For tg e body [] pos) (sForP m g b) := PS.imp (ps_for hp hc (pi_list hm) hg hb hs) (by
  rintro D' σ H ⟨c, ρ, rfl, gd, s, h⟩
  refine gCan.intro gd s ((PostS.ofB (R := Rp X.K) h s).imp ?_)
  rintro v c' d' st g' r' ⟨c1, x, e, s1, g1, r1, p1⟩
  rw [← e]
  cases r1 with
  | ptr hi =>
    rename_i a i
    replace p1 : PostS X.K W D' c1 (match lstAt c1.μ i with
      | some xs => forLP i xs g b xs ρ c1.μ
      | none => .stuck) := p1
    cases q : lstAt c1.μ i with
    | none => rw [q] at p1; exact p1.elim
    | some xs =>
      rw [q] at p1
      replace p1 : PostS X.K W D' c1 (forLP i xs g b xs ρ c1.μ) := p1
      obtain ⟨vs0, hv0, _⟩ := g1.ok i a _ hi (lstAt_eq q)
      have look : ∀ c2 : Cfg, Mon c1 c2 → Good X.K c2 → lstAt c2.μ i = some xs → ∃ vs, SqL X.K c2.H a vs ∧ RpAll X.K c2 vs xs := fun c2 m2 g2 h => by
        obtain ⟨vs, h1, h2⟩ := g2.ok i a _ (m2.pre _ _ hi) (lstAt_eq h)
        exact ⟨vs, SqL.of h1, h2⟩
      refine ⟨a, rfl, ⟨vs0, SqL.of hv0⟩, fun j n σ H => n = xs.length - j ∧ j ≤ xs.length ∧ ∃ c ρ, c.H = H ∧ Step c1 c ∧ Good X.K c ∧ Slots X.K c σ ρ ∧ PostS X.K W D' c (forLP i xs g b (xs.drop j) ρ c.μ), ⟨_, rfl, Nat.zero_le _, c1, ρ, rfl, Step.refl c1, g1, s.mono s1.toMon, p1⟩, ?_⟩
      rintro j n σ H ⟨rfl, hj, c2, ρ2, rfl, s2, g2, sl2, p2⟩
      by_cases hlt : j < xs.length
      · have ed : xs.drop j = xs[j] :: xs.drop (j + 1) := List.drop_eq_getElem_cons hlt
        rw [ed] at p2
        unfold forLP at p2
        by_cases hl : lstAt c2.μ i = some xs
        · rw [if_pos hl] at p2
          obtain ⟨vs, h1, h2⟩ := look c2 s2.toMon g2 hl
          obtain ⟨w, hw, rw_⟩ := h2.get (List.getElem?_eq_getElem hlt)
          refine .inr ⟨⟨vs, w, h1, hw⟩, fun σ H => j + 1 ≤ xs.length ∧ ∃ c ρ, c.H = H ∧ Step c1 c ∧ Good X.K c ∧ Slots X.K c σ ρ ∧ PostS X.K W D' c (forLP i xs g b (xs.drop (j + 1)) ρ c.μ), fun σ' H' q => ⟨_, (by omega : xs.length - (j + 1) < xs.length - j), rfl, q⟩, fun x H' y => ?_⟩
          obtain ⟨rfl, hx⟩ := y
          have ex : x = w := Option.some.inj ((hx vs h1).symm.trans hw)
          subst ex
          refine ⟨c2, ρ2, xs[j], rfl, g2, sl2, rw_, ?_⟩
          refine (k.only (PostS.ofSeq (PostS.ofTurn p2))).imp ?_ (fun _ _ z => z.elim) (fun _ _ z => z.elim) (fun _ _ z => z.elim)
          rintro σ' H' ⟨c4, ρ4, e, s4, g4, sl, p4⟩
          rw [← e]
          refine sCan.intro g4 sl (p4.imp ?_ (fun _ _ q => q) (fun _ _ q => q) ?_)
          · rintro σ' H' ⟨c5, ρ5, e, s5, g5, sl, p5⟩
            exact ⟨hlt, c5, ρ5, e, s2.trans s5, g5, sl, p5⟩
          · rintro σ' H' ⟨c5, ρ5, e, s5, g5, sl, p5⟩
            exact ⟨hlt, c5, ρ5, e, s2.trans s5, g5, sl, p5⟩
        · rw [if_neg hl] at p2; exact p2.elim
      · have e : j = xs.length := by omega
        subst e
        rw [List.drop_length] at p2
        unfold forLP at p2
        by_cases hl : lstAt c2.μ i = some xs
        · rw [if_pos hl] at p2
          obtain ⟨vs, h1, h2⟩ := look c2 s2.toMon g2 hl
          exact .inl ⟨⟨vs, h1, by rw [h2.length]; exact Nat.le_refl _⟩, PostS.nxSame g2 sl2 p2⟩
        · rw [if_neg hl] at p2; exact p2.elim
  | _ => exact p1.elim)
theorem opw_stuck {f : Value → Value → Sem Value} : OpW X W f (fun _ _ _ => .stuck) := fun _ _ _ _ _ _ _ _ _ _ _ _ _ _ _ _ _ p => p.elim
/-- a module's constant, its value told at once -/
def GvOk (K : PySem.W.Frag) (mg : Str → Option Value) (x : Str) (d : D) : Prop := ∃ v u, mg x = some u ∧ RelV v u ∧ ∀ c, Rp K c v d
theorem em_gv {x : Str} {d : D} (h : GvOk X.K X.mg x d) (hg : Gl X x := by rfl) (hd : (x == ("__debug__" : Str)) = false := by decide) : EM X W (.Name x pos) (xC d) := by
  obtain ⟨v, u, h1, h2, h3⟩ := h
  exact em_glob hg h1 h2 h3 hd
end
end FL
end S_FL17
section S_FH
set_option Elab.async false
set_option linter.all false
set_option maxRecDepth 100000
set_option maxHeartbeats 4000000
/-! FH: the head of a large top: what the Hook looks at is found frontier by frontier (no list is made free of doubles), the run is shown three times, each for one part of the looks; the defs behind properties. -/
namespace FL
open PySem PySem.Spec PyProof.Rows L2
def refsN (g : Addr → Option Obj) (as : List Addr) : List Addr := as.flatMap fun a => match g a with
  | some o => He.refsD o
  | none => []
/-- the objects reached in n steps, frontier by frontier -/
def asF (g : Addr → Option Obj) : Nat → List Addr → List Addr
  | 0, f => f
  | n + 1, f => f ++ asF g n (refsN g f)
abbrev frF (n : Nat) (g : Addr → Option Obj) : PySem.W.Frag := He.frG g (asF g n [mainGlobals])
/-! ### properties -/
/-- the property object of a class's name, its getter -/
def prA (K : PySem.W.Frag) (C f : Str) : Addr := match PySem.W.findIn K (.ref (cad K C)) f with
  | some (some (.ref p)) => p
  | _ => 0
def prG (K : PySem.W.Frag) (C f : Str) : Addr := match PySem.W.recIn K (prA K C f) "property" with
  | some (.ref g :: _) => g
  | _ => 0
/-- a def that stands at an address -/
def fnWA (K : PySem.W.Frag) (a : Addr) : He.FnW := match K.lookup a with
  | some ⟨_, _, .func fd, _⟩ => some (fd.name, fd.qualname, fd.params, fd.body, fd.scope, fd.globals, fd.closure, fd.builtins)
  | _ => none
def okA (K : PySem.W.Frag) (a : Addr) (q : Str) : Bool := PySem.W.keepIn K (.ref a) && (match K.lookup a with
  | some ⟨_, _, .func fd, _⟩ => PySem.W.codeIn K fd.code q && (He.dflB K fd.defaults [] && He.kwdB K fd.kwdefaults [])
  | _ => false)
def propB (K : PySem.W.Frag) (C f q : Str) : Bool :=
  He.eqO (PySem.W.findIn K (.ref (cad K C)) f) (some (some (.ref (prA K C f)))) && (He.eqO (PySem.W.specialIn K (.ref (prA K C f)) "__get__") (some (some (.builtin "property.__get__"))) && (decide (PySem.W.takesIn K (.ref (prA K C f)) = some true) &&
    ((match PySem.W.recIn K (prA K C f) "property" with
      | some (.ref g :: _) => decide (g = prG K C f)
      | _ => false) && okA K (prG K C f) q)))
theorem propB_ok {K : PySem.W.Frag} {C f q : Str} (h : propB K C f q = true) : PropOf K (cad K C) f (prA K C f) (prG K C f) := by
  obtain ⟨h1, h⟩ := He.ba h
  obtain ⟨h2, h⟩ := He.ba h
  obtain ⟨h3, h⟩ := He.ba h
  obtain ⟨h4, _⟩ := He.ba h
  refine ⟨He.eqO_ok h1, He.eqO_ok h2, of_decide_eq_true h3, ?_⟩
  cases e : PySem.W.recIn K (prA K C f) "property" with
  | none => rw [e] at h4; cases h4
  | some l =>
    rw [e] at h4
    cases l with
    | nil => cases h4
    | cons v r =>
      cases v with
      | ref g => exact ⟨r, by rw [of_decide_eq_true h4]⟩
      | _ => cases h4
theorem okA_funD {K : PySem.W.Frag} {a : Addr} {d : He.DefD} (hd : d.dfl = []) (hk : d.kwd = []) (e : fnWA K a = d.val) (c : okA K a d.qual = true) : ∃ fd, FunD K d.name d.qual d.params d.body d.scope [] [] a fd := by
  obtain ⟨kp, c2⟩ := He.ba c
  unfold fnWA at e
  cases q : K.lookup a with
  | none => rw [q] at c2; cases c2
  | some o =>
    obtain ⟨oc, od, dt, osl⟩ := o
    rw [q] at c2 e
    cases dt with
    | func fd =>
      obtain ⟨n1, n2, n3, n4, n5, n6, n7, n8, n9, n10, n11, n12, n13, n14, n15⟩ := fd
      have e2 : (some (n1, n2, n3, n4, n5, n6, n7, n15) : He.FnW) = some (d.name, d.qual, d.params, .stmts d.body, d.scope, mainGlobals, [], builtinsNs) := e
      simp only [Option.some.injEq, Prod.mk.injEq] at e2
      obtain ⟨h1, h2, h3, h4, h5, h6, h7, h8⟩ := e2
      subst h1 h2 h3 h4 h5 h6 h7 h8
      obtain ⟨k1, k2⟩ := He.ba (show (PySem.W.codeIn K n13 d.qual && (He.dflB K n8 [] && He.kwdB K n9 [])) = true from c2)
      obtain ⟨k3, k4⟩ := He.ba k2
      exact ⟨_, ⟨oc, od, n8, n9, n10, n11, n12, n13, n14, osl, rfl, q, k1, He.dflB_ok k3, He.kwdB_ok k4⟩, kp⟩
    | _ => cases c2
/-- class, name, its getter's def -/
abbrev PxD : Type := Str × Str × He.DefD
theorem px_funD {K : PySem.W.Frag} {p : PxD} (hd : p.2.2.dfl = []) (hk : p.2.2.kwd = []) (e : fnWA K (prG K p.1 p.2.1) = p.2.2.val) (c : propB K p.1 p.2.1 p.2.2.qual = true) : ∃ fd, FunD K p.2.2.name p.2.2.qual p.2.2.params p.2.2.body p.2.2.scope [] [] (prG K p.1 p.2.1) fd := by
  obtain ⟨_, h⟩ := He.ba c
  obtain ⟨_, h⟩ := He.ba h
  obtain ⟨_, h⟩ := He.ba h
  obtain ⟨_, h⟩ := He.ba h
  exact okA_funD hd hk e h
abbrev AlF : Type := (Bool × He.AlD) × List He.FnW
def obsF (n : Nat) (fa : List He.Fa) (fn : List He.DefD) (px : List PxD) (ex : PySem.W.Frag → Bool) (g : Addr → Option Obj) : AlF :=
  ((ex (frF n g) && px.all fun p => propB (frF n g) p.1 p.2.1 p.2.2.qual, He.obsD fa fn (frF n g)), px.map fun p => fnWA (frF n g) (prG (frF n g) p.1 p.2.1))
def valF (fn : List He.DefD) (px : List PxD) : AlF := ((true, He.valD fn), px.map fun p => p.2.2.val)
/-- what the head gives -/
structure Says (fa : List He.Fa) (fn : List He.DefD) (px : List PxD) (ex : PySem.W.Frag → Bool) (K : PySem.W.Frag) : Prop where
  d : He.SaysD fa fn K
  x : ex K = true
  p : ∀ q ∈ px, propB K q.1 q.2.1 q.2.2.qual = true ∧ fnWA K (prG K q.1 q.2.1) = q.2.2.val
theorem map_eq_mem {α β : Type} {f g : α → β} : ∀ {l : List α}, l.map f = l.map g → ∀ a ∈ l, f a = g a
  | [], _, _, h => by cases h
  | x :: r, e, a, h => by
    simp only [List.map_cons, List.cons.injEq] at e
    rcases List.mem_cons.mp h with rfl | h
    · exact e.1
    · exact map_eq_mem e.2 a h
def hookF (n : Nat) (fa : List He.Fa) (fn : List He.DefD) (px : List PxD) (ex : PySem.W.Frag → Bool) : PySem.W.Hook where
  α := AlF
  obs := fun s => obsF n fa fn px ex s.heap.get?
  val := fun _ => valF fn px
  says := fun _ h => ∃ K : PySem.W.Frag, K.In h ∧ Says fa fn px ex K
  of := fun _ s e => by
    have e1 : (ex (frF n s.heap.get?) && px.all fun p => propB (frF n s.heap.get?) p.1 p.2.1 p.2.2.qual) = true := congrArg (fun z : AlF => z.1.1) e
    obtain ⟨e2, e3⟩ := He.ba e1
    exact ⟨frF n s.heap.get?, He.frG_in, ⟨congrArg (fun z : AlF => z.1.2) e, e2, fun q hq => ⟨List.all_eq_true.mp e3 q hq, map_eq_mem (congrArg (fun z : AlF => z.2) e) q hq⟩⟩⟩
  keeps := fun _ _ _ ⟨K, hK, c⟩ k => ⟨K, PySem.W.Frag.In.keeps hK k, c⟩
theorem obsF_eq {n : Nat} {fa : List He.Fa} {fn : List He.DefD} {px : List PxD} {ex : PySem.W.Frag → Bool} {g : Addr → Option Obj} {s : Shared} (h : ∀ a, g a = s.heap.get? a) : obsF n fa fn px ex g = (hookF n fa fn px ex).obs s := by
  have e : g = s.heap.get? := funext h
  subst e
  rfl
section
open PySem.W PySem.Calls HandSHeadRun
noncomputable abbrev endR (r : OpenRow) (M : Nat) (w : World) (os : OsState) : Option SharedT := endF (stepQ (denQ tabQ) r.prog w) M r.prog w os
/-- the run's equation, from its three parts -/
theorem runEq_of {r : OpenRow} {q : Program} {H : Hook} {ob : SharedT → H.α} {M : Nat} {loose : List PySem.Str} {w : World}
    (h1 : ∀ os, (endR r M w os).map (fun s => looksF r.prog (boot_heap w.params) s.abs) = some true)
    (h2 : ∀ os, (endR r M w os).map (fun s => seenQ q loose (importedModules r.prog.main.body) (fun s => xlAt q [] s && recOk r.toRowW.records s) s.abs) = some (openGood q loose))
    (h3 : ∀ os, (endR r M w os).map ob = some (H.val w)) : RunEq r q H ob M loose w := fun os => by
  have a1 := h1 os
  have a2 := h2 os
  have a3 := h3 os
  show (endR r M w os).map _ = _
  cases e : endR r M w os with
  | none => rw [e] at a1; cases a1
  | some s =>
    rw [e] at a1 a2 a3
    have b1 : looksF r.prog (boot_heap w.params) s.abs = true := Option.some.inj a1
    have b2 : seenQ q loose (importedModules r.prog.main.body) (fun s => xlAt q [] s && recOk r.toRowW.records s) s.abs = openGood q loose := Option.some.inj a2
    have b3 : ob s = H.val w := Option.some.inj a3
    exact congrArg some (Prod.ext b1 (Prod.ext b2 b3))
end
/-! ### what the defs are told -/
structure Kn (fa : List He.Fa) (fn : List He.DefD) (px : List PxD) (ex : PySem.W.Frag → Bool) (K : PySem.W.Frag) (mg : Str → Option Value) : Prop where
  s : Says fa fn px ex K
  hp : ∃ h : Heap, K.In h ∧ h.Ns mainGlobals mg
section
variable {fa : List He.Fa} {fn : List He.DefD} {px : List PxD} {ex : PySem.W.Frag → Bool} {K : PySem.W.Frag} {mg : Str → Option Value}
theorem Kn.glo (k : Kn fa fn px ex K mg) {x : Str} (i : Nat) (h : fa[i]? = some (.glo x) := by rfl) : mg x = some (.ref (cad K x)) := let ⟨_, X, G⟩ := k.hp; He.glo_ok X G (k.s.d.fact i h)
theorem Kn.free (k : Kn fa fn px ex K mg) {x : Str} (i : Nat) (h : fa[i]? = some (.free x) := by rfl) : mg x = none := let ⟨_, X, G⟩ := k.hp; He.free_ok X G (k.s.d.fact i h)
theorem Kn.str (k : Kn fa fn px ex K mg) {x z : Str} (i : Nat) (h : fa[i]? = some (.str x z) := by rfl) : GvOk K mg x (.str z) := by
  obtain ⟨_, X, G⟩ := k.hp
  obtain ⟨t, e⟩ := He.str_ok X G (k.s.d.fact i h)
  exact ⟨.str z, _, e, ⟨_, rfl⟩, fun _ => .str z⟩
theorem Kn.int (k : Kn fa fn px ex K mg) {x : Str} {z : Int} (i : Nat) (h : fa[i]? = some (.int x z) := by rfl) : GvOk K mg x (.int z) := by
  obtain ⟨_, X, G⟩ := k.hp
  obtain ⟨t, e⟩ := He.int_ok X G (k.s.d.fact i h)
  exact ⟨.int z, _, e, ⟨_, rfl⟩, fun _ => .int z⟩
/-- a tuple of texts and ints that a module's name holds -/
inductive RpDv : List He.Dv → List D → Prop
  | nil : RpDv [] []
  | str {x : Str} {vs : List He.Dv} {ds : List D} (r : RpDv vs ds) : RpDv (.str x :: vs) (.str x :: ds)
  | int {x : Int} {vs : List He.Dv} {ds : List D} (r : RpDv vs ds) : RpDv (.int x :: vs) (.int x :: ds)
theorem RpDv.rp {c : Cfg} : ∀ {vs : List He.Dv} {ds : List D}, RpDv vs ds → RpAll K c (vs.map (He.Dv.v K)) ds
  | _, _, .nil => .nil
  | _, _, .str r => .cons (.str _) r.rp
  | _, _, .int r => .cons (.int _) r.rp
theorem Kn.tup (k : Kn fa fn px ex K mg) {x : Str} {vs : List He.Dv} {ds : List D} (i : Nat) (hb : He.tupB K x vs = true) (r : RpDv vs ds) (h : fa[i]? = some (.glo x) := by rfl) : GvOk K mg x (.tup ds) :=
  ⟨.ref (cad K x), _, k.glo i h, rfl, fun c => .tup (.inr (He.tupB_ok hb hp0)) r.rp⟩
theorem Kn.cls (k : Kn fa fn px ex K mg) {x : Str} (i : Nat) (h : fa[i]? = some (.cls x) := by rfl) : Cls K (cad K x) := He.cls_ok (k.s.d.fact i h)
theorem Kn.noat (k : Kn fa fn px ex K mg) {x f : Str} (i : Nat) (h : fa[i]? = some (.noat x f) := by rfl) : NoAttr K (cad K x) f := He.noat_ok (k.s.d.fact i h)
theorem Kn.meth (k : Kn fa fn px ex K mg) {x m : Str} (i : Nat) (h : fa[i]? = some (.meth x m) := by rfl) : Meth K (cad K x) m (He.ma K (cad K x) m) := He.meth_ok (k.s.d.fact i h)
theorem Kn.mkr (k : Kn fa fn px ex K mg) {x : Str} (i : Nat) (h : fa[i]? = some (.mkr x) := by rfl) : Mk K (cad K x) (He.ma K (cad K x) "__init__") := He.mkr_ok (k.s.d.fact i h)
theorem Kn.exc (k : Kn fa fn px ex K mg) {x : Str} (i : Nat) (h : fa[i]? = some (.exc x) := by rfl) : ExcOk K x := .of (k.s.d.fact i h)
theorem Kn.def_ (k : Kn fa fn px ex K mg) (i : Nat) {d : He.DefD} (h : fn[i]? = some d := by rfl) : ∃ fd, FunD K d.name d.qual d.params d.body d.scope (d.dvs K) (d.kws K) (He.fAd K d.at_) fd := k.s.d.def_ i h
theorem Kn.pdef (k : Kn fa fn px ex K mg) {p : PxD} (hp : p ∈ px) (hd : p.2.2.dfl = []) (hk : p.2.2.kwd = []) : ∃ fd, FunD K p.2.2.name p.2.2.qual p.2.2.params p.2.2.body p.2.2.scope [] [] (prG K p.1 p.2.1) fd := let ⟨h1, h2⟩ := k.s.p p hp; px_funD hd hk h2 h1
theorem Kn.prop (k : Kn fa fn px ex K mg) {p : PxD} (hp : p ∈ px) : PropOf K (cad K p.1) p.2.1 (prA K p.1 p.2.1) (prG K p.1 p.2.1) := propB_ok (k.s.p p hp).1
end
/-! ### the law's call -/
theorem walk_ofW {l : PySem.W.OpenLaw} {n k : Nat} {q : Program} {loose : List Str} {XP : (Str → Option Value) → Heap → Prop} {YP : World → Heap → Prop} {d : DefRec} {x : Str}
    (hn : l.most = some n) (hn2 : n ≤ sizeLine) (hdf : d.params.defaults = []) (hr : Room k callerA)
    (F : ∀ (w : World) (mg : Str → Option Value) (fa : Addr) (h : Heap), YP w h → h.Ns mainGlobals mg → mg d.name = some (.ref fa) →
      ∃ (K : PySem.W.Frag) (fd : FuncData) (sp : Sp), K.In h ∧ (∀ (s : Shared) (u : Value), BindsTo s fd ⟨[u], []⟩ [(x, u)]) ∧
        (∀ (H : Hp) (a : Addr) (ns : List Int), ns.length ≤ n → Only H → SqL K H a (ns.map V.int) → sp [.ref a] H (fun v _ => v = .bl true) fun _ _ _ => False) ∧
        ∀ base : Heap, K.In base → base.Ns mainGlobals mg → FnOk l.prog w K mg base (L2.CX l.prog w) k fa fd [x] sp) :
    PySem.W.WalkO q loose XP YP l.row.toRowW d [] (fun f vs => PySem.call f vs) := by
  refine Att.attach_call hn hdf fun w s₀ s₁ mg mb fa o pm cd doc a vs ns G Y ho hd hcd hmg hobj hints hlen hg => ?_
  obtain ⟨K, fd, sp, KX, hb, hsp, hF⟩ := F w mg fa _ Y G.T.g hmg
  exact law_call KX G.T.g G.T.b G.T.builtins G.T.nolimit hg hobj hints (Nat.le_trans hlen hn2) hr hF hb (fun H hO hS => hsp H a ns hlen hO hS) fun H e s' h => by
    obtain ⟨_, _, _, _, _, _, _, _, _, _, _, _, z⟩ := h
    exact z
/-- the law's promise from its mirror: it answers True -/
theorem law_sp {K : PySem.W.Frag} {m : FMir} {H : Hp} {a : Addr} {ns : List Int} (hS : SqL K H a (ns.map V.int)) (h : ∃ μ, m [.scr ns] [] = .ok (.bl true) μ) : spM K 1 m [.ref a] H (fun v _ => v = .bl true) (fun _ _ _ => False) := by
  obtain ⟨μ, e⟩ := h
  refine ⟨⟨H, [], [], []⟩, [.scr ns], rfl, ⟨rfl, List.nodup_nil, fun i a cell h => by simp at h, fun i a h => by simp at h, fun a h => by simp at h⟩, .cons (.scr ?_) .nil, rfl, ?_⟩
  · rcases hS with h | h
    · refine .inl ⟨h, ?_⟩
      rintro (⟨i, cell, h1, _⟩ | h1)
      · simp at h1
      · simp at h1
    · exact .inr (.inr h)
  · show Post K _ [] _ (Rp K) _ (m [.scr ns] [])
    rw [e]
    intro v c' _ _ _ r
    cases r
    rfl
/-! ### own classes: what is checked -/
def insB (K : PySem.W.Frag) (C : Str) : Bool :=
  He.eqO (PySem.W.findIn K (.ref (cad K C)) "__class__") (some (some (.builtin "object.__class__"))) && (He.eqO (PySem.W.specialIn K (.builtin "object.__class__") "__get__") (some (some (.builtin "getset_descriptor.__get__"))) && (decide (PySem.W.takesIn K (.builtin "object.__class__") = some true) &&
    (decide (PySem.W.mroIn K (cad K C) (.type "object") = some true) && (["int", "bool", "str", "tuple", "list"] : List String).all fun T => decide (PySem.W.kitOne K (.ref (cad K C)) (.type T) = some false))))
theorem insB_ok {K : PySem.W.Frag} {C : Str} (c : Cls K (cad K C)) (h : insB K C = true) : InsTy K C := by
  obtain ⟨h1, h⟩ := He.ba h
  obtain ⟨h2, h⟩ := He.ba h
  obtain ⟨h3, h⟩ := He.ba h
  obtain ⟨h4, h⟩ := He.ba h
  exact ⟨c, He.eqO_ok h1, He.eqO_ok h2, of_decide_eq_true h3, of_decide_eq_true h4, fun T hT => of_decide_eq_true (List.all_eq_true.mp h T hT)⟩
def isoB (K : PySem.W.Frag) (own : List Str) (C : Str) : Bool := (tysB.all fun a => decide (PySem.W.kitOne K (.type a) (.ref (cad K C)) = some false)) && own.all fun B => decide (PySem.W.kitOne K (.ref (cad K B)) (.ref (cad K C)) = some (decide (B = C)))
theorem isoB_ok {K : PySem.W.Frag} {own : List Str} {C : Str} (h : isoB K own C = true) : IsiO K own C := by
  obtain ⟨h1, h2⟩ := He.ba h
  exact ⟨fun a ha => of_decide_eq_true (List.all_eq_true.mp h1 a ha), fun B hB => of_decide_eq_true (List.all_eq_true.mp h2 B hB)⟩
/-- the class's own method m, found at its own def -/
def atB (K : PySem.W.Frag) (C m : Str) : Bool := He.eqO (PySem.W.findIn K (.ref (cad K C)) m) (some (some (.ref (He.ma K (cad K C) m)))) && PySem.W.isFn K (.ref (He.ma K (cad K C) m))
theorem atB_ok {K : PySem.W.Frag} {C m : Str} (h : atB K C m = true) : PySem.W.findIn K (.ref (cad K C)) m = some (some (.ref (He.ma K (cad K C) m))) ∧ PySem.W.isFn K (.ref (He.ma K (cad K C) m)) = true := let ⟨h1, h2⟩ := He.ba h; ⟨He.eqO_ok h1, h2⟩
def coB (K : PySem.W.Frag) (C : Str) : Bool := atB K C "__call__" && PySem.W.fnIn K (He.ma K (cad K C) "__call__")
theorem coB_ok {K : PySem.W.Frag} {C : Str} (h : coB K C = true) : StX.CallO K (cad K C) (He.ma K (cad K C) "__call__") := by
  obtain ⟨h1, h2⟩ := He.ba h
  obtain ⟨h3, h4⟩ := atB_ok h1
  exact ⟨h3, h4, h2⟩
def opB (K : PySem.W.Frag) (C : Str) (nm : String) : Bool := PySem.W.selfFirst K (cad K C) && (atB K C (PySem.dunder nm) && He.eqO (PySem.W.findIn K (.ref (cad K C)) (dunderR nm)) (some none))
theorem opB_ok {K : PySem.W.Frag} {C : Str} {nm : String} (h : opB K C nm = true) : OwnOp K C nm (He.ma K (cad K C) (PySem.dunder nm)) := by
  obtain ⟨h1, h⟩ := He.ba h
  obtain ⟨h2, h3⟩ := He.ba h
  obtain ⟨h4, h5⟩ := atB_ok h2
  exact ⟨h1, h4, h5, He.eqO_ok h3⟩
def opTyB (K : PySem.W.Frag) (C : Str) (nm T : String) : Bool := (PySem.W.findIn K (.type T) (PySem.dunder nm)).isSome && ((PySem.W.findIn K (.type T) (dunderR nm)).isSome && decide (PySem.W.subIn K (.type T) (.ref (cad K C)) = some false))
theorem opTyB_ok {K : PySem.W.Frag} {C : Str} {nm T : String} (h : opTyB K C nm T = true) : OpTy K C nm T := by
  obtain ⟨h1, h⟩ := He.ba h
  obtain ⟨h2, h3⟩ := He.ba h
  exact ⟨Option.isSome_iff_exists.mp h1, Option.isSome_iff_exists.mp h2, of_decide_eq_true h3⟩
end FL
end S_FH
section S_FE
set_option Elab.async false
set_option linter.all false
set_option maxRecDepth 100000
set_option maxHeartbeats 4000000
/-! FE: what a mirror gives, told by what is wanted (wp); evaluation by simp. -/
namespace FL
open PySem PySem.Spec PyProof.Rows L2

def Res.wp {α : Type} (r : Res α) (Q : α → Sto → Prop) (X : Ex → Sto → Prop) : Prop := match r with
  | .ok a μ => Q a μ
  | .exc x μ => X x μ
  | .stuck => False
section
variable {α β : Type} {Q Q' : α → Sto → Prop} {R : β → Sto → Prop} {X : Ex → Sto → Prop}
@[simp] theorem wp_ok (a : α) (μ : Sto) : (Res.ok a μ).wp Q X = Q a μ := rfl
@[simp] theorem wp_exc (x : Ex) (μ : Sto) : (Res.exc x μ : Res α).wp Q X = X x μ := rfl
@[simp] theorem wp_stuck : (Res.stuck : Res α).wp Q X = False := rfl
@[simp] theorem wp_bind (r : Res α) (k : α → Sto → Res β) : (r.bind k).wp R X = r.wp (fun a μ => (k a μ).wp R X) X := by cases r <;> rfl
@[simp] theorem wp_ite {c : Prop} [Decidable c] (a b : Res α) : (if c then a else b).wp Q X = if c then a.wp Q X else b.wp Q X := by split <;> rfl
theorem Res.wp_mono {r : Res α} (h : r.wp Q X) (hq : ∀ a μ, Q a μ → Q' a μ) : r.wp Q' X := by cases r <;> first | exact hq _ _ h | exact h
theorem Res.wp_mono2 {X' : Ex → Sto → Prop} {r : Res α} (h : r.wp Q X) (hq : ∀ a μ, Q a μ → Q' a μ) (hx : ∀ a μ, X a μ → X' a μ) : r.wp Q' X' := by cases r <;> first | exact hq _ _ h | exact hx _ _ h | exact h
theorem Res.wp_iff {r : Res α} : r.wp Q (fun _ _ => False) ↔ ∃ a μ, r = .ok a μ ∧ Q a μ := by
  cases r with
  | ok a μ => exact ⟨fun h => ⟨a, μ, rfl, h⟩, fun ⟨_, _, e, h⟩ => by cases e; exact h⟩
  | exc x μ => exact ⟨fun h => h.elim, fun ⟨_, _, e, _⟩ => by cases e⟩
  | stuck => exact ⟨fun h => h.elim, fun ⟨_, _, e, _⟩ => by cases e⟩
theorem noX_wp (r : Res α) : (noX r).wp Q X = r.wp Q (fun _ _ => False) := by cases r <;> rfl
end
/-- four ends of a statement, and exceptions -/
structure WS where
  nx : Rho → Sto → Prop
  rt : D → Sto → Prop := fun _ _ => False
  bk : Rho → Sto → Prop := fun _ _ => False
  ct : Rho → Sto → Prop := fun _ _ => False
  ex : Ex → Rho → Sto → Prop := fun _ _ _ => False
def SRes.wp (r : SRes) (S : WS) : Prop := match r with
  | .nx ρ μ => S.nx ρ μ
  | .rt d μ => S.rt d μ
  | .bk ρ μ => S.bk ρ μ
  | .ct ρ μ => S.ct ρ μ
  | .exc x ρ μ => S.ex x ρ μ
  | .stuck => False
section
variable {S : WS}
@[simp] theorem sw_nx (ρ : Rho) (μ : Sto) : (SRes.nx ρ μ).wp S = S.nx ρ μ := rfl
@[simp] theorem sw_rt (d : D) (μ : Sto) : (SRes.rt d μ).wp S = S.rt d μ := rfl
@[simp] theorem sw_bk (ρ : Rho) (μ : Sto) : (SRes.bk ρ μ).wp S = S.bk ρ μ := rfl
@[simp] theorem sw_ct (ρ : Rho) (μ : Sto) : (SRes.ct ρ μ).wp S = S.ct ρ μ := rfl
@[simp] theorem sw_exc (x : Ex) (ρ : Rho) (μ : Sto) : (SRes.exc x ρ μ).wp S = S.ex x ρ μ := rfl
@[simp] theorem sw_stuck : (SRes.stuck).wp S = False := rfl
@[simp] theorem sw_seq (r : SRes) (k : SMir) : (r.seq k).wp S = r.wp { S with nx := fun ρ μ => (k ρ μ).wp S } := by cases r <;> rfl
@[simp] theorem sw_turn (r : SRes) (k : SMir) : (r.turn k).wp S = r.wp { S with nx := fun ρ μ => (k ρ μ).wp S, ct := fun ρ μ => (k ρ μ).wp S, bk := S.nx } := by cases r <;> rfl
@[simp] theorem sw_sB {α : Type} (r : Res α) (ρ : Rho) (k : α → Sto → SRes) : (sB r ρ k).wp S = r.wp (fun a μ => (k a μ).wp S) (fun x μ => S.ex x ρ μ) := by cases r <;> rfl
@[simp] theorem sw_ite {c : Prop} [Decidable c] (a b : SRes) : (if c then a else b).wp S = if c then a.wp S else b.wp S := by split <;> rfl
theorem SRes.wp_mono {S' : WS} {r : SRes} (h : r.wp S) (h1 : ∀ ρ μ, S.nx ρ μ → S'.nx ρ μ) (h2 : ∀ ρ μ, S.rt ρ μ → S'.rt ρ μ) (h3 : ∀ ρ μ, S.bk ρ μ → S'.bk ρ μ) (h4 : ∀ ρ μ, S.ct ρ μ → S'.ct ρ μ) (h5 : ∀ x ρ μ, S.ex x ρ μ → S'.ex x ρ μ) : r.wp S' := by
  cases r <;> first | exact h1 _ _ h | exact h2 _ _ h | exact h3 _ _ h | exact h4 _ _ h | exact h5 _ _ _ h | exact h
end
/-- the names' start -/
def st0 (n : Nat) (ds : List D) : Rho := ds.map some ++ List.replicate (n - ds.length) none
theorem mDef_wp {n : Nat} {b : SMir} {ds : List D} {μ : Sto} {Q : D → Sto → Prop} {X : Ex → Sto → Prop} (h : (b (st0 n ds) μ).wp { nx := fun _ μ => Q .non μ, rt := Q, ex := fun x _ μ => X x μ }) : (mDef n b ds μ).wp Q X := by
  unfold mDef
  unfold st0 at h
  cases e : b (ds.map some ++ List.replicate (n - ds.length) none) μ <;> rw [e] at h <;> exact h
theorem appN_wp {n : Nat} {es : List D} {m : FMir} {ds : List D} {μ : Sto} {Q : D → Sto → Prop} {X : Ex → Sto → Prop} (hl : (ds ++ es).length = n) (h : (m (ds ++ es) μ).wp Q X) : (appN n es m ds μ).wp Q X := by
  unfold appN
  rw [if_pos hl]; exact h
/-- a call of a def: its body -/
theorem fn_wp {n k : Nat} {b : SMir} {ds : List D} {μ : Sto} {Q : D → Sto → Prop} {X : Ex → Sto → Prop} (hl : ds.length = k) (h : (b (st0 n ds) μ).wp { nx := fun _ μ => Q .non μ, rt := Q, ex := fun x _ μ => X x μ }) : (appN k [] (mDef n b) ds μ).wp Q X :=
  appN_wp (by rw [List.append_nil]; exact hl) (by rw [List.append_nil]; exact mDef_wp h)
/-! ### loops -/
theorem forL_wp {g : GMir} {b : SMir} {xs : List D} {S : WS} (I : Nat → Rho → Sto → Prop)
    (hs : ∀ (i : Nat) (x : D) (ρ : Rho) (μ : Sto), xs[i]? = some x → I i ρ μ → (g x ρ μ).wp { nx := fun ρ μ => (b ρ μ).wp { S with nx := I (i + 1), ct := I (i + 1), bk := S.nx }, ex := S.ex })
    (he : ∀ ρ μ, I xs.length ρ μ → S.nx ρ μ) {ρ : Rho} {μ : Sto} (h0 : I 0 ρ μ) : (forL g b xs ρ μ).wp S := by
  induction xs generalizing I ρ μ with
  | nil => exact he _ _ h0
  | cons x xs ih =>
    show (((g x ρ μ).seq b).turn (forL g b xs)).wp S
    rw [sw_turn, sw_seq]
    have z := hs 0 x ρ μ rfl h0
    have next : ∀ ρ μ, I 1 ρ μ → (forL g b xs ρ μ).wp S := fun ρ μ h1 => ih (I := fun i => I (i + 1)) (fun i x ρ μ hx hi => hs (i + 1) x ρ μ (by simpa using hx) hi) he h1
    refine SRes.wp_mono z (fun ρ μ h => ?_) (fun _ _ h => h.elim) (fun _ _ h => h.elim) (fun _ _ h => h.elim) (fun _ _ _ h => h)
    exact SRes.wp_mono h next (fun _ _ h => h) (fun _ _ h => h) next (fun _ _ _ h => h)
theorem forLP_wp {j : Nat} {xs0 : List D} {g : GMir} {b : SMir} {xs : List D} {S : WS} (I : Nat → Rho → Sto → Prop) (hl : ∀ i ρ μ, I i ρ μ → lstAt μ j = some xs0)
    (hs : ∀ (i : Nat) (x : D) (ρ : Rho) (μ : Sto), xs[i]? = some x → I i ρ μ → (g x ρ μ).wp { nx := fun ρ μ => (b ρ μ).wp { S with nx := I (i + 1), ct := I (i + 1), bk := S.nx }, ex := S.ex })
    (he : ∀ ρ μ, I xs.length ρ μ → S.nx ρ μ) {ρ : Rho} {μ : Sto} (h0 : I 0 ρ μ) : (forLP j xs0 g b xs ρ μ).wp S := by
  induction xs generalizing I ρ μ with
  | nil => unfold forLP; rw [if_pos (hl _ _ _ h0)]; exact he _ _ h0
  | cons x xs ih =>
    unfold forLP
    rw [if_pos (hl _ _ _ h0), sw_turn, sw_seq]
    have z := hs 0 x ρ μ rfl h0
    have next : ∀ ρ μ, I 1 ρ μ → (forLP j xs0 g b xs ρ μ).wp S := fun ρ μ h1 => ih (I := fun i => I (i + 1)) (fun i => hl (i + 1)) (fun i x ρ μ hx hi => hs (i + 1) x ρ μ (by simpa using hx) hi) he h1
    refine SRes.wp_mono z (fun ρ μ h => ?_) (fun _ _ h => h.elim) (fun _ _ h => h.elim) (fun _ _ h => h.elim) (fun _ _ _ h => h)
    exact SRes.wp_mono h next (fun _ _ h => h) (fun _ _ h => h) next (fun _ _ _ h => h)
theorem whileF_stuck {t : Rho → Sto → Res Bool} {b : SMir} {n : Nat} {ρ : Rho} {μ : Sto} {S : WS} (h : (whileF t b n ρ μ).wp S) : (sWhile t b ρ μ).wp S := by
  have hn : whileF t b n ρ μ ≠ .stuck := fun e => by rw [e] at h; exact h
  have he : ∃ n, whileF t b n ρ μ ≠ .stuck := ⟨n, hn⟩
  unfold sWhile
  rw [dif_pos he]
  have e1 := whileF_mono n ρ μ hn (n + he.choose) (Nat.le_add_right _ _)
  have e2 := whileF_mono he.choose ρ μ he.choose_spec (n + he.choose) (Nat.le_add_left _ _)
  rw [← e2, e1]; exact h
/-- a while loop by a measure -/
theorem while_wp {t : Rho → Sto → Res Bool} {b : SMir} {S : WS} (I : Nat → Rho → Sto → Prop)
    (hs : ∀ (m : Nat) (ρ : Rho) (μ : Sto), I m ρ μ → (t ρ μ).wp (fun k μ1 => if k = true then (b ρ μ1).wp { S with nx := fun ρ μ => ∃ m' < m, I m' ρ μ, ct := fun ρ μ => ∃ m' < m, I m' ρ μ, bk := S.nx } else S.nx ρ μ1) (fun x μ => S.ex x ρ μ))
    {m : Nat} {ρ : Rho} {μ : Sto} (h0 : I m ρ μ) : (sWhile t b ρ μ).wp S := by
  suffices h : ∀ m ρ μ, I m ρ μ → (whileF t b (m + 1) ρ μ).wp S from whileF_stuck (h m ρ μ h0)
  intro m
  induction m using Nat.strongRecOn with
  | ind m ih =>
    intro ρ μ hI
    show (sB (t ρ μ) ρ fun k μ1 => if k = true then (b ρ μ1).turn (whileF t b m) else .nx ρ μ1).wp S
    rw [sw_sB]
    refine Res.wp_mono (hs m ρ μ hI) fun k μ1 h => ?_
    cases k with
    | false => simpa using h
    | true =>
      simp only [if_true] at h ⊢
      rw [sw_turn]
      have go : ∀ ρ μ, (∃ m' < m, I m' ρ μ) → (whileF t b m ρ μ).wp S := fun ρ μ ⟨m', hm, hi⟩ => by
        have z := ih m' hm ρ μ hi
        have hne : whileF t b (m' + 1) ρ μ ≠ .stuck := fun e => by rw [e] at z; exact z
        rw [whileF_mono (m' + 1) ρ μ hne m hm]; exact z
      exact SRes.wp_mono h go (fun _ _ h => h) (fun _ _ h => h) go (fun _ _ _ h => h)
end FL
end S_FE
section S_FE2
set_option Elab.async false
set_option linter.all false
set_option maxRecDepth 100000
set_option maxHeartbeats 4000000
/-! FE2: evaluation lemmas. -/
namespace FL
open PySem PySem.Spec PyProof.Rows L2
def optB {α : Type} (o : Option Bool) (k : Bool → Res α) : Res α := match o with
  | some b => k b
  | none => .stuck
@[simp] theorem optB_some {α : Type} (b : Bool) (k : Bool → Res α) : optB (some b) k = k b := rfl
/-- the end of a def's body -/
def fin : SRes → Res D
  | .nx _ μ => .ok .non μ
  | .rt d μ => .ok d μ
  | .exc x _ μ => .exc x μ
  | _ => .stuck
@[simp] theorem fin_nx (ρ : Rho) (μ : Sto) : fin (.nx ρ μ) = .ok .non μ := rfl
@[simp] theorem fin_rt (d : D) (μ : Sto) : fin (.rt d μ) = .ok d μ := rfl
@[simp] theorem fin_exc (x : Ex) (ρ : Rho) (μ : Sto) : fin (.exc x ρ μ) = .exc x μ := rfl
@[simp] theorem fin_stuck : fin .stuck = .stuck := rfl
@[simp] theorem fin_sB {α : Type} (r : Res α) (ρ : Rho) (k : α → Sto → SRes) : fin (sB r ρ k) = r.bind fun a μ => fin (k a μ) := by cases r <;> rfl
@[simp] theorem fin_ite {c : Prop} [Decidable c] (a b : SRes) : fin (if c then a else b) = if c then fin a else fin b := by split <;> rfl
@[simp] theorem sB_seq {α : Type} (r : Res α) (ρ : Rho) (k : α → Sto → SRes) (k2 : SMir) : (sB r ρ k).seq k2 = sB r ρ fun a μ => (k a μ).seq k2 := by cases r <;> rfl
@[simp] theorem ite_seq {c : Prop} [Decidable c] (a b : SRes) (k : SMir) : (if c then a else b).seq k = if c then a.seq k else b.seq k := by split <;> rfl
@[simp] theorem ite_bind {α β : Type} {c : Prop} [Decidable c] (a b : Res α) (k : α → Sto → Res β) : (if c then a else b).bind k = if c then a.bind k else b.bind k := by split <;> rfl
@[simp] theorem seq_seq (a : SRes) (k k2 : SMir) : (a.seq k).seq k2 = a.seq fun ρ μ => (k ρ μ).seq k2 := by cases a <;> rfl
theorem mDef_fin (n : Nat) (b : SMir) (ds : List D) (μ : Sto) : mDef n b ds μ = fin (b (ds.map some ++ List.replicate (n - ds.length) none) μ) := by
  unfold mDef
  cases b (ds.map some ++ List.replicate (n - ds.length) none) μ <;> rfl
theorem fn_fin {n k : Nat} {b : SMir} {ds : List D} {μ : Sto} (hl : ds.length = k) : appN k [] (mDef n b) ds μ = fin (b (ds.map some ++ List.replicate (n - ds.length) none) μ) := by
  unfold appN
  rw [List.append_nil, if_pos hl, mDef_fin]
theorem fn_eq {n k : Nat} {b : SMir} {ds : List D} {μ : Sto} : appN k [] (mDef n b) ds μ = if ds.length = k then fin (b (ds.map some ++ List.replicate (n - ds.length) none) μ) else .stuck := by
  unfold appN
  rw [List.append_nil, mDef_fin]
section
variable {ρ : Rho} {μ : Sto} {m ma mb mo mi me : Rho → Sto → Res D} {n : Rho → Sto → Res (List D)} {t t' : Rho → Sto → Res Bool} {op : D → D → Sto → Res D} {cl : List D → Sto → Res D} {a b : SMir} {g : GMir} {gs : GsMir}
@[simp] theorem e_var (i : Nat) : xVar i ρ μ = (match ρ[i]? with
  | some (some d) => .ok d μ
  | _ => .stuck) := rfl
@[simp] theorem e_c (d : D) : xC d ρ μ = .ok d μ := rfl
@[simp] theorem e_op : xOp op ma mb ρ μ = (ma ρ μ).bind fun x μ1 => (mb ρ μ1).bind fun y μ2 => op x y μ2 := rfl
@[simp] theorem e_tB1 : tB1 m ρ μ = (m ρ μ).bind asB := rfl
@[simp] theorem e_asB (k : Bool) : asB (.bl k) μ = .ok k μ := rfl
@[simp] theorem e_tTru : tTru m ρ μ = (m ρ μ).bind asT := rfl
@[simp] theorem e_asT_bl (k : Bool) : asT (.bl k) μ = .ok k μ := rfl
@[simp] theorem e_asT_int (i : Int) : asT (.int i) μ = .ok (i != 0) μ := rfl
@[simp] theorem e_and : tmAnd t t' ρ μ = (t ρ μ).bind fun b μ1 => if b = true then t' ρ μ1 else .ok false μ1 := rfl
@[simp] theorem e_or : tmOr t t' ρ μ = (t ρ μ).bind fun b μ1 => if b = true then .ok true μ1 else t' ρ μ1 := rfl
@[simp] theorem e_not : tmNot t ρ μ = (t ρ μ).bind fun b μ1 => .ok (!b) μ1 := rfl
@[simp] theorem e_if : xIf t ma mb ρ μ = (t ρ μ).bind fun b μ1 => if b = true then ma ρ μ1 else mb ρ μ1 := rfl
@[simp] theorem e_xAnd : xAnd ma mb ρ μ = (ma ρ μ).bind fun x μ1 => optB (truD μ1 x) fun k => if k = true then mb ρ μ1 else .ok x μ1 := by
  unfold xAnd
  cases ma ρ μ with
  | ok x μ1 => simp only [Res.bind_ok]; cases truD μ1 x with
    | none => rfl
    | some k => cases k <;> rfl
  | _ => rfl
@[simp] theorem e_xOr : xOr ma mb ρ μ = (ma ρ μ).bind fun x μ1 => optB (truD μ1 x) fun k => if k = true then .ok x μ1 else mb ρ μ1 := by
  unfold xOr
  cases ma ρ μ with
  | ok x μ1 => simp only [Res.bind_ok]; cases truD μ1 x with
    | none => rfl
    | some k => cases k <;> rfl
  | _ => rfl
@[simp] theorem e_xNot : xNot ma ρ μ = (ma ρ μ).bind fun x μ1 => optB (truD μ1 x) fun k => .ok (.bl (!k)) μ1 := by
  unfold xNot
  cases ma ρ μ with
  | ok x μ1 => simp only [Res.bind_ok]; cases truD μ1 x <;> rfl
  | _ => rfl
@[simp] theorem e_tru_bl (k : Bool) : truD μ (.bl k) = some k := rfl
@[simp] theorem e_tru_int (i : Int) : truD μ (.int i) = some (i != 0) := rfl
@[simp] theorem e_aNil : aNil ρ μ = .ok [] μ := rfl
@[simp] theorem e_aCons : aCons m n ρ μ = (m ρ μ).bind fun x μ1 => (n ρ μ1).bind fun xs μ2 => .ok (x :: xs) μ2 := rfl
@[simp] theorem e_aStar : aStar m n ρ μ = (m ρ μ).bind fun x μ1 => match rdS μ1 x with
  | some xs => (n ρ μ1).bind fun ys μ2 => .ok (xs ++ ys) μ2
  | none => .stuck := by
  unfold aStar
  cases m ρ μ <;> first | rfl | (simp only [Res.bind_ok]; split <;> rfl)
@[simp] theorem e_xTup : xTup n ρ μ = (n ρ μ).bind fun xs μ1 => if xs.length ≤ lim then .ok (.tup xs) μ1 else .stuck := rfl
@[simp] theorem e_xLst : xLst n ρ μ = (n ρ μ).bind fun xs μ1 => if xs.length ≤ lim then .ok (.lst xs) μ1 else .stuck := rfl
@[simp] theorem e_xLstM : xLstM n ρ μ = (n ρ μ).bind fun xs μ1 => if xs.length ≤ lim then .ok (.ptr μ1.length) (μ1 ++ [.lst xs]) else .stuck := rfl
@[simp] theorem e_xFn (f : FMir) : xFn f n ρ μ = (n ρ μ).bind f := rfl
@[simp] theorem e_xCall : xCall cl n ρ μ = (n ρ μ).bind cl := rfl
@[simp] theorem e_oNone : oNone ρ μ = .ok none μ := rfl
@[simp] theorem e_oSome : oSome m ρ μ = (m ρ μ).bind fun x μ1 => match x with
  | .int i => .ok (some i) μ1
  | _ => .stuck := rfl
@[simp] theorem e_xSl {o1 o2 : Rho → Sto → Res (Option Int)} : xSl m o1 o2 ρ μ = (m ρ μ).bind fun x μ1 => (o1 ρ μ1).bind fun lo μ2 => (o2 ρ μ2).bind fun hi μ3 => match slD μ3 x lo hi with
  | some d => .ok d μ3
  | none => .stuck := rfl
@[simp] theorem e_xNeg : xNeg m ρ μ = (m ρ μ).bind fun x μ1 => match x with
  | .int i => .ok (.int (-i)) μ1
  | _ => .stuck := rfl
@[simp] theorem e_xFld (C f : Str) : xFld C f m ρ μ = (m ρ μ).bind fun x μ1 => match fldD μ1 x C f with
  | some d => .ok d μ1
  | none => .stuck := rfl
/-! statements -/
@[simp] theorem e_next : sNext ρ μ = .nx ρ μ := rfl
@[simp] theorem e_seq : sSeq a b ρ μ = (a ρ μ).seq b := rfl
@[simp] theorem e_ret : sRet m ρ μ = sB (m ρ μ) ρ fun d μ1 => .rt d μ1 := rfl
@[simp] theorem e_retN : sRetN ρ μ = .rt .non μ := rfl
@[simp] theorem e_expr : sExpr m ρ μ = sB (m ρ μ) ρ fun _ μ1 => .nx ρ μ1 := rfl
@[simp] theorem e_sIf : sIf t a b ρ μ = sB (t ρ μ) ρ fun k μ1 => if k = true then a ρ μ1 else b ρ μ1 := rfl
@[simp] theorem e_break : sBreak ρ μ = .bk ρ μ := rfl
@[simp] theorem e_cont : sCont ρ μ = .ct ρ μ := rfl
@[simp] theorem e_raise (x : Str) : sRaise x ρ μ = .exc ⟨x, []⟩ ρ μ := rfl
@[simp] theorem e_set (i : Nat) : sSet i m ρ μ = sB (m ρ μ) ρ fun d μ1 => .nx (ρ.set i (some d)) μ1 := rfl
@[simp] theorem e_asg : sAsg m g ρ μ = sB (m ρ μ) ρ fun d μ1 => g d ρ μ1 := rfl
@[simp] theorem e_gN (i : Nat) (d : D) : gN i d ρ μ = .nx (ρ.set i (some d)) μ := rfl
@[simp] theorem e_gsNil : gsNil [] ρ μ = .nx ρ μ := rfl
@[simp] theorem e_gsCons (d : D) (ds : List D) : gsCons g gs (d :: ds) ρ μ = (g d ρ μ).seq fun ρ1 μ1 => gs ds ρ1 μ1 := rfl
@[simp] theorem e_gT (k : Nat) (xs : List D) : gT k gs (.tup xs) ρ μ = if xs.length = k then gs xs ρ μ else .stuck := rfl
@[simp] theorem e_par2 (i j : Nat) : sPar2 i j n ρ μ = sB (n ρ μ) ρ fun ds μ1 => match ds with
  | [x, y] => .nx ((ρ.set i (some x)).set j (some y)) μ1
  | _ => .stuck := rfl
@[simp] theorem e_par3 (i j l : Nat) : sPar3 i j l n ρ μ = sB (n ρ μ) ρ fun ds μ1 => match ds with
  | [x, y, z] => .nx (((ρ.set i (some x)).set j (some y)).set l (some z)) μ1
  | _ => .stuck := rfl
@[simp] theorem e_iVal : iVal m ρ μ = (m ρ μ).bind fun x μ1 => match rdF x with
  | some xs => .ok xs μ1
  | none => .stuck := rfl
@[simp] theorem e_iOf (rd : List D → Option (List D)) : iOf rd n ρ μ = (n ρ μ).bind fun ds μ1 => match rd ds with
  | some xs => .ok xs μ1
  | none => .stuck := rfl
@[simp] theorem e_forI (im : Rho → Sto → Res (List D)) : sForI im g b ρ μ = sB (im ρ μ) ρ fun xs μ1 => forL g b xs ρ μ1 := rfl
@[simp] theorem e_rdF_lst (xs : List D) : rdF (.lst xs) = some xs := rfl
@[simp] theorem e_rdF_tup (xs : List D) : rdF (.tup xs) = some xs := rfl
@[simp] theorem e_rdF_scr (xs : List Int) : rdF (.scr xs) = some (xs.map .int) := rfl
@[simp] theorem e_rdT (xs : List D) : rdT (.tup xs) = some xs := rfl
@[simp] theorem e_rdS_tup (xs : List D) : rdS μ (.tup xs) = some xs := rfl
@[simp] theorem e_rdS_lst (xs : List D) : rdS μ (.lst xs) = some xs := rfl
@[simp] theorem e_rdL_lst (xs : List D) : rdL μ (.lst xs) = some xs := rfl
/-! operators -/
variable (i j : Int) (xs ys : List D)
@[simp] theorem d_add : dAdd (.int i) (.int j) μ = .ok (.int (i + j)) μ := rfl
@[simp] theorem d_addL : dAdd (.lst xs) (.lst ys) μ = if xs.length + ys.length ≤ lim then .ok (.lst (xs ++ ys)) μ else .stuck := rfl
@[simp] theorem d_addT : dAdd (.tup xs) (.tup ys) μ = if xs.length + ys.length ≤ lim then .ok (.tup (xs ++ ys)) μ else .stuck := rfl
@[simp] theorem d_sub : dSub (.int i) (.int j) μ = .ok (.int (i - j)) μ := rfl
@[simp] theorem d_mul : dMul (.int i) (.int j) μ = if lg i + lg j < 1000000 then .ok (.int (i * j)) μ else .stuck := rfl
@[simp] theorem d_div : dDiv (.int i) (.int j) μ = if 0 < j ∧ lg j < 9000 then .ok (.int (i / j)) μ else .stuck := rfl
@[simp] theorem d_mod : dMod (.int i) (.int j) μ = if 0 < j then .ok (.int (i % j)) μ else .stuck := rfl
@[simp] theorem d_pow : dPow (.int i) (.int j) μ = if 0 ≤ j ∧ j ≤ 1000 ∧ lg i < 1000 then .ok (.int (i ^ j.toNat)) μ else .stuck := rfl
@[simp] theorem d_lt : dLt (.int i) (.int j) μ = .ok (.bl (decide (i < j))) μ := rfl
@[simp] theorem d_le : dLe (.int i) (.int j) μ = .ok (.bl (decide (i ≤ j))) μ := rfl
@[simp] theorem d_gt : dGt (.int i) (.int j) μ = .ok (.bl (decide (j < i))) μ := rfl
@[simp] theorem d_ge : dGe (.int i) (.int j) μ = .ok (.bl (decide (j ≤ i))) μ := rfl
@[simp] theorem d_eqI : dEq (.int i) (.int j) μ = .ok (.bl (decide (i = j))) μ := rfl
@[simp] theorem d_neI : dNe (.int i) (.int j) μ = .ok (.bl (!decide (i = j))) μ := rfl
@[simp] theorem d_eqS (x y : Str) : dEq (.str x) (.str y) μ = .ok (.bl (decide (x = y))) μ := rfl
@[simp] theorem d_neS (x y : Str) : dNe (.str x) (.str y) μ = .ok (.bl (!decide (x = y))) μ := rfl
@[simp] theorem d_eqB (x y : Bool) : dEq (.bl x) (.bl y) μ = .ok (.bl (decide (x = y))) μ := rfl
@[simp] theorem d_neB (x y : Bool) : dNe (.bl x) (.bl y) μ = .ok (.bl (!decide (x = y))) μ := rfl
@[simp] theorem d_ix (x : D) : dIx x (.int i) μ = (match ixD μ x i with
  | some d => .ok d μ
  | none => .stuck) := rfl
@[simp] theorem d_ixT : ixD μ (.tup xs) i = atI xs i := rfl
@[simp] theorem d_ixL : ixD μ (.lst xs) i = atI xs i := rfl
@[simp] theorem d_isN (x : D) : dIsN x .non μ = .ok (.bl (isNon x)) μ := rfl
@[simp] theorem d_notN (x : D) : dNotN x .non μ = .ok (.bl (!isNon x)) μ := rfl
@[simp] theorem d_lenT : dLen [.tup xs] μ = .ok (.int xs.length) μ := rfl
@[simp] theorem d_lenL : dLen [.lst xs] μ = .ok (.int xs.length) μ := rfl
@[simp] theorem d_lenS (ns : List Int) : dLen [.scr ns] μ = .ok (.int ns.length) μ := by
  show Res.ok (D.int (((ns.map D.int).length : Nat) : Int)) μ = _
  rw [List.length_map]
@[simp] theorem d_ixS (ns : List Int) : ixD μ (.scr ns) i = atI (ns.map .int) i := rfl
@[simp] theorem d_abs : dAbs [.int i] μ = .ok (.int (if i < 0 then -i else i)) μ := rfl
@[simp] theorem d_int : dInt [.int i] μ = .ok (.int i) μ := rfl
@[simp] theorem d_max : dMax [.int i, .int j] μ = .ok (.int (if j > i then j else i)) μ := rfl
@[simp] theorem d_min : dMin [.int i, .int j] μ = .ok (.int (if j < i then j else i)) μ := rfl
@[simp] theorem d_tuple : dTuple [.lst xs] μ = .ok (.tup xs) μ := rfl
@[simp] theorem d_tupleT : dTuple [.tup xs] μ = .ok (.tup xs) μ := rfl
@[simp] theorem d_list : dList [.tup xs] μ = .ok (.lst xs) μ := rfl
@[simp] theorem d_listL : dList [.lst xs] μ = .ok (.lst xs) μ := rfl
@[simp] theorem d_slT (lo hi : Option Int) : slD μ (.tup xs) lo hi = some (.tup (cutD xs lo hi)) := rfl
@[simp] theorem d_slL (lo hi : Option Int) : slD μ (.lst xs) lo hi = some (.lst (cutD xs lo hi)) := rfl
theorem atI_nn {α : Type} {xs : List α} {i : Int} (h : 0 ≤ i) : atI xs i = xs[i.toNat]? := by
  unfold atI ixN
  rw [if_pos h]
  by_cases h1 : i < xs.length
  · rw [if_pos h1]; rfl
  · rw [if_neg h1]; rw [List.getElem?_eq_none (by omega)]; rfl
@[simp] theorem atI_nat {α : Type} {xs : List α} (i : Nat) : atI xs (OfNat.ofNat i) = xs[i]? := by
  show atI xs ((i : Nat) : Int) = _
  rw [atI_nn (by omega)]; rfl
@[simp] theorem atI_zero {α : Type} {xs : List α} : atI xs 0 = xs[0]? := atI_nat 0
@[simp] theorem atI_one {α : Type} {xs : List α} : atI xs 1 = xs[1]? := atI_nat 1
@[simp] theorem atI_two {α : Type} {xs : List α} : atI xs 2 = xs[2]? := atI_nat 2
@[simp] theorem atI_three {α : Type} {xs : List α} : atI xs 3 = xs[3]? := atI_nat 3
theorem atI_neg1 {α : Type} {xs : List α} : atI xs (-1) = xs.getLast? := by
  unfold atI ixN
  rw [if_neg (by omega)]
  cases xs with
  | nil => rfl
  | cons x r =>
    rw [if_pos (by rw [List.length_cons]; omega)]
    rw [List.getLast?_eq_getElem?]
    show (x :: r)[(-1 + ((x :: r).length : Int)).toNat]? = _
    congr 1
    rw [List.length_cons]; omega
end
end FL
end S_FE2
section S_FP
set_option Elab.async false
set_option linter.all false
set_option maxRecDepth 100000
set_option maxHeartbeats 4000000
/-! FP: plain facts about mirrors, for any law: comprehensions, the drawing cell, what a run leaves. -/
namespace FL
open PySem PySem.Spec PyProof.Rows L2

/-! ### comprehensions -/
theorem lcL_map {t : NT} {m : Rho → Sto → Res D} {vs : List Nat} {ρ : Rho} {μ : Sto} {f : D → D} : ∀ {xs : List D}, (∀ x ∈ xs, ∃ ρ1, ntM t x (wipeR ρ vs) = some ρ1 ∧ m ρ1 μ = .ok (f x) μ) → lcL t ttYes m vs xs ρ μ = .ok (xs.map f) μ
  | [], _ => rfl
  | x :: xs, h => by
    obtain ⟨ρ1, h1, h2⟩ := h x List.mem_cons_self
    unfold lcL
    rw [h1]
    show (noX (Res.ok true μ)).bind _ = _
    simp only [noX_ok, Res.bind_ok, if_true, h2, List.map_cons]
    rw [lcL_map (f := f) fun y hy => h y (List.mem_cons_of_mem _ hy)]
    rfl
theorem lcL_fil {t : NT} {tt : Rho → Sto → Res Bool} {m : Rho → Sto → Res D} {vs : List Nat} {ρ : Rho} {μ : Sto} {p : D → Bool} {f : D → D} : ∀ {xs : List D}, (∀ x ∈ xs, ∃ ρ1, ntM t x (wipeR ρ vs) = some ρ1 ∧ tt ρ1 μ = .ok (p x) μ ∧ (p x = true → m ρ1 μ = .ok (f x) μ)) → lcL t tt m vs xs ρ μ = .ok ((xs.filter p).map f) μ
  | [], _ => rfl
  | x :: xs, h => by
    obtain ⟨ρ1, h1, h2, h3⟩ := h x List.mem_cons_self
    have ih := lcL_fil (f := f) (p := p) (ρ := ρ) fun y hy => h y (List.mem_cons_of_mem _ hy)
    unfold lcL
    rw [h1]
    simp only [h2, noX_ok, Res.bind_ok]
    cases hp : p x with
    | true => simp only [if_true, h3 hp, noX_ok, Res.bind_ok, ih, List.filter_cons_of_pos hp, List.map_cons]
    | false => simp only [Bool.false_eq_true, if_false, ih, List.filter_cons_of_neg (by simp [hp] : ¬ p x = true)]
/-- each turn may change the store: I tells what was made so far -/
theorem lcL_wp {t : NT} {m : Rho → Sto → Res D} {vs : List Nat} {ρ : Rho} {X : Ex → Sto → Prop} (I : List D → Sto → Prop) : ∀ {xs : List D} {acc : List D} {μ : Sto} {Q : List D → Sto → Prop}, I acc μ →
    (∀ (x : D) (acc : List D) (μ : Sto), x ∈ xs → I acc μ → ∃ ρ1, ntM t x (wipeR ρ vs) = some ρ1 ∧ (m ρ1 μ).wp (fun y μ' => I (acc ++ [y]) μ') (fun _ _ => False)) →
    (∀ ys μ, ys.length = xs.length → I (acc ++ ys) μ → Q ys μ) → (lcL t ttYes m vs xs ρ μ).wp Q X
  | [], acc, μ, Q, h0, _, he => he [] μ rfl (by rw [List.append_nil]; exact h0)
  | x :: xs, acc, μ, Q, h0, hs, he => by
    obtain ⟨ρ1, h1, h2⟩ := hs x acc μ List.mem_cons_self h0
    unfold lcL
    rw [h1]
    show ((noX (Res.ok true μ)).bind _).wp Q X
    simp only [noX_ok, Res.bind_ok, if_true, wp_bind, noX_wp]
    refine Res.wp_mono2 h2 (fun y μ2 hy => ?_) (fun _ _ z => z.elim)
    refine lcL_wp I hy (fun x' acc' μ' hx' => hs x' acc' μ' (List.mem_cons_of_mem _ hx')) fun ys μ3 hl hi => ?_
    exact he (y :: ys) μ3 (by rw [List.length_cons, List.length_cons, hl]) (by rw [List.append_assoc] at hi; exact hi)
theorem xLc_map {im : Rho → Sto → Res (List D)} {t : NT} {m : Rho → Sto → Res D} {vs : List Nat} {ρ : Rho} {μ : Sto} {xs : List D} {f : D → D} (hi : im ρ μ = .ok xs μ) (hl : xs.length ≤ lim) (h : ∀ x ∈ xs, ∃ ρ1, ntM t x (wipeR ρ vs) = some ρ1 ∧ m ρ1 μ = .ok (f x) μ) : xLc im t ttYes m vs ρ μ = .ok (.lst (xs.map f)) μ := by
  unfold xLc
  rw [hi]
  simp only [Res.bind_ok, if_pos hl, lcL_map h]
theorem xLc_fil {im : Rho → Sto → Res (List D)} {t : NT} {tt : Rho → Sto → Res Bool} {m : Rho → Sto → Res D} {vs : List Nat} {ρ : Rho} {μ : Sto} {xs : List D} {p : D → Bool} {f : D → D} (hi : im ρ μ = .ok xs μ) (hl : xs.length ≤ lim) (h : ∀ x ∈ xs, ∃ ρ1, ntM t x (wipeR ρ vs) = some ρ1 ∧ tt ρ1 μ = .ok (p x) μ ∧ (p x = true → m ρ1 μ = .ok (f x) μ)) : xLc im t tt m vs ρ μ = .ok (.lst ((xs.filter p).map f)) μ := by
  unfold xLc
  rw [hi]
  simp only [Res.bind_ok, if_pos hl, lcL_fil h]

/-! ### the drawing cell -/
/-- at i stands the drawing cell, good for k draws more -/
def Case (μ : Sto) (i k : Nat) : Prop := ∃ a b c : Int, μ[i]? = some (.lst [.int a, .int b, .int c]) ∧ 0 ≤ a ∧ 0 ≤ b ∧ b ≤ 10 ^ 50 ∧ 0 ≤ c ∧ c + k ≤ 10 ^ 50
/-- from μ to μ' at most n draws were made at i; the other elder cells stand -/
structure Run (i n : Nat) (μ μ' : Sto) : Prop where
  len : μ.length ≤ μ'.length
  keep : ∀ j, j ≠ i → j < μ.length → μ'[j]? = μ[j]?
  case_ : ∀ k, Case μ i (n + k) → Case μ' i k
theorem Case.le {μ : Sto} {i k j : Nat} (h : Case μ i k) (hj : j ≤ k) : Case μ i j := by
  obtain ⟨a, b, c, h1, h2, h3, h4, h5, h6⟩ := h
  exact ⟨a, b, c, h1, h2, h3, h4, h5, by omega⟩
theorem Case.lt {μ : Sto} {i k : Nat} (h : Case μ i k) : i < μ.length := by
  obtain ⟨a, b, c, h1, _⟩ := h
  exact (List.getElem?_eq_some_iff.mp h1).1
theorem Run.refl (i : Nat) (μ : Sto) : Run i 0 μ μ := ⟨Nat.le_refl _, fun _ _ _ => rfl, fun k h => by rw [Nat.zero_add] at h; exact h⟩
theorem Run.trans {i n m : Nat} {μ μ1 μ2 : Sto} (h : Run i n μ μ1) (h2 : Run i m μ1 μ2) : Run i (n + m) μ μ2 := ⟨Nat.le_trans h.len h2.len, fun j hj hl => by rw [h2.keep j hj (Nat.lt_of_lt_of_le hl h.len), h.keep j hj hl], fun k hk => h2.case_ k (h.case_ (m + k) (by rw [Nat.add_assoc] at hk; exact hk))⟩
theorem Run.le {i n m : Nat} {μ μ1 : Sto} (h : Run i n μ μ1) (hn : n ≤ m) : Run i m μ μ1 := ⟨h.len, h.keep, fun k hk => h.case_ k (hk.le (by omega))⟩
theorem Run.c {i n j k : Nat} {μ μ1 : Sto} (h : Run i n μ μ1) (hc : Case μ i k) (hj : n + j ≤ k) : Case μ1 i j := h.case_ j (hc.le hj)
theorem Run.app {i : Nat} {μ : Sto} (hi : i < μ.length) (cs : List Cell) : Run i 0 μ (μ ++ cs) := ⟨by rw [List.length_append]; omega, fun j _ hl => List.getElem?_append_left hl, fun k h => by
  rw [Nat.zero_add] at h
  obtain ⟨a, b, c, h1, r⟩ := h
  exact ⟨a, b, c, by rw [List.getElem?_append_left hi]; exact h1, r⟩⟩
/-- a new cell is written -/
theorem Run.set {i n : Nat} {μ μ1 : Sto} (h : Run i n μ μ1) {j : Nat} {c : Cell} (hj : μ.length ≤ j) (hi : i < μ.length) : Run i n μ (μ1.set j c) := ⟨by rw [List.length_set]; exact h.len, fun k hk hl => by rw [List.getElem?_set_ne (by omega)]; exact h.keep k hk hl, fun k hk => by
  obtain ⟨a, b, c, h1, r⟩ := h.case_ k hk
  exact ⟨a, b, c, by rw [List.getElem?_set_ne (by omega)]; exact h1, r⟩⟩
theorem lg_le {x : Int} {k : Nat} (h : x.natAbs < 2 ^ k) : lg x ≤ k := by
  by_cases h0 : x.natAbs = 0
  · show x.natAbs.log2 ≤ k
    exact Nat.le_trans (Nat.log2_le_self _) (by omega)
  · exact Nat.le_of_lt ((Nat.log2_lt h0).mpr h)
/-- ints below 10^60 -/
theorem lg_60 {x : Int} (h1 : -(10 ^ 60) ≤ x) (h2 : x ≤ 10 ^ 60) : lg x ≤ 200 := by
  refine lg_le ?_
  have e : (2 : Nat) ^ 200 = 1606938044258990275541962092341162602522202993782792835301376 := by decide
  rw [e]; omega
theorem fin_wp {r : SRes} {Q : D → Sto → Prop} {X : Ex → Sto → Prop} : (fin r).wp Q X = r.wp { nx := fun _ μ => Q .non μ, rt := Q, ex := fun x _ μ => X x μ } := by cases r <;> rfl
theorem lstAt_of {μ : Sto} {i : Nat} {xs : List D} (h : μ[i]? = some (.lst xs)) : lstAt μ i = some xs := by unfold lstAt; rw [h]
theorem append_wp {mo me : Rho → Sto → Res D} {ρ : Rho} {μ : Sto} {L : Nat} {xs : List D} {S : WS} (hx : mo ρ μ = .ok (.ptr L) μ) (hL : μ[L]? = some (.lst xs)) (h : (me ρ μ).wp (fun d μ' => ∃ ys, μ'[L]? = some (.lst ys) ∧ ys.length < lim ∧ S.nx ρ (μ'.set L (.lst (ys ++ [d])))) (fun x μ => S.ex x ρ μ)) : (sAppend mo me ρ μ).wp S := by
  unfold sAppend
  rw [hx]
  simp only [sB_ok]
  have e : lstP μ (.ptr L) = some L := by unfold lstP; simp [hL]
  rw [e]
  show (sB (me ρ μ) ρ _).wp S
  rw [sw_sB]
  refine Res.wp_mono h fun d μ' ⟨ys, h1, h2, h3⟩ => ?_
  rw [lstAt_of h1]
  show (if ys.length < lim then SRes.nx ρ (μ'.set L (.lst (ys ++ [d]))) else .stuck).wp S
  rw [if_pos h2]; exact h3
theorem rdR1_nat {k : Int} (h0 : 0 ≤ k) (h : k ≤ 10 ^ 15) : rdR1 [.int k] = some (rngL 0 k.toNat) := by
  unfold rdR1 rngD1
  simp only []
  rw [if_pos ⟨by omega, by omega⟩]; rfl
theorem rngL_len (lo : Int) (n : Nat) : (rngL lo n).length = n := by simp [rngL]
theorem rngL_get {lo : Int} {n i : Nat} {x : D} (h : (rngL lo n)[i]? = some x) : x = .int (lo + i) ∧ i < n := by
  unfold rngL at h
  rw [List.getElem?_map] at h
  obtain ⟨j, h1, h2⟩ := Option.map_eq_some_iff.mp h
  have hl := (List.getElem?_eq_some_iff.mp h1).1
  rw [List.length_range] at hl
  rw [List.getElem?_range hl] at h1
  cases h1
  exact ⟨h2.symm, hl⟩
@[simp] theorem kne_bucket_meter : ((Str.ofString "bucket") = (Str.ofString "meter")) = False := by simp only [eq_iff_iff, iff_false]; decide +kernel
@[simp] theorem kne_bucket_window : ((Str.ofString "bucket") = (Str.ofString "window")) = False := by simp only [eq_iff_iff, iff_false]; decide +kernel
@[simp] theorem kne_bucket_frame : ((Str.ofString "bucket") = (Str.ofString "frame")) = False := by simp only [eq_iff_iff, iff_false]; decide +kernel
@[simp] theorem kne_bucket_gap : ((Str.ofString "bucket") = (Str.ofString "gap")) = False := by simp only [eq_iff_iff, iff_false]; decide +kernel
@[simp] theorem kne_meter_bucket : ((Str.ofString "meter") = (Str.ofString "bucket")) = False := by simp only [eq_iff_iff, iff_false]; decide +kernel
@[simp] theorem kne_meter_window : ((Str.ofString "meter") = (Str.ofString "window")) = False := by simp only [eq_iff_iff, iff_false]; decide +kernel
@[simp] theorem kne_meter_frame : ((Str.ofString "meter") = (Str.ofString "frame")) = False := by simp only [eq_iff_iff, iff_false]; decide +kernel
@[simp] theorem kne_meter_gap : ((Str.ofString "meter") = (Str.ofString "gap")) = False := by simp only [eq_iff_iff, iff_false]; decide +kernel
@[simp] theorem kne_window_bucket : ((Str.ofString "window") = (Str.ofString "bucket")) = False := by simp only [eq_iff_iff, iff_false]; decide +kernel
@[simp] theorem kne_window_meter : ((Str.ofString "window") = (Str.ofString "meter")) = False := by simp only [eq_iff_iff, iff_false]; decide +kernel
@[simp] theorem kne_window_frame : ((Str.ofString "window") = (Str.ofString "frame")) = False := by simp only [eq_iff_iff, iff_false]; decide +kernel
@[simp] theorem kne_window_gap : ((Str.ofString "window") = (Str.ofString "gap")) = False := by simp only [eq_iff_iff, iff_false]; decide +kernel
@[simp] theorem kne_frame_bucket : ((Str.ofString "frame") = (Str.ofString "bucket")) = False := by simp only [eq_iff_iff, iff_false]; decide +kernel
@[simp] theorem kne_frame_meter : ((Str.ofString "frame") = (Str.ofString "meter")) = False := by simp only [eq_iff_iff, iff_false]; decide +kernel
@[simp] theorem kne_frame_window : ((Str.ofString "frame") = (Str.ofString "window")) = False := by simp only [eq_iff_iff, iff_false]; decide +kernel
@[simp] theorem kne_frame_gap : ((Str.ofString "frame") = (Str.ofString "gap")) = False := by simp only [eq_iff_iff, iff_false]; decide +kernel
@[simp] theorem kne_gap_bucket : ((Str.ofString "gap") = (Str.ofString "bucket")) = False := by simp only [eq_iff_iff, iff_false]; decide +kernel
@[simp] theorem kne_gap_meter : ((Str.ofString "gap") = (Str.ofString "meter")) = False := by simp only [eq_iff_iff, iff_false]; decide +kernel
@[simp] theorem kne_gap_window : ((Str.ofString "gap") = (Str.ofString "window")) = False := by simp only [eq_iff_iff, iff_false]; decide +kernel
@[simp] theorem kne_gap_frame : ((Str.ofString "gap") = (Str.ofString "frame")) = False := by simp only [eq_iff_iff, iff_false]; decide +kernel
theorem rdR3_down {n : Nat} (h : n ≤ 10 ^ 15) : rdR3 [.int ((n : Int) - 1), .int (-1), .int (-1)] = some (rngDL ((n : Int) - 1) n) := by
  unfold rdR3 rngD3
  simp only []
  rw [if_pos ⟨trivial, by omega, by omega, by omega, by omega⟩]
  show some (rngDL _ _) = _
  congr 2
  omega
theorem rngDL_len (lo : Int) (n : Nat) : (rngDL lo n).length = n := by simp [rngDL]
theorem rngDL_get {lo : Int} {n i : Nat} {x : D} (h : (rngDL lo n)[i]? = some x) : x = .int (lo - i) ∧ i < n := by
  unfold rngDL at h
  rw [List.getElem?_map] at h
  obtain ⟨j, h1, h2⟩ := Option.map_eq_some_iff.mp h
  have hl := (List.getElem?_eq_some_iff.mp h1).1
  rw [List.length_range] at hl
  rw [List.getElem?_range hl] at h1
  cases h1
  exact ⟨by rw [← h2]; congr 1; omega, hl⟩
theorem cutD_to {xs : List D} {k : Nat} (h : k ≤ xs.length) : cutD xs none (some (k : Int)) = xs.take k := by
  unfold cutD
  rw [HT.sIx_nat, HT.sIx_none, Nat.min_eq_left h]; simp
theorem cutD_from {xs : List D} {k : Nat} (h : k ≤ xs.length) : cutD xs (some (k : Int)) none = xs.drop k := by
  unfold cutD
  rw [HT.sIx_nat, HT.sIx_none, Nat.min_eq_left h, List.take_of_length_le (by rw [List.length_drop]; omega)]
theorem plainDs_all {n : Nat} : ∀ {xs : List D}, (∀ x ∈ xs, plainD n x = true) → plainDs n xs = true
  | [], _ => by cases n <;> rfl
  | x :: xs, h => by
    have h1 := h x List.mem_cons_self
    have h2 := plainDs_all (n := n) fun y hy => h y (List.mem_cons_of_mem _ hy)
    show (plainD n x && plainDs n xs) = true
    rw [h1, h2]; rfl
theorem dNe_tup {xs ys : List D} {μ : Sto} (h1 : plainDs 63 xs = true) (h2 : plainDs 63 ys = true) : dNe (.tup xs) (.tup ys) μ = .ok (.bl (!deqAll xs ys)) μ := by
  unfold dNe eqD
  have e1 : plainD 64 (.tup xs) = true := h1
  have e2 : plainD 64 (.tup ys) = true := h2
  simp only [dscal, topD, e1, e2, Bool.and_self, if_true, deq]
theorem dEq_tup {xs ys : List D} {μ : Sto} (h1 : plainDs 63 xs = true) (h2 : plainDs 63 ys = true) : dEq (.tup xs) (.tup ys) μ = .ok (.bl (deqAll xs ys)) μ := by
  unfold dEq eqD
  have e1 : plainD 64 (.tup xs) = true := h1
  have e2 : plainD 64 (.tup ys) = true := h2
  simp only [dscal, topD, e1, e2, Bool.and_self, if_true, deq]
theorem dEq_lst {xs ys : List D} {μ : Sto} (h1 : plainDs 63 xs = true) (h2 : plainDs 63 ys = true) : dEq (.lst xs) (.lst ys) μ = .ok (.bl (deqAll xs ys)) μ := by
  unfold dEq eqD
  have e1 : plainD 64 (.lst xs) = true := h1
  have e2 : plainD 64 (.lst ys) = true := h2
  simp only [dscal, topD, e1, e2, Bool.and_self, if_true, deq]
theorem dNe_lst {xs ys : List D} {μ : Sto} (h1 : plainDs 63 xs = true) (h2 : plainDs 63 ys = true) : dNe (.lst xs) (.lst ys) μ = .ok (.bl (!deqAll xs ys)) μ := by
  unfold dNe eqD
  have e1 : plainD 64 (.lst xs) = true := h1
  have e2 : plainD 64 (.lst ys) = true := h2
  simp only [dscal, topD, e1, e2, Bool.and_self, if_true, deq]
@[simp] theorem deqAll_nil (xs : List D) : deqAll xs [] = xs.isEmpty := by cases xs <;> simp [deqAll]
theorem set_app {μ : Sto} {c d : Cell} : (μ ++ [c]).set μ.length d = μ ++ [d] := by
  rw [List.set_append_right _ _ (Nat.le_refl _), Nat.sub_self]; rfl
theorem get_app {μ : Sto} {c : Cell} : (μ ++ [c])[μ.length]? = some c := by simp
theorem cut {a b : SMir} {ρ : Rho} {μ : Sto} {S : WS} (P : Rho → Sto → Prop) (h1 : (a ρ μ).wp { S with nx := P }) (h2 : ∀ ρ μ, P ρ μ → (b ρ μ).wp S) : (sSeq a b ρ μ).wp S := by
  show ((a ρ μ).seq b).wp S
  rw [sw_seq]
  exact SRes.wp_mono h1 h2 (fun _ _ h => h) (fun _ _ h => h) (fun _ _ h => h) (fun _ _ _ h => h)
section
variable {own : List Str} {μ : Sto} {b : Bool} {i : Int} {s : Str} {xs : List D} {ns : List Int}
@[simp] theorem isi_non_int : isiD own μ .non "int" = some false := rfl
@[simp] theorem isi_non_bool : isiD own μ .non "bool" = some false := rfl
@[simp] theorem isi_non_str : isiD own μ .non "str" = some false := rfl
@[simp] theorem isi_non_tuple : isiD own μ .non "tuple" = some false := rfl
@[simp] theorem isi_non_list : isiD own μ .non "list" = some false := rfl
@[simp] theorem isi_bl_int : isiD own μ (.bl b) "int" = some true := rfl
@[simp] theorem isi_bl_bool : isiD own μ (.bl b) "bool" = some true := rfl
@[simp] theorem isi_bl_str : isiD own μ (.bl b) "str" = some false := rfl
@[simp] theorem isi_bl_tuple : isiD own μ (.bl b) "tuple" = some false := rfl
@[simp] theorem isi_bl_list : isiD own μ (.bl b) "list" = some false := rfl
@[simp] theorem isi_int_int : isiD own μ (.int i) "int" = some true := rfl
@[simp] theorem isi_int_bool : isiD own μ (.int i) "bool" = some false := rfl
@[simp] theorem isi_int_str : isiD own μ (.int i) "str" = some false := rfl
@[simp] theorem isi_int_tuple : isiD own μ (.int i) "tuple" = some false := rfl
@[simp] theorem isi_int_list : isiD own μ (.int i) "list" = some false := rfl
@[simp] theorem isi_str_int : isiD own μ (.str s) "int" = some false := rfl
@[simp] theorem isi_str_bool : isiD own μ (.str s) "bool" = some false := rfl
@[simp] theorem isi_str_str : isiD own μ (.str s) "str" = some true := rfl
@[simp] theorem isi_str_tuple : isiD own μ (.str s) "tuple" = some false := rfl
@[simp] theorem isi_str_list : isiD own μ (.str s) "list" = some false := rfl
@[simp] theorem isi_tup_int : isiD own μ (.tup xs) "int" = some false := rfl
@[simp] theorem isi_tup_bool : isiD own μ (.tup xs) "bool" = some false := rfl
@[simp] theorem isi_tup_str : isiD own μ (.tup xs) "str" = some false := rfl
@[simp] theorem isi_tup_tuple : isiD own μ (.tup xs) "tuple" = some true := rfl
@[simp] theorem isi_tup_list : isiD own μ (.tup xs) "list" = some false := rfl
@[simp] theorem isi_lst_int : isiD own μ (.lst xs) "int" = some false := rfl
@[simp] theorem isi_lst_bool : isiD own μ (.lst xs) "bool" = some false := rfl
@[simp] theorem isi_lst_str : isiD own μ (.lst xs) "str" = some false := rfl
@[simp] theorem isi_lst_tuple : isiD own μ (.lst xs) "tuple" = some false := rfl
@[simp] theorem isi_lst_list : isiD own μ (.lst xs) "list" = some true := rfl
@[simp] theorem isi_scr_int : isiD own μ (.scr ns) "int" = some false := rfl
@[simp] theorem isi_scr_bool : isiD own μ (.scr ns) "bool" = some false := rfl
@[simp] theorem isi_scr_str : isiD own μ (.scr ns) "str" = some false := rfl
@[simp] theorem isi_scr_tuple : isiD own μ (.scr ns) "tuple" = some false := rfl
@[simp] theorem isi_scr_list : isiD own μ (.scr ns) "list" = some true := rfl
@[simp] theorem e_isi {m : Rho → Sto → Res D} {ρ : Rho} {T : String} : xIsi own T m ρ μ = (m ρ μ).bind fun x μ1 => optB (isiD own μ1 x T) fun b => .ok (.bl b) μ1 := by
  unfold xIsi
  cases m ρ μ with
  | ok x μ1 => simp only [Res.bind_ok]; cases isiD own μ1 x T <;> rfl
  | _ => rfl
@[simp] theorem e_isi2 {m : Rho → Sto → Res D} {ρ : Rho} {T U : String} : xIsi2 own T U m ρ μ = (m ρ μ).bind fun x μ1 => optB (isiD own μ1 x T) fun b => optB (isiD own μ1 x U) fun b' => .ok (.bl (b || b')) μ1 := by
  unfold xIsi2
  cases m ρ μ with
  | ok x μ1 => simp only [Res.bind_ok]; cases isiD own μ1 x T with
    | none => rfl
    | some b => cases isiD own μ1 x U <;> rfl
  | _ => rfl
theorem dAll_bls (bs : List Bool) : dAll [.lst (bs.map D.bl)] μ = .ok (.bl (bs.all id)) μ := by
  have e : rdBls μ (.lst (bs.map D.bl)) = some bs := blsD_map bs
  show (match rdBls μ (.lst (bs.map D.bl)) with
    | some ns => Res.ok (D.bl (ns.all id)) μ
    | none => .stuck) = _
  rw [e]
theorem dAny_bls (bs : List Bool) : dAny [.lst (bs.map D.bl)] μ = .ok (.bl (bs.any id)) μ := by
  have e : rdBls μ (.lst (bs.map D.bl)) = some bs := blsD_map bs
  show (match rdBls μ (.lst (bs.map D.bl)) with
    | some ns => Res.ok (D.bl (ns.any id)) μ
    | none => .stuck) = _
  rw [e]
theorem dAll_true {α : Type} (xs : List α) : dAll [.lst (xs.map fun _ => D.bl true)] μ = .ok (.bl true) μ := by
  have e : (xs.map fun _ => D.bl true) = (List.replicate xs.length true).map D.bl := by
    rw [List.map_replicate]
    apply List.ext_getElem <;> simp
  rw [e, dAll_bls]; simp
end
theorem forP_wp {m : Rho → Sto → Res D} {g : GMir} {b : SMir} {ρ : Rho} {μ : Sto} {L : Nat} {xs : List D} {S : WS} (hm : m ρ μ = .ok (.ptr L) μ) (hL : μ[L]? = some (.lst xs)) (h : (forLP L xs g b xs ρ μ).wp S) : (sForP m g b ρ μ).wp S := by
  unfold sForP
  rw [hm]
  simp only [sB_ok]
  rw [lstAt_of hL]; exact h
theorem lg_lt {x : Int} {k : Nat} (h1 : -(10 ^ 60) ≤ x) (h2 : x ≤ 10 ^ 60) (hk : 200 < k) : lg x < k := Nat.lt_of_le_of_lt (lg_60 h1 h2) hk
theorem lg_2 {x y : Int} (h1 : -(10 ^ 60) ≤ x) (h2 : x ≤ 10 ^ 60) (h3 : -(10 ^ 60) ≤ y) (h4 : y ≤ 10 ^ 60) : lg x + lg y < 1000000 := by
  have := lg_60 h1 h2
  have := lg_60 h3 h4
  omega
theorem atI_ge {α : Type} {xs : List α} {i : Nat} (h : i < xs.length) : atI xs (i : Int) = some xs[i] := by
  rw [atI_nn (by omega)]
  simp [h]
end FL
end S_FP
section S_A
set_option Elab.async false
set_option linter.all false
set_option maxRecDepth 100000
set_option maxHeartbeats 0
namespace Lk44
open PySem PySem.Spec PyProof.Rows L2 FL
def top (i : Nat) : Stmt := PySem.Challenge.pw_limiterheard_k44_heard_put_together.main.body.getD i (.Pass ⟨0, 0, 0, 0⟩)
def inCls (s : Stmt) (j : Nat) : Stmt := match s with
  | .ClassDef _ _ _ b _ _ _ _ _ _ _ => b.getD j (.Pass ⟨0, 0, 0, 0⟩)
  | s => s
def d__law_case : He.DefD := ⟨("_law_case", none), "_law_case", "_law_case", defArgs (top 111), defBody (top 111), defScope (top 111), [], []⟩
def d__law_take : He.DefD := ⟨("_law_take", none), "_law_take", "_law_take", defArgs (top 112), defBody (top 112), defScope (top 112), [], []⟩
def d__law_kinds : He.DefD := ⟨("_law_kinds", none), "_law_kinds", "_law_kinds", defArgs (top 122), defBody (top 122), defScope (top 122), [], []⟩
def d__law_common : He.DefD := ⟨("_law_common", none), "_law_common", "_law_common", defArgs (top 114), defBody (top 114), defScope (top 114), [], []⟩
def d__law_lowest : He.DefD := ⟨("_law_lowest", none), "_law_lowest", "_law_lowest", defArgs (top 115), defBody (top 115), defScope (top 115), [], []⟩
def d__law_fraction : He.DefD := ⟨("_law_fraction", none), "_law_fraction", "_law_fraction", defArgs (top 116), defBody (top 116), defScope (top 116), [], []⟩
def d__law_rule : He.DefD := ⟨("_law_rule", none), "_law_rule", "_law_rule", defArgs (top 117), defBody (top 117), defScope (top 117), [], []⟩
def d__law_is_enough : He.DefD := ⟨("_law_is_enough", none), "_law_is_enough", "_law_is_enough", defArgs (top 119), defBody (top 119), defScope (top 119), [], []⟩
def d__law_passes : He.DefD := ⟨("_law_passes", none), "_law_passes", "_law_passes", defArgs (top 120), defBody (top 120), defScope (top 120), [], []⟩
def d__law_heard : He.DefD := ⟨("_law_heard", none), "_law_heard", "_law_heard", defArgs (top 121), defBody (top 121), defScope (top 121), [], []⟩
def d__law_requests : He.DefD := ⟨("_law_requests", none), "_law_requests", "_law_requests", defArgs (top 118), defBody (top 118), defScope (top 118), [], []⟩
def d__law_spoken : He.DefD := ⟨("_law_spoken", none), "_law_spoken", "_law_spoken", defArgs (top 123), defBody (top 123), defScope (top 123), [], []⟩
def d_is_integer : He.DefD := ⟨("is_integer", none), "is_integer", "is_integer", defArgs (top 23), defBody (top 23), defScope (top 23), [], []⟩
def d_is_at_least : He.DefD := ⟨("is_at_least", none), "is_at_least", "is_at_least", defArgs (top 24), defBody (top 24), defScope (top 24), [], []⟩
def d_is_request : He.DefD := ⟨("is_request", none), "is_request", "is_request", defArgs (top 28), defBody (top 28), defScope (top 28), [], []⟩
def d_is_entry : He.DefD := ⟨("is_entry", none), "is_entry", "is_entry", defArgs (top 29), defBody (top 29), defScope (top 29), [], []⟩
def d_last_time : He.DefD := ⟨("last_time", none), "last_time", "last_time", defArgs (top 36), defBody (top 36), defScope (top 36), [], []⟩
def d_check_kind : He.DefD := ⟨("check_kind", none), "check_kind", "check_kind", defArgs (top 35), defBody (top 35), defScope (top 35), [], []⟩
def d_is_rising : He.DefD := ⟨("is_rising", none), "is_rising", "is_rising", defArgs (top 30), defBody (top 30), defScope (top 30), [], []⟩
def d_is_log : He.DefD := ⟨("is_log", none), "is_log", "is_log", defArgs (top 31), defBody (top 31), defScope (top 31), [], []⟩
def d_check_log : He.DefD := ⟨("check_log", none), "check_log", "check_log", defArgs (top 33), defBody (top 33), defScope (top 33), [], []⟩
def d_Heard___init__ : He.DefD := ⟨("Heard", some "__init__"), "__init__", "Heard.__init__", defArgs (inCls (top 109) 0), defBody (inCls (top 109) 0), defScope (inCls (top 109) 0), [], []⟩
def d_Heard___add__ : He.DefD := ⟨("Heard", some "__add__"), "__add__", "Heard.__add__", defArgs (inCls (top 109) 8), defBody (inCls (top 109) 8), defScope (inCls (top 109) 8), [], []⟩
def d__law_six_logs : He.DefD := ⟨("_law_six_logs", none), "_law_six_logs", "_law_six_logs", defArgs (top 124), defBody (top 124), defScope (top 124), [], []⟩
def d_Heard___sub__ : He.DefD := ⟨("Heard", some "__sub__"), "__sub__", "Heard.__sub__", defArgs (inCls (top 109) 9), defBody (inCls (top 109) 9), defScope (inCls (top 109) 9), [], []⟩
def d__law_many : He.DefD := ⟨("_law_many", none), "_law_many", "_law_many", defArgs (top 125), defBody (top 125), defScope (top 125), [], []⟩
def d_Heard___and__ : He.DefD := ⟨("Heard", some "__and__"), "__and__", "Heard.__and__", defArgs (inCls (top 109) 10), defBody (inCls (top 109) 10), defScope (inCls (top 109) 10), [], []⟩
def d_Heard___invert__ : He.DefD := ⟨("Heard", some "__invert__"), "__invert__", "Heard.__invert__", defArgs (inCls (top 109) 11), defBody (inCls (top 109) 11), defScope (inCls (top 109) 11), [], []⟩
def d__law_step : He.DefD := ⟨("_law_step", none), "_law_step", "_law_step", defArgs (top 127), defBody (top 127), defScope (top 127), [], []⟩
def d__law_same : He.DefD := ⟨("_law_same", none), "_law_same", "_law_same", defArgs (top 113), defBody (top 113), defScope (top 113), [], []⟩
def d_Heard___len__ : He.DefD := ⟨("Heard", some "__len__"), "__len__", "Heard.__len__", defArgs (inCls (top 109) 3), defBody (inCls (top 109) 3), defScope (inCls (top 109) 3), [], []⟩
def d_Heard_logs : He.DefD := ⟨("Heard", some "logs"), "logs", "Heard.logs", defArgs (inCls (top 109) 2), defBody (inCls (top 109) 2), defScope (inCls (top 109) 2), [], []⟩
def d_Heard_kind : He.DefD := ⟨("Heard", some "kind"), "kind", "Heard.kind", defArgs (inCls (top 109) 1), defBody (inCls (top 109) 1), defScope (inCls (top 109) 1), [], []⟩
def d__law_shown : He.DefD := ⟨("_law_shown", none), "_law_shown", "_law_shown", defArgs (top 126), defBody (top 126), defScope (top 126), [], []⟩
def d_law : He.DefD := ⟨("law", none), "law", "law", defArgs (top 128), defBody (top 128), defScope (top 128), [], []⟩
def fa : List He.Fa := [.free "len", .free "int", .free "max", .free "abs", .glo "_law_case", .glo "_law_take", .glo "_law_kinds", .free "range", .free "min", .glo "_law_common", .glo "_law_lowest", .glo "_law_fraction", .glo "_law_rule", .glo "_law_is_enough", .glo "_law_passes", .free "tuple", .glo "_law_heard", .glo "_law_requests", .glo "_law_spoken", .free "isinstance", .free "bool", .glo "is_integer", .glo "is_at_least", .glo "is_request", .glo "is_entry", .exc "InvalidEntry", .glo "InvalidEntry", .cls "Heard", .noat "Heard" "heard_logs", .glo "last_time", .exc "TooEarly", .glo "TooEarly", .free "str", .exc "InvalidKind", .glo "InvalidKind", .glo "check_kind", .glo "KINDS", .free "all", .free "zip", .glo "is_rising", .glo "is_log", .exc "InvalidLog", .glo "InvalidLog", .glo "check_log", .noat "Heard" "heard_kind", .glo "Heard", .mkr "Heard", .glo "_law_six_logs", .exc "InvalidNumber", .glo "InvalidNumber", .free "sum", .glo "_law_many", .exc "NotHeard", .glo "NotHeard", .exc "OtherKind", .glo "OtherKind", .glo "_law_step", .free "list", .glo "_law_same", .glo "_law_shown", .glo "law"]
def fn : List He.DefD := [d__law_case, d__law_take, d__law_kinds, d__law_common, d__law_lowest, d__law_fraction, d__law_rule, d__law_is_enough, d__law_passes, d__law_heard, d__law_requests, d__law_spoken, d_is_integer, d_is_at_least, d_is_request, d_is_entry, d_last_time, d_check_kind, d_is_rising, d_is_log, d_check_log, d_Heard___init__, d_Heard___add__, d__law_six_logs, d_Heard___sub__, d__law_many, d_Heard___and__, d_Heard___invert__, d__law_step, d__law_same, d_Heard___len__, d__law_shown, d_law]
def px : List PxD := [("Heard", "logs", d_Heard_logs), ("Heard", "kind", d_Heard_kind)]
def exL : List (PySem.W.Frag → Bool) := [fun K => He.tupB K "KINDS" [.str "bucket", .str "meter", .str "window", .str "frame", .str "gap"], fun K => opB K "Heard" "add", fun K => opTyB K "Heard" "add" "tuple", fun K => opB K "Heard" "sub", fun K => opTyB K "Heard" "sub" "int", fun K => isoB K ["Heard"] "Heard", fun K => opB K "Heard" "and", fun K => atB K "Heard" "__invert__", fun K => atB K "Heard" "__len__", fun K => insB K "Heard"]
def ex (K : PySem.W.Frag) : Bool := exL.all fun f => f K
abbrev KN (K : PySem.W.Frag) (mg : Str → Option Value) : Prop := Kn fa fn px ex K mg
section
variable {P : Program} {w : World} {K : PySem.W.Frag} {mg : Str → Option Value} {base : Heap}
theorem exq (k : KN K mg) (i : Nat) {f : PySem.W.Frag → Bool} (h : exL[i]? = some f) : f K = true := List.all_eq_true.mp k.s.x f (List.mem_of_getElem? h)
theorem kpi (k : KN K mg) (i : Nat) {d : He.DefD} (h : fn[i]? = some d) : PySem.W.keepIn K (.ref (He.fAd K d.at_)) = true := (k.def_ i h).elim fun _ F => F.kp
def ownL : List Str := ["Heard"]
theorem ownT (k : KN K mg) : ∀ C ∈ ownL, InsTy K C := by
  intro C hC
  simp only [ownL, List.mem_cons, List.not_mem_nil, or_false] at hC
  subst hC
  exact insB_ok (k.cls 27) (exq k 9 rfl)
abbrev N__law_case : List Str := ["_law_script", "_law_at", "_law_cell"]
theorem sc__law_case : FnScope N__law_case ["_law_script", "_law_at"] d__law_case.scope := ⟨rfl, rfl, rfl, by decide +kernel, rfl, by decide +kernel, by decide +kernel⟩
noncomputable def b__law_case : SMir := (sSeq (sSet 2 (xIf (tB1 (xOp dLt (xVar 1) (xCall dLen (aCons (xVar 0) aNil)))) (xOp dIx (xVar 0) (xVar 1)) (xC (.int 0)))) (sRet (xLstM (aCons (xCall dMax (aCons (xC (.int 0)) (aCons (xOp dSub (xCall dAbs (aCons (xVar 2) aNil)) (xOp dPow (xC (.int 10)) (xC (.int 18)))) aNil))) (aCons (xOp dAdd (xOp dAdd (xOp dMul (xOp dMod (xCall dInt (aCons (xVar 2) aNil)) (xOp dAdd (xOp dPow (xC (.int 10)) (xC (.int 38))) (xC (.int 133)))) (xC (.int 97))) (xOp dMul (xC (.int 67)) (xVar 1))) (xC (.int 41))) (aCons (xC (.int 0)) aNil))))))
noncomputable def m__law_case : FMir := appN 2 [] (mDef 3 b__law_case)
theorem bm__law_case (k : KN K mg) (cdv : Value) (A : Around) (outer : List Env) (s : Shared) (H : Hp) (E : XK) (hr : Room 0 (A.deeper (envOfC d__law_case.qual d__law_case.scope s.heap.objs.size (cad K "_law_case") cdv))) : BM (cxM P w K mg base N__law_case d__law_case.qual d__law_case.scope (cad K "_law_case") cdv A outer s H E) (wE E) d__law_case.body b__law_case := by
  exact (bm_cons (sm_set sc__law_case.nd (em_if (tm_cmp op_lt om_lt em_var (em_callB call_lenA cm_len rfl (k.free 0) (by decide +kernel) (am_cons em_var am_nil)) rfl) (em_ix em_var em_var) em_int)) (bm_one (sm_ret (em_lstM (am_cons (em_callB (call_maxA rfl) cm_max rfl (k.free 2) (by decide +kernel) (am_cons em_int (am_cons (em_op op_sub om_sub (em_callB call_abs cm_abs rfl (k.free 3) (by decide +kernel) (am_cons em_var am_nil)) (em_op op_powW om_pow em_int em_int)) am_nil))) (am_cons (em_op op_addA om_add (em_op op_addA om_add (em_op op_mulW om_mul (em_op op_mod om_mod (em_callTy call_int1 cm_int rfl (k.free 1) (by decide +kernel) (am_cons em_var am_nil)) (em_op op_addA om_add (em_op op_powW om_pow em_int em_int) em_int)) em_int) (em_op op_mulW om_mul em_int em_var)) em_int) (am_cons em_int am_nil)))))))
theorem ok__law_case (k : KN K mg) : FR P w K mg base 1 (cad K "_law_case") m__law_case := by
  obtain ⟨fd, F⟩ := k.def_ 0 (d := d__law_case)
  exact fr_of (fm_ok (N := N__law_case) F sc__law_case (bm__law_case k)) (FunD.bindsN F fun _ _ _ _ _ _ us hl => match us, hl with | [_, _], _ => rfl)
abbrev N__law_take : List Str := ["_law_case_here", "_law_below", "_law_blend", "_law_digit"]
theorem sc__law_take : FnScope N__law_take ["_law_case_here", "_law_below"] d__law_take.scope := ⟨rfl, rfl, rfl, by decide +kernel, rfl, by decide +kernel, by decide +kernel⟩
noncomputable def b__law_take : SMir := (sSeq (sIf (tB1 (xOp dGt (xOp dIx (xVar 0) (xC (.int 0))) (xC (.int 0)))) (sSeq (sSet 3 (xOp dMod (xCall dInt (aCons (xOp dIx (xVar 0) (xC (.int 0))) aNil)) (xVar 1))) (sSeq (sAsg (xOp dDiv (xOp dIx (xVar 0) (xC (.int 0))) (xVar 1)) (gSubM (xVar 0) (xC (.int 0)))) (sRet (xVar 3)))) sNext) (sSeq (sAsg (xOp dAdd (xOp dIx (xVar 0) (xC (.int 2))) (xC (.int 1))) (gSubM (xVar 0) (xC (.int 2)))) (sSeq (sSet 2 (xOp dMod (xOp dPow (xCall dInt (aCons (xOp dAdd (xOp dIx (xVar 0) (xC (.int 1))) (xOp dMul (xC (.int 80021)) (xOp dIx (xVar 0) (xC (.int 2))))) aNil)) (xC (.int 2))) (xOp dAdd (xOp dPow (xC (.int 10)) (xC (.int 39))) (xC (.int 187))))) (sSeq (sSet 2 (xOp dMod (xOp dPow (xCall dInt (aCons (xOp dAdd (xVar 2) (xOp dMul (xC (.int 1700021)) (xOp dIx (xVar 0) (xC (.int 2))))) aNil)) (xC (.int 3))) (xOp dAdd (xOp dPow (xC (.int 10)) (xC (.int 37))) (xC (.int 139))))) (sRet (xOp dMod (xOp dDiv (xVar 2) (xC (.int 16384))) (xVar 1)))))))
noncomputable def m__law_take : FMir := appN 2 [] (mDef 4 b__law_take)
theorem bm__law_take (k : KN K mg) (cdv : Value) (A : Around) (outer : List Env) (s : Shared) (H : Hp) (E : XK) (hr : Room 0 (A.deeper (envOfC d__law_take.qual d__law_take.scope s.heap.objs.size (cad K "_law_take") cdv))) : BM (cxM P w K mg base N__law_take d__law_take.qual d__law_take.scope (cad K "_law_take") cdv A outer s H E) (wE E) d__law_take.body b__law_take := by
  exact (bm_cons (sm_if (tm_cmp op_gt om_gt (em_ix em_var em_int) em_int rfl) (bm_cons (sm_set sc__law_take.nd (em_op op_mod om_mod (em_callTy call_int1 cm_int rfl (k.free 1) (by decide +kernel) (am_cons (em_ix em_var em_int) am_nil)) em_var)) (bm_cons (sm_asg (em_op op_fdivW om_div (em_ix em_var em_int) em_var) (gm_sub em_var em_int) gok_sub) (bm_one (sm_ret em_var)))) bm_nil) (bm_cons (sm_asg (em_op op_addA om_add (em_ix em_var em_int) em_int) (gm_sub em_var em_int) gok_sub) (bm_cons (sm_set sc__law_take.nd (em_op op_mod om_mod (em_op op_powW om_pow (em_callTy call_int1 cm_int rfl (k.free 1) (by decide +kernel) (am_cons (em_op op_addA om_add (em_ix em_var em_int) (em_op op_mulW om_mul em_int (em_ix em_var em_int))) am_nil)) em_int) (em_op op_addA om_add (em_op op_powW om_pow em_int em_int) em_int))) (bm_cons (sm_set sc__law_take.nd (em_op op_mod om_mod (em_op op_powW om_pow (em_callTy call_int1 cm_int rfl (k.free 1) (by decide +kernel) (am_cons (em_op op_addA om_add em_var (em_op op_mulW om_mul em_int (em_ix em_var em_int))) am_nil)) em_int) (em_op op_addA om_add (em_op op_powW om_pow em_int em_int) em_int))) (bm_one (sm_ret (em_op op_mod om_mod (em_op op_fdivW om_div em_var em_int) em_var)))))))
theorem ok__law_take (k : KN K mg) : FR P w K mg base 1 (cad K "_law_take") m__law_take := by
  obtain ⟨fd, F⟩ := k.def_ 1 (d := d__law_take)
  exact fr_of (fm_ok (N := N__law_take) F sc__law_take (bm__law_take k)) (FunD.bindsN F fun _ _ _ _ _ _ us hl => match us, hl with | [_, _], _ => rfl)
abbrev N__law_kinds : List Str := ["_law_case_here"]
theorem sc__law_kinds : FnScope N__law_kinds ["_law_case_here"] d__law_kinds.scope := ⟨rfl, rfl, rfl, by decide +kernel, rfl, by decide +kernel, by decide +kernel⟩
noncomputable def b__law_kinds : SMir := (sRet (xOp dIx (xLst (aCons (xC (.str "bucket")) (aCons (xC (.str "meter")) (aCons (xC (.str "window")) (aCons (xC (.str "frame")) (aCons (xC (.str "gap")) aNil)))))) (xFn m__law_take (aCons (xVar 0) (aCons (xC (.int 5)) aNil)))))
noncomputable def m__law_kinds : FMir := appN 1 [] (mDef 1 b__law_kinds)
theorem bm__law_kinds (k : KN K mg) (cdv : Value) (A : Around) (outer : List Env) (s : Shared) (H : Hp) (E : XK) (hr : Room 1 (A.deeper (envOfC d__law_kinds.qual d__law_kinds.scope s.heap.objs.size (cad K "_law_kinds") cdv))) : BM (cxM P w K mg base N__law_kinds d__law_kinds.qual d__law_kinds.scope (cad K "_law_kinds") cdv A outer s H E) (wE E) d__law_kinds.body b__law_kinds := by
  exact (bm_one (sm_ret (em_ix (em_lst (am_cons em_str (am_cons em_str (am_cons em_str (am_cons em_str (am_cons em_str am_nil)))))) (em_call ((ok__law_take k).callF (hr.mono (by decide)) cx_takes) (k.glo 5) (kpi k 1 (d := d__law_take) rfl) (am_cons em_var (am_cons em_int am_nil))))))
theorem ok__law_kinds (k : KN K mg) : FR P w K mg base 2 (cad K "_law_kinds") m__law_kinds := by
  obtain ⟨fd, F⟩ := k.def_ 2 (d := d__law_kinds)
  exact fr_of (fm_ok (N := N__law_kinds) F sc__law_kinds (bm__law_kinds k)) (FunD.bindsN F fun _ _ _ _ _ _ us hl => match us, hl with | [_], _ => rfl)
abbrev N__law_common : List Str := ["_law_first", "_law_second"]
theorem sc__law_common : FnScope N__law_common ["_law_first", "_law_second"] d__law_common.scope := ⟨rfl, rfl, rfl, by decide +kernel, rfl, by decide +kernel, by decide +kernel⟩
noncomputable def w__law_common_1 : Rho → Sto → Res Bool := (tB1 (xOp dNe (xVar 1) (xC (.int 0))))
noncomputable def b__law_common_2 : SMir := (sPar2 0 1 (aCons (xVar 1) (aCons (xOp dMod (xCall dInt (aCons (xVar 0) aNil)) (xVar 1)) aNil)))
noncomputable def b__law_common : SMir := (sSeq (sWhile w__law_common_1 b__law_common_2) (sRet (xVar 0)))
noncomputable def m__law_common : FMir := appN 2 [] (mDef 2 b__law_common)
theorem bm__law_common (k : KN K mg) (cdv : Value) (A : Around) (outer : List Env) (s : Shared) (H : Hp) (E : XK) (hr : Room 0 (A.deeper (envOfC d__law_common.qual d__law_common.scope s.heap.objs.size (cad K "_law_common") cdv))) : BM (cxM P w K mg base N__law_common d__law_common.qual d__law_common.scope (cad K "_law_common") cdv A outer s H E) (wE E) d__law_common.body b__law_common := by
  have hu : (A.deeper (envOfC d__law_common.qual d__law_common.scope s.heap.objs.size (cad K "_law_common") cdv)).units + 64 < cLine := hr.units
  exact (bm_cons (sm_while cx_pass (tm_cmp (op_neA hu) om_ne em_var em_int rfl) (bm_one (sm_par2 rfl sc__law_common.nd (am_cons em_var (am_cons (em_op op_mod om_mod (em_callTy call_int1 cm_int rfl (k.free 1) (by decide +kernel) (am_cons em_var am_nil)) em_var) am_nil))))) (bm_one (sm_ret em_var)))
theorem ok__law_common (k : KN K mg) : FR P w K mg base 1 (cad K "_law_common") m__law_common := by
  obtain ⟨fd, F⟩ := k.def_ 3 (d := d__law_common)
  exact fr_of (fm_ok (N := N__law_common) F sc__law_common (bm__law_common k)) (FunD.bindsN F fun _ _ _ _ _ _ us hl => match us, hl with | [_, _], _ => rfl)
abbrev N__law_lowest : List Str := ["_law_top", "_law_bottom", "_law_part"]
theorem sc__law_lowest : FnScope N__law_lowest ["_law_top", "_law_bottom"] d__law_lowest.scope := ⟨rfl, rfl, rfl, by decide +kernel, rfl, by decide +kernel, by decide +kernel⟩
noncomputable def b__law_lowest : SMir := (sSeq (sSet 2 (xFn m__law_common (aCons (xCall dAbs (aCons (xVar 0) aNil)) (aCons (xVar 1) aNil)))) (sRet (xTup (aCons (xOp dDiv (xVar 0) (xVar 2)) (aCons (xOp dDiv (xVar 1) (xVar 2)) aNil)))))
noncomputable def m__law_lowest : FMir := appN 2 [] (mDef 3 b__law_lowest)
theorem bm__law_lowest (k : KN K mg) (cdv : Value) (A : Around) (outer : List Env) (s : Shared) (H : Hp) (E : XK) (hr : Room 1 (A.deeper (envOfC d__law_lowest.qual d__law_lowest.scope s.heap.objs.size (cad K "_law_lowest") cdv))) : BM (cxM P w K mg base N__law_lowest d__law_lowest.qual d__law_lowest.scope (cad K "_law_lowest") cdv A outer s H E) (wE E) d__law_lowest.body b__law_lowest := by
  exact (bm_cons (sm_set sc__law_lowest.nd (em_call ((ok__law_common k).callF (hr.mono (by decide)) cx_takes) (k.glo 9) (kpi k 3 (d := d__law_common) rfl) (am_cons (em_callB call_abs cm_abs rfl (k.free 3) (by decide +kernel) (am_cons em_var am_nil)) (am_cons em_var am_nil)))) (bm_one (sm_ret (em_tup (am_cons (em_op op_fdivW om_div em_var em_var) (am_cons (em_op op_fdivW om_div em_var em_var) am_nil))))))
theorem ok__law_lowest (k : KN K mg) : FR P w K mg base 2 (cad K "_law_lowest") m__law_lowest := by
  obtain ⟨fd, F⟩ := k.def_ 4 (d := d__law_lowest)
  exact fr_of (fm_ok (N := N__law_lowest) F sc__law_lowest (bm__law_lowest k)) (FunD.bindsN F fun _ _ _ _ _ _ us hl => match us, hl with | [_, _], _ => rfl)
abbrev N__law_fraction : List Str := ["_law_case_here", "_law_great", "_law_bottom"]
theorem sc__law_fraction : FnScope N__law_fraction ["_law_case_here", "_law_great"] d__law_fraction.scope := ⟨rfl, rfl, rfl, by decide +kernel, rfl, by decide +kernel, by decide +kernel⟩
noncomputable def b__law_fraction : SMir := (sSeq (sSet 2 (xOp dIx (xLst (aCons (xC (.int 1)) (aCons (xC (.int 1)) (aCons (xC (.int 2)) (aCons (xOp dAdd (xC (.int 1)) (xFn m__law_take (aCons (xVar 0) (aCons (xC (.int 9)) aNil)))) (aCons (xOp dAdd (xC (.int 1)) (xFn m__law_take (aCons (xVar 0) (aCons (xOp dPow (xC (.int 10)) (xC (.int 6))) aNil)))) aNil)))))) (xFn m__law_take (aCons (xVar 0) (aCons (xC (.int 5)) aNil))))) (sRet (xFn m__law_lowest (aCons (xFn m__law_take (aCons (xVar 0) (aCons (xOp dAdd (xCall dMin (aCons (xOp dMul (xVar 1) (xVar 2)) (aCons (xOp dPow (xC (.int 10)) (xC (.int 6))) aNil))) (xC (.int 1))) aNil))) (aCons (xVar 2) aNil)))))
noncomputable def m__law_fraction : FMir := appN 2 [] (mDef 3 b__law_fraction)
theorem bm__law_fraction (k : KN K mg) (cdv : Value) (A : Around) (outer : List Env) (s : Shared) (H : Hp) (E : XK) (hr : Room 2 (A.deeper (envOfC d__law_fraction.qual d__law_fraction.scope s.heap.objs.size (cad K "_law_fraction") cdv))) : BM (cxM P w K mg base N__law_fraction d__law_fraction.qual d__law_fraction.scope (cad K "_law_fraction") cdv A outer s H E) (wE E) d__law_fraction.body b__law_fraction := by
  exact (bm_cons (sm_set sc__law_fraction.nd (em_ix (em_lst (am_cons em_int (am_cons em_int (am_cons em_int (am_cons (em_op op_addA om_add em_int (em_call ((ok__law_take k).callF (hr.mono (by decide)) cx_takes) (k.glo 5) (kpi k 1 (d := d__law_take) rfl) (am_cons em_var (am_cons em_int am_nil)))) (am_cons (em_op op_addA om_add em_int (em_call ((ok__law_take k).callF (hr.mono (by decide)) cx_takes) (k.glo 5) (kpi k 1 (d := d__law_take) rfl) (am_cons em_var (am_cons (em_op op_powW om_pow em_int em_int) am_nil)))) am_nil)))))) (em_call ((ok__law_take k).callF (hr.mono (by decide)) cx_takes) (k.glo 5) (kpi k 1 (d := d__law_take) rfl) (am_cons em_var (am_cons em_int am_nil))))) (bm_one (sm_ret (em_call ((ok__law_lowest k).callF (hr.mono (by decide)) cx_takes) (k.glo 10) (kpi k 4 (d := d__law_lowest) rfl) (am_cons (em_call ((ok__law_take k).callF (hr.mono (by decide)) cx_takes) (k.glo 5) (kpi k 1 (d := d__law_take) rfl) (am_cons em_var (am_cons (em_op op_addA om_add (em_callB (call_minA rfl) cm_min rfl (k.free 8) (by decide +kernel) (am_cons (em_op op_mulW om_mul em_var em_var) (am_cons (em_op op_powW om_pow em_int em_int) am_nil))) em_int) am_nil))) (am_cons em_var am_nil))))))
theorem ok__law_fraction (k : KN K mg) : FR P w K mg base 3 (cad K "_law_fraction") m__law_fraction := by
  obtain ⟨fd, F⟩ := k.def_ 5 (d := d__law_fraction)
  exact fr_of (fm_ok (N := N__law_fraction) F sc__law_fraction (bm__law_fraction k)) (FunD.bindsN F fun _ _ _ _ _ _ us hl => match us, hl with | [_, _], _ => rfl)
abbrev N__law_rule : List Str := ["_law_case_here", "_law_kind_here", "_law_great", "_law_wide", "_law_gain_here"]
theorem sc__law_rule : FnScope N__law_rule ["_law_case_here", "_law_kind_here", "_law_great"] d__law_rule.scope := ⟨rfl, rfl, rfl, by decide +kernel, rfl, by decide +kernel, by decide +kernel⟩
noncomputable def b__law_rule : SMir := (sSeq (sIf (tmOr (tB1 (xOp dEq (xVar 1) (xC (.str "bucket")))) (tB1 (xOp dEq (xVar 1) (xC (.str "meter"))))) (sSeq (sSet 4 (xFn m__law_fraction (aCons (xVar 0) (aCons (xOp dIx (xLst (aCons (xC (.int 1)) (aCons (xC (.int 3)) (aCons (xVar 2) aNil)))) (xFn m__law_take (aCons (xVar 0) (aCons (xC (.int 3)) aNil)))) aNil)))) (sRet (xTup (aCons (xVar 1) (aCons (xFn m__law_fraction (aCons (xVar 0) (aCons (xVar 2) aNil))) (aCons (xVar 4) aNil)))))) sNext) (sSeq (sIf (tB1 (xOp dEq (xVar 1) (xC (.str "gap")))) (sRet (xTup (aCons (xVar 1) (aCons (xOp dIx (xLst (aCons (xC (.int 0)) (aCons (xFn m__law_take (aCons (xVar 0) (aCons (xC (.int 9)) aNil))) (aCons (xFn m__law_take (aCons (xVar 0) (aCons (xOp dAdd (xVar 2) (xC (.int 1))) aNil))) aNil)))) (xFn m__law_take (aCons (xVar 0) (aCons (xC (.int 3)) aNil)))) aNil)))) sNext) (sSeq (sSet 3 (xOp dAdd (xC (.int 1)) (xFn m__law_take (aCons (xVar 0) (aCons (xOp dIx (xLst (aCons (xC (.int 4)) (aCons (xC (.int 12)) (aCons (xVar 2) aNil)))) (xFn m__law_take (aCons (xVar 0) (aCons (xC (.int 3)) aNil)))) aNil))))) (sRet (xTup (aCons (xVar 1) (aCons (xVar 3) (aCons (xFn m__law_take (aCons (xVar 0) (aCons (xOp dAdd (xVar 2) (xC (.int 1))) aNil))) aNil))))))))
noncomputable def m__law_rule : FMir := appN 3 [] (mDef 5 b__law_rule)
theorem bm__law_rule (k : KN K mg) (cdv : Value) (A : Around) (outer : List Env) (s : Shared) (H : Hp) (E : XK) (hr : Room 3 (A.deeper (envOfC d__law_rule.qual d__law_rule.scope s.heap.objs.size (cad K "_law_rule") cdv))) : BM (cxM P w K mg base N__law_rule d__law_rule.qual d__law_rule.scope (cad K "_law_rule") cdv A outer s H E) (wE E) d__law_rule.body b__law_rule := by
  have hu : (A.deeper (envOfC d__law_rule.qual d__law_rule.scope s.heap.objs.size (cad K "_law_rule") cdv)).units + 64 < cLine := hr.units
  exact (bm_cons (sm_if (WM.tm (wm_or (tm_cmp (op_eqA hu) om_eq em_var em_str rfl) (wm_or1 (tm_cmp (op_eqA hu) om_eq em_var em_str rfl)))) (bm_cons (sm_set sc__law_rule.nd (em_call ((ok__law_fraction k).callF (hr.mono (by decide)) cx_takes) (k.glo 11) (kpi k 5 (d := d__law_fraction) rfl) (am_cons em_var (am_cons (em_ix (em_lst (am_cons em_int (am_cons em_int (am_cons em_var am_nil)))) (em_call ((ok__law_take k).callF (hr.mono (by decide)) cx_takes) (k.glo 5) (kpi k 1 (d := d__law_take) rfl) (am_cons em_var (am_cons em_int am_nil)))) am_nil)))) (bm_one (sm_ret (em_tup (am_cons em_var (am_cons (em_call ((ok__law_fraction k).callF (hr.mono (by decide)) cx_takes) (k.glo 11) (kpi k 5 (d := d__law_fraction) rfl) (am_cons em_var (am_cons em_var am_nil))) (am_cons em_var am_nil))))))) bm_nil) (bm_cons (sm_if (tm_cmp (op_eqA hu) om_eq em_var em_str rfl) (bm_one (sm_ret (em_tup (am_cons em_var (am_cons (em_ix (em_lst (am_cons em_int (am_cons (em_call ((ok__law_take k).callF (hr.mono (by decide)) cx_takes) (k.glo 5) (kpi k 1 (d := d__law_take) rfl) (am_cons em_var (am_cons em_int am_nil))) (am_cons (em_call ((ok__law_take k).callF (hr.mono (by decide)) cx_takes) (k.glo 5) (kpi k 1 (d := d__law_take) rfl) (am_cons em_var (am_cons (em_op op_addA om_add em_var em_int) am_nil))) am_nil)))) (em_call ((ok__law_take k).callF (hr.mono (by decide)) cx_takes) (k.glo 5) (kpi k 1 (d := d__law_take) rfl) (am_cons em_var (am_cons em_int am_nil)))) am_nil))))) bm_nil) (bm_cons (sm_set sc__law_rule.nd (em_op op_addA om_add em_int (em_call ((ok__law_take k).callF (hr.mono (by decide)) cx_takes) (k.glo 5) (kpi k 1 (d := d__law_take) rfl) (am_cons em_var (am_cons (em_ix (em_lst (am_cons em_int (am_cons em_int (am_cons em_var am_nil)))) (em_call ((ok__law_take k).callF (hr.mono (by decide)) cx_takes) (k.glo 5) (kpi k 1 (d := d__law_take) rfl) (am_cons em_var (am_cons em_int am_nil)))) am_nil))))) (bm_one (sm_ret (em_tup (am_cons em_var (am_cons em_var (am_cons (em_call ((ok__law_take k).callF (hr.mono (by decide)) cx_takes) (k.glo 5) (kpi k 1 (d := d__law_take) rfl) (am_cons em_var (am_cons (em_op op_addA om_add em_var em_int) am_nil))) am_nil)))))))))
theorem ok__law_rule (k : KN K mg) : FR P w K mg base 4 (cad K "_law_rule") m__law_rule := by
  obtain ⟨fd, F⟩ := k.def_ 6 (d := d__law_rule)
  exact fr_of (fm_ok (N := N__law_rule) F sc__law_rule (bm__law_rule k)) (FunD.bindsN F fun _ _ _ _ _ _ us hl => match us, hl with | [_, _, _], _ => rfl)
abbrev N__law_is_enough : List Str := ["_law_rule_here", "_law_spent", "_law_since", "_law_top", "_law_bottom", "_law_more", "_law_ground"]
theorem sc__law_is_enough : FnScope N__law_is_enough ["_law_rule_here", "_law_spent", "_law_since"] d__law_is_enough.scope := ⟨rfl, rfl, rfl, by decide +kernel, rfl, by decide +kernel, by decide +kernel⟩
noncomputable def b__law_is_enough : SMir := (sSeq (sAsg (xSl (xVar 0) (oSome (xC (.int 1))) oNone) (gT 2 (gsCons (gT 2 (gsCons (gN 3) (gsCons (gN 4) gsNil))) (gsCons (gT 2 (gsCons (gN 5) (gsCons (gN 6) gsNil))) gsNil)))) (sRet (xOp dLe (xOp dMul (xOp dMul (xVar 1) (xVar 4)) (xVar 6)) (xOp dAdd (xOp dMul (xVar 3) (xVar 6)) (xOp dMul (xOp dMul (xVar 5) (xVar 2)) (xVar 4))))))
noncomputable def m__law_is_enough : FMir := appN 3 [] (mDef 7 b__law_is_enough)
theorem bm__law_is_enough (k : KN K mg) (cdv : Value) (A : Around) (outer : List Env) (s : Shared) (H : Hp) (E : XK) (hr : Room 0 (A.deeper (envOfC d__law_is_enough.qual d__law_is_enough.scope s.heap.objs.size (cad K "_law_is_enough") cdv))) : BM (cxM P w K mg base N__law_is_enough d__law_is_enough.qual d__law_is_enough.scope (cad K "_law_is_enough") cdv A outer s H E) (wE E) d__law_is_enough.body b__law_is_enough := by
  exact (bm_cons (sm_asg (em_sl em_var (xm_some em_int) xm_none) (gm_tup rfl (gms_cons (gm_tup rfl (gms_cons (gm_name sc__law_is_enough.nd) (gms_cons (gm_name sc__law_is_enough.nd) gms_nil))) (gms_cons (gm_tup rfl (gms_cons (gm_name sc__law_is_enough.nd) (gms_cons (gm_name sc__law_is_enough.nd) gms_nil))) gms_nil))) (gok_tup (gsok_cons (gok_tup (gsok_cons gok_name (gsok_cons gok_name gsok_nil))) (gsok_cons (gok_tup (gsok_cons gok_name (gsok_cons gok_name gsok_nil))) gsok_nil)))) (bm_one (sm_ret (em_cmp op_le om_le (em_op op_mulW om_mul (em_op op_mulW om_mul em_var em_var) em_var) (em_op op_addA om_add (em_op op_mulW om_mul em_var em_var) (em_op op_mulW om_mul (em_op op_mulW om_mul em_var em_var) em_var)) rfl))))
theorem ok__law_is_enough (k : KN K mg) : FR P w K mg base 1 (cad K "_law_is_enough") m__law_is_enough := by
  obtain ⟨fd, F⟩ := k.def_ 7 (d := d__law_is_enough)
  exact fr_of (fm_ok (N := N__law_is_enough) F sc__law_is_enough (bm__law_is_enough k)) (FunD.bindsN F fun _ _ _ _ _ _ us hl => match us, hl with | [_, _, _], _ => rfl)
abbrev N__law_passes : List Str := ["_law_rule_here", "_law_past", "_law_moment", "_law_price", "_law_spent", "_law_last", "_law_good", "_law_k", "_law_time_here", "_law_cost_here"]
theorem sc__law_passes : FnScope N__law_passes ["_law_rule_here", "_law_past", "_law_moment", "_law_price"] d__law_passes.scope := ⟨rfl, rfl, rfl, by decide +kernel, rfl, by decide +kernel, by decide +kernel⟩
noncomputable def g__law_passes_1 : GMir := (gN 7)
noncomputable def b__law_passes_2 : SMir := (sIf (tmOr (tTru (xOp dIx (xOp dIx (xVar 1) (xVar 7)) (xC (.int 2)))) (tB1 (xOp dEq (xOp dIx (xVar 0) (xC (.int 0))) (xC (.str "meter"))))) (sSeq (sSet 4 (xOp dAdd (xVar 4) (xOp dIx (xOp dIx (xVar 1) (xVar 7)) (xC (.int 1))))) (sSet 6 (xAnd (xVar 6) (xFn m__law_is_enough (aCons (xVar 0) (aCons (xVar 4) (aCons (xOp dSub (xVar 2) (xOp dIx (xOp dIx (xVar 1) (xVar 7)) (xC (.int 0)))) aNil))))))) sNext)
noncomputable def g__law_passes_3 : GMir := (gT 3 (gsCons (gN 8) (gsCons (gN 9) (gsCons (gN 6) gsNil))))
noncomputable def b__law_passes_4 : SMir := (sSeq (sIf (tmAnd (tTru (xVar 6)) (tmAnd (tB1 (xOp dEq (xOp dIx (xVar 0) (xC (.int 0))) (xC (.str "window")))) (tB1 (xOp dGt (xVar 8) (xOp dSub (xVar 2) (xOp dIx (xVar 0) (xC (.int 1)))))))) (sSet 4 (xOp dAdd (xVar 4) (xVar 9))) sNext) (sSeq (sIf (tmAnd (tTru (xVar 6)) (tmAnd (tB1 (xOp dEq (xOp dIx (xVar 0) (xC (.int 0))) (xC (.str "frame")))) (tB1 (xOp dEq (xOp dDiv (xVar 8) (xOp dIx (xVar 0) (xC (.int 1)))) (xOp dDiv (xVar 2) (xOp dIx (xVar 0) (xC (.int 1)))))))) (sSet 4 (xOp dAdd (xVar 4) (xVar 9))) sNext) (sSet 5 (xIf (tTru (xVar 6)) (xVar 8) (xVar 5)))))
noncomputable def b__law_passes : SMir := (sSeq (sPar2 4 5 (aCons (xVar 3) (aCons (xC .non) aNil))) (sSeq (sIf (tmOr (tB1 (xOp dEq (xOp dIx (xVar 0) (xC (.int 0))) (xC (.str "bucket")))) (tB1 (xOp dEq (xOp dIx (xVar 0) (xC (.int 0))) (xC (.str "meter"))))) (sSeq (sSet 6 (xFn m__law_is_enough (aCons (xVar 0) (aCons (xVar 4) (aCons (xC (.int 0)) aNil))))) (sSeq (sForI (iOf rdR3 (aCons (xOp dSub (xCall dLen (aCons (xVar 1) aNil)) (xC (.int 1))) (aCons (xNeg (xC (.int 1))) (aCons (xNeg (xC (.int 1))) aNil)))) g__law_passes_1 b__law_passes_2) (sRet (xVar 6)))) sNext) (sSeq (sForP (xVar 1) g__law_passes_3 b__law_passes_4) (sSeq (sIf (tB1 (xOp dEq (xOp dIx (xVar 0) (xC (.int 0))) (xC (.str "gap")))) (sRet (xOr (xOp dIsN (xVar 5) (xC .non)) (xOp dGe (xOp dSub (xVar 2) (xVar 5)) (xOp dIx (xVar 0) (xC (.int 1)))))) sNext) (sRet (xOp dLe (xVar 4) (xOp dIx (xVar 0) (xC (.int 2)))))))))
noncomputable def m__law_passes : FMir := appN 4 [] (mDef 10 b__law_passes)
theorem bm__law_passes (k : KN K mg) (cdv : Value) (A : Around) (outer : List Env) (s : Shared) (H : Hp) (E : XK) (hr : Room 1 (A.deeper (envOfC d__law_passes.qual d__law_passes.scope s.heap.objs.size (cad K "_law_passes") cdv))) : BM (cxM P w K mg base N__law_passes d__law_passes.qual d__law_passes.scope (cad K "_law_passes") cdv A outer s H E) (wE E) d__law_passes.body b__law_passes := by
  have hu : (A.deeper (envOfC d__law_passes.qual d__law_passes.scope s.heap.objs.size (cad K "_law_passes") cdv)).units + 64 < cLine := hr.units
  exact (bm_cons (sm_par2 rfl sc__law_passes.nd (am_cons em_var (am_cons em_non am_nil))) (bm_cons (sm_if (WM.tm (wm_or (tm_cmp (op_eqA hu) om_eq (em_ix em_var em_int) em_str rfl) (wm_or1 (tm_cmp (op_eqA hu) om_eq (em_ix em_var em_int) em_str rfl)))) (bm_cons (sm_set sc__law_passes.nd (em_call ((ok__law_is_enough k).callF (hr.mono (by decide)) cx_takes) (k.glo 13) (kpi k 7 (d := d__law_is_enough) rfl) (am_cons em_var (am_cons em_var (am_cons em_int am_nil))))) (bm_cons (sm_forI cx_pass rfl (im_rng3 (am_cons (em_op op_sub om_sub (em_callB call_lenA cm_len rfl (k.free 0) (by decide +kernel) (am_cons em_var am_nil)) em_int) (am_cons (em_neg em_int) (am_cons (em_neg em_int) am_nil))) (k.free 7)) (gm_name sc__law_passes.nd) gok_name (bm_one (sm_if (WM.tm (wm_or (tm_tru (em_ix (em_ix em_var em_var) em_int)) (wm_or1 (tm_cmp (op_eqA hu) om_eq (em_ix em_var em_int) em_str rfl)))) (bm_cons (sm_set sc__law_passes.nd (em_op op_addA om_add em_var (em_ix (em_ix em_var em_var) em_int))) (bm_one (sm_set sc__law_passes.nd (em_and em_var (em_one (em_call ((ok__law_is_enough k).callF (hr.mono (by decide)) cx_takes) (k.glo 13) (kpi k 7 (d := d__law_is_enough) rfl) (am_cons em_var (am_cons em_var (am_cons (em_op op_sub om_sub em_var (em_ix (em_ix em_var em_var) em_int)) am_nil))))))))) bm_nil))) (bm_one (sm_ret em_var)))) bm_nil) (bm_cons (sm_forP cx_pass rfl em_var (gm_tup rfl (gms_cons (gm_name sc__law_passes.nd) (gms_cons (gm_name sc__law_passes.nd) (gms_cons (gm_name sc__law_passes.nd) gms_nil)))) (gok_tup (gsok_cons gok_name (gsok_cons gok_name (gsok_cons gok_name gsok_nil)))) (bm_cons (sm_if (WM.tm (wm_and (tm_tru em_var) (wm_and (tm_cmp (op_eqA hu) om_eq (em_ix em_var em_int) em_str rfl) (wm_and1 (tm_cmp op_gt om_gt em_var (em_op op_sub om_sub em_var (em_ix em_var em_int)) rfl))))) (bm_one (sm_set sc__law_passes.nd (em_op op_addA om_add em_var em_var))) bm_nil) (bm_cons (sm_if (WM.tm (wm_and (tm_tru em_var) (wm_and (tm_cmp (op_eqA hu) om_eq (em_ix em_var em_int) em_str rfl) (wm_and1 (tm_cmp (op_eqA hu) om_eq (em_op op_fdivW om_div em_var (em_ix em_var em_int)) (em_op op_fdivW om_div em_var (em_ix em_var em_int)) rfl))))) (bm_one (sm_set sc__law_passes.nd (em_op op_addA om_add em_var em_var))) bm_nil) (bm_one (sm_set sc__law_passes.nd (em_if (tm_tru em_var) em_var em_var)))))) (bm_cons (sm_if (tm_cmp (op_eqA hu) om_eq (em_ix em_var em_int) em_str rfl) (bm_one (sm_ret (em_or (em_cmp op_isN om_isN em_var em_non rfl) (em_one (em_cmp op_ge om_ge (em_op op_sub om_sub em_var em_var) (em_ix em_var em_int) rfl))))) bm_nil) (bm_one (sm_ret (em_cmp op_le om_le em_var (em_ix em_var em_int) rfl)))))))
theorem ok__law_passes (k : KN K mg) : FR P w K mg base 2 (cad K "_law_passes") m__law_passes := by
  obtain ⟨fd, F⟩ := k.def_ 8 (d := d__law_passes)
  exact fr_of (fm_ok (N := N__law_passes) F sc__law_passes (bm__law_passes k)) (FunD.bindsN F fun _ _ _ _ _ _ us hl => match us, hl with | [_, _, _, _], _ => rfl)
abbrev N__law_heard : List Str := ["_law_rule_here", "_law_row_here", "_law_past", "_law_moment", "_law_price"]
theorem sc__law_heard : FnScope N__law_heard ["_law_rule_here", "_law_row_here"] d__law_heard.scope := ⟨rfl, rfl, rfl, by decide +kernel, rfl, by decide +kernel, by decide +kernel⟩
noncomputable def g__law_heard_1 : GMir := (gT 2 (gsCons (gN 3) (gsCons (gN 4) gsNil)))
noncomputable def b__law_heard_2 : SMir := (sAppend (xVar 2) (xTup (aCons (xVar 3) (aCons (xVar 4) (aCons (xFn m__law_passes (aCons (xVar 0) (aCons (xVar 2) (aCons (xVar 3) (aCons (xVar 4) aNil))))) aNil)))))
noncomputable def b__law_heard : SMir := (sSeq (sSet 2 (xLstM aNil)) (sSeq (sForI (iVal (xVar 1)) g__law_heard_1 b__law_heard_2) (sRet (xCall dTuple (aCons (xVar 2) aNil)))))
noncomputable def m__law_heard : FMir := appN 2 [] (mDef 5 b__law_heard)
theorem bm__law_heard (k : KN K mg) (cdv : Value) (A : Around) (outer : List Env) (s : Shared) (H : Hp) (E : XK) (hr : Room 2 (A.deeper (envOfC d__law_heard.qual d__law_heard.scope s.heap.objs.size (cad K "_law_heard") cdv))) : BM (cxM P w K mg base N__law_heard d__law_heard.qual d__law_heard.scope (cad K "_law_heard") cdv A outer s H E) (wE E) d__law_heard.body b__law_heard := by
  exact (bm_cons (sm_set sc__law_heard.nd (em_lstM am_nil)) (bm_cons (sm_forI cx_pass rfl (im_val em_var) (gm_tup rfl (gms_cons (gm_name sc__law_heard.nd) (gms_cons (gm_name sc__law_heard.nd) gms_nil))) (gok_tup (gsok_cons gok_name (gsok_cons gok_name gsok_nil))) (bm_one (sm_append em_var (em_tup (am_cons em_var (am_cons em_var (am_cons (em_call ((ok__law_passes k).callF (hr.mono (by decide)) cx_takes) (k.glo 14) (kpi k 8 (d := d__law_passes) rfl) (am_cons em_var (am_cons em_var (am_cons em_var (am_cons em_var am_nil))))) am_nil))))))) (bm_one (sm_ret (em_callTy call_tuple_of cm_tuple rfl (k.free 15) (by decide +kernel) (am_cons em_var am_nil))))))
theorem ok__law_heard (k : KN K mg) : FR P w K mg base 3 (cad K "_law_heard") m__law_heard := by
  obtain ⟨fd, F⟩ := k.def_ 9 (d := d__law_heard)
  exact fr_of (fm_ok (N := N__law_heard) F sc__law_heard (bm__law_heard k)) (FunD.bindsN F fun _ _ _ _ _ _ us hl => match us, hl with | [_, _], _ => rfl)
abbrev N__law_requests : List Str := ["_law_case_here", "_law_many_here", "_law_gap_here", "_law_cost_here", "_law_k", "_law_found", "_law_moment"]
theorem sc__law_requests : FnScope N__law_requests ["_law_case_here", "_law_many_here", "_law_gap_here", "_law_cost_here"] d__law_requests.scope := ⟨rfl, rfl, rfl, by decide +kernel, rfl, by decide +kernel, by decide +kernel⟩
noncomputable def g__law_requests_1 : GMir := (gN 4)
noncomputable def b__law_requests_2 : SMir := (sSeq (sSet 6 (xOp dAdd (xVar 6) (xOp dIx (xLst (aCons (xC (.int 0)) (aCons (xC (.int 1)) (aCons (xFn m__law_take (aCons (xVar 0) (aCons (xC (.int 4)) aNil))) (aCons (xFn m__law_take (aCons (xVar 0) (aCons (xOp dAdd (xVar 2) (xC (.int 1))) aNil))) aNil))))) (xFn m__law_take (aCons (xVar 0) (aCons (xC (.int 4)) aNil)))))) (sAppend (xVar 5) (xTup (aCons (xVar 6) (aCons (xOp dAdd (xC (.int 1)) (xFn m__law_take (aCons (xVar 0) (aCons (xOp dIx (xLst (aCons (xC (.int 2)) (aCons (xVar 3) aNil))) (xFn m__law_take (aCons (xVar 0) (aCons (xC (.int 2)) aNil)))) aNil)))) aNil)))))
noncomputable def b__law_requests : SMir := (sSeq (sPar2 5 6 (aCons (xLstM aNil) (aCons (xFn m__law_take (aCons (xVar 0) (aCons (xOp dAdd (xVar 2) (xC (.int 1))) aNil))) aNil))) (sSeq (sForI (iOf rdR1 (aCons (xFn m__law_take (aCons (xVar 0) (aCons (xOp dAdd (xVar 1) (xC (.int 1))) aNil))) aNil)) g__law_requests_1 b__law_requests_2) (sRet (xCall dTuple (aCons (xVar 5) aNil)))))
noncomputable def m__law_requests : FMir := appN 4 [] (mDef 7 b__law_requests)
theorem bm__law_requests (k : KN K mg) (cdv : Value) (A : Around) (outer : List Env) (s : Shared) (H : Hp) (E : XK) (hr : Room 1 (A.deeper (envOfC d__law_requests.qual d__law_requests.scope s.heap.objs.size (cad K "_law_requests") cdv))) : BM (cxM P w K mg base N__law_requests d__law_requests.qual d__law_requests.scope (cad K "_law_requests") cdv A outer s H E) (wE E) d__law_requests.body b__law_requests := by
  exact (bm_cons (sm_par2 rfl sc__law_requests.nd (am_cons (em_lstM am_nil) (am_cons (em_call ((ok__law_take k).callF (hr.mono (by decide)) cx_takes) (k.glo 5) (kpi k 1 (d := d__law_take) rfl) (am_cons em_var (am_cons (em_op op_addA om_add em_var em_int) am_nil))) am_nil))) (bm_cons (sm_forI cx_pass rfl (im_rng1 (am_cons (em_call ((ok__law_take k).callF (hr.mono (by decide)) cx_takes) (k.glo 5) (kpi k 1 (d := d__law_take) rfl) (am_cons em_var (am_cons (em_op op_addA om_add em_var em_int) am_nil))) am_nil) (k.free 7)) (gm_name sc__law_requests.nd) gok_name (bm_cons (sm_set sc__law_requests.nd (em_op op_addA om_add em_var (em_ix (em_lst (am_cons em_int (am_cons em_int (am_cons (em_call ((ok__law_take k).callF (hr.mono (by decide)) cx_takes) (k.glo 5) (kpi k 1 (d := d__law_take) rfl) (am_cons em_var (am_cons em_int am_nil))) (am_cons (em_call ((ok__law_take k).callF (hr.mono (by decide)) cx_takes) (k.glo 5) (kpi k 1 (d := d__law_take) rfl) (am_cons em_var (am_cons (em_op op_addA om_add em_var em_int) am_nil))) am_nil))))) (em_call ((ok__law_take k).callF (hr.mono (by decide)) cx_takes) (k.glo 5) (kpi k 1 (d := d__law_take) rfl) (am_cons em_var (am_cons em_int am_nil)))))) (bm_one (sm_append em_var (em_tup (am_cons em_var (am_cons (em_op op_addA om_add em_int (em_call ((ok__law_take k).callF (hr.mono (by decide)) cx_takes) (k.glo 5) (kpi k 1 (d := d__law_take) rfl) (am_cons em_var (am_cons (em_ix (em_lst (am_cons em_int (am_cons em_var am_nil))) (em_call ((ok__law_take k).callF (hr.mono (by decide)) cx_takes) (k.glo 5) (kpi k 1 (d := d__law_take) rfl) (am_cons em_var (am_cons em_int am_nil)))) am_nil)))) am_nil))))))) (bm_one (sm_ret (em_callTy call_tuple_of cm_tuple rfl (k.free 15) (by decide +kernel) (am_cons em_var am_nil))))))
theorem ok__law_requests (k : KN K mg) : FR P w K mg base 2 (cad K "_law_requests") m__law_requests := by
  obtain ⟨fd, F⟩ := k.def_ 10 (d := d__law_requests)
  exact fr_of (fm_ok (N := N__law_requests) F sc__law_requests (bm__law_requests k)) (FunD.bindsN F fun _ _ _ _ _ _ us hl => match us, hl with | [_, _, _, _], _ => rfl)
abbrev N__law_spoken : List Str := ["_law_case_here", "_law_kind_here", "_law_many_here", "_law_far_here", "_law_of_kind", "_law_gap_here", "_law_price", "_law_rule_here", "_law_found", "_law_k", "_law_moment", "_law_worth", "_law_good"]
theorem sc__law_spoken : FnScope N__law_spoken ["_law_case_here", "_law_kind_here", "_law_many_here", "_law_far_here"] d__law_spoken.scope := ⟨rfl, rfl, rfl, by decide +kernel, rfl, by decide +kernel, by decide +kernel⟩
noncomputable def b__law_spoken : SMir := (sSeq (sSet 4 (xIf (tB1 (xOp dGt (xFn m__law_take (aCons (xVar 0) (aCons (xC (.int 3)) aNil))) (xC (.int 0)))) (xVar 1) (xFn m__law_kinds (aCons (xVar 0) aNil)))) (sSeq (sSet 5 (xOp dIx (xLst (aCons (xC (.int 3)) (aCons (xC (.int 20)) (aCons (xVar 3) aNil)))) (xFn m__law_take (aCons (xVar 0) (aCons (xC (.int 3)) aNil))))) (sSeq (sIf (tB1 (xOp dEq (xVar 1) (xC (.str "frame")))) (sSet 5 (xCall dMin (aCons (xVar 5) (aCons (xOp dDiv (xC (.int 380)) (xOp dAdd (xVar 2) (xC (.int 1)))) aNil)))) sNext) (sSeq (sSet 6 (xOp dIx (xLst (aCons (xC (.int 3)) (aCons (xC (.int 9)) (aCons (xOp dPow (xC (.int 10)) (xC (.int 8))) aNil)))) (xFn m__law_take (aCons (xVar 0) (aCons (xC (.int 3)) aNil))))) (sSeq (sSet 7 (xFn m__law_rule (aCons (xVar 0) (aCons (xVar 4) (aCons (xOp dIx (xLst (aCons (xC (.int 4)) (aCons (xC (.int 20)) aNil))) (xFn m__law_take (aCons (xVar 0) (aCons (xC (.int 2)) aNil)))) aNil))))) (sSeq (sSet 8 (xFn m__law_heard (aCons (xVar 7) (aCons (xFn m__law_requests (aCons (xVar 0) (aCons (xVar 2) (aCons (xVar 5) (aCons (xVar 6) aNil))))) aNil)))) (sSeq (sIf (tmAnd (tB1 (xOp dNe (xVar 8) (xTup aNil))) (tB1 (xOp dEq (xFn m__law_take (aCons (xVar 0) (aCons (xC (.int 4)) aNil))) (xC (.int 0))))) (sSeq (sSet 9 (xFn m__law_take (aCons (xVar 0) (aCons (xCall dLen (aCons (xVar 8) aNil)) aNil)))) (sSeq (sAsg (xOp dIx (xVar 8) (xVar 9)) (gT 3 (gsCons (gN 10) (gsCons (gN 11) (gsCons (gN 12) gsNil))))) (sSet 8 (xOp dAdd (xOp dAdd (xSl (xVar 8) oNone (oSome (xVar 9))) (xTup (aCons (xTup (aCons (xVar 10) (aCons (xVar 11) (aCons (xNot (xVar 12)) aNil)))) aNil))) (xSl (xVar 8) (oSome (xOp dAdd (xVar 9) (xC (.int 1)))) oNone))))) sNext) (sRet (xVar 8)))))))))
noncomputable def m__law_spoken : FMir := appN 4 [] (mDef 13 b__law_spoken)
theorem bm__law_spoken (k : KN K mg) (cdv : Value) (A : Around) (outer : List Env) (s : Shared) (H : Hp) (E : XK) (hr : Room 4 (A.deeper (envOfC d__law_spoken.qual d__law_spoken.scope s.heap.objs.size (cad K "_law_spoken") cdv))) : BM (cxM P w K mg base N__law_spoken d__law_spoken.qual d__law_spoken.scope (cad K "_law_spoken") cdv A outer s H E) (wE E) d__law_spoken.body b__law_spoken := by
  have hu : (A.deeper (envOfC d__law_spoken.qual d__law_spoken.scope s.heap.objs.size (cad K "_law_spoken") cdv)).units + 64 < cLine := hr.units
  exact (bm_cons (sm_set sc__law_spoken.nd (em_if (tm_cmp op_gt om_gt (em_call ((ok__law_take k).callF (hr.mono (by decide)) cx_takes) (k.glo 5) (kpi k 1 (d := d__law_take) rfl) (am_cons em_var (am_cons em_int am_nil))) em_int rfl) em_var (em_call ((ok__law_kinds k).callF (hr.mono (by decide)) cx_takes) (k.glo 6) (kpi k 2 (d := d__law_kinds) rfl) (am_cons em_var am_nil)))) (bm_cons (sm_set sc__law_spoken.nd (em_ix (em_lst (am_cons em_int (am_cons em_int (am_cons em_var am_nil)))) (em_call ((ok__law_take k).callF (hr.mono (by decide)) cx_takes) (k.glo 5) (kpi k 1 (d := d__law_take) rfl) (am_cons em_var (am_cons em_int am_nil))))) (bm_cons (sm_if (tm_cmp (op_eqA hu) om_eq em_var em_str rfl) (bm_one (sm_set sc__law_spoken.nd (em_callB (call_minA rfl) cm_min rfl (k.free 8) (by decide +kernel) (am_cons em_var (am_cons (em_op op_fdivW om_div em_int (em_op op_addA om_add em_var em_int)) am_nil))))) bm_nil) (bm_cons (sm_set sc__law_spoken.nd (em_ix (em_lst (am_cons em_int (am_cons em_int (am_cons (em_op op_powW om_pow em_int em_int) am_nil)))) (em_call ((ok__law_take k).callF (hr.mono (by decide)) cx_takes) (k.glo 5) (kpi k 1 (d := d__law_take) rfl) (am_cons em_var (am_cons em_int am_nil))))) (bm_cons (sm_set sc__law_spoken.nd (em_call ((ok__law_rule k).callF (hr.mono (by decide)) cx_takes) (k.glo 12) (kpi k 6 (d := d__law_rule) rfl) (am_cons em_var (am_cons em_var (am_cons (em_ix (em_lst (am_cons em_int (am_cons em_int am_nil))) (em_call ((ok__law_take k).callF (hr.mono (by decide)) cx_takes) (k.glo 5) (kpi k 1 (d := d__law_take) rfl) (am_cons em_var (am_cons em_int am_nil)))) am_nil))))) (bm_cons (sm_set sc__law_spoken.nd (em_call ((ok__law_heard k).callF (hr.mono (by decide)) cx_takes) (k.glo 16) (kpi k 9 (d := d__law_heard) rfl) (am_cons em_var (am_cons (em_call ((ok__law_requests k).callF (hr.mono (by decide)) cx_takes) (k.glo 17) (kpi k 10 (d := d__law_requests) rfl) (am_cons em_var (am_cons em_var (am_cons em_var (am_cons em_var am_nil))))) am_nil)))) (bm_cons (sm_if (WM.tm (wm_and (tm_cmp (op_neA hu) om_ne em_var (em_tup am_nil) rfl) (wm_and1 (tm_cmp (op_eqA hu) om_eq (em_call ((ok__law_take k).callF (hr.mono (by decide)) cx_takes) (k.glo 5) (kpi k 1 (d := d__law_take) rfl) (am_cons em_var (am_cons em_int am_nil))) em_int rfl)))) (bm_cons (sm_set sc__law_spoken.nd (em_call ((ok__law_take k).callF (hr.mono (by decide)) cx_takes) (k.glo 5) (kpi k 1 (d := d__law_take) rfl) (am_cons em_var (am_cons (em_callB call_lenA cm_len rfl (k.free 0) (by decide +kernel) (am_cons em_var am_nil)) am_nil)))) (bm_cons (sm_asg (em_ix em_var em_var) (gm_tup rfl (gms_cons (gm_name sc__law_spoken.nd) (gms_cons (gm_name sc__law_spoken.nd) (gms_cons (gm_name sc__law_spoken.nd) gms_nil)))) (gok_tup (gsok_cons gok_name (gsok_cons gok_name (gsok_cons gok_name gsok_nil))))) (bm_one (sm_set sc__law_spoken.nd (em_op op_addA om_add (em_op op_addA om_add (em_sl em_var xm_none (xm_some em_var)) (em_tup (am_cons (em_tup (am_cons em_var (am_cons em_var (am_cons (em_not em_var) am_nil)))) am_nil))) (em_sl em_var (xm_some (em_op op_addA om_add em_var em_int)) xm_none)))))) bm_nil) (bm_one (sm_ret em_var)))))))))
theorem ok__law_spoken (k : KN K mg) : FR P w K mg base 5 (cad K "_law_spoken") m__law_spoken := by
  obtain ⟨fd, F⟩ := k.def_ 11 (d := d__law_spoken)
  exact fr_of (fm_ok (N := N__law_spoken) F sc__law_spoken (bm__law_spoken k)) (FunD.bindsN F fun _ _ _ _ _ _ us hl => match us, hl with | [_, _, _, _], _ => rfl)
abbrev N_is_integer : List Str := ["value"]
theorem sc_is_integer : FnScope N_is_integer ["value"] d_is_integer.scope := ⟨rfl, rfl, rfl, by decide +kernel, rfl, by decide +kernel, by decide +kernel⟩
noncomputable def b_is_integer : SMir := (sRet (xAnd (xIsi ownL "int" (xVar 0)) (xNot (xIsi ownL "bool" (xVar 0)))))
noncomputable def m_is_integer : FMir := appN 1 [] (mDef 1 b_is_integer)
theorem bm_is_integer (k : KN K mg) (cdv : Value) (A : Around) (outer : List Env) (s : Shared) (H : Hp) (E : XK) (hr : Room 0 (A.deeper (envOfC d_is_integer.qual d_is_integer.scope s.heap.objs.size (cad K "is_integer") cdv))) : BM (cxM P w K mg base N_is_integer d_is_integer.qual d_is_integer.scope (cad K "is_integer") cdv A outer s H E) (wE E) d_is_integer.body b_is_integer := by
  exact (bm_one (sm_ret (em_and (em_isi (ownT k) em_var (k.free 19) (by decide) (k.free 1) (by decide +kernel)) (em_one (em_not (em_isi (ownT k) em_var (k.free 19) (by decide) (k.free 20) (by decide +kernel)))))))
theorem ok_is_integer (k : KN K mg) : FR P w K mg base 1 (cad K "is_integer") m_is_integer := by
  obtain ⟨fd, F⟩ := k.def_ 12 (d := d_is_integer)
  exact fr_of (fm_ok (N := N_is_integer) F sc_is_integer (bm_is_integer k)) (FunD.bindsN F fun _ _ _ _ _ _ us hl => match us, hl with | [_], _ => rfl)
abbrev N_is_at_least : List Str := ["value", "least"]
theorem sc_is_at_least : FnScope N_is_at_least ["value", "least"] d_is_at_least.scope := ⟨rfl, rfl, rfl, by decide +kernel, rfl, by decide +kernel, by decide +kernel⟩
noncomputable def b_is_at_least : SMir := (sRet (xAnd (xFn m_is_integer (aCons (xVar 0) aNil)) (xOp dGe (xVar 0) (xVar 1))))
noncomputable def m_is_at_least : FMir := appN 2 [] (mDef 2 b_is_at_least)
theorem bm_is_at_least (k : KN K mg) (cdv : Value) (A : Around) (outer : List Env) (s : Shared) (H : Hp) (E : XK) (hr : Room 1 (A.deeper (envOfC d_is_at_least.qual d_is_at_least.scope s.heap.objs.size (cad K "is_at_least") cdv))) : BM (cxM P w K mg base N_is_at_least d_is_at_least.qual d_is_at_least.scope (cad K "is_at_least") cdv A outer s H E) (wE E) d_is_at_least.body b_is_at_least := by
  exact (bm_one (sm_ret (em_and (em_call ((ok_is_integer k).callF (hr.mono (by decide)) cx_takes) (k.glo 21) (kpi k 12 (d := d_is_integer) rfl) (am_cons em_var am_nil)) (em_one (em_cmp op_ge om_ge em_var em_var rfl)))))
theorem ok_is_at_least (k : KN K mg) : FR P w K mg base 2 (cad K "is_at_least") m_is_at_least := by
  obtain ⟨fd, F⟩ := k.def_ 13 (d := d_is_at_least)
  exact fr_of (fm_ok (N := N_is_at_least) F sc_is_at_least (bm_is_at_least k)) (FunD.bindsN F fun _ _ _ _ _ _ us hl => match us, hl with | [_, _], _ => rfl)
abbrev N_is_request : List Str := ["value"]
theorem sc_is_request : FnScope N_is_request ["value"] d_is_request.scope := ⟨rfl, rfl, rfl, by decide +kernel, rfl, by decide +kernel, by decide +kernel⟩
noncomputable def b_is_request : SMir := (sRet (xAnd (xIsi ownL "tuple" (xVar 0)) (xAnd (xOp dEq (xCall dLen (aCons (xVar 0) aNil)) (xC (.int 2))) (xAnd (xFn m_is_at_least (aCons (xOp dIx (xVar 0) (xC (.int 0))) (aCons (xC (.int 0)) aNil))) (xFn m_is_at_least (aCons (xOp dIx (xVar 0) (xC (.int 1))) (aCons (xC (.int 1)) aNil)))))))
noncomputable def m_is_request : FMir := appN 1 [] (mDef 1 b_is_request)
theorem bm_is_request (k : KN K mg) (cdv : Value) (A : Around) (outer : List Env) (s : Shared) (H : Hp) (E : XK) (hr : Room 2 (A.deeper (envOfC d_is_request.qual d_is_request.scope s.heap.objs.size (cad K "is_request") cdv))) : BM (cxM P w K mg base N_is_request d_is_request.qual d_is_request.scope (cad K "is_request") cdv A outer s H E) (wE E) d_is_request.body b_is_request := by
  have hu : (A.deeper (envOfC d_is_request.qual d_is_request.scope s.heap.objs.size (cad K "is_request") cdv)).units + 64 < cLine := hr.units
  exact (bm_one (sm_ret (em_and (em_isi (ownT k) em_var (k.free 19) (by decide) (k.free 15) (by decide +kernel)) (em_and (em_cmp (op_eqA hu) om_eq (em_callB call_lenA cm_len rfl (k.free 0) (by decide +kernel) (am_cons em_var am_nil)) em_int rfl) (em_and (em_call ((ok_is_at_least k).callF (hr.mono (by decide)) cx_takes) (k.glo 22) (kpi k 13 (d := d_is_at_least) rfl) (am_cons (em_ix em_var em_int) (am_cons em_int am_nil))) (em_one (em_call ((ok_is_at_least k).callF (hr.mono (by decide)) cx_takes) (k.glo 22) (kpi k 13 (d := d_is_at_least) rfl) (am_cons (em_ix em_var em_int) (am_cons em_int am_nil)))))))))
theorem ok_is_request (k : KN K mg) : FR P w K mg base 3 (cad K "is_request") m_is_request := by
  obtain ⟨fd, F⟩ := k.def_ 14 (d := d_is_request)
  exact fr_of (fm_ok (N := N_is_request) F sc_is_request (bm_is_request k)) (FunD.bindsN F fun _ _ _ _ _ _ us hl => match us, hl with | [_], _ => rfl)
abbrev N_is_entry : List Str := ["value"]
theorem sc_is_entry : FnScope N_is_entry ["value"] d_is_entry.scope := ⟨rfl, rfl, rfl, by decide +kernel, rfl, by decide +kernel, by decide +kernel⟩
noncomputable def b_is_entry : SMir := (sRet (xAnd (xIsi ownL "tuple" (xVar 0)) (xAnd (xOp dEq (xCall dLen (aCons (xVar 0) aNil)) (xC (.int 3))) (xAnd (xFn m_is_request (aCons (xSl (xVar 0) oNone (oSome (xC (.int 2)))) aNil)) (xIsi ownL "bool" (xOp dIx (xVar 0) (xC (.int 2))))))))
noncomputable def m_is_entry : FMir := appN 1 [] (mDef 1 b_is_entry)
theorem bm_is_entry (k : KN K mg) (cdv : Value) (A : Around) (outer : List Env) (s : Shared) (H : Hp) (E : XK) (hr : Room 3 (A.deeper (envOfC d_is_entry.qual d_is_entry.scope s.heap.objs.size (cad K "is_entry") cdv))) : BM (cxM P w K mg base N_is_entry d_is_entry.qual d_is_entry.scope (cad K "is_entry") cdv A outer s H E) (wE E) d_is_entry.body b_is_entry := by
  have hu : (A.deeper (envOfC d_is_entry.qual d_is_entry.scope s.heap.objs.size (cad K "is_entry") cdv)).units + 64 < cLine := hr.units
  exact (bm_one (sm_ret (em_and (em_isi (ownT k) em_var (k.free 19) (by decide) (k.free 15) (by decide +kernel)) (em_and (em_cmp (op_eqA hu) om_eq (em_callB call_lenA cm_len rfl (k.free 0) (by decide +kernel) (am_cons em_var am_nil)) em_int rfl) (em_and (em_call ((ok_is_request k).callF (hr.mono (by decide)) cx_takes) (k.glo 23) (kpi k 14 (d := d_is_request) rfl) (am_cons (em_sl em_var xm_none (xm_some em_int)) am_nil)) (em_one (em_isi (ownT k) (em_ix em_var em_int) (k.free 19) (by decide) (k.free 20) (by decide +kernel))))))))
theorem ok_is_entry (k : KN K mg) : FR P w K mg base 4 (cad K "is_entry") m_is_entry := by
  obtain ⟨fd, F⟩ := k.def_ 15 (d := d_is_entry)
  exact fr_of (fm_ok (N := N_is_entry) F sc_is_entry (bm_is_entry k)) (FunD.bindsN F fun _ _ _ _ _ _ us hl => match us, hl with | [_], _ => rfl)
abbrev N_last_time : List Str := ["log"]
theorem sc_last_time : FnScope N_last_time ["log"] d_last_time.scope := ⟨rfl, rfl, rfl, by decide +kernel, rfl, by decide +kernel, by decide +kernel⟩
noncomputable def b_last_time : SMir := (sRet (xIf (tB1 (xOp dNe (xVar 0) (xTup aNil))) (xOp dIx (xOp dIx (xVar 0) (xNeg (xC (.int 1)))) (xC (.int 0))) (xC (.int 0))))
noncomputable def m_last_time : FMir := appN 1 [] (mDef 1 b_last_time)
theorem bm_last_time (k : KN K mg) (cdv : Value) (A : Around) (outer : List Env) (s : Shared) (H : Hp) (E : XK) (hr : Room 0 (A.deeper (envOfC d_last_time.qual d_last_time.scope s.heap.objs.size (cad K "last_time") cdv))) : BM (cxM P w K mg base N_last_time d_last_time.qual d_last_time.scope (cad K "last_time") cdv A outer s H E) (wE E) d_last_time.body b_last_time := by
  have hu : (A.deeper (envOfC d_last_time.qual d_last_time.scope s.heap.objs.size (cad K "last_time") cdv)).units + 64 < cLine := hr.units
  exact (bm_one (sm_ret (em_if (tm_cmp (op_neA hu) om_ne em_var (em_tup am_nil) rfl) (em_ix (em_ix em_var (em_neg em_int)) em_int) em_int)))
theorem ok_last_time (k : KN K mg) : FR P w K mg base 1 (cad K "last_time") m_last_time := by
  obtain ⟨fd, F⟩ := k.def_ 16 (d := d_last_time)
  exact fr_of (fm_ok (N := N_last_time) F sc_last_time (bm_last_time k)) (FunD.bindsN F fun _ _ _ _ _ _ us hl => match us, hl with | [_], _ => rfl)
abbrev N_check_kind : List Str := ["kind", "kinds"]
theorem sc_check_kind : FnScope N_check_kind ["kind", "kinds"] d_check_kind.scope := ⟨rfl, rfl, rfl, by decide +kernel, rfl, by decide +kernel, by decide +kernel⟩
noncomputable def b_check_kind : SMir := (sIf (tmOr (tmNot (tB1 (xIsi ownL "str" (xVar 0)))) (tB1 (xOp dNotIn (xVar 0) (xVar 1)))) (sRaise "InvalidKind") sNext)
noncomputable def m_check_kind : FMir := appN 2 [] (mDef 2 b_check_kind)
theorem bm_check_kind (k : KN K mg) (cdv : Value) (A : Around) (outer : List Env) (s : Shared) (H : Hp) (E : XK) (hr : Room 0 (A.deeper (envOfC d_check_kind.qual d_check_kind.scope s.heap.objs.size (cad K "check_kind") cdv))) : BM (cxM P w K mg base N_check_kind d_check_kind.qual d_check_kind.scope (cad K "check_kind") cdv A outer s H E) (wE E) d_check_kind.body b_check_kind := by
  exact (bm_one (sm_if (WM.tm (wm_or (tm_not (tm_val (em_isi (ownT k) em_var (k.free 19) (by decide) (k.free 32) (by decide +kernel)))) (wm_or1 (tm_cmp op_notInA om_notIn em_var em_var rfl)))) (bm_one (sm_raise0 (k.exc 33) (k.glo 34) rfl cx_takes)) bm_nil))
theorem ok_check_kind (k : KN K mg) : FR P w K mg base 1 (cad K "check_kind") m_check_kind := by
  obtain ⟨fd, F⟩ := k.def_ 17 (d := d_check_kind)
  exact fr_of (fm_ok (N := N_check_kind) F sc_check_kind (bm_check_kind k)) (FunD.bindsN F fun _ _ _ _ _ _ us hl => match us, hl with | [_, _], _ => rfl)
abbrev N_is_rising : List Str := ["rows", "row", "after"]
theorem sc_is_rising : FnScope N_is_rising ["rows"] d_is_rising.scope := ⟨rfl, rfl, rfl, by decide +kernel, rfl, by decide +kernel, by decide +kernel⟩
noncomputable def e_is_rising_1 : Rho → Sto → Res D := (xOp dLe (xOp dIx (xVar 1) (xC (.int 0))) (xOp dIx (xVar 2) (xC (.int 0))))
noncomputable def b_is_rising : SMir := (sRet (xCall dAll (aCons (xLc (iOf rdZip (aCons (xVar 0) (aCons (xSl (xVar 0) (oSome (xC (.int 1))) oNone) aNil))) (.tp [(.nm 1), (.nm 2)]) ttYes e_is_rising_1 [1, 2]) aNil)))
noncomputable def m_is_rising : FMir := appN 1 [] (mDef 3 b_is_rising)
theorem bm_is_rising (k : KN K mg) (cdv : Value) (A : Around) (outer : List Env) (s : Shared) (H : Hp) (E : XK) (hr : Room 0 (A.deeper (envOfC d_is_rising.qual d_is_rising.scope s.heap.objs.size (cad K "is_rising") cdv))) : BM (cxM P w K mg base N_is_rising d_is_rising.qual d_is_rising.scope (cad K "is_rising") cdv A outer s H E) (wE E) d_is_rising.body b_is_rising := by
  exact (bm_one (sm_ret (em_callB (cr_all rfl) cm_all rfl (k.free 37) (by decide +kernel) (am_cons (em_lc (own := [("row", 1), ("after", 2)]) rfl sc_is_rising.nd (im_zip (am_cons em_var (am_cons (em_sl em_var (xm_some em_int) xm_none) am_nil)) (k.free 38)) (by decide) (show BlkOk N_is_rising d_is_rising.scope _ _ from ⟨rfl, by decide +kernel, by decide +kernel, by decide +kernel, by decide +kernel⟩) (fun s H C cl fp => (pnt_tp rfl (pnts_cons (pnt_nm sc_is_rising.nd) (pnts_cons (pnt_nm sc_is_rising.nd) pnts_nil)))) (fun s H C cl fp => tsm_nil) (fun s H C cl fp => (em_cmp op_le om_le (em_ix em_var em_int) (em_ix em_var em_int) rfl))) am_nil))))
theorem ok_is_rising (k : KN K mg) : FR P w K mg base 1 (cad K "is_rising") m_is_rising := by
  obtain ⟨fd, F⟩ := k.def_ 18 (d := d_is_rising)
  exact fr_of (fm_ok (N := N_is_rising) F sc_is_rising (bm_is_rising k)) (FunD.bindsN F fun _ _ _ _ _ _ us hl => match us, hl with | [_], _ => rfl)
abbrev N_is_log : List Str := ["value", "entry"]
theorem sc_is_log : FnScope N_is_log ["value"] d_is_log.scope := ⟨rfl, rfl, rfl, by decide +kernel, rfl, by decide +kernel, by decide +kernel⟩
noncomputable def e_is_log_1 : Rho → Sto → Res D := (xFn m_is_entry (aCons (xVar 1) aNil))
noncomputable def b_is_log : SMir := (sRet (xAnd (xIsi ownL "tuple" (xVar 0)) (xAnd (xCall dAll (aCons (xLc (iVal (xVar 0)) (.nm 1) ttYes e_is_log_1 [1]) aNil)) (xFn m_is_rising (aCons (xVar 0) aNil)))))
noncomputable def m_is_log : FMir := appN 1 [] (mDef 2 b_is_log)
theorem bm_is_log (k : KN K mg) (cdv : Value) (A : Around) (outer : List Env) (s : Shared) (H : Hp) (E : XK) (hr : Room 4 (A.deeper (envOfC d_is_log.qual d_is_log.scope s.heap.objs.size (cad K "is_log") cdv))) : BM (cxM P w K mg base N_is_log d_is_log.qual d_is_log.scope (cad K "is_log") cdv A outer s H E) (wE E) d_is_log.body b_is_log := by
  exact (bm_one (sm_ret (em_and (em_isi (ownT k) em_var (k.free 19) (by decide) (k.free 15) (by decide +kernel)) (em_and (em_callB (cr_all rfl) cm_all rfl (k.free 37) (by decide +kernel) (am_cons (em_lc (own := [("entry", 1)]) rfl sc_is_log.nd (im_val em_var) (by decide) (show BlkOk N_is_log d_is_log.scope _ _ from ⟨rfl, by decide +kernel, by decide +kernel, by decide +kernel, by decide +kernel⟩) (fun s H C cl fp => (pnt_nm sc_is_log.nd)) (fun s H C cl fp => tsm_nil) (fun s H C cl fp => (em_call ((ok_is_entry k).callF (hr.mono (by decide)) tkW0) (k.glo 24) (kpi k 15 (d := d_is_entry) rfl) (am_cons em_var am_nil)))) am_nil)) (em_one (em_call ((ok_is_rising k).callF (hr.mono (by decide)) cx_takes) (k.glo 39) (kpi k 18 (d := d_is_rising) rfl) (am_cons em_var am_nil)))))))
theorem ok_is_log (k : KN K mg) : FR P w K mg base 5 (cad K "is_log") m_is_log := by
  obtain ⟨fd, F⟩ := k.def_ 19 (d := d_is_log)
  exact fr_of (fm_ok (N := N_is_log) F sc_is_log (bm_is_log k)) (FunD.bindsN F fun _ _ _ _ _ _ us hl => match us, hl with | [_], _ => rfl)
abbrev N_check_log : List Str := ["log"]
theorem sc_check_log : FnScope N_check_log ["log"] d_check_log.scope := ⟨rfl, rfl, rfl, by decide +kernel, rfl, by decide +kernel, by decide +kernel⟩
noncomputable def b_check_log : SMir := (sIf (tmNot (tB1 (xFn m_is_log (aCons (xVar 0) aNil)))) (sRaise "InvalidLog") sNext)
noncomputable def m_check_log : FMir := appN 1 [] (mDef 1 b_check_log)
theorem bm_check_log (k : KN K mg) (cdv : Value) (A : Around) (outer : List Env) (s : Shared) (H : Hp) (E : XK) (hr : Room 5 (A.deeper (envOfC d_check_log.qual d_check_log.scope s.heap.objs.size (cad K "check_log") cdv))) : BM (cxM P w K mg base N_check_log d_check_log.qual d_check_log.scope (cad K "check_log") cdv A outer s H E) (wE E) d_check_log.body b_check_log := by
  exact (bm_one (sm_if (tm_not (tm_val (em_call ((ok_is_log k).callF (hr.mono (by decide)) cx_takes) (k.glo 40) (kpi k 19 (d := d_is_log) rfl) (am_cons em_var am_nil)))) (bm_one (sm_raise0 (k.exc 41) (k.glo 42) rfl cx_takes)) bm_nil))
theorem ok_check_log (k : KN K mg) : FR P w K mg base 6 (cad K "check_log") m_check_log := by
  obtain ⟨fd, F⟩ := k.def_ 20 (d := d_check_log)
  exact fr_of (fm_ok (N := N_check_log) F sc_check_log (bm_check_log k)) (FunD.bindsN F fun _ _ _ _ _ _ us hl => match us, hl with | [_], _ => rfl)
abbrev N_Heard___init__ : List Str := ["self", "kind", "logs", "log"]
theorem sc_Heard___init__ : FnScope N_Heard___init__ ["self", "kind", "logs"] d_Heard___init__.scope := ⟨rfl, rfl, rfl, by decide +kernel, rfl, by decide +kernel, by decide +kernel⟩
noncomputable def g_Heard___init___1 : GMir := (gN 3)
noncomputable def b_Heard___init___2 : SMir := (sExpr (xFn m_check_log (aCons (xVar 3) aNil)))
noncomputable def b_Heard___init__ : SMir := (sSeq (sExpr (xFn m_check_kind (aCons (xVar 1) (aCons (xC (.tup [(.str "bucket"), (.str "meter"), (.str "window"), (.str "frame"), (.str "gap")])) aNil)))) (sSeq (sForI (iVal (xVar 2)) g_Heard___init___1 b_Heard___init___2) (sSeq (sFldM "Heard" "heard_kind" (xVar 1) (xVar 0)) (sFldM "Heard" "heard_logs" (xIf (tB1 (xOp dNe (xVar 2) (xTup aNil))) (xVar 2) (xTup (aCons (xTup aNil) aNil))) (xVar 0)))))
noncomputable def m_Heard___init__ : FMir := starM 2 (mDef 4 b_Heard___init__)
theorem bm_Heard___init__ (k : KN K mg) (cdv : Value) (A : Around) (outer : List Env) (s : Shared) (H : Hp) (E : XK) (hr : Room 6 (A.deeper (envOfC d_Heard___init__.qual d_Heard___init__.scope s.heap.objs.size (He.ma K (cad K "Heard") "__init__") cdv))) : BM (cxM P w K mg base N_Heard___init__ d_Heard___init__.qual d_Heard___init__.scope (He.ma K (cad K "Heard") "__init__") cdv A outer s H E) (wE E) d_Heard___init__.body b_Heard___init__ := by
  have hu : (A.deeper (envOfC d_Heard___init__.qual d_Heard___init__.scope s.heap.objs.size (He.ma K (cad K "Heard") "__init__") cdv)).units + 64 < cLine := hr.units
  exact (bm_cons (sm_expr (em_call ((ok_check_kind k).callF (hr.mono (by decide)) cx_takes) (k.glo 35) (kpi k 17 (d := d_check_kind) rfl) (am_cons em_var (am_cons (em_gv (k.tup 36 (exq k 0 rfl) (.str (.str (.str (.str (.str .nil))))))) am_nil)))) (bm_cons (sm_forI cx_pass rfl (im_val em_var) (gm_name sc_Heard___init__.nd) gok_name (bm_one (sm_expr (em_call ((ok_check_log k).callF (hr.mono (by decide)) cx_takes) (k.glo 43) (kpi k 20 (d := d_check_log) rfl) (am_cons em_var am_nil))))) (bm_cons (sm_fld em_var em_var (k.cls 27) (k.noat 44)) (bm_one (sm_fld em_var (em_if (tm_cmp (op_neA hu) om_ne em_var (em_tup am_nil) rfl) em_var (em_tup (am_cons (em_tup am_nil) am_nil))) (k.cls 27) (k.noat 28))))))
theorem ok_Heard___init__ (k : KN K mg) : FR P w K mg base 7 (He.ma K (cad K "Heard") "__init__") m_Heard___init__ := by
  obtain ⟨fd, F⟩ := k.def_ 21 (d := d_Heard___init__)
  exact fr_star (N := N_Heard___init__) (ps := ["self", "kind"]) (pv := "logs") F sc_Heard___init__ (fun kV doc pm an cdv ct us rest hl => match us, rest, hl with
    | [_, _], [], _ => rfl
    | [_, _], _ :: _, _ => rfl) (bm_Heard___init__ k)
noncomputable def m_kw1_Heard___init___kind : FMir := fun ds μ => starM 2 (mDef 4 b_Heard___init__) (permL [0, 1] ds) μ
theorem ok_kw1_Heard___init___kind (k : KN K mg) : FRK P w K mg base 7 (He.ma K (cad K "Heard") "__init__") 1 ["kind"] m_kw1_Heard___init___kind := by
  obtain ⟨fd, F⟩ := k.def_ 21 (d := d_Heard___init__)
  exact frk_star (N := N_Heard___init__) (ps := ["self", "kind"]) (pv := "logs") (px := [0, 1]) F sc_Heard___init__ (fun xs hx => match xs, hx with | [_, _], _ => rfl) (fun kV doc pm an cdv ct us ws h1 h2 => match us, ws, h1, h2 with | [_], [_], _, _ => rfl) (bm_Heard___init__ k)
abbrev N_Heard___add__ : List Str := ["self", "entry", "longer", "last", "ahead"]
theorem sc_Heard___add__ : FnScope N_Heard___add__ ["self", "entry"] d_Heard___add__.scope := ⟨rfl, rfl, rfl, by decide +kernel, rfl, by decide +kernel, by decide +kernel⟩
noncomputable def b_Heard___add__ : SMir := (sSeq (sIf (tmNot (tB1 (xFn m_is_entry (aCons (xVar 1) aNil)))) (sRaise "InvalidEntry") sNext) (sSeq (sAsg (xFld "Heard" "heard_logs" (xVar 0)) (gStar 2 0 (gsCons (gN 4) (gsCons (gN 3) gsNil)))) (sSeq (sIf (tB1 (xOp dLt (xOp dIx (xVar 1) (xC (.int 0))) (xFn m_last_time (aCons (xVar 3) aNil)))) (sRaise "TooEarly") sNext) (sSeq (sSet 2 (xTup (aStar (xVar 3) (aCons (xVar 1) aNil)))) (sRet (xFn (mkM "Heard" m_Heard___init__) (aCons (xFld "Heard" "heard_kind" (xVar 0)) (aStar (xVar 4) (aCons (xVar 2) aNil)))))))))
noncomputable def m_Heard___add__ : FMir := appN 2 [] (mDef 5 b_Heard___add__)
theorem bm_Heard___add__ (k : KN K mg) (cdv : Value) (A : Around) (outer : List Env) (s : Shared) (H : Hp) (E : XK) (hr : Room 8 (A.deeper (envOfC d_Heard___add__.qual d_Heard___add__.scope s.heap.objs.size (He.ma K (cad K "Heard") "__add__") cdv))) : BM (cxM P w K mg base N_Heard___add__ d_Heard___add__.qual d_Heard___add__.scope (He.ma K (cad K "Heard") "__add__") cdv A outer s H E) (wE E) d_Heard___add__.body b_Heard___add__ := by
  exact (bm_cons (sm_if (tm_not (tm_val (em_call ((ok_is_entry k).callF (hr.mono (by decide)) cx_takes) (k.glo 24) (kpi k 15 (d := d_is_entry) rfl) (am_cons em_var am_nil)))) (bm_one (sm_raise0 (k.exc 25) (k.glo 26) rfl cx_takes)) bm_nil) (bm_cons (sm_asg (em_fld em_var (k.cls 27) (k.noat 28)) (gm_star rfl (gms_starred (gm_name sc_Heard___add__.nd) (gms_cons (gm_name sc_Heard___add__.nd) gms_nil)) (by decide)) (gok_star (gsok_cons gok_name (gsok_cons gok_name gsok_nil)))) (bm_cons (sm_if (tm_cmp op_lt om_lt (em_ix em_var em_int) (em_call ((ok_last_time k).callF (hr.mono (by decide)) cx_takes) (k.glo 29) (kpi k 16 (d := d_last_time) rfl) (am_cons em_var am_nil)) rfl) (bm_one (sm_raise0 (k.exc 30) (k.glo 31) rfl cx_takes)) bm_nil) (bm_cons (sm_set sc_Heard___add__.nd (em_tup (am_star em_var (am_cons em_var am_nil)))) (bm_one (sm_ret (em_callS ((ok_Heard___init__ k).make (k.mkr 46) (hr.mono (by decide)) cx_takes) (k.glo 45) (k.mkr 46).kp (am_cons (em_fld em_var (k.cls 27) (k.noat 44)) (am_star em_var (am_cons em_var am_nil))))))))))
theorem ok_Heard___add__ (k : KN K mg) : FR P w K mg base 9 (He.ma K (cad K "Heard") "__add__") m_Heard___add__ := by
  obtain ⟨fd, F⟩ := k.def_ 22 (d := d_Heard___add__)
  exact fr_of (fm_ok (N := N_Heard___add__) F sc_Heard___add__ (bm_Heard___add__ k)) (FunD.bindsN F fun _ _ _ _ _ _ us hl => match us, hl with | [_, _], _ => rfl)
abbrev N__law_six_logs : List Str := ["_law_kind_here", "_law_some"]
theorem sc__law_six_logs : FnScope N__law_six_logs ["_law_kind_here", "_law_some"] d__law_six_logs.scope := ⟨rfl, rfl, rfl, by decide +kernel, rfl, by decide +kernel, by decide +kernel⟩
noncomputable def b__law_six_logs : SMir := (sSeq (sIf (tB1 (xOp dEq (xVar 1) (xLst aNil))) (sRet (xFn (mkM "Heard" m_Heard___init__) (aCons (xVar 0) aNil))) sNext) (sSeq (sIf (tB1 (xOp dEq (xCall dLen (aCons (xVar 1) aNil)) (xC (.int 1)))) (sRet (xFn (mkM "Heard" m_Heard___init__) (aCons (xVar 0) (aCons (xOp dIx (xVar 1) (xC (.int 0))) aNil)))) sNext) (sSeq (sIf (tB1 (xOp dEq (xCall dLen (aCons (xVar 1) aNil)) (xC (.int 2)))) (sRet (xFn (mkM "Heard" m_Heard___init__) (aCons (xVar 0) (aCons (xOp dIx (xVar 1) (xC (.int 0))) (aCons (xOp dIx (xVar 1) (xC (.int 1))) aNil))))) sNext) (sSeq (sIf (tB1 (xOp dEq (xCall dLen (aCons (xVar 1) aNil)) (xC (.int 3)))) (sRet (xFn (mkM "Heard" m_Heard___init__) (aCons (xVar 0) (aCons (xOp dIx (xVar 1) (xC (.int 0))) (aCons (xOp dIx (xVar 1) (xC (.int 1))) (aCons (xOp dIx (xVar 1) (xC (.int 2))) aNil)))))) sNext) (sSeq (sIf (tB1 (xOp dEq (xCall dLen (aCons (xVar 1) aNil)) (xC (.int 4)))) (sRet (xFn (mkM "Heard" m_Heard___init__) (aCons (xVar 0) (aCons (xOp dIx (xVar 1) (xC (.int 0))) (aCons (xOp dIx (xVar 1) (xC (.int 1))) (aCons (xOp dIx (xVar 1) (xC (.int 2))) (aCons (xOp dIx (xVar 1) (xC (.int 3))) aNil))))))) sNext) (sSeq (sIf (tB1 (xOp dEq (xCall dLen (aCons (xVar 1) aNil)) (xC (.int 5)))) (sRet (xFn (mkM "Heard" m_Heard___init__) (aCons (xVar 0) (aCons (xOp dIx (xVar 1) (xC (.int 0))) (aCons (xOp dIx (xVar 1) (xC (.int 1))) (aCons (xOp dIx (xVar 1) (xC (.int 2))) (aCons (xOp dIx (xVar 1) (xC (.int 3))) (aCons (xOp dIx (xVar 1) (xC (.int 4))) aNil)))))))) sNext) (sRet (xFn (mkM "Heard" m_Heard___init__) (aCons (xVar 0) (aCons (xOp dIx (xVar 1) (xC (.int 0))) (aCons (xOp dIx (xVar 1) (xC (.int 1))) (aCons (xOp dIx (xVar 1) (xC (.int 2))) (aCons (xOp dIx (xVar 1) (xC (.int 3))) (aCons (xOp dIx (xVar 1) (xC (.int 4))) (aCons (xOp dIx (xVar 1) (xC (.int 5))) aNil)))))))))))))))
noncomputable def m__law_six_logs : FMir := appN 2 [] (mDef 2 b__law_six_logs)
theorem bm__law_six_logs (k : KN K mg) (cdv : Value) (A : Around) (outer : List Env) (s : Shared) (H : Hp) (E : XK) (hr : Room 8 (A.deeper (envOfC d__law_six_logs.qual d__law_six_logs.scope s.heap.objs.size (cad K "_law_six_logs") cdv))) : BM (cxM P w K mg base N__law_six_logs d__law_six_logs.qual d__law_six_logs.scope (cad K "_law_six_logs") cdv A outer s H E) (wE E) d__law_six_logs.body b__law_six_logs := by
  have hu : (A.deeper (envOfC d__law_six_logs.qual d__law_six_logs.scope s.heap.objs.size (cad K "_law_six_logs") cdv)).units + 64 < cLine := hr.units
  exact (bm_cons (sm_if (tm_cmp (op_eqA hu) om_eq em_var (em_lst am_nil) rfl) (bm_one (sm_ret (em_call ((ok_Heard___init__ k).make (k.mkr 46) (hr.mono (by decide)) cx_takes) (k.glo 45) (k.mkr 46).kp (am_cons em_var am_nil)))) bm_nil) (bm_cons (sm_if (tm_cmp (op_eqA hu) om_eq (em_callB call_lenA cm_len rfl (k.free 0) (by decide +kernel) (am_cons em_var am_nil)) em_int rfl) (bm_one (sm_ret (em_call ((ok_Heard___init__ k).make (k.mkr 46) (hr.mono (by decide)) cx_takes) (k.glo 45) (k.mkr 46).kp (am_cons em_var (am_cons (em_ix em_var em_int) am_nil))))) bm_nil) (bm_cons (sm_if (tm_cmp (op_eqA hu) om_eq (em_callB call_lenA cm_len rfl (k.free 0) (by decide +kernel) (am_cons em_var am_nil)) em_int rfl) (bm_one (sm_ret (em_call ((ok_Heard___init__ k).make (k.mkr 46) (hr.mono (by decide)) cx_takes) (k.glo 45) (k.mkr 46).kp (am_cons em_var (am_cons (em_ix em_var em_int) (am_cons (em_ix em_var em_int) am_nil)))))) bm_nil) (bm_cons (sm_if (tm_cmp (op_eqA hu) om_eq (em_callB call_lenA cm_len rfl (k.free 0) (by decide +kernel) (am_cons em_var am_nil)) em_int rfl) (bm_one (sm_ret (em_call ((ok_Heard___init__ k).make (k.mkr 46) (hr.mono (by decide)) cx_takes) (k.glo 45) (k.mkr 46).kp (am_cons em_var (am_cons (em_ix em_var em_int) (am_cons (em_ix em_var em_int) (am_cons (em_ix em_var em_int) am_nil))))))) bm_nil) (bm_cons (sm_if (tm_cmp (op_eqA hu) om_eq (em_callB call_lenA cm_len rfl (k.free 0) (by decide +kernel) (am_cons em_var am_nil)) em_int rfl) (bm_one (sm_ret (em_call ((ok_Heard___init__ k).make (k.mkr 46) (hr.mono (by decide)) cx_takes) (k.glo 45) (k.mkr 46).kp (am_cons em_var (am_cons (em_ix em_var em_int) (am_cons (em_ix em_var em_int) (am_cons (em_ix em_var em_int) (am_cons (em_ix em_var em_int) am_nil)))))))) bm_nil) (bm_cons (sm_if (tm_cmp (op_eqA hu) om_eq (em_callB call_lenA cm_len rfl (k.free 0) (by decide +kernel) (am_cons em_var am_nil)) em_int rfl) (bm_one (sm_ret (em_call ((ok_Heard___init__ k).make (k.mkr 46) (hr.mono (by decide)) cx_takes) (k.glo 45) (k.mkr 46).kp (am_cons em_var (am_cons (em_ix em_var em_int) (am_cons (em_ix em_var em_int) (am_cons (em_ix em_var em_int) (am_cons (em_ix em_var em_int) (am_cons (em_ix em_var em_int) am_nil))))))))) bm_nil) (bm_one (sm_ret (em_call ((ok_Heard___init__ k).make (k.mkr 46) (hr.mono (by decide)) cx_takes) (k.glo 45) (k.mkr 46).kp (am_cons em_var (am_cons (em_ix em_var em_int) (am_cons (em_ix em_var em_int) (am_cons (em_ix em_var em_int) (am_cons (em_ix em_var em_int) (am_cons (em_ix em_var em_int) (am_cons (em_ix em_var em_int) am_nil))))))))))))))))
theorem ok__law_six_logs (k : KN K mg) : FR P w K mg base 9 (cad K "_law_six_logs") m__law_six_logs := by
  obtain ⟨fd, F⟩ := k.def_ 23 (d := d__law_six_logs)
  exact fr_of (fm_ok (N := N__law_six_logs) F sc__law_six_logs (bm__law_six_logs k)) (FunD.bindsN F fun _ _ _ _ _ _ us hl => match us, hl with | [_, _], _ => rfl)
abbrev N_Heard___sub__ : List Str := ["self", "number", "shorter", "last", "ahead"]
theorem sc_Heard___sub__ : FnScope N_Heard___sub__ ["self", "number"] d_Heard___sub__.scope := ⟨rfl, rfl, rfl, by decide +kernel, rfl, by decide +kernel, by decide +kernel⟩
noncomputable def b_Heard___sub__ : SMir := (sSeq (sAsg (xFld "Heard" "heard_logs" (xVar 0)) (gStar 2 0 (gsCons (gN 4) (gsCons (gN 3) gsNil)))) (sSeq (sIf (tmOr (tmNot (tB1 (xFn m_is_at_least (aCons (xVar 1) (aCons (xC (.int 0)) aNil))))) (tB1 (xOp dGt (xVar 1) (xCall dLen (aCons (xVar 3) aNil))))) (sRaise "InvalidNumber") sNext) (sSeq (sSet 2 (xSl (xVar 3) oNone (oSome (xOp dSub (xCall dLen (aCons (xVar 3) aNil)) (xVar 1))))) (sRet (xFn (mkM "Heard" m_Heard___init__) (aCons (xFld "Heard" "heard_kind" (xVar 0)) (aStar (xVar 4) (aCons (xVar 2) aNil))))))))
noncomputable def m_Heard___sub__ : FMir := appN 2 [] (mDef 5 b_Heard___sub__)
theorem bm_Heard___sub__ (k : KN K mg) (cdv : Value) (A : Around) (outer : List Env) (s : Shared) (H : Hp) (E : XK) (hr : Room 8 (A.deeper (envOfC d_Heard___sub__.qual d_Heard___sub__.scope s.heap.objs.size (He.ma K (cad K "Heard") "__sub__") cdv))) : BM (cxM P w K mg base N_Heard___sub__ d_Heard___sub__.qual d_Heard___sub__.scope (He.ma K (cad K "Heard") "__sub__") cdv A outer s H E) (wE E) d_Heard___sub__.body b_Heard___sub__ := by
  exact (bm_cons (sm_asg (em_fld em_var (k.cls 27) (k.noat 28)) (gm_star rfl (gms_starred (gm_name sc_Heard___sub__.nd) (gms_cons (gm_name sc_Heard___sub__.nd) gms_nil)) (by decide)) (gok_star (gsok_cons gok_name (gsok_cons gok_name gsok_nil)))) (bm_cons (sm_if (WM.tm (wm_or (tm_not (tm_val (em_call ((ok_is_at_least k).callF (hr.mono (by decide)) cx_takes) (k.glo 22) (kpi k 13 (d := d_is_at_least) rfl) (am_cons em_var (am_cons em_int am_nil))))) (wm_or1 (tm_cmp op_gt om_gt em_var (em_callB call_lenA cm_len rfl (k.free 0) (by decide +kernel) (am_cons em_var am_nil)) rfl)))) (bm_one (sm_raise0 (k.exc 48) (k.glo 49) rfl cx_takes)) bm_nil) (bm_cons (sm_set sc_Heard___sub__.nd (em_sl em_var xm_none (xm_some (em_op op_sub om_sub (em_callB call_lenA cm_len rfl (k.free 0) (by decide +kernel) (am_cons em_var am_nil)) em_var)))) (bm_one (sm_ret (em_callS ((ok_Heard___init__ k).make (k.mkr 46) (hr.mono (by decide)) cx_takes) (k.glo 45) (k.mkr 46).kp (am_cons (em_fld em_var (k.cls 27) (k.noat 44)) (am_star em_var (am_cons em_var am_nil)))))))))
theorem ok_Heard___sub__ (k : KN K mg) : FR P w K mg base 9 (He.ma K (cad K "Heard") "__sub__") m_Heard___sub__ := by
  obtain ⟨fd, F⟩ := k.def_ 24 (d := d_Heard___sub__)
  exact fr_of (fm_ok (N := N_Heard___sub__) F sc_Heard___sub__ (bm_Heard___sub__ k)) (FunD.bindsN F fun _ _ _ _ _ _ us hl => match us, hl with | [_, _], _ => rfl)
abbrev N__law_many : List Str := ["_law_some", "_law_past"]
theorem sc__law_many : FnScope N__law_many ["_law_some"] d__law_many.scope := ⟨rfl, rfl, rfl, by decide +kernel, rfl, by decide +kernel, by decide +kernel⟩
noncomputable def e__law_many_1 : Rho → Sto → Res D := (xCall dLen (aCons (xVar 1) aNil))
noncomputable def b__law_many : SMir := (sRet (xCall dSum (aCons (xLc (iVal (xVar 0)) (.nm 1) ttYes e__law_many_1 [1]) aNil)))
noncomputable def m__law_many : FMir := appN 1 [] (mDef 2 b__law_many)
theorem bm__law_many (k : KN K mg) (cdv : Value) (A : Around) (outer : List Env) (s : Shared) (H : Hp) (E : XK) (hr : Room 0 (A.deeper (envOfC d__law_many.qual d__law_many.scope s.heap.objs.size (cad K "_law_many") cdv))) : BM (cxM P w K mg base N__law_many d__law_many.qual d__law_many.scope (cad K "_law_many") cdv A outer s H E) (wE E) d__law_many.body b__law_many := by
  exact (bm_one (sm_ret (em_callB (cr_sum rfl) cm_sum rfl (k.free 50) (by decide +kernel) (am_cons (em_lc (own := [("_law_past", 1)]) rfl sc__law_many.nd (im_val em_var) (by decide) (show BlkOk N__law_many d__law_many.scope _ _ from ⟨rfl, by decide +kernel, by decide +kernel, by decide +kernel, by decide +kernel⟩) (fun s H C cl fp => (pnt_nm sc__law_many.nd)) (fun s H C cl fp => tsm_nil) (fun s H C cl fp => (em_callB call_lenA cm_len rfl (k.free 0) (by decide +kernel) (am_cons em_var am_nil)))) am_nil))))
theorem ok__law_many (k : KN K mg) : FR P w K mg base 1 (cad K "_law_many") m__law_many := by
  obtain ⟨fd, F⟩ := k.def_ 25 (d := d__law_many)
  exact fr_of (fm_ok (N := N__law_many) F sc__law_many (bm__law_many k)) (FunD.bindsN F fun _ _ _ _ _ _ us hl => match us, hl with | [_], _ => rfl)
abbrev N_Heard___and__ : List Str := ["self", "other"]
theorem sc_Heard___and__ : FnScope N_Heard___and__ ["self", "other"] d_Heard___and__.scope := ⟨rfl, rfl, rfl, by decide +kernel, rfl, by decide +kernel, by decide +kernel⟩
noncomputable def b_Heard___and__ : SMir := (sSeq (sIf (tmNot (tB1 (xIso ownL "Heard" (xVar 1)))) (sRaise "NotHeard") sNext) (sSeq (sIf (tB1 (xOp dNe (xFld "Heard" "heard_kind" (xVar 0)) (xFld "Heard" "heard_kind" (xVar 1)))) (sRaise "OtherKind") sNext) (sRet (xFn (mkM "Heard" m_Heard___init__) (aCons (xFld "Heard" "heard_kind" (xVar 0)) (aStar (xFld "Heard" "heard_logs" (xVar 0)) (aStar (xFld "Heard" "heard_logs" (xVar 1)) aNil)))))))
noncomputable def m_Heard___and__ : FMir := appN 2 [] (mDef 2 b_Heard___and__)
theorem bm_Heard___and__ (k : KN K mg) (cdv : Value) (A : Around) (outer : List Env) (s : Shared) (H : Hp) (E : XK) (hr : Room 8 (A.deeper (envOfC d_Heard___and__.qual d_Heard___and__.scope s.heap.objs.size (He.ma K (cad K "Heard") "__and__") cdv))) : BM (cxM P w K mg base N_Heard___and__ d_Heard___and__.qual d_Heard___and__.scope (He.ma K (cad K "Heard") "__and__") cdv A outer s H E) (wE E) d_Heard___and__.body b_Heard___and__ := by
  have hu : (A.deeper (envOfC d_Heard___and__.qual d_Heard___and__.scope s.heap.objs.size (He.ma K (cad K "Heard") "__and__") cdv)).units + 64 < cLine := hr.units
  exact (bm_cons (sm_if (tm_not (tm_val (em_iso (ownT k) (isoB_ok (exq k 5 rfl)) em_var (k.free 19) (k.glo 45)))) (bm_one (sm_raise0 (k.exc 52) (k.glo 53) rfl cx_takes)) bm_nil) (bm_cons (sm_if (tm_cmp (op_neA hu) om_ne (em_fld em_var (k.cls 27) (k.noat 44)) (em_fld em_var (k.cls 27) (k.noat 44)) rfl) (bm_one (sm_raise0 (k.exc 54) (k.glo 55) rfl cx_takes)) bm_nil) (bm_one (sm_ret (em_callS ((ok_Heard___init__ k).make (k.mkr 46) (hr.mono (by decide)) cx_takes) (k.glo 45) (k.mkr 46).kp (am_cons (em_fld em_var (k.cls 27) (k.noat 44)) (am_star (em_fld em_var (k.cls 27) (k.noat 28)) (am_star (em_fld em_var (k.cls 27) (k.noat 28)) am_nil))))))))
theorem ok_Heard___and__ (k : KN K mg) : FR P w K mg base 9 (He.ma K (cad K "Heard") "__and__") m_Heard___and__ := by
  obtain ⟨fd, F⟩ := k.def_ 26 (d := d_Heard___and__)
  exact fr_of (fm_ok (N := N_Heard___and__) F sc_Heard___and__ (bm_Heard___and__ k)) (FunD.bindsN F fun _ _ _ _ _ _ us hl => match us, hl with | [_, _], _ => rfl)
abbrev N_Heard___invert__ : List Str := ["self"]
theorem sc_Heard___invert__ : FnScope N_Heard___invert__ ["self"] d_Heard___invert__.scope := ⟨rfl, rfl, rfl, by decide +kernel, rfl, by decide +kernel, by decide +kernel⟩
noncomputable def b_Heard___invert__ : SMir := (sRet (xFn (mkM "Heard" m_Heard___init__) (aCons (xFld "Heard" "heard_kind" (xVar 0)) (aStar (xFld "Heard" "heard_logs" (xVar 0)) (aCons (xTup aNil) aNil)))))
noncomputable def m_Heard___invert__ : FMir := appN 1 [] (mDef 1 b_Heard___invert__)
theorem bm_Heard___invert__ (k : KN K mg) (cdv : Value) (A : Around) (outer : List Env) (s : Shared) (H : Hp) (E : XK) (hr : Room 8 (A.deeper (envOfC d_Heard___invert__.qual d_Heard___invert__.scope s.heap.objs.size (He.ma K (cad K "Heard") "__invert__") cdv))) : BM (cxM P w K mg base N_Heard___invert__ d_Heard___invert__.qual d_Heard___invert__.scope (He.ma K (cad K "Heard") "__invert__") cdv A outer s H E) (wE E) d_Heard___invert__.body b_Heard___invert__ := by
  exact (bm_one (sm_ret (em_callS ((ok_Heard___init__ k).make (k.mkr 46) (hr.mono (by decide)) cx_takes) (k.glo 45) (k.mkr 46).kp (am_cons (em_fld em_var (k.cls 27) (k.noat 44)) (am_star (em_fld em_var (k.cls 27) (k.noat 28)) (am_cons (em_tup am_nil) am_nil))))))
theorem ok_Heard___invert__ (k : KN K mg) : FR P w K mg base 9 (He.ma K (cad K "Heard") "__invert__") m_Heard___invert__ := by
  obtain ⟨fd, F⟩ := k.def_ 27 (d := d_Heard___invert__)
  exact fr_of (fm_ok (N := N_Heard___invert__) F sc_Heard___invert__ (bm_Heard___invert__ k)) (FunD.bindsN F fun _ _ _ _ _ _ us hl => match us, hl with | [_], _ => rfl)
abbrev N__law_step : List Str := ["_law_case_here", "_law_made", "_law_many_logs", "_law_mate", "_law_mate_logs", "_law_most_time", "_law_way", "_law_last", "_law_far", "_law_moment", "_law_price", "_law_entry_here", "_law_n"]
theorem sc__law_step : FnScope N__law_step ["_law_case_here", "_law_made", "_law_many_logs", "_law_mate", "_law_mate_logs", "_law_most_time"] d__law_step.scope := ⟨rfl, rfl, rfl, by decide +kernel, rfl, by decide +kernel, by decide +kernel⟩
noncomputable def b__law_step : SMir := (sSeq (sPar2 6 7 (aCons (xFn m__law_take (aCons (xVar 0) (aCons (xC (.int 4)) aNil))) (aCons (xOp dIx (xVar 2) (xNeg (xC (.int 1)))) aNil))) (sSeq (sIf (tB1 (xOp dEq (xVar 6) (xC (.int 0)))) (sSeq (sSet 8 (xIf (tB1 (xOp dNe (xVar 7) (xTup aNil))) (xOp dIx (xOp dIx (xVar 7) (xNeg (xC (.int 1)))) (xC (.int 0))) (xC (.int 0)))) (sSeq (sSet 9 (xCall dMax (aCons (xVar 8) (aCons (xCall dMin (aCons (xVar 5) (aCons (xOp (ownBin "Heard" ["tuple"] m_Heard___add__ dAdd) (xVar 8) (xFn m__law_take (aCons (xVar 0) (aCons (xC (.int 9)) aNil)))) aNil))) aNil)))) (sSeq (sSet 10 (xOp (ownBin "Heard" ["tuple"] m_Heard___add__ dAdd) (xC (.int 1)) (xFn m__law_take (aCons (xVar 0) (aCons (xOp dIx (xLst (aCons (xC (.int 9)) (aCons (xOp (ownBin "Heard" ["int"] m_Heard___sub__ dSub) (xOp dPow (xC (.int 10)) (xC (.int 9))) (xC (.int 1))) aNil))) (xFn m__law_take (aCons (xVar 0) (aCons (xC (.int 2)) aNil)))) aNil))))) (sSeq (sSet 11 (xTup (aCons (xVar 9) (aCons (xVar 10) (aCons (xOp dEq (xFn m__law_take (aCons (xVar 0) (aCons (xC (.int 2)) aNil))) (xC (.int 0))) aNil))))) (sRet (xTup (aCons (xOp (ownBin "Heard" ["tuple"] m_Heard___add__ dAdd) (xVar 1) (xVar 11)) (aCons (xOp (ownBin "Heard" ["tuple"] m_Heard___add__ dAdd) (xSl (xVar 2) oNone (oSome (xNeg (xC (.int 1))))) (xLst (aCons (xOp (ownBin "Heard" ["tuple"] m_Heard___add__ dAdd) (xVar 7) (xTup (aCons (xVar 11) aNil))) aNil))) aNil)))))))) sNext) (sSeq (sIf (tB1 (xOp dEq (xVar 6) (xC (.int 1)))) (sSeq (sSet 12 (xFn m__law_take (aCons (xVar 0) (aCons (xOp (ownBin "Heard" ["tuple"] m_Heard___add__ dAdd) (xCall dLen (aCons (xVar 7) aNil)) (xC (.int 1))) aNil)))) (sRet (xTup (aCons (xOp (ownBin "Heard" ["int"] m_Heard___sub__ dSub) (xVar 1) (xVar 12)) (aCons (xOp (ownBin "Heard" ["tuple"] m_Heard___add__ dAdd) (xSl (xVar 2) oNone (oSome (xNeg (xC (.int 1))))) (xLst (aCons (xSl (xVar 7) oNone (oSome (xOp (ownBin "Heard" ["int"] m_Heard___sub__ dSub) (xCall dLen (aCons (xVar 7) aNil)) (xVar 12)))) aNil))) aNil))))) sNext) (sSeq (sIf (tmAnd (tB1 (xOp dEq (xVar 6) (xC (.int 2)))) (tmAnd (tB1 (xOp dLt (xOp (ownBin "Heard" ["tuple"] m_Heard___add__ dAdd) (xCall dLen (aCons (xVar 2) aNil)) (xCall dLen (aCons (xVar 4) aNil))) (xC (.int 7)))) (tB1 (xOp dLt (xFn m__law_many (aCons (xOp (ownBin "Heard" ["tuple"] m_Heard___add__ dAdd) (xVar 2) (xVar 4)) aNil)) (xC (.int 27)))))) (sRet (xTup (aCons (xOp (ownBin "Heard" [] m_Heard___and__ (fun _ _ _ => .stuck)) (xVar 1) (xVar 3)) (aCons (xOp (ownBin "Heard" ["tuple"] m_Heard___add__ dAdd) (xVar 2) (xVar 4)) aNil)))) sNext) (sRet (xIf (tB1 (xOp dLt (xCall dLen (aCons (xVar 2) aNil)) (xC (.int 6)))) (xTup (aCons (xUn "Heard" m_Heard___invert__ (xVar 1)) (aCons (xOp (ownBin "Heard" ["tuple"] m_Heard___add__ dAdd) (xVar 2) (xLst (aCons (xTup aNil) aNil))) aNil))) (xTup (aCons (xOp (ownBin "Heard" ["int"] m_Heard___sub__ dSub) (xVar 1) (xC (.int 0))) (aCons (xVar 2) aNil)))))))))
noncomputable def m__law_step : FMir := appN 6 [] (mDef 13 b__law_step)
theorem bm__law_step (k : KN K mg) (cdv : Value) (A : Around) (outer : List Env) (s : Shared) (H : Hp) (E : XK) (hr : Room 9 (A.deeper (envOfC d__law_step.qual d__law_step.scope s.heap.objs.size (cad K "_law_step") cdv))) : BM (cxM P w K mg base N__law_step d__law_step.qual d__law_step.scope (cad K "_law_step") cdv A outer s H E) (wE E) d__law_step.body b__law_step := by
  have hu : (A.deeper (envOfC d__law_step.qual d__law_step.scope s.heap.objs.size (cad K "_law_step") cdv)).units + 64 < cLine := hr.units
  exact (bm_cons (sm_par2 rfl sc__law_step.nd (am_cons (em_call ((ok__law_take k).callF (hr.mono (by decide)) cx_takes) (k.glo 5) (kpi k 1 (d := d__law_take) rfl) (am_cons em_var (am_cons em_int am_nil))) (am_cons (em_ix em_var (em_neg em_int)) am_nil))) (bm_cons (sm_if (tm_cmp (op_eqA hu) om_eq em_var em_int rfl) (bm_cons (sm_set sc__law_step.nd (em_if (tm_cmp (op_neA hu) om_ne em_var (em_tup am_nil) rfl) (em_ix (em_ix em_var (em_neg em_int)) em_int) em_int)) (bm_cons (sm_set sc__law_step.nd (em_callB (call_maxA rfl) cm_max rfl (k.free 2) (by decide +kernel) (am_cons em_var (am_cons (em_callB (call_minA rfl) cm_min rfl (k.free 8) (by decide +kernel) (am_cons em_var (am_cons (em_opW (opw_own ((ok_Heard___add__ k).callF (hr.mono (by decide)) cx_takes) (opB_ok (exq k 1 rfl)) (fun T hT => by simp only [List.mem_cons, List.not_mem_nil, or_false] at hT; subst hT; exact ⟨by decide, opTyB_ok (exq k 2 rfl)⟩) (OpW.of op_addA om_add)) em_var (em_call ((ok__law_take k).callF (hr.mono (by decide)) cx_takes) (k.glo 5) (kpi k 1 (d := d__law_take) rfl) (am_cons em_var (am_cons em_int am_nil)))) am_nil))) am_nil)))) (bm_cons (sm_set sc__law_step.nd (em_opW (opw_own ((ok_Heard___add__ k).callF (hr.mono (by decide)) cx_takes) (opB_ok (exq k 1 rfl)) (fun T hT => by simp only [List.mem_cons, List.not_mem_nil, or_false] at hT; subst hT; exact ⟨by decide, opTyB_ok (exq k 2 rfl)⟩) (OpW.of op_addA om_add)) em_int (em_call ((ok__law_take k).callF (hr.mono (by decide)) cx_takes) (k.glo 5) (kpi k 1 (d := d__law_take) rfl) (am_cons em_var (am_cons (em_ix (em_lst (am_cons em_int (am_cons (em_opW (opw_own ((ok_Heard___sub__ k).callF (hr.mono (by decide)) cx_takes) (opB_ok (exq k 3 rfl)) (fun T hT => by simp only [List.mem_cons, List.not_mem_nil, or_false] at hT; subst hT; exact ⟨by decide, opTyB_ok (exq k 4 rfl)⟩) (OpW.of op_sub om_sub)) (em_op op_powW om_pow em_int em_int) em_int) am_nil))) (em_call ((ok__law_take k).callF (hr.mono (by decide)) cx_takes) (k.glo 5) (kpi k 1 (d := d__law_take) rfl) (am_cons em_var (am_cons em_int am_nil)))) am_nil))))) (bm_cons (sm_set sc__law_step.nd (em_tup (am_cons em_var (am_cons em_var (am_cons (em_cmp (op_eqA hu) om_eq (em_call ((ok__law_take k).callF (hr.mono (by decide)) cx_takes) (k.glo 5) (kpi k 1 (d := d__law_take) rfl) (am_cons em_var (am_cons em_int am_nil))) em_int rfl) am_nil))))) (bm_one (sm_ret (em_tup (am_cons (em_opW (opw_own ((ok_Heard___add__ k).callF (hr.mono (by decide)) cx_takes) (opB_ok (exq k 1 rfl)) (fun T hT => by simp only [List.mem_cons, List.not_mem_nil, or_false] at hT; subst hT; exact ⟨by decide, opTyB_ok (exq k 2 rfl)⟩) (OpW.of op_addA om_add)) em_var em_var) (am_cons (em_opW (opw_own ((ok_Heard___add__ k).callF (hr.mono (by decide)) cx_takes) (opB_ok (exq k 1 rfl)) (fun T hT => by simp only [List.mem_cons, List.not_mem_nil, or_false] at hT; subst hT; exact ⟨by decide, opTyB_ok (exq k 2 rfl)⟩) (OpW.of op_addA om_add)) (em_sl em_var xm_none (xm_some (em_neg em_int))) (em_lst (am_cons (em_opW (opw_own ((ok_Heard___add__ k).callF (hr.mono (by decide)) cx_takes) (opB_ok (exq k 1 rfl)) (fun T hT => by simp only [List.mem_cons, List.not_mem_nil, or_false] at hT; subst hT; exact ⟨by decide, opTyB_ok (exq k 2 rfl)⟩) (OpW.of op_addA om_add)) em_var (em_tup (am_cons em_var am_nil))) am_nil))) am_nil))))))))) bm_nil) (bm_cons (sm_if (tm_cmp (op_eqA hu) om_eq em_var em_int rfl) (bm_cons (sm_set sc__law_step.nd (em_call ((ok__law_take k).callF (hr.mono (by decide)) cx_takes) (k.glo 5) (kpi k 1 (d := d__law_take) rfl) (am_cons em_var (am_cons (em_opW (opw_own ((ok_Heard___add__ k).callF (hr.mono (by decide)) cx_takes) (opB_ok (exq k 1 rfl)) (fun T hT => by simp only [List.mem_cons, List.not_mem_nil, or_false] at hT; subst hT; exact ⟨by decide, opTyB_ok (exq k 2 rfl)⟩) (OpW.of op_addA om_add)) (em_callB call_lenA cm_len rfl (k.free 0) (by decide +kernel) (am_cons em_var am_nil)) em_int) am_nil)))) (bm_one (sm_ret (em_tup (am_cons (em_opW (opw_own ((ok_Heard___sub__ k).callF (hr.mono (by decide)) cx_takes) (opB_ok (exq k 3 rfl)) (fun T hT => by simp only [List.mem_cons, List.not_mem_nil, or_false] at hT; subst hT; exact ⟨by decide, opTyB_ok (exq k 4 rfl)⟩) (OpW.of op_sub om_sub)) em_var em_var) (am_cons (em_opW (opw_own ((ok_Heard___add__ k).callF (hr.mono (by decide)) cx_takes) (opB_ok (exq k 1 rfl)) (fun T hT => by simp only [List.mem_cons, List.not_mem_nil, or_false] at hT; subst hT; exact ⟨by decide, opTyB_ok (exq k 2 rfl)⟩) (OpW.of op_addA om_add)) (em_sl em_var xm_none (xm_some (em_neg em_int))) (em_lst (am_cons (em_sl em_var xm_none (xm_some (em_opW (opw_own ((ok_Heard___sub__ k).callF (hr.mono (by decide)) cx_takes) (opB_ok (exq k 3 rfl)) (fun T hT => by simp only [List.mem_cons, List.not_mem_nil, or_false] at hT; subst hT; exact ⟨by decide, opTyB_ok (exq k 4 rfl)⟩) (OpW.of op_sub om_sub)) (em_callB call_lenA cm_len rfl (k.free 0) (by decide +kernel) (am_cons em_var am_nil)) em_var))) am_nil))) am_nil)))))) bm_nil) (bm_cons (sm_if (WM.tm (wm_and (tm_cmp (op_eqA hu) om_eq em_var em_int rfl) (wm_and (tm_cmp op_lt om_lt (em_opW (opw_own ((ok_Heard___add__ k).callF (hr.mono (by decide)) cx_takes) (opB_ok (exq k 1 rfl)) (fun T hT => by simp only [List.mem_cons, List.not_mem_nil, or_false] at hT; subst hT; exact ⟨by decide, opTyB_ok (exq k 2 rfl)⟩) (OpW.of op_addA om_add)) (em_callB call_lenA cm_len rfl (k.free 0) (by decide +kernel) (am_cons em_var am_nil)) (em_callB call_lenA cm_len rfl (k.free 0) (by decide +kernel) (am_cons em_var am_nil))) em_int rfl) (wm_and1 (tm_cmp op_lt om_lt (em_call ((ok__law_many k).callF (hr.mono (by decide)) cx_takes) (k.glo 51) (kpi k 25 (d := d__law_many) rfl) (am_cons (em_opW (opw_own ((ok_Heard___add__ k).callF (hr.mono (by decide)) cx_takes) (opB_ok (exq k 1 rfl)) (fun T hT => by simp only [List.mem_cons, List.not_mem_nil, or_false] at hT; subst hT; exact ⟨by decide, opTyB_ok (exq k 2 rfl)⟩) (OpW.of op_addA om_add)) em_var em_var) am_nil)) em_int rfl))))) (bm_one (sm_ret (em_tup (am_cons (em_opW (opw_own ((ok_Heard___and__ k).callF (hr.mono (by decide)) cx_takes) (opB_ok (exq k 6 rfl)) (fun T hT => by cases hT) opw_stuck) em_var em_var) (am_cons (em_opW (opw_own ((ok_Heard___add__ k).callF (hr.mono (by decide)) cx_takes) (opB_ok (exq k 1 rfl)) (fun T hT => by simp only [List.mem_cons, List.not_mem_nil, or_false] at hT; subst hT; exact ⟨by decide, opTyB_ok (exq k 2 rfl)⟩) (OpW.of op_addA om_add)) em_var em_var) am_nil))))) bm_nil) (bm_one (sm_ret (em_if (tm_cmp op_lt om_lt (em_callB call_lenA cm_len rfl (k.free 0) (by decide +kernel) (am_cons em_var am_nil)) em_int rfl) (em_tup (am_cons (em_inv ((ok_Heard___invert__ k).callF (hr.mono (by decide)) cx_takes) (atB_ok (exq k 7 rfl)).1 (atB_ok (exq k 7 rfl)).2 em_var) (am_cons (em_opW (opw_own ((ok_Heard___add__ k).callF (hr.mono (by decide)) cx_takes) (opB_ok (exq k 1 rfl)) (fun T hT => by simp only [List.mem_cons, List.not_mem_nil, or_false] at hT; subst hT; exact ⟨by decide, opTyB_ok (exq k 2 rfl)⟩) (OpW.of op_addA om_add)) em_var (em_lst (am_cons (em_tup am_nil) am_nil))) am_nil))) (em_tup (am_cons (em_opW (opw_own ((ok_Heard___sub__ k).callF (hr.mono (by decide)) cx_takes) (opB_ok (exq k 3 rfl)) (fun T hT => by simp only [List.mem_cons, List.not_mem_nil, or_false] at hT; subst hT; exact ⟨by decide, opTyB_ok (exq k 4 rfl)⟩) (OpW.of op_sub om_sub)) em_var em_int) (am_cons em_var am_nil))))))))))
theorem ok__law_step (k : KN K mg) : FR P w K mg base 10 (cad K "_law_step") m__law_step := by
  obtain ⟨fd, F⟩ := k.def_ 28 (d := d__law_step)
  exact fr_of (fm_ok (N := N__law_step) F sc__law_step (bm__law_step k)) (FunD.bindsN F fun _ _ _ _ _ _ us hl => match us, hl with | [_, _, _, _, _, _], _ => rfl)
abbrev N__law_same : List Str := ["_law_found", "_law_due", "_law_k"]
theorem sc__law_same : FnScope N__law_same ["_law_found", "_law_due"] d__law_same.scope := ⟨rfl, rfl, rfl, by decide +kernel, rfl, by decide +kernel, by decide +kernel⟩
noncomputable def e__law_same_1 (rec : FMir) : Rho → Sto → Res D := (xVar 2)
noncomputable def b__law_same (rec : FMir) : SMir := (sSeq (sIf (tmOr (tB1 (xIsi ownL "bool" (xVar 0))) (tB1 (xIsi ownL "bool" (xVar 1)))) (sRet (xAnd (xIsi ownL "bool" (xVar 0)) (xAnd (xIsi ownL "bool" (xVar 1)) (xOp dEq (xVar 0) (xVar 1))))) sNext) (sSeq (sIf (tB1 (xOp dNe (xIsi ownL "list" (xVar 0)) (xIsi ownL "list" (xVar 1)))) (sRet (xC (.bl false))) sNext) (sSeq (sIf (tmAnd (tB1 (xIsi2 ownL "list" "tuple" (xVar 0))) (tB1 (xIsi2 ownL "list" "tuple" (xVar 1)))) (sSeq (sIf (tB1 (xOp dNe (xCall dLen (aCons (xVar 0) aNil)) (xCall dLen (aCons (xVar 1) aNil)))) (sRet (xC (.bl false))) sNext) (sRet (xOp dEq (xLc (iOf rdR1 (aCons (xCall dLen (aCons (xVar 1) aNil)) aNil)) (.nm 2) (tmNot (tB1 (xFn rec (aCons (xOp dIx (xVar 0) (xVar 2)) (aCons (xOp dIx (xVar 1) (xVar 2)) aNil))))) (e__law_same_1 rec) [2]) (xLst aNil)))) sNext) (sRet (xAnd (xOp dEq (xVar 0) (xVar 1)) (xOp dEq (xIsi ownL "int" (xVar 0)) (xIsi ownL "int" (xVar 1))))))))
noncomputable def m__law_same : Nat → FMir
  | 0 => fun _ _ => .stuck
  | n + 1 => appN 2 [] (mDef 3 (b__law_same (m__law_same n)))
theorem ok__law_same (k : KN K mg) : ∀ n, FR P w K mg base (1 + n) (cad K "_law_same") (m__law_same n)
  | 0 => fun _ _ _ _ _ _ _ _ _ _ _ ⟨_, _, _, _, _, p⟩ => p.elim
  | n + 1 => by
    have ih : FR P w K mg base (1 + n) (cad K "_law_same") (m__law_same n) := ok__law_same k n
    obtain ⟨fd, F⟩ := k.def_ 29 (d := d__law_same)
    refine fr_of (fm_ok (N := N__law_same) (b := b__law_same (m__law_same n)) F sc__law_same fun cdv A outer s H E hr => ?_) (FunD.bindsN F fun _ _ _ _ _ _ us hl => match us, hl with | [_, _], _ => rfl)
    have hu : (A.deeper (envOfC d__law_same.qual d__law_same.scope s.heap.objs.size (cad K "_law_same") cdv)).units + 64 < cLine := hr.units
    exact (bm_cons (sm_if (WM.tm (wm_or (tm_val (em_isi (ownT k) em_var (k.free 19) (by decide) (k.free 20) (by decide +kernel))) (wm_or1 (tm_val (em_isi (ownT k) em_var (k.free 19) (by decide) (k.free 20) (by decide +kernel)))))) (bm_one (sm_ret (em_and (em_isi (ownT k) em_var (k.free 19) (by decide) (k.free 20) (by decide +kernel)) (em_and (em_isi (ownT k) em_var (k.free 19) (by decide) (k.free 20) (by decide +kernel)) (em_one (em_cmp (op_eqA hu) om_eq em_var em_var rfl)))))) bm_nil) (bm_cons (sm_if (tm_cmp (op_neA hu) om_ne (em_isi (ownT k) em_var (k.free 19) (by decide) (k.free 57) (by decide +kernel)) (em_isi (ownT k) em_var (k.free 19) (by decide) (k.free 57) (by decide +kernel)) rfl) (bm_one (sm_ret em_bl)) bm_nil) (bm_cons (sm_if (WM.tm (wm_and (tm_val (em_isi2 (ownT k) em_var (k.free 19) (by decide) (by decide) (k.free 57) (k.free 15) (by decide +kernel) (by decide +kernel))) (wm_and1 (tm_val (em_isi2 (ownT k) em_var (k.free 19) (by decide) (by decide) (k.free 57) (k.free 15) (by decide +kernel) (by decide +kernel)))))) (bm_cons (sm_if (tm_cmp (op_neA hu) om_ne (em_callB call_lenA cm_len rfl (k.free 0) (by decide +kernel) (am_cons em_var am_nil)) (em_callB call_lenA cm_len rfl (k.free 0) (by decide +kernel) (am_cons em_var am_nil)) rfl) (bm_one (sm_ret em_bl)) bm_nil) (bm_one (sm_ret (em_cmp (op_eqA hu) om_eq (em_lc (own := [("_law_k", 2)]) rfl sc__law_same.nd (im_rng1 (am_cons (em_callB call_lenA cm_len rfl (k.free 0) (by decide +kernel) (am_cons em_var am_nil)) am_nil) (k.free 7)) (by decide) (show BlkOk N__law_same d__law_same.scope _ _ from ⟨rfl, by decide +kernel, by decide +kernel, by decide +kernel, by decide +kernel⟩) (fun s H C cl fp => (pnt_nm sc__law_same.nd)) (fun s H C cl fp => (tsm_one (tm_not (tm_val (em_call (ih.callF (hr.mono (show _ ≤ 1 + n by omega)) tkW0) (k.glo 58) (FunD.kp F) (am_cons (em_ix em_var em_var) (am_cons (em_ix em_var em_var) am_nil))))))) (fun s H C cl fp => em_var)) (em_lst am_nil) rfl)))) bm_nil) (bm_one (sm_ret (em_and (em_cmp (op_eqA hu) om_eq em_var em_var rfl) (em_one (em_cmp (op_eqA hu) om_eq (em_isi (ownT k) em_var (k.free 19) (by decide) (k.free 1) (by decide +kernel)) (em_isi (ownT k) em_var (k.free 19) (by decide) (k.free 1) (by decide +kernel)) rfl))))))))
abbrev N_Heard___len__ : List Str := ["self", "log", "entry"]
theorem sc_Heard___len__ : FnScope N_Heard___len__ ["self"] d_Heard___len__.scope := ⟨rfl, rfl, rfl, by decide +kernel, rfl, by decide +kernel, by decide +kernel⟩
noncomputable def e_Heard___len___1 : Rho → Sto → Res D := (xVar 2)
noncomputable def b_Heard___len__ : SMir := (sRet (xCall dLen (aCons (xLc2 (iVal (xFld "Heard" "heard_logs" (xVar 0))) (.nm 1) ttYes (iVal (xVar 1)) (.nm 2) ttYes e_Heard___len___1 [1, 2] [2]) aNil)))
noncomputable def m_Heard___len__ : FMir := appN 1 [] (mDef 3 b_Heard___len__)
theorem bm_Heard___len__ (k : KN K mg) (cdv : Value) (A : Around) (outer : List Env) (s : Shared) (H : Hp) (E : XK) (hr : Room 0 (A.deeper (envOfC d_Heard___len__.qual d_Heard___len__.scope s.heap.objs.size (He.ma K (cad K "Heard") "__len__") cdv))) : BM (cxM P w K mg base N_Heard___len__ d_Heard___len__.qual d_Heard___len__.scope (He.ma K (cad K "Heard") "__len__") cdv A outer s H E) (wE E) d_Heard___len__.body b_Heard___len__ := by
  exact (bm_one (sm_ret (em_callB call_lenA cm_len rfl (k.free 0) (by decide +kernel) (am_cons (em_lc2 (own := [("log", 1), ("entry", 2)]) (vs1 := [2]) rfl sc_Heard___len__.nd (im_val (em_fld em_var (k.cls 27) (k.noat 28))) (by decide) (by decide) (show BlkOk N_Heard___len__ d_Heard___len__.scope _ _ from ⟨rfl, by decide +kernel, by decide +kernel, by decide +kernel, by decide +kernel⟩) (by decide) (fun s H C cl fp => (pnt_nm sc_Heard___len__.nd)) (fun s H C cl fp => tsm_nil) (fun s H C cl fp => (im_val em_var)) (fun s H C cl fp => (pnt_nm sc_Heard___len__.nd)) (fun s H C cl fp => tsm_nil) (fun s H C cl fp => em_var)) am_nil))))
theorem ok_Heard___len__ (k : KN K mg) : FR P w K mg base 1 (He.ma K (cad K "Heard") "__len__") m_Heard___len__ := by
  obtain ⟨fd, F⟩ := k.def_ 30 (d := d_Heard___len__)
  exact fr_of (fm_ok (N := N_Heard___len__) F sc_Heard___len__ (bm_Heard___len__ k)) (FunD.bindsN F fun _ _ _ _ _ _ us hl => match us, hl with | [_], _ => rfl)
abbrev N_Heard_logs : List Str := ["self"]
theorem sc_Heard_logs : FnScope N_Heard_logs ["self"] d_Heard_logs.scope := ⟨rfl, rfl, rfl, by decide +kernel, rfl, by decide +kernel, by decide +kernel⟩
noncomputable def b_Heard_logs : SMir := (sRet (xLstM (aStar (xFld "Heard" "heard_logs" (xVar 0)) aNil)))
noncomputable def m_Heard_logs : FMir := appN 1 [] (mDef 1 b_Heard_logs)
theorem bm_Heard_logs (k : KN K mg) (cdv : Value) (A : Around) (outer : List Env) (s : Shared) (H : Hp) (E : XK) (hr : Room 0 (A.deeper (envOfC d_Heard_logs.qual d_Heard_logs.scope s.heap.objs.size (prG K "Heard" "logs") cdv))) : BM (cxM P w K mg base N_Heard_logs d_Heard_logs.qual d_Heard_logs.scope (prG K "Heard" "logs") cdv A outer s H E) (wE E) d_Heard_logs.body b_Heard_logs := by
  exact (bm_one (sm_ret (em_lstM (am_star (em_fld em_var (k.cls 27) (k.noat 28)) am_nil))))
theorem ok_Heard_logs (k : KN K mg) : FR P w K mg base 1 (prG K "Heard" "logs") m_Heard_logs := by
  obtain ⟨fd, F⟩ := k.pdef (p := ("Heard", "logs", d_Heard_logs)) (by simp [px]) rfl rfl
  exact fr_of (fm_ok (N := N_Heard_logs) F sc_Heard_logs (bm_Heard_logs k)) (FunD.bindsN F fun _ _ _ _ _ _ us hl => match us, hl with | [_], _ => rfl)
abbrev N_Heard_kind : List Str := ["self"]
theorem sc_Heard_kind : FnScope N_Heard_kind ["self"] d_Heard_kind.scope := ⟨rfl, rfl, rfl, by decide +kernel, rfl, by decide +kernel, by decide +kernel⟩
noncomputable def b_Heard_kind : SMir := (sRet (xFld "Heard" "heard_kind" (xVar 0)))
noncomputable def m_Heard_kind : FMir := appN 1 [] (mDef 1 b_Heard_kind)
theorem bm_Heard_kind (k : KN K mg) (cdv : Value) (A : Around) (outer : List Env) (s : Shared) (H : Hp) (E : XK) (hr : Room 0 (A.deeper (envOfC d_Heard_kind.qual d_Heard_kind.scope s.heap.objs.size (prG K "Heard" "kind") cdv))) : BM (cxM P w K mg base N_Heard_kind d_Heard_kind.qual d_Heard_kind.scope (prG K "Heard" "kind") cdv A outer s H E) (wE E) d_Heard_kind.body b_Heard_kind := by
  exact (bm_one (sm_ret (em_fld em_var (k.cls 27) (k.noat 44))))
theorem ok_Heard_kind (k : KN K mg) : FR P w K mg base 1 (prG K "Heard" "kind") m_Heard_kind := by
  obtain ⟨fd, F⟩ := k.pdef (p := ("Heard", "kind", d_Heard_kind)) (by simp [px]) rfl rfl
  exact fr_of (fm_ok (N := N_Heard_kind) F sc_Heard_kind (bm_Heard_kind k)) (FunD.bindsN F fun _ _ _ _ _ _ us hl => match us, hl with | [_], _ => rfl)
abbrev N__law_shown : List Str := ["_law_made", "_law_kind_here", "_law_many_logs"]
theorem sc__law_shown : FnScope N__law_shown ["_law_made", "_law_kind_here", "_law_many_logs"] d__law_shown.scope := ⟨rfl, rfl, rfl, by decide +kernel, rfl, by decide +kernel, by decide +kernel⟩
noncomputable def b__law_shown : SMir := (sSeq (sIf (tmNot (tB1 (xFn (m__law_same 8) (aCons (xLst (aCons (xProp "Heard" m_Heard_kind (xVar 0)) (aCons (xProp "Heard" m_Heard_logs (xVar 0)) (aCons (xFn (ownLen "Heard" m_Heard___len__) (aCons (xVar 0) aNil)) aNil)))) (aCons (xLst (aCons (xVar 1) (aCons (xVar 2) (aCons (xFn m__law_many (aCons (xVar 2) aNil)) aNil)))) aNil))))) (sRet (xC (.bl false))) sNext) (sSeq (sAppend (xProp "Heard" m_Heard_logs (xVar 0)) (xTup (aCons (xTup (aCons (xC (.int 0)) (aCons (xC (.int 1)) (aCons (xC (.bl true)) aNil)))) aNil))) (sRet (xAnd (xFn (m__law_same 8) (aCons (xProp "Heard" m_Heard_logs (xVar 0)) (aCons (xVar 2) aNil))) (xIso ownL "Heard" (xVar 0))))))
noncomputable def m__law_shown : FMir := appN 3 [] (mDef 3 b__law_shown)
theorem bm__law_shown (k : KN K mg) (cdv : Value) (A : Around) (outer : List Env) (s : Shared) (H : Hp) (E : XK) (hr : Room 9 (A.deeper (envOfC d__law_shown.qual d__law_shown.scope s.heap.objs.size (cad K "_law_shown") cdv))) : BM (cxM P w K mg base N__law_shown d__law_shown.qual d__law_shown.scope (cad K "_law_shown") cdv A outer s H E) (wE E) d__law_shown.body b__law_shown := by
  exact (bm_cons (sm_if (tm_not (tm_val (em_call ((ok__law_same k 8).callF (hr.mono (by decide)) cx_takes) (k.glo 58) (kpi k 29 (d := d__law_same) rfl) (am_cons (em_lst (am_cons (em_prop em_var (k.cls 27) (k.prop (p := ("Heard", "kind", d_Heard_kind)) (by simp [px])) (ok_Heard_kind k) (hr.mono (by decide))) (am_cons (em_prop em_var (k.cls 27) (k.prop (p := ("Heard", "logs", d_Heard_logs)) (by simp [px])) (ok_Heard_logs k) (hr.mono (by decide))) (am_cons (em_bF (cf_lenOwn (ok_Heard___len__ k) (hr.mono (by decide)) cx_takes (atB_ok (exq k 8 rfl)).1 (atB_ok (exq k 8 rfl)).2) rfl (k.free 0) (by decide +kernel) (am_cons em_var am_nil)) am_nil)))) (am_cons (em_lst (am_cons em_var (am_cons em_var (am_cons (em_call ((ok__law_many k).callF (hr.mono (by decide)) cx_takes) (k.glo 51) (kpi k 25 (d := d__law_many) rfl) (am_cons em_var am_nil)) am_nil)))) am_nil))))) (bm_one (sm_ret em_bl)) bm_nil) (bm_cons (sm_append (em_prop em_var (k.cls 27) (k.prop (p := ("Heard", "logs", d_Heard_logs)) (by simp [px])) (ok_Heard_logs k) (hr.mono (by decide))) (em_tup (am_cons (em_tup (am_cons em_int (am_cons em_int (am_cons em_bl am_nil)))) am_nil))) (bm_one (sm_ret (em_and (em_call ((ok__law_same k 8).callF (hr.mono (by decide)) cx_takes) (k.glo 58) (kpi k 29 (d := d__law_same) rfl) (am_cons (em_prop em_var (k.cls 27) (k.prop (p := ("Heard", "logs", d_Heard_logs)) (by simp [px])) (ok_Heard_logs k) (hr.mono (by decide))) (am_cons em_var am_nil))) (em_one (em_iso (ownT k) (isoB_ok (exq k 5 rfl)) em_var (k.free 19) (k.glo 45))))))))
theorem ok__law_shown (k : KN K mg) : FR P w K mg base 10 (cad K "_law_shown") m__law_shown := by
  obtain ⟨fd, F⟩ := k.def_ 31 (d := d__law_shown)
  exact fr_of (fm_ok (N := N__law_shown) F sc__law_shown (bm__law_shown k)) (FunD.bindsN F fun _ _ _ _ _ _ us hl => match us, hl with | [_, _, _], _ => rfl)
abbrev N_law : List Str := ["_law_script", "_law_at", "_law_case_here", "_law_kind_here", "_law_many_logs", "_law_mate_logs", "_law_held", "_law_turn", "_law_back", "_law_made", "_law_mate", "_law_now", "_law_now_logs", "_law_k", "_law_far", "_law_far_logs"]
theorem sc_law : FnScope N_law ["_law_script"] d_law.scope := ⟨rfl, rfl, rfl, by decide +kernel, rfl, by decide +kernel, by decide +kernel⟩
noncomputable def e_law_1 : Rho → Sto → Res D := (xFn m__law_spoken (aCons (xVar 2) (aCons (xVar 3) (aCons (xC (.int 6)) (aCons (xOp dPow (xC (.int 10)) (xC (.int 7))) aNil)))))
noncomputable def e_law_2 : Rho → Sto → Res D := (xFn m__law_spoken (aCons (xVar 2) (aCons (xVar 3) (aCons (xC (.int 4)) (aCons (xOp dPow (xC (.int 10)) (xC (.int 7))) aNil)))))
noncomputable def g_law_3 : GMir := (gN 7)
noncomputable def b_law_4 : SMir := (sSeq (sAsg (xOp dIx (xVar 6) (xIf (tB1 (xOp dEq (xFn m__law_take (aCons (xVar 2) (aCons (xC (.int 3)) aNil))) (xC (.int 0)))) (xFn m__law_take (aCons (xVar 2) (aCons (xCall dLen (aCons (xVar 6) aNil)) aNil))) (xNeg (xC (.int 1))))) (gT 2 (gsCons (gN 11) (gsCons (gN 12) gsNil)))) (sSeq (sAsg (xOp dIx (xVar 6) (xFn m__law_take (aCons (xVar 2) (aCons (xCall dLen (aCons (xVar 6) aNil)) aNil)))) (gT 2 (gsCons (gN 14) (gsCons (gN 15) gsNil)))) (sSeq (sIf (tB1 (xOp dEq (xFn m__law_take (aCons (xVar 2) (aCons (xC (.int 2)) aNil))) (xC (.int 0)))) (sPar2 14 15 (aCons (xVar 10) (aCons (xVar 5) aNil))) sNext) (sSeq (sAppend (xVar 6) (xFn m__law_step (aCons (xVar 2) (aCons (xVar 11) (aCons (xVar 12) (aCons (xVar 14) (aCons (xVar 15) (aCons (xIf (tB1 (xOp dEq (xVar 3) (xC (.str "frame")))) (xC (.int 400)) (xOp dPow (xC (.int 10)) (xC (.int 9)))) aNil)))))))) (sIf (tmNot (tB1 (xFn m__law_shown (aCons (xOp dIx (xOp dIx (xVar 6) (xNeg (xC (.int 1)))) (xC (.int 0))) (aCons (xVar 3) (aCons (xOp dIx (xOp dIx (xVar 6) (xNeg (xC (.int 1)))) (xC (.int 1))) aNil)))))) (sRet (xC (.bl false))) sNext)))))
noncomputable def e_law_5 : Rho → Sto → Res D := (xVar 13)
noncomputable def g_law_6 : GMir := (gN 1)
noncomputable def b_law_7 : SMir := (sSeq (sSet 2 (xFn m__law_case (aCons (xVar 0) (aCons (xVar 1) aNil)))) (sSeq (sSet 3 (xFn m__law_kinds (aCons (xVar 2) aNil))) (sSeq (sSet 4 (xLc (iOf rdR1 (aCons (xFn m__law_take (aCons (xVar 2) (aCons (xC (.int 4)) aNil))) aNil)) (.nm 13) ttYes e_law_1 [13])) (sSeq (sSet 5 (xLc (iOf rdR1 (aCons (xOp (ownBin "Heard" ["tuple"] m_Heard___add__ dAdd) (xC (.int 1)) (xFn m__law_take (aCons (xVar 2) (aCons (xC (.int 2)) aNil)))) aNil)) (.nm 13) ttYes e_law_2 [13])) (sSeq (sPar2 9 10 (aCons (xFn m__law_six_logs (aCons (xVar 3) (aCons (xVar 4) aNil))) (aCons (xFn m__law_six_logs (aCons (xVar 3) (aCons (xVar 5) aNil))) aNil))) (sSeq (sSet 6 (xLstM (aCons (xTup (aCons (xVar 9) (aCons (xIf (tB1 (xOp dNe (xVar 4) (xLst aNil))) (xVar 4) (xLst (aCons (xTup aNil) aNil))) aNil))) aNil))) (sSeq (sForI (iOf rdR1 (aCons (xC (.int 10)) aNil)) g_law_3 b_law_4) (sSeq (sIf (tB1 (xOp dNe (xLc (iOf rdR1 (aCons (xCall dLen (aCons (xVar 6) aNil)) aNil)) (.nm 13) (tmNot (tB1 (xFn m__law_shown (aCons (xOp dIx (xOp dIx (xVar 6) (xVar 13)) (xC (.int 0))) (aCons (xVar 3) (aCons (xOp dIx (xOp dIx (xVar 6) (xVar 13)) (xC (.int 1))) aNil)))))) e_law_5 [13]) (xLst aNil))) (sRet (xC (.bl false))) sNext) (sSeq (sAsg (xOp dIx (xVar 6) (xNeg (xC (.int 1)))) (gT 2 (gsCons (gN 11) (gsCons (gN 12) gsNil)))) (sSeq (sSet 8 (xOp (ownBin "Heard" ["int"] m_Heard___sub__ dSub) (xOp (ownBin "Heard" ["tuple"] m_Heard___add__ dAdd) (xVar 11) (xTup (aCons (xIf (tB1 (xOp dNe (xOp dIx (xVar 12) (xNeg (xC (.int 1)))) (xTup aNil))) (xOp dIx (xOp dIx (xOp dIx (xVar 12) (xNeg (xC (.int 1)))) (xNeg (xC (.int 1)))) (xC (.int 0))) (xC (.int 7))) (aCons (xC (.int 2)) (aCons (xC (.bl true)) aNil))))) (xC (.int 1)))) (sIf (tmOr (tmNot (tB1 (xFn m__law_shown (aCons (xVar 8) (aCons (xVar 3) (aCons (xVar 12) aNil)))))) (tmNot (tB1 (xFn m__law_shown (aCons (xVar 10) (aCons (xVar 3) (aCons (xVar 5) aNil))))))) (sRet (xC (.bl false))) sNext)))))))))))
noncomputable def b_law : SMir := (sSeq (sForI (iOf rdR1 (aCons (xCall dMax (aCons (xC (.int 1)) (aCons (xCall dMin (aCons (xC (.int 8)) (aCons (xCall dLen (aCons (xVar 0) aNil)) aNil))) aNil))) aNil)) g_law_6 b_law_7) (sRet (xAnd (xOp dEq (xProp "Heard" m_Heard_logs (xFn (fun ds μ => if ds.length = 1 then (mkM "Heard" m_kw1_Heard___init___kind) ds μ else .stuck) (aCons (xC (.str "gap")) aNil))) (xLst (aCons (xTup aNil) aNil))) (xOp dEq (xProp "Heard" m_Heard_logs (xOp (ownBin "Heard" ["tuple"] m_Heard___add__ dAdd) (xFn (mkM "Heard" m_Heard___init__) (aCons (xC (.str "gap")) aNil)) (xTup (aCons (xC (.int 0)) (aCons (xC (.int 1)) (aCons (xC (.bl true)) aNil)))))) (xLst (aCons (xTup (aCons (xTup (aCons (xC (.int 0)) (aCons (xC (.int 1)) (aCons (xC (.bl true)) aNil)))) aNil)) aNil))))))
noncomputable def m_law : FMir := appN 1 [] (mDef 16 b_law)
theorem bm_law (k : KN K mg) (cdv : Value) (A : Around) (outer : List Env) (s : Shared) (H : Hp) (E : XK) (hr : Room 10 (A.deeper (envOfC d_law.qual d_law.scope s.heap.objs.size (cad K "law") cdv))) : BM (cxM P w K mg base N_law d_law.qual d_law.scope (cad K "law") cdv A outer s H E) (wE E) d_law.body b_law := by
  have hu : (A.deeper (envOfC d_law.qual d_law.scope s.heap.objs.size (cad K "law") cdv)).units + 64 < cLine := hr.units
  exact (bm_cons (sm_forI cx_pass rfl (im_rng1 (am_cons (em_callB (call_maxA rfl) cm_max rfl (k.free 2) (by decide +kernel) (am_cons em_int (am_cons (em_callB (call_minA rfl) cm_min rfl (k.free 8) (by decide +kernel) (am_cons em_int (am_cons (em_callB call_lenA cm_len rfl (k.free 0) (by decide +kernel) (am_cons em_var am_nil)) am_nil))) am_nil))) am_nil) (k.free 7)) (gm_name sc_law.nd) gok_name (bm_cons (sm_set sc_law.nd (em_call ((ok__law_case k).callF (hr.mono (by decide)) cx_takes) (k.glo 4) (kpi k 0 (d := d__law_case) rfl) (am_cons em_var (am_cons em_var am_nil)))) (bm_cons (sm_set sc_law.nd (em_call ((ok__law_kinds k).callF (hr.mono (by decide)) cx_takes) (k.glo 6) (kpi k 2 (d := d__law_kinds) rfl) (am_cons em_var am_nil))) (bm_cons (sm_setLc (own := [("_law_k", 13)]) rfl sc_law.nd (im_rng1 (am_cons (em_call ((ok__law_take k).callF (hr.mono (by decide)) cx_takes) (k.glo 5) (kpi k 1 (d := d__law_take) rfl) (am_cons em_var (am_cons em_int am_nil))) am_nil) (k.free 7)) (by decide) (show BlkOk N_law d_law.scope _ _ from ⟨rfl, by decide +kernel, by decide +kernel, by decide +kernel, by decide +kernel⟩) (fun s H C cl fp => (pnt_nm sc_law.nd)) (fun s H C cl fp => tsm_nil) (fun s H C cl fp => (em_call ((ok__law_spoken k).callF (hr.mono (by decide)) tkW0) (k.glo 18) (kpi k 11 (d := d__law_spoken) rfl) (am_cons em_var (am_cons em_var (am_cons em_int (am_cons (em_op op_powW om_pow em_int em_int) am_nil)))))) rfl) (bm_cons (sm_setLc (own := [("_law_k", 13)]) rfl sc_law.nd (im_rng1 (am_cons (em_opW (opw_own ((ok_Heard___add__ k).callF (hr.mono (by decide)) cx_takes) (opB_ok (exq k 1 rfl)) (fun T hT => by simp only [List.mem_cons, List.not_mem_nil, or_false] at hT; subst hT; exact ⟨by decide, opTyB_ok (exq k 2 rfl)⟩) (OpW.of op_addA om_add)) em_int (em_call ((ok__law_take k).callF (hr.mono (by decide)) cx_takes) (k.glo 5) (kpi k 1 (d := d__law_take) rfl) (am_cons em_var (am_cons em_int am_nil)))) am_nil) (k.free 7)) (by decide) (show BlkOk N_law d_law.scope _ _ from ⟨rfl, by decide +kernel, by decide +kernel, by decide +kernel, by decide +kernel⟩) (fun s H C cl fp => (pnt_nm sc_law.nd)) (fun s H C cl fp => tsm_nil) (fun s H C cl fp => (em_call ((ok__law_spoken k).callF (hr.mono (by decide)) tkW0) (k.glo 18) (kpi k 11 (d := d__law_spoken) rfl) (am_cons em_var (am_cons em_var (am_cons em_int (am_cons (em_op op_powW om_pow em_int em_int) am_nil)))))) rfl) (bm_cons (sm_par2 rfl sc_law.nd (am_cons (em_call ((ok__law_six_logs k).callF (hr.mono (by decide)) cx_takes) (k.glo 47) (kpi k 23 (d := d__law_six_logs) rfl) (am_cons em_var (am_cons em_var am_nil))) (am_cons (em_call ((ok__law_six_logs k).callF (hr.mono (by decide)) cx_takes) (k.glo 47) (kpi k 23 (d := d__law_six_logs) rfl) (am_cons em_var (am_cons em_var am_nil))) am_nil))) (bm_cons (sm_set sc_law.nd (em_lstM (am_cons (em_tup (am_cons em_var (am_cons (em_if (tm_cmp (op_neA hu) om_ne em_var (em_lst am_nil) rfl) em_var (em_lst (am_cons (em_tup am_nil) am_nil))) am_nil))) am_nil))) (bm_cons (sm_forI cx_pass rfl (im_rng1 (am_cons em_int am_nil) (k.free 7)) (gm_name sc_law.nd) gok_name (bm_cons (sm_asg (em_ix em_var (em_if (tm_cmp (op_eqA hu) om_eq (em_call ((ok__law_take k).callF (hr.mono (by decide)) cx_takes) (k.glo 5) (kpi k 1 (d := d__law_take) rfl) (am_cons em_var (am_cons em_int am_nil))) em_int rfl) (em_call ((ok__law_take k).callF (hr.mono (by decide)) cx_takes) (k.glo 5) (kpi k 1 (d := d__law_take) rfl) (am_cons em_var (am_cons (em_callB call_lenA cm_len rfl (k.free 0) (by decide +kernel) (am_cons em_var am_nil)) am_nil))) (em_neg em_int))) (gm_tup rfl (gms_cons (gm_name sc_law.nd) (gms_cons (gm_name sc_law.nd) gms_nil))) (gok_tup (gsok_cons gok_name (gsok_cons gok_name gsok_nil)))) (bm_cons (sm_asg (em_ix em_var (em_call ((ok__law_take k).callF (hr.mono (by decide)) cx_takes) (k.glo 5) (kpi k 1 (d := d__law_take) rfl) (am_cons em_var (am_cons (em_callB call_lenA cm_len rfl (k.free 0) (by decide +kernel) (am_cons em_var am_nil)) am_nil)))) (gm_tup rfl (gms_cons (gm_name sc_law.nd) (gms_cons (gm_name sc_law.nd) gms_nil))) (gok_tup (gsok_cons gok_name (gsok_cons gok_name gsok_nil)))) (bm_cons (sm_if (tm_cmp (op_eqA hu) om_eq (em_call ((ok__law_take k).callF (hr.mono (by decide)) cx_takes) (k.glo 5) (kpi k 1 (d := d__law_take) rfl) (am_cons em_var (am_cons em_int am_nil))) em_int rfl) (bm_one (sm_par2 rfl sc_law.nd (am_cons em_var (am_cons em_var am_nil)))) bm_nil) (bm_cons (sm_append em_var (em_call ((ok__law_step k).callF (hr.mono (by decide)) cx_takes) (k.glo 56) (kpi k 28 (d := d__law_step) rfl) (am_cons em_var (am_cons em_var (am_cons em_var (am_cons em_var (am_cons em_var (am_cons (em_if (tm_cmp (op_eqA hu) om_eq em_var em_str rfl) em_int (em_op op_powW om_pow em_int em_int)) am_nil)))))))) (bm_one (sm_if (tm_not (tm_val (em_call ((ok__law_shown k).callF (hr.mono (by decide)) cx_takes) (k.glo 59) (kpi k 31 (d := d__law_shown) rfl) (am_cons (em_ix (em_ix em_var (em_neg em_int)) em_int) (am_cons em_var (am_cons (em_ix (em_ix em_var (em_neg em_int)) em_int) am_nil)))))) (bm_one (sm_ret em_bl)) bm_nil))))))) (bm_cons (sm_if (tm_cmp (op_neA hu) om_ne (em_lc (own := [("_law_k", 13)]) rfl sc_law.nd (im_rng1 (am_cons (em_callB call_lenA cm_len rfl (k.free 0) (by decide +kernel) (am_cons em_var am_nil)) am_nil) (k.free 7)) (by decide) (show BlkOk N_law d_law.scope _ _ from ⟨rfl, by decide +kernel, by decide +kernel, by decide +kernel, by decide +kernel⟩) (fun s H C cl fp => (pnt_nm sc_law.nd)) (fun s H C cl fp => (tsm_one (tm_not (tm_val (em_call ((ok__law_shown k).callF (hr.mono (by decide)) tkW0) (k.glo 59) (kpi k 31 (d := d__law_shown) rfl) (am_cons (em_ix (em_ix em_var em_var) em_int) (am_cons em_var (am_cons (em_ix (em_ix em_var em_var) em_int) am_nil)))))))) (fun s H C cl fp => em_var)) (em_lst am_nil) rfl) (bm_one (sm_ret em_bl)) bm_nil) (bm_cons (sm_asg (em_ix em_var (em_neg em_int)) (gm_tup rfl (gms_cons (gm_name sc_law.nd) (gms_cons (gm_name sc_law.nd) gms_nil))) (gok_tup (gsok_cons gok_name (gsok_cons gok_name gsok_nil)))) (bm_cons (sm_set sc_law.nd (em_opW (opw_own ((ok_Heard___sub__ k).callF (hr.mono (by decide)) cx_takes) (opB_ok (exq k 3 rfl)) (fun T hT => by simp only [List.mem_cons, List.not_mem_nil, or_false] at hT; subst hT; exact ⟨by decide, opTyB_ok (exq k 4 rfl)⟩) (OpW.of op_sub om_sub)) (em_opW (opw_own ((ok_Heard___add__ k).callF (hr.mono (by decide)) cx_takes) (opB_ok (exq k 1 rfl)) (fun T hT => by simp only [List.mem_cons, List.not_mem_nil, or_false] at hT; subst hT; exact ⟨by decide, opTyB_ok (exq k 2 rfl)⟩) (OpW.of op_addA om_add)) em_var (em_tup (am_cons (em_if (tm_cmp (op_neA hu) om_ne (em_ix em_var (em_neg em_int)) (em_tup am_nil) rfl) (em_ix (em_ix (em_ix em_var (em_neg em_int)) (em_neg em_int)) em_int) em_int) (am_cons em_int (am_cons em_bl am_nil))))) em_int)) (bm_one (sm_if (WM.tm (wm_or (tm_not (tm_val (em_call ((ok__law_shown k).callF (hr.mono (by decide)) cx_takes) (k.glo 59) (kpi k 31 (d := d__law_shown) rfl) (am_cons em_var (am_cons em_var (am_cons em_var am_nil)))))) (wm_or1 (tm_not (tm_val (em_call ((ok__law_shown k).callF (hr.mono (by decide)) cx_takes) (k.glo 59) (kpi k 31 (d := d__law_shown) rfl) (am_cons em_var (am_cons em_var (am_cons em_var am_nil))))))))) (bm_one (sm_ret em_bl)) bm_nil))))))))))))) (bm_one (sm_ret (em_and (em_cmp (op_eqA hu) om_eq (em_prop (em_kw0 (ks := ["kind"]) ((ok_kw1_Heard___init___kind k).make (k.mkr 46) (hr.mono (by decide)) cx_takes) (k.glo 45) (k.mkr 46).kp (km_cons em_str km_nil)) (k.cls 27) (k.prop (p := ("Heard", "logs", d_Heard_logs)) (by simp [px])) (ok_Heard_logs k) (hr.mono (by decide))) (em_lst (am_cons (em_tup am_nil) am_nil)) rfl) (em_one (em_cmp (op_eqA hu) om_eq (em_prop (em_opW (opw_own ((ok_Heard___add__ k).callF (hr.mono (by decide)) cx_takes) (opB_ok (exq k 1 rfl)) (fun T hT => by simp only [List.mem_cons, List.not_mem_nil, or_false] at hT; subst hT; exact ⟨by decide, opTyB_ok (exq k 2 rfl)⟩) (OpW.of op_addA om_add)) (em_call ((ok_Heard___init__ k).make (k.mkr 46) (hr.mono (by decide)) cx_takes) (k.glo 45) (k.mkr 46).kp (am_cons em_str am_nil)) (em_tup (am_cons em_int (am_cons em_int (am_cons em_bl am_nil))))) (k.cls 27) (k.prop (p := ("Heard", "logs", d_Heard_logs)) (by simp [px])) (ok_Heard_logs k) (hr.mono (by decide))) (em_lst (am_cons (em_tup (am_cons (em_tup (am_cons em_int (am_cons em_int (am_cons em_bl am_nil)))) am_nil)) am_nil)) rfl))))))
theorem ok_law (k : KN K mg) : FR P w K mg base 11 (cad K "law") m_law := by
  obtain ⟨fd, F⟩ := k.def_ 32 (d := d_law)
  exact fr_of (fm_ok (N := N_law) F sc_law (bm_law k)) (FunD.bindsN F fun _ _ _ _ _ _ us hl => match us, hl with | [_], _ => rfl)
end
end Lk44
end S_A
section S_P44_1
set_option Elab.async false
set_option linter.all false
set_option maxRecDepth 100000
set_option maxHeartbeats 400000
namespace Lk44
open PySem PySem.Spec PyProof.Rows L2 FL
theorem take_wp {μ : Sto} {i n : Nat} {d : Int} {Q : D → Sto → Prop} {X : Ex → Sto → Prop} (hc : Case μ i (n + 1)) (hd : 0 < d) (hd2 : d ≤ 10 ^ 50) (h : ∀ (r : Int) (μ' : Sto), 0 ≤ r → r < d → Run i 1 μ μ' → Q (.int r) μ') : (m__law_take [.ptr i, .int d] μ).wp Q X := by
  obtain ⟨a, b, c, h1, h2, h3, h4, h5, h6⟩ := hc
  have hlt : i < μ.length := (List.getElem?_eq_some_iff.mp h1).1
  have hgd : lg d < 9000 := Nat.lt_of_le_of_lt (lg_60 (by omega) (by omega)) (by decide)
  have run : ∀ a' c' : Int, 0 ≤ a' → 0 ≤ c' → c' ≤ c + 1 → Run i 1 μ (μ.set i (.lst [.int a', .int b, .int c'])) := fun a' c' ha hc hc1 => ⟨by rw [List.length_set]; exact Nat.le_refl _, fun j hj _ => List.getElem?_set_ne (fun e => hj e.symm), fun k hk => by
    obtain ⟨a2, b2, c2, k1, k2, k3, k4, k5, k6⟩ := hk
    rw [h1] at k1
    cases k1
    exact ⟨a', b, c', by rw [List.getElem?_set_self hlt], ha, h3, h4, hc, by omega⟩⟩
  unfold m__law_take
  by_cases ha : 0 < a
  · simp [fn_eq, b__law_take, ixD, rdS, rdT, rdL, rdM, h1, ha, hd, hgd, gSubM, lstAt, ixN]
    exact h _ _ (Int.emod_nonneg _ (by omega)) (Int.emod_lt_of_pos _ hd) (run _ _ (Int.ediv_nonneg h2 (by omega)) h5 (by omega))
  · have e80 : lg 80021 + lg (c + 1) < 1000000 := by
      have := lg_60 (x := c + 1) (by omega) (by omega)
      have : lg 80021 ≤ 200 := lg_60 (by decide) (by decide)
      omega
    have e17 : lg 1700021 + lg (c + 1) < 1000000 := by
      have := lg_60 (x := c + 1) (by omega) (by omega)
      have : lg 1700021 ≤ 200 := lg_60 (by decide) (by decide)
      omega
    have b1 : lg (b + 80021 * (c + 1)) < 1000 := Nat.lt_of_le_of_lt (lg_60 (by omega) (by omega)) (by decide)
    have b2 : ∀ z : Int, lg (z % 1000000000000000000000000000000000000187 + 1700021 * (c + 1)) < 1000 := fun z => by
      have z1 := Int.emod_nonneg z (show (1000000000000000000000000000000000000187 : Int) ≠ 0 by decide)
      have z2 := Int.emod_lt_of_pos z (show (0 : Int) < 1000000000000000000000000000000000000187 by decide)
      exact Nat.lt_of_le_of_lt (lg_60 (by omega) (by omega)) (by decide)
    have g10 : lg 10 < 1000 := by decide
    have hs : ∀ x : Cell, (μ.set i x)[i]? = some x := fun x => List.getElem?_set_self hlt
    simp [fn_eq, b__law_take, ixD, rdS, rdT, rdL, rdM, h1, ha, hd, hgd, gSubM, lstAt, ixN, hs, e80, e17, b1, g10]
    exact ⟨b2 _, by decide, h _ _ (Int.emod_nonneg _ (by omega)) (Int.emod_lt_of_pos _ hd) (run a (c + 1) h2 (by omega) (by omega))⟩
def kindL : List Str := ["bucket", "meter", "window", "frame", "gap"]
theorem pick {r n : Int} (h0 : 0 ≤ r) (h1 : r < n) : ∃ k : Nat, r = (k : Int) ∧ (k : Int) < n := ⟨r.toNat, by omega, by omega⟩
theorem kinds_wp {μ : Sto} {i n : Nat} {Q : D → Sto → Prop} {X : Ex → Sto → Prop} (hc : Case μ i (n + 1)) (h : ∀ (s : Str) (μ' : Sto), s ∈ kindL → Run i 1 μ μ' → Q (.str s) μ') : (m__law_kinds [.ptr i] μ).wp Q X := by
  unfold m__law_kinds
  simp [fn_eq, b__law_kinds]
  refine ⟨by decide, take_wp hc (by decide) (by decide) fun r μ' h0 h1 hr => ?_⟩
  have hr5 : r = 0 ∨ r = 1 ∨ r = 2 ∨ r = 3 ∨ r = 4 := by omega
  rcases hr5 with rfl | rfl | rfl | rfl | rfl <;> (simp [atI, ixN]; exact h _ _ (by decide) hr)
theorem case_wp {ns : List Int} {i : Nat} (hi : i < 64) {μ : Sto} {Q : D → Sto → Prop} {X : Ex → Sto → Prop} (h : ∀ (a b : Int), 0 ≤ a → 0 ≤ b → b ≤ 10 ^ 50 → Q (.ptr μ.length) (μ ++ [.lst [.int a, .int b, .int 0]])) : (m__law_case [.scr ns, .int i] μ).wp Q X := by
  have g10 : lg 10 < 1000 := by decide
  have g67 : lg 67 + lg (i : Int) < 1000000 := lg_2 (by decide) (by decide) (by omega) (by omega)
  have fits : ∀ x : Int, lg (x % 100000000000000000000000000000000000133) + lg 97 < 1000000 ∧ 0 ≤ x % 100000000000000000000000000000000000133 ∧ x % 100000000000000000000000000000000000133 < 100000000000000000000000000000000000133 := fun x => by
    have e0 := Int.emod_nonneg x (show (100000000000000000000000000000000000133 : Int) ≠ 0 by decide)
    have e1 := Int.emod_lt_of_pos x (show (0 : Int) < 100000000000000000000000000000000000133 by decide)
    exact ⟨lg_2 (by omega) (by omega) (by decide) (by decide), e0, e1⟩
  unfold m__law_case
  by_cases hl : i < ns.length
  · have e : atI (ns.map D.int) (i : Int) = some (.int ns[i]) := by rw [atI_ge (by rw [List.length_map]; omega), List.getElem_map]
    obtain ⟨f1, f2, f3⟩ := fits ns[i]
    simp [fn_eq, b__law_case, hl, e, g10, g67, f1]
    exact ⟨by decide, h _ _ (by split <;> omega) (by omega) (by omega)⟩
  · obtain ⟨f1, f2, f3⟩ := fits 0
    simp [fn_eq, b__law_case, hl, g10, g67]
    exact ⟨by decide, by decide, h _ _ (by decide) (by omega) (by omega)⟩
theorem common_ok (a b : Nat) (μ : Sto) : m__law_common [.int a, .int b] μ = .ok (.int (Nat.gcd a b)) μ := by
  have h : (m__law_common [.int a, .int b] μ).wp (fun d μ' => d = .int (Nat.gcd a b) ∧ μ' = μ) (fun _ _ => False) := by
    unfold m__law_common
    refine fn_wp rfl ?_
    simp only [b__law_common, e_seq, sw_seq]
    refine while_wp (fun m ρ μ' => ∃ x y : Nat, ρ = [some (.int x), some (.int y)] ∧ m = y ∧ μ' = μ ∧ Nat.gcd x y = Nat.gcd a b) ?_ ⟨a, b, rfl, rfl, rfl, rfl⟩
    rintro m ρ μ' ⟨x, y, rfl, rfl, rfl, hg⟩
    simp [w__law_common_1, b__law_common_2]
    by_cases hm : m = 0
    · subst hm
      simp at hg ⊢
      simpa using congrArg Nat.cast hg
    · rw [if_neg hm]
      exact ⟨Nat.pos_of_ne_zero hm, x % m, Nat.mod_lt _ (Nat.pos_of_ne_zero hm), m, x % m, ⟨rfl, by simp⟩, rfl, by rw [← hg, Nat.gcd_comm m, ← Nat.gcd_rec, Nat.gcd_comm]⟩
  obtain ⟨d, μ', e, rfl, rfl⟩ := Res.wp_iff.mp h
  exact e
end Lk44
end S_P44_1
section S_P44_2
set_option Elab.async false
set_option linter.all false
set_option maxRecDepth 100000
set_option maxHeartbeats 400000
namespace Lk44
open PySem PySem.Spec PyProof.Rows L2 FL
theorem lowest_ok (a b : Nat) (hb : 0 < b) (hb2 : b ≤ 10 ^ 50) (μ : Sto) : m__law_lowest [.int a, .int b] μ = .ok (.tup [.int ((a / Nat.gcd a b : Nat) : Int), .int ((b / Nat.gcd a b : Nat) : Int)]) μ := by
  have hg : 0 < Nat.gcd a b := Nat.gcd_pos_of_pos_right _ hb
  have hgb : Nat.gcd a b ≤ b := Nat.gcd_le_right _ hb
  have h1 : ¬ ((a : Int) < 0) := by omega
  have h2 : lg (Nat.gcd a b : Int) < 9000 := lg_lt (by omega) (by omega) (by decide)
  unfold m__law_lowest
  simp [fn_eq, b__law_lowest, h1, common_ok, hg, h2]
  decide
theorem fraction_wp {μ : Sto} {i n : Nat} {gr : Int} {Q : D → Sto → Prop} {X : Ex → Sto → Prop} (hc : Case μ i (n + 4)) (h0 : 0 ≤ gr) (h1 : gr ≤ 10 ^ 20) (h : ∀ (a b : Nat) (μ' : Sto), a ≤ 10 ^ 6 → 0 < b → b ≤ 10 ^ 6 → Run i 4 μ μ' → Q (.tup [.int a, .int b]) μ') : (m__law_fraction [.ptr i, .int gr] μ).wp Q X := by
  unfold m__law_fraction
  have g10 : lg 10 < 1000 := by decide
  simp [fn_eq, b__law_fraction, g10]
  refine take_wp (n := n + 3) hc (by decide) (by decide) fun r1 μ1 a1 b1 R1 => ?_
  simp only [d_add, wp_ok]
  have c1 : Case μ1 i (n + 3) := R1.c hc (by omega)
  refine take_wp (n := n + 2) c1 (by decide) (by decide) fun r2 μ2 a2 b2 R2 => ?_
  simp only [d_add, wp_ok]
  have c2 : Case μ2 i (n + 2) := R2.c c1 (by omega)
  refine ⟨by decide, take_wp (n := n + 1) c2 (by decide) (by decide) fun r3 μ3 a3 b3 R3 => ?_⟩
  have c3 : Case μ3 i (n + 1) := R3.c c2 (by omega)
  have hb : ∃ b : Nat, dIx (.lst [.int 1, .int 1, .int 2, .int (1 + r1), .int (1 + r2)]) (.int r3) μ3 = .ok (.int b) μ3 ∧ 1 ≤ b ∧ b ≤ 10 ^ 6 := by
    have hr5 : r3 = 0 ∨ r3 = 1 ∨ r3 = 2 ∨ r3 = 3 ∨ r3 = 4 := by omega
    rcases hr5 with rfl | rfl | rfl | rfl | rfl
    · exact ⟨1, rfl, by decide, by decide⟩
    · exact ⟨1, rfl, by decide, by decide⟩
    · exact ⟨2, rfl, by decide, by decide⟩
    · exact ⟨(1 + r1).toNat, by rw [Int.toNat_of_nonneg (by omega)]; rfl, by omega, by omega⟩
    · exact ⟨(1 + r2).toNat, by rw [Int.toNat_of_nonneg (by omega)]; rfl, by omega, by omega⟩
  obtain ⟨b, eb, hb1, hb2⟩ := hb
  rw [eb]
  have gm : lg gr + lg (b : Int) < 1000000 := lg_2 (by omega) (by omega) (by omega) (by omega)
  have hp : 0 ≤ gr * (b : Int) := Int.mul_nonneg h0 (by omega)
  simp only [wp_ok, d_mul, if_pos gm, d_min, d_add]
  refine take_wp (n := n) c3 (by split <;> omega) (by split <;> omega) fun r4 μ4 a4 b4 R4 => ?_
  have b4 : r4 ≤ 10 ^ 6 := by split at b4 <;> omega
  obtain ⟨a, rfl⟩ : ∃ a : Nat, r4 = (a : Int) := ⟨r4.toNat, by omega⟩
  rw [lowest_ok a b hb1 (by omega)]
  have hg : 0 < Nat.gcd a b := Nat.gcd_pos_of_pos_right _ hb1
  refine h _ _ _ (Nat.le_trans (Nat.div_le_self _ _) (by omega)) (Nat.div_pos (Nat.gcd_le_right _ hb1) hg) (Nat.le_trans (Nat.div_le_self _ _) hb2) ?_
  exact (((R1.trans R2).trans R3).trans R4).le (by omega)
/-- a rule as data -/
inductive RulD : Str → D → Prop
  | fill {k : Str} (hk : k = "bucket" ∨ k = "meter") (a b c d : Nat) (ha : a ≤ 10 ^ 6) (hb : 0 < b) (hb2 : b ≤ 10 ^ 6) (hc : c ≤ 10 ^ 6) (hd : 0 < d) (hd2 : d ≤ 10 ^ 6) : RulD k (.tup [.str k, .tup [.int a, .int b], .tup [.int c, .int d]])
  | gap (g : Int) (h0 : 0 ≤ g) (h1 : g ≤ 10 ^ 30) : RulD "gap" (.tup [.str "gap", .int g])
  | span {k : Str} (hk : k = "window" ∨ k = "frame") (w m : Int) (h0 : 1 ≤ w) (h1 : w ≤ 10 ^ 30) (h2 : 0 ≤ m) (h3 : m ≤ 10 ^ 30) : RulD k (.tup [.str k, .int w, .int m])
theorem rule_wp {μ : Sto} {i n : Nat} {gr : Int} {k : Str} {Q : D → Sto → Prop} {X : Ex → Sto → Prop} (hc : Case μ i (n + 9)) (hk : k ∈ kindL) (h0 : 1 ≤ gr) (h1 : gr ≤ 10 ^ 20) (h : ∀ (d : D) (μ' : Sto), RulD k d → Run i 9 μ μ' → Q d μ') : (m__law_rule [.ptr i, .str k, .int gr] μ).wp Q X := by
  have hk5 : k = "bucket" ∨ k = "meter" ∨ k = "gap" ∨ k = "window" ∨ k = "frame" := by
    simp only [kindL, List.mem_cons, List.not_mem_nil, or_false] at hk
    rcases hk with rfl | rfl | rfl | rfl | rfl <;> simp
  have pick3 : ∀ (a b c r : Int) (μ : Sto), 0 ≤ r → r < 3 → ∃ x, dIx (.lst [.int a, .int b, .int c]) (.int r) μ = .ok (.int x) μ ∧ (x = a ∨ x = b ∨ x = c) := fun a b c r μ h0 h1 => by
    have : r = 0 ∨ r = 1 ∨ r = 2 := by omega
    rcases this with rfl | rfl | rfl
    · exact ⟨a, rfl, .inl rfl⟩
    · exact ⟨b, rfl, .inr (.inl rfl)⟩
    · exact ⟨c, rfl, .inr (.inr rfl)⟩
  unfold m__law_rule
  rcases hk5 with rfl | rfl | rfl | rfl | rfl
  · simp [fn_eq, b__law_rule]
    refine ⟨by decide, take_wp (n := n + 8) hc (by decide) (by decide) fun r1 μ1 a1 b1 R1 => ?_⟩
    obtain ⟨x, ex, hx⟩ := pick3 1 3 gr r1 μ1 a1 b1
    rw [ex]
    simp only [wp_ok]
    have c1 : Case μ1 i (n + 8) := R1.c hc (by omega)
    refine fraction_wp (n := n + 4) c1 (by omega) (by omega) fun c d μ2 hc1 hd1 hd2 R2 => ?_
    refine fraction_wp (n := n) (R2.c c1 (by omega)) (by omega) (by omega) fun a b μ3 ha1 hb1 hb2 R3 => ⟨by decide, h _ _ (.fill (.inl rfl) a b c d ha1 hb1 hb2 hc1 hd1 hd2) (((R1.trans R2).trans R3).le (by omega))⟩
  · simp [fn_eq, b__law_rule]
    refine ⟨by decide, take_wp (n := n + 8) hc (by decide) (by decide) fun r1 μ1 a1 b1 R1 => ?_⟩
    obtain ⟨x, ex, hx⟩ := pick3 1 3 gr r1 μ1 a1 b1
    rw [ex]
    simp only [wp_ok]
    have c1 : Case μ1 i (n + 8) := R1.c hc (by omega)
    refine fraction_wp (n := n + 4) c1 (by omega) (by omega) fun c d μ2 hc1 hd1 hd2 R2 => ?_
    refine fraction_wp (n := n) (R2.c c1 (by omega)) (by omega) (by omega) fun a b μ3 ha1 hb1 hb2 R3 => ⟨by decide, h _ _ (.fill (.inr rfl) a b c d ha1 hb1 hb2 hc1 hd1 hd2) (((R1.trans R2).trans R3).le (by omega))⟩
  · simp [fn_eq, b__law_rule]
    refine take_wp (n := n + 8) hc (by decide) (by decide) fun r1 μ1 a1 b1 R1 => ?_
    have c1 : Case μ1 i (n + 8) := R1.c hc (by omega)
    refine take_wp (n := n + 7) c1 (by omega) (by omega) fun r2 μ2 a2 b2 R2 => ?_
    have c2 : Case μ2 i (n + 7) := R2.c c1 (by omega)
    refine ⟨by decide, take_wp (n := n + 6) c2 (by omega) (by omega) fun r3 μ3 a3 b3 R3 => ?_⟩
    obtain ⟨x, ex, hx⟩ := pick3 0 r1 r2 r3 μ3 a3 b3
    rw [ex]
    simp only [wp_ok]
    exact ⟨by decide, h _ _ (.gap x (by omega) (by omega)) (((R1.trans R2).trans R3).le (by omega))⟩
  · simp [fn_eq, b__law_rule]
    refine ⟨by decide, take_wp (n := n + 8) hc (by decide) (by decide) fun r1 μ1 a1 b1 R1 => ?_⟩
    obtain ⟨x, ex, hx⟩ := pick3 4 12 gr r1 μ1 a1 b1
    rw [ex]
    simp only [wp_ok]
    have c1 : Case μ1 i (n + 8) := R1.c hc (by omega)
    refine take_wp (n := n + 7) c1 (by omega) (by omega) fun r2 μ2 a2 b2 R2 => ?_
    simp only [d_add, wp_ok]
    have c2 : Case μ2 i (n + 7) := R2.c c1 (by omega)
    refine take_wp (n := n + 6) c2 (by omega) (by omega) fun r3 μ3 a3 b3 R3 => ⟨by decide, h _ _ (.span (.inl rfl) _ _ (by omega) (by omega) a3 (by omega)) (((R1.trans R2).trans R3).le (by omega))⟩
  · simp [fn_eq, b__law_rule]
    refine ⟨by decide, take_wp (n := n + 8) hc (by decide) (by decide) fun r1 μ1 a1 b1 R1 => ?_⟩
    obtain ⟨x, ex, hx⟩ := pick3 4 12 gr r1 μ1 a1 b1
    rw [ex]
    simp only [wp_ok]
    have c1 : Case μ1 i (n + 8) := R1.c hc (by omega)
    refine take_wp (n := n + 7) c1 (by omega) (by omega) fun r2 μ2 a2 b2 R2 => ?_
    simp only [d_add, wp_ok]
    have c2 : Case μ2 i (n + 7) := R2.c c1 (by omega)
    refine take_wp (n := n + 6) c2 (by omega) (by omega) fun r3 μ3 a3 b3 R3 => ⟨by decide, h _ _ (.span (.inr rfl) _ _ (by omega) (by omega) a3 (by omega)) (((R1.trans R2).trans R3).le (by omega))⟩
def reqD (e : Int × Int) : D := .tup [.int e.1, .int e.2]
/-- a row of requests up to time t -/
def RowOk (t : Int) (es : List (Int × Int)) : Prop := es.Pairwise (fun a b => a.1 ≤ b.1) ∧ ∀ e ∈ es, 0 ≤ e.1 ∧ e.1 ≤ t ∧ 1 ≤ e.2 ∧ e.2 ≤ 10 ^ 12
theorem RowOk.app {t t' c : Int} {es : List (Int × Int)} (h : RowOk t es) (h0 : 0 ≤ t) (ht : t ≤ t') (h1 : 1 ≤ c) (h2 : c ≤ 10 ^ 12) : RowOk t' (es ++ [(t', c)]) := by
  refine ⟨List.pairwise_append.mpr ⟨h.1, List.pairwise_singleton _ _, fun a ha b hb => ?_⟩, fun e he => ?_⟩
  · rw [List.mem_singleton] at hb
    subst hb
    exact Int.le_trans (h.2 a ha).2.1 ht
  · rcases List.mem_append.mp he with he | he
    · obtain ⟨k1, k2, k3, k4⟩ := h.2 e he
      exact ⟨k1, Int.le_trans k2 ht, k3, k4⟩
    · rw [List.mem_singleton] at he
      subst he
      exact ⟨by show 0 ≤ t'; omega, Int.le_refl _, h1, h2⟩
theorem requests_wp {μ : Sto} {i n : Nat} {many gp cost : Int} {Q : D → Sto → Prop} {X : Ex → Sto → Prop} (hc : Case μ i (n + 302)) (hm0 : 0 ≤ many) (hm : many ≤ 60) (hg0 : 0 ≤ gp) (hg : gp ≤ 10 ^ 12) (hc0 : 1 ≤ cost) (hc1 : cost ≤ 10 ^ 11)
    (h : ∀ (t : Int) (es : List (Int × Int)) (μ' : Sto), (es.length : Int) ≤ many → 0 ≤ t → t ≤ 10 ^ 15 → RowOk t es → Run i 302 μ μ' → Q (.tup (es.map reqD)) μ') : (m__law_requests [.ptr i, .int many, .int gp, .int cost] μ).wp Q X := by
  have hi := hc.lt
  unfold m__law_requests
  simp [fn_eq, b__law_requests]
  have R0 := Run.app hi [Cell.lst []]
  have c0 : Case (μ ++ [Cell.lst []]) i (n + 302) := R0.c hc (by omega)
  refine take_wp (n := n + 301) c0 (by omega) (by omega) fun t0 μ1 a1 b1 R1 => ?_
  have R1' := (R0.trans R1).le (show 0 + 1 ≤ 1 by omega)
  have c1 : Case μ1 i (n + 301) := R1.c c0 (by omega)
  refine take_wp (n := n + 300) c1 (by omega) (by omega) fun k μ2 a2 b2 R2 => ?_
  have c2 : Case μ2 i (n + 300) := R2.c c1 (by omega)
  have R2' := R1'.trans R2
  rw [rdR1_nat a2 (by omega)]
  simp only [wp_ok, fin_wp, sw_seq]
  have hL1 : μ1[μ.length]? = some (.lst []) := by
    rw [R1.keep μ.length (by omega) (by simp)]; simp
  have hL2 : μ2[μ.length]? = some (.lst []) := by
    rw [R2.keep μ.length (by omega) (by have := (List.getElem?_eq_some_iff.mp hL1).1; exact this), hL1]
  obtain ⟨I, hI⟩ : ∃ I : Nat → Rho → Sto → Prop, I = fun idx ρ μ' => ∃ (k0 : Option D) (t : Int) (es : List (Int × Int)), ρ = [some (.ptr i), some (.int many), some (.int gp), some (.int cost), k0, some (.ptr μ.length), some (.int t)] ∧
    μ'[μ.length]? = some (.lst (es.map reqD)) ∧ es.length = idx ∧ idx ≤ 60 ∧ 0 ≤ t ∧ t ≤ (idx + 1) * (10 ^ 12 + 3) ∧ RowOk t es ∧ Run i (2 + 5 * idx) μ μ' := ⟨_, rfl⟩
  refine forL_wp I ?_ ?_ (by rw [hI]; exact ⟨none, t0, [], rfl, hL2, rfl, by omega, a1, by omega, ⟨List.Pairwise.nil, fun e he => by cases he⟩, R2'⟩)
  · intro idx x ρ μ' hx hin
    rw [hI] at hin
    obtain ⟨k0, t, es, rfl, hL, hlen, hidx, ht0, ht1, hrow, R⟩ := hin
    obtain ⟨rfl, hik⟩ := rngL_get hx
    have hid : idx < 60 := by omega
    have hlL : μ.length < μ'.length := (List.getElem?_eq_some_iff.mp hL).1
    have c3 : Case μ' i (n + 300 - 5 * idx) := R.c hc (by omega)
    simp [g__law_requests_1, b__law_requests_2]
    refine take_wp (n := n + 299 - 5 * idx) (c3.le (by omega)) (by omega) (by omega) fun r1 μ3 a3 b3 R3 => ?_
    have c4 : Case μ3 i (n + 299 - 5 * idx) := R3.c c3 (by omega)
    refine take_wp (n := n + 298 - 5 * idx) (c4.le (by omega)) (by omega) (by omega) fun r2 μ4 a4 b4 R4 => ?_
    have c5 : Case μ4 i (n + 298 - 5 * idx) := R4.c c4 (by omega)
    refine ⟨by decide, take_wp (n := n + 297 - 5 * idx) (c5.le (by omega)) (by omega) (by omega) fun r3 μ5 a5 b5 R5 => ?_⟩
    have c6 : Case μ5 i (n + 297 - 5 * idx) := R5.c c5 (by omega)
    obtain ⟨x, ex, hx0, hx1⟩ : ∃ x : Int, dIx (.lst [.int 0, .int 1, .int r1, .int r2]) (.int r3) μ5 = .ok (.int x) μ5 ∧ 0 ≤ x ∧ x ≤ 10 ^ 12 + 3 := by
      have : r3 = 0 ∨ r3 = 1 ∨ r3 = 2 ∨ r3 = 3 := by omega
      rcases this with rfl | rfl | rfl | rfl
      · exact ⟨0, rfl, by omega, by omega⟩
      · exact ⟨1, rfl, by omega, by omega⟩
      · exact ⟨r1, rfl, by omega, by omega⟩
      · exact ⟨r2, rfl, by omega, by omega⟩
    rw [ex]
    simp only [wp_ok, d_add]
    have R35 := (R3.trans R4).trans R5
    have hL5 : μ5[μ.length]? = some (.lst (es.map reqD)) := by rw [R35.keep _ (by omega) hlL, hL]
    refine append_wp (xs := es.map reqD) rfl hL5 ?_
    simp
    refine ⟨by decide, take_wp (n := n + 296 - 5 * idx) (c6.le (by omega)) (by omega) (by omega) fun r4 μ6 a6 b6 R6 => ?_⟩
    have c7 : Case μ6 i (n + 296 - 5 * idx) := R6.c c6 (by omega)
    obtain ⟨y, ey, hy0, hy1⟩ : ∃ y : Int, dIx (.lst [.int 2, .int cost]) (.int r4) μ6 = .ok (.int y) μ6 ∧ 1 ≤ y ∧ y ≤ 10 ^ 11 := by
      have : r4 = 0 ∨ r4 = 1 := by omega
      rcases this with rfl | rfl
      · exact ⟨2, rfl, by omega, by omega⟩
      · exact ⟨cost, rfl, by omega, by omega⟩
    rw [ey]
    simp only [wp_ok]
    refine take_wp (n := n + 295 - 5 * idx) (c7.le (by omega)) (by omega) (by omega) fun r5 μ7 a7 b7 R7 => ?_
    have R37 := (R35.trans R6).trans R7
    have hL7 : μ7[μ.length]? = some (.lst (es.map reqD)) := by rw [R37.keep _ (by omega) hlL, hL]
    simp only [d_add, wp_ok]
    refine ⟨by decide, es.map reqD, hL7, by rw [List.length_map, hlen]; exact Nat.lt_trans hid (by decide), ?_⟩
    rw [hI]
    refine ⟨_, t + x, es ++ [(t + x, 1 + r5)], rfl, ?_, by rw [List.length_append, hlen]; rfl, hid, by omega, ?_, hrow.app ht0 (by omega) (by omega) (by omega), ?_⟩
    · rw [List.getElem?_set_self (Nat.lt_of_lt_of_le hlL R37.len), List.map_append]; rfl
    · push_cast
      omega
    · exact ((R.trans R37).le (by omega)).set (Nat.le_refl _) hi
  · intro ρ μ' hin
    rw [hI] at hin
    obtain ⟨k0, t, es, rfl, hL, hlen, hidx, ht0, ht1, hrow, R⟩ := hin
    rw [rngL_len] at hlen hidx ht1 R
    simp [dTuple, rdS, rdT, rdL, rdM, hL]
    exact h t es μ' (by omega) ht0 (by omega) hrow (R.le (by omega))
end Lk44
end S_P44_2
section S_P44_3
set_option Elab.async false
set_option linter.all false
set_option maxRecDepth 100000
set_option maxHeartbeats 400000
namespace Lk44
open PySem PySem.Spec PyProof.Rows L2 FL
def entD (e : Int × Int × Bool) : D := .tup [.int e.1, .int e.2.1, .bl e.2.2]
theorem mul_le {x y : Int} {a b : Nat} (h1 : 0 ≤ x) (h2 : x ≤ (a : Int)) (h3 : 0 ≤ y) (h4 : y ≤ (b : Int)) : 0 ≤ x * y ∧ x * y ≤ ((a * b : Nat) : Int) := by
  refine ⟨Int.mul_nonneg h1 h3, ?_⟩
  have := Int.mul_le_mul h2 h4 h3 (by omega)
  push_cast; exact this
theorem enough_wp {μ : Sto} {k : Str} {a b c d : Nat} {sp si : Int} {Q : D → Sto → Prop} {X : Ex → Sto → Prop} (ha : a ≤ 10 ^ 6) (hb2 : b ≤ 10 ^ 6) (hc : c ≤ 10 ^ 6) (hd2 : d ≤ 10 ^ 6) (h1 : 0 ≤ sp) (h2 : sp ≤ 10 ^ 15) (h3 : -(10 ^ 15) ≤ si) (h4 : si ≤ 10 ^ 15)
    (h : ∀ r : Bool, Q (.bl r) μ) : (m__law_is_enough [.tup [.str k, .tup [.int a, .int b], .tup [.int c, .int d]], .int sp, .int si] μ).wp Q X := by
  have e1 := mul_le (a := 10 ^ 15) (b := 10 ^ 6) h1 h2 (show (0 : Int) ≤ b by omega) (by omega)
  have e3 : -(10 ^ 21) ≤ (c : Int) * si ∧ (c : Int) * si ≤ 10 ^ 21 := by
    rcases Int.le_total 0 si with z | z
    · have := mul_le (a := 10 ^ 6) (b := 10 ^ 15) (show (0 : Int) ≤ c by omega) (by omega) z h4
      omega
    · have := mul_le (a := 10 ^ 6) (b := 10 ^ 15) (x := c) (y := -si) (by omega) (by omega) (by omega) (by omega)
      rw [Int.mul_neg] at this
      omega
  have g1 : lg sp + lg (b : Int) < 1000000 := lg_2 (by omega) (by omega) (by omega) (by omega)
  have g2 : lg (sp * b) + lg (d : Int) < 1000000 := lg_2 (by omega) (by omega) (by omega) (by omega)
  have g3 : lg (a : Int) + lg (d : Int) < 1000000 := lg_2 (by omega) (by omega) (by omega) (by omega)
  have g4 : lg (c : Int) + lg si < 1000000 := lg_2 (by omega) (by omega) (by omega) (by omega)
  have g5 : lg ((c : Int) * si) + lg (b : Int) < 1000000 := lg_2 (by omega) (by omega) (by omega) (by omega)
  unfold m__law_is_enough
  simp [fn_eq, b__law_is_enough, FL.cutD, HT.sIx, g1, g2, g3, g4, g5, h]
/-- entries up to a time, for the law's own judge -/
def EntsB (es : List (Int × Int × Bool)) : Prop := ∀ e ∈ es, 0 ≤ e.1 ∧ e.1 ≤ 10 ^ 15 ∧ 1 ≤ e.2.1 ∧ e.2.1 ≤ 10 ^ 12
theorem passes_wp {μ : Sto} {k : Str} {d : D} {L : Nat} {es : List (Int × Int × Bool)} {mo pr : Int} {Q : D → Sto → Prop} {X : Ex → Sto → Prop} (hr : RulD k d) (hL : μ[L]? = some (.lst (es.map entD))) (hl : es.length ≤ 60) (hb : EntsB es) (hm0 : 0 ≤ mo) (hm1 : mo ≤ 10 ^ 15) (hp0 : 1 ≤ pr) (hp1 : pr ≤ 10 ^ 12)
    (h : ∀ r : Bool, Q (.bl r) μ) : (m__law_passes [d, .ptr L, .int mo, .int pr] μ).wp Q X := by
  unfold m__law_passes
  have hlen : dLen [.ptr L] μ = .ok (.int es.length) μ := by simp [dLen, lenD, rdS, rdT, rdL, rdM, hL]
  have eat : ∀ (j : Nat) (hj : j < es.length), ixD μ (.ptr L) (j : Int) = some (entD es[j]) := fun j hj => by
    simp only [ixD, rdS, rdT, rdL, rdM, hL]
    rw [atI_ge (by rw [List.length_map]; exact hj), List.getElem_map]
  cases hr with
  | fill hk a b c d' ha hb1 hb2 hc hd hd2 =>
    rcases hk with rfl | rfl
    · simp [fn_eq, b__law_passes]
      refine enough_wp ha hb2 hc hd2 (by omega) (by omega) (by decide) (by decide) fun r0 => ?_
      rw [hlen]
      simp only [wp_ok, d_sub]
      rw [rdR3_down (by omega)]
      simp only [wp_ok, fin_wp, sw_seq]
      obtain ⟨I, hI⟩ : ∃ I : Nat → Rho → Sto → Prop, I = fun (idx : Nat) ρ μ' => ∃ (k0 : Option D) (sp : Int) (r : Bool), ρ = [some (.tup [.str "bucket", .tup [.int a, .int b], .tup [.int c, .int d']]), some (.ptr L), some (.int mo), some (.int pr), some (.int sp), some .non, some (.bl r), k0, none, none] ∧ 0 ≤ sp ∧ sp ≤ (idx + 1) * 10 ^ 12 ∧ μ' = μ := ⟨_, rfl⟩
      refine forL_wp I ?_ ?_ (by rw [hI]; exact ⟨none, pr, r0, rfl, by omega, by omega, rfl⟩)
      · intro idx x ρ μ' hx hin
        rw [hI] at hin
        obtain ⟨k0, sp, r, rfl, hs0, hs1, rfl⟩ := hin
        obtain ⟨rfl, hik⟩ := rngDL_get hx
        obtain ⟨j, hj⟩ : ∃ j : Nat, (es.length : Int) - 1 - idx = (j : Int) := ⟨((es.length : Int) - 1 - idx).toNat, by omega⟩
        rw [hj]
        have hjl : j < es.length := by omega
        obtain ⟨q1, q2, q3, q4⟩ := hb es[j] (List.getElem_mem hjl)
        have ee := eat j hjl
        simp [g__law_passes_1, b__law_passes_2, ee, entD, asT, truD]
        have fin1 : ∀ r', I (idx + 1) [some (.tup [.str "bucket", .tup [.int a, .int b], .tup [.int c, .int d']]), some (.ptr L), some (.int mo), some (.int pr), some (.int (sp + es[j].2.1)), some .non, some (.bl r'), some (.int j), none, none] μ' := fun r' => by
          rw [hI]
          exact ⟨_, _, r', rfl, by omega, by push_cast; omega, rfl⟩
        have fin0 : I (idx + 1) [some (.tup [.str "bucket", .tup [.int a, .int b], .tup [.int c, .int d']]), some (.ptr L), some (.int mo), some (.int pr), some (.int sp), some .non, some (.bl r), some (.int j), none, none] μ' := by
          rw [hI]
          exact ⟨_, _, r, rfl, by omega, by push_cast; omega, rfl⟩
        have call : ∀ (Q : D → Sto → Prop) (X : Ex → Sto → Prop), (∀ r : Bool, Q (.bl r) μ') → (m__law_is_enough [.tup [.str "bucket", .tup [.int a, .int b], .tup [.int c, .int d']], .int (sp + es[j].2.1), .int (mo - es[j].1)] μ').wp Q X := fun Q X h => enough_wp ha hb2 hc hd2 (by omega) (by omega) (by omega) (by omega) h
        cases r with
        | false => (repeat' (first | split | exact fin0 | exact fin1 _ | (apply call; intro r)))
        | true => (repeat' (first | split | exact fin0 | exact fin1 _ | (apply call; intro r)))
      · intro ρ μ' hin
        rw [hI] at hin
        obtain ⟨k0, sp, r, rfl, hs0, hs1, rfl⟩ := hin
        simp [h]
    · simp [fn_eq, b__law_passes]
      refine enough_wp ha hb2 hc hd2 (by omega) (by omega) (by decide) (by decide) fun r0 => ?_
      rw [hlen]
      simp only [wp_ok, d_sub]
      rw [rdR3_down (by omega)]
      simp only [wp_ok, fin_wp, sw_seq]
      obtain ⟨I, hI⟩ : ∃ I : Nat → Rho → Sto → Prop, I = fun (idx : Nat) ρ μ' => ∃ (k0 : Option D) (sp : Int) (r : Bool), ρ = [some (.tup [.str "meter", .tup [.int a, .int b], .tup [.int c, .int d']]), some (.ptr L), some (.int mo), some (.int pr), some (.int sp), some .non, some (.bl r), k0, none, none] ∧ 0 ≤ sp ∧ sp ≤ (idx + 1) * 10 ^ 12 ∧ μ' = μ := ⟨_, rfl⟩
      refine forL_wp I ?_ ?_ (by rw [hI]; exact ⟨none, pr, r0, rfl, by omega, by omega, rfl⟩)
      · intro idx x ρ μ' hx hin
        rw [hI] at hin
        obtain ⟨k0, sp, r, rfl, hs0, hs1, rfl⟩ := hin
        obtain ⟨rfl, hik⟩ := rngDL_get hx
        obtain ⟨j, hj⟩ : ∃ j : Nat, (es.length : Int) - 1 - idx = (j : Int) := ⟨((es.length : Int) - 1 - idx).toNat, by omega⟩
        rw [hj]
        have hjl : j < es.length := by omega
        obtain ⟨q1, q2, q3, q4⟩ := hb es[j] (List.getElem_mem hjl)
        have ee := eat j hjl
        simp [g__law_passes_1, b__law_passes_2, ee, entD, asT, truD]
        have fin1 : ∀ r', I (idx + 1) [some (.tup [.str "meter", .tup [.int a, .int b], .tup [.int c, .int d']]), some (.ptr L), some (.int mo), some (.int pr), some (.int (sp + es[j].2.1)), some .non, some (.bl r'), some (.int j), none, none] μ' := fun r' => by
          rw [hI]
          exact ⟨_, _, r', rfl, by omega, by push_cast; omega, rfl⟩
        have fin0 : I (idx + 1) [some (.tup [.str "meter", .tup [.int a, .int b], .tup [.int c, .int d']]), some (.ptr L), some (.int mo), some (.int pr), some (.int sp), some .non, some (.bl r), some (.int j), none, none] μ' := by
          rw [hI]
          exact ⟨_, _, r, rfl, by omega, by push_cast; omega, rfl⟩
        have call : ∀ (Q : D → Sto → Prop) (X : Ex → Sto → Prop), (∀ r : Bool, Q (.bl r) μ') → (m__law_is_enough [.tup [.str "meter", .tup [.int a, .int b], .tup [.int c, .int d']], .int (sp + es[j].2.1), .int (mo - es[j].1)] μ').wp Q X := fun Q X h => enough_wp ha hb2 hc hd2 (by omega) (by omega) (by omega) (by omega) h
        cases r with
        | false => (repeat' (first | split | exact fin0 | exact fin1 _ | (apply call; intro r)))
        | true => (repeat' (first | split | exact fin0 | exact fin1 _ | (apply call; intro r)))
      · intro ρ μ' hin
        rw [hI] at hin
        obtain ⟨k0, sp, r, rfl, hs0, hs1, rfl⟩ := hin
        simp [h]
  | gap g h0 h1 =>
    simp [fn_eq, b__law_passes]
    rw [fin_wp, sw_seq]
    refine forP_wp (L := L) (xs := es.map entD) rfl hL ?_
    obtain ⟨I, hI⟩ : ∃ I : Nat → Rho → Sto → Prop, I = fun (idx : Nat) ρ μ' => ∃ (sp : Int) (ld : D) (g6 k8 k9 : Option D), ρ = [some (.tup [.str "gap", .int g]), some (.ptr L), some (.int mo), some (.int pr), some (.int sp), some ld, g6, none, k8, k9] ∧ (ld = .non ∨ ∃ t : Int, ld = .int t) ∧ μ' = μ := ⟨_, rfl⟩
    refine forLP_wp I (fun idx ρ μ' hin => ?_) ?_ ?_ (by rw [hI]; exact ⟨pr, .non, none, none, none, rfl, .inl rfl, rfl⟩)
    · rw [hI] at hin
      obtain ⟨_, _, _, _, _, _, _, rfl⟩ := hin
      exact lstAt_of hL
    · intro idx x ρ μ' hx hin
      rw [hI] at hin
      obtain ⟨sp, ld, g6, k8, k9, rfl, hld, rfl⟩ := hin
      rw [List.getElem?_map] at hx
      obtain ⟨e, he, rfl⟩ := Option.map_eq_some_iff.mp hx
      have fin1 : ∀ (sp : Int) (ld : D) (gb : Bool), (ld = .non ∨ ∃ t : Int, ld = .int t) → I (idx + 1) [some (.tup [.str "gap", .int g]), some (.ptr L), some (.int mo), some (.int pr), some (.int sp), some ld, some (.bl gb), none, some (.int e.1), some (.int e.2.1)] μ' := fun sp ld gb hl => by
        rw [hI]
        exact ⟨sp, ld, _, _, _, rfl, hl, rfl⟩
      obtain ⟨et, ec, eg⟩ := e
      rcases hld with rfl | ⟨t, rfl⟩ <;> cases eg <;> simp [g__law_passes_3, b__law_passes_4, entD] <;> (repeat' (first | split | exact fin1 _ _ _ (.inl rfl) | exact fin1 _ _ _ (.inr ⟨_, rfl⟩)))
    · intro ρ μ' hin
      rw [hI] at hin
      obtain ⟨sp, ld, g6, k8, k9, rfl, hld, rfl⟩ := hin
      rcases hld with rfl | ⟨t, rfl⟩ <;> simp [FL.isNon, h]
  | span hk w m h0 h1 h2 h3 =>
    have hw : 0 < w := by omega
    have hgw : lg w < 9000 := lg_lt (by omega) (by omega) (by decide)
    rcases hk with rfl | rfl
    · simp [fn_eq, b__law_passes]
      rw [fin_wp, sw_seq]
      refine forP_wp (L := L) (xs := es.map entD) rfl hL ?_
      obtain ⟨I, hI⟩ : ∃ I : Nat → Rho → Sto → Prop, I = fun (idx : Nat) ρ μ' => ∃ (sp : Int) (ld : D) (g6 k8 k9 : Option D), ρ = [some (.tup [.str "window", .int w, .int m]), some (.ptr L), some (.int mo), some (.int pr), some (.int sp), some ld, g6, none, k8, k9] ∧ (ld = .non ∨ ∃ t : Int, ld = .int t) ∧ μ' = μ := ⟨_, rfl⟩
      refine forLP_wp I (fun idx ρ μ' hin => ?_) ?_ ?_ (by rw [hI]; exact ⟨pr, .non, none, none, none, rfl, .inl rfl, rfl⟩)
      · rw [hI] at hin
        obtain ⟨_, _, _, _, _, _, _, rfl⟩ := hin
        exact lstAt_of hL
      · intro idx x ρ μ' hx hin
        rw [hI] at hin
        obtain ⟨sp, ld, g6, k8, k9, rfl, hld, rfl⟩ := hin
        rw [List.getElem?_map] at hx
        obtain ⟨e, he, rfl⟩ := Option.map_eq_some_iff.mp hx
        have fin1 : ∀ (sp : Int) (ld : D) (gb : Bool), (ld = .non ∨ ∃ t : Int, ld = .int t) → I (idx + 1) [some (.tup [.str "window", .int w, .int m]), some (.ptr L), some (.int mo), some (.int pr), some (.int sp), some ld, some (.bl gb), none, some (.int e.1), some (.int e.2.1)] μ' := fun sp ld gb hl => by
          rw [hI]
          exact ⟨sp, ld, _, _, _, rfl, hl, rfl⟩
        obtain ⟨et, ec, eg⟩ := e
        rcases hld with rfl | ⟨t, rfl⟩ <;> cases eg <;> simp [g__law_passes_3, b__law_passes_4, entD] <;> (repeat' (first | split | exact fin1 _ _ _ (.inl rfl) | exact fin1 _ _ _ (.inr ⟨_, rfl⟩)))
      · intro ρ μ' hin
        rw [hI] at hin
        obtain ⟨sp, ld, g6, k8, k9, rfl, hld, rfl⟩ := hin
        rcases hld with rfl | ⟨t, rfl⟩ <;> simp [FL.isNon, h]
    · simp [fn_eq, b__law_passes]
      rw [fin_wp, sw_seq]
      refine forP_wp (L := L) (xs := es.map entD) rfl hL ?_
      obtain ⟨I, hI⟩ : ∃ I : Nat → Rho → Sto → Prop, I = fun (idx : Nat) ρ μ' => ∃ (sp : Int) (ld : D) (g6 k8 k9 : Option D), ρ = [some (.tup [.str "frame", .int w, .int m]), some (.ptr L), some (.int mo), some (.int pr), some (.int sp), some ld, g6, none, k8, k9] ∧ (ld = .non ∨ ∃ t : Int, ld = .int t) ∧ μ' = μ := ⟨_, rfl⟩
      refine forLP_wp I (fun idx ρ μ' hin => ?_) ?_ ?_ (by rw [hI]; exact ⟨pr, .non, none, none, none, rfl, .inl rfl, rfl⟩)
      · rw [hI] at hin
        obtain ⟨_, _, _, _, _, _, _, rfl⟩ := hin
        exact lstAt_of hL
      · intro idx x ρ μ' hx hin
        rw [hI] at hin
        obtain ⟨sp, ld, g6, k8, k9, rfl, hld, rfl⟩ := hin
        rw [List.getElem?_map] at hx
        obtain ⟨e, he, rfl⟩ := Option.map_eq_some_iff.mp hx
        have fin1 : ∀ (sp : Int) (ld : D) (gb : Bool), (ld = .non ∨ ∃ t : Int, ld = .int t) → I (idx + 1) [some (.tup [.str "frame", .int w, .int m]), some (.ptr L), some (.int mo), some (.int pr), some (.int sp), some ld, some (.bl gb), none, some (.int e.1), some (.int e.2.1)] μ' := fun sp ld gb hl => by
          rw [hI]
          exact ⟨sp, ld, _, _, _, rfl, hl, rfl⟩
        obtain ⟨et, ec, eg⟩ := e
        rcases hld with rfl | ⟨t, rfl⟩ <;> cases eg <;> simp [g__law_passes_3, b__law_passes_4, entD, hw, hgw] <;> (repeat' (first | split | exact fin1 _ _ _ (.inl rfl) | exact fin1 _ _ _ (.inr ⟨_, rfl⟩)))
      · intro ρ μ' hin
        rw [hI] at hin
        obtain ⟨sp, ld, g6, k8, k9, rfl, hld, rfl⟩ := hin
        rcases hld with rfl | ⟨t, rfl⟩ <;> simp [FL.isNon, h]
end Lk44
end S_P44_3
section S_P44_4
set_option Elab.async false
set_option linter.all false
set_option maxRecDepth 100000
set_option maxHeartbeats 400000
namespace Lk44
open PySem PySem.Spec PyProof.Rows L2 FL
def req (e : Int × Int × Bool) : Int × Int := (e.1, e.2.1)
theorem plain_ents {n : Nat} (es : List (Int × Int × Bool)) : plainDs (n + 1) (es.map entD) = true := plainDs_all fun x hx => by
  obtain ⟨e, _, rfl⟩ := List.mem_map.mp hx
  cases n <;> rfl
theorem RowOk.ents {t : Int} {es : List (Int × Int)} {fs : List (Int × Int × Bool)} (h : RowOk t es) (ht : t ≤ 10 ^ 15) (hf : ∀ e ∈ fs, req e ∈ es) : EntsB fs := fun e he => by
  obtain ⟨h1, h2, h3, h4⟩ := h.2 _ (hf e he)
  exact ⟨h1, Int.le_trans h2 ht, h3, h4⟩
theorem heard_wp {μ : Sto} {k : Str} {d : D} {t : Int} {es : List (Int × Int)} {Q : D → Sto → Prop} {X : Ex → Sto → Prop} (hr : RulD k d) (ho : RowOk t es) (ht : t ≤ 10 ^ 15) (hl : es.length ≤ 60)
    (h : ∀ (fs : List (Int × Int × Bool)), fs.map req = es → Q (.tup (fs.map entD)) (μ ++ [.lst (fs.map entD)])) : (m__law_heard [d, .tup (es.map reqD)] μ).wp Q X := by
  unfold m__law_heard
  simp [fn_eq, b__law_heard]
  rw [fin_wp, sw_seq]
  obtain ⟨I, hI⟩ : ∃ I : Nat → Rho → Sto → Prop, I = fun (idx : Nat) ρ μ' => ∃ (k3 k4 : Option D) (fs : List (Int × Int × Bool)), ρ = [some d, some (.tup (es.map reqD)), some (.ptr μ.length), k3, k4] ∧ μ' = μ ++ [.lst (fs.map entD)] ∧ fs.map req = es.take idx := ⟨_, rfl⟩
  refine forL_wp I ?_ ?_ (by rw [hI]; exact ⟨none, none, [], rfl, rfl, rfl⟩)
  · intro idx x ρ μ' hx hin
    rw [hI] at hin
    obtain ⟨k3, k4, fs, rfl, rfl, hfs⟩ := hin
    rw [List.getElem?_map] at hx
    obtain ⟨e, he, rfl⟩ := Option.map_eq_some_iff.mp hx
    obtain ⟨hlt, heq⟩ := List.getElem?_eq_some_iff.mp he
    have hmem : e ∈ es := List.mem_of_getElem? he
    obtain ⟨e1, e2⟩ := e
    obtain ⟨q1, q2, q3, q4⟩ := ho.2 _ hmem
    simp [g__law_heard_1, b__law_heard_2, reqD]
    refine append_wp (xs := fs.map entD) rfl get_app ?_
    simp
    have hfl : fs.length ≤ idx := by
      have := congrArg List.length hfs
      rw [List.length_map, List.length_take] at this
      omega
    refine passes_wp hr get_app (by omega) (ho.ents ht fun f hf => ?_) q1 (by omega) q3 q4 fun r => ?_
    · have : req f ∈ fs.map req := List.mem_map_of_mem hf
      rw [hfs] at this
      exact List.mem_of_mem_take this
    · refine ⟨by decide, fs.map entD, get_app, by rw [List.length_map]; exact Nat.lt_of_le_of_lt (show fs.length ≤ 60 by omega) (by decide), ?_⟩
      rw [set_app, hI]
      refine ⟨_, _, fs ++ [(e1, e2, r)], rfl, by rw [List.map_append]; rfl, ?_⟩
      rw [List.map_append, hfs, List.take_add_one, he]; rfl
  · intro ρ μ' hin
    rw [hI] at hin
    obtain ⟨k3, k4, fs, rfl, rfl, hfs⟩ := hin
    rw [List.length_map, List.take_length] at hfs
    simp [dTuple, rdS, rdT, rdL, rdM]
    exact h fs hfs
/-- a log that may stand -/
def LogOk (es : List (Int × Int × Bool)) : Prop := RowOk (10 ^ 15) (es.map req)
theorem spoken_wp {μ : Sto} {i n : Nat} {k : Str} {many far : Int} {Q : D → Sto → Prop} {X : Ex → Sto → Prop} (hc : Case μ i (n + 340)) (hk : k ∈ kindL) (hm0 : 0 ≤ many) (hm : many ≤ 40) (hf0 : 0 ≤ far) (hf : far ≤ 10 ^ 12)
    (h : ∀ (es : List (Int × Int × Bool)) (μ' : Sto), (es.length : Int) ≤ many → LogOk es → Run i 340 μ μ' → Q (.tup (es.map entD)) μ') : (m__law_spoken [.ptr i, .str k, .int many, .int far] μ).wp Q X := by
  have g10 : lg 10 < 1000 := by decide
  have pick3 : ∀ (a b c r : Int) (μ : Sto), 0 ≤ r → r < 3 → ∃ x, dIx (.lst [.int a, .int b, .int c]) (.int r) μ = .ok (.int x) μ ∧ (x = a ∨ x = b ∨ x = c) := fun a b c r μ h0 h1 => by
    have : r = 0 ∨ r = 1 ∨ r = 2 := by omega
    rcases this with rfl | rfl | rfl
    · exact ⟨a, rfl, .inl rfl⟩
    · exact ⟨b, rfl, .inr (.inl rfl)⟩
    · exact ⟨c, rfl, .inr (.inr rfl)⟩
  unfold m__law_spoken
  refine fn_wp rfl ?_
  unfold b__law_spoken
  refine cut (fun ρ μ' => ∃ k', k' ∈ kindL ∧ ρ = [some (.ptr i), some (.str k), some (.int many), some (.int far), some (.str k'), none, none, none, none, none, none, none, none] ∧ Run i 2 μ μ') ?_ ?_
  · simp [st0]
    refine take_wp (n := n + 339) hc (by decide) (by decide) fun r1 μ1 a1 b1 R1 => ?_
    simp
    split
    · exact ⟨_, hk, rfl, R1.le (by omega)⟩
    · exact kinds_wp (n := n + 338) (R1.c hc (by omega)) fun s μ2 hs R2 => ⟨s, hs, rfl, R1.trans R2⟩
  rintro ρ μ2 ⟨k', hk', rfl, R2⟩
  have c2 : Case μ2 i (n + 338) := R2.c hc (by omega)
  refine cut (fun ρ μ' => ∃ gp : Int, 0 ≤ gp ∧ gp ≤ 10 ^ 12 ∧ ρ = [some (.ptr i), some (.str k), some (.int many), some (.int far), some (.str k'), some (.int gp), none, none, none, none, none, none, none] ∧ Run i 3 μ μ') ?_ ?_
  · simp
    refine ⟨by decide, take_wp (n := n + 337) c2 (by decide) (by decide) fun r1 μ1 a1 b1 R1 => ?_⟩
    obtain ⟨x, ex, hx⟩ := pick3 3 20 far r1 μ1 a1 b1
    rw [ex]
    exact ⟨x, by omega, by omega, rfl, R2.trans R1⟩
  rintro ρ μ3 ⟨gp0, hg0, hg1, rfl, R3⟩
  refine cut (fun ρ μ' => ∃ gp : Int, 0 ≤ gp ∧ gp ≤ 10 ^ 12 ∧ ρ = [some (.ptr i), some (.str k), some (.int many), some (.int far), some (.str k'), some (.int gp), none, none, none, none, none, none, none] ∧ Run i 3 μ μ') ?_ ?_
  · have hd : lg (many + 1) < 9000 := lg_lt (by omega) (by omega) (by decide)
    have hq : 0 ≤ 380 / (many + 1) := Int.ediv_nonneg (by decide) (by omega)
    simp
    split
    · refine ⟨⟨by omega, hd⟩, ?_⟩
      exact ⟨_, by split <;> omega, by split <;> omega, rfl, R3⟩
    · exact ⟨gp0, hg0, hg1, rfl, R3⟩
  rintro ρ μ4 ⟨gp, hp0, hp1, rfl, R4⟩
  have c4 : Case μ4 i (n + 337) := R4.c hc (by omega)
  refine cut (fun ρ μ' => ∃ pr : Int, 1 ≤ pr ∧ pr ≤ 10 ^ 9 ∧ ρ = [some (.ptr i), some (.str k), some (.int many), some (.int far), some (.str k'), some (.int gp), some (.int pr), none, none, none, none, none, none] ∧ Run i 4 μ μ') ?_ ?_
  · simp [g10]
    refine ⟨by decide, take_wp (n := n + 336) c4 (by decide) (by decide) fun r1 μ1 a1 b1 R1 => ?_⟩
    obtain ⟨x, ex, hx⟩ := pick3 3 9 100000000 r1 μ1 a1 b1
    rw [ex]
    exact ⟨x, by omega, by omega, rfl, R4.trans R1⟩
  rintro ρ μ5 ⟨pr, hr0, hr1, rfl, R5⟩
  have c5 : Case μ5 i (n + 336) := R5.c hc (by omega)
  refine cut (fun ρ μ' => ∃ d, RulD k' d ∧ ρ = [some (.ptr i), some (.str k), some (.int many), some (.int far), some (.str k'), some (.int gp), some (.int pr), some d, none, none, none, none, none] ∧ Run i 14 μ μ') ?_ ?_
  · simp
    refine ⟨by decide, take_wp (n := n + 335) c5 (by decide) (by decide) fun r1 μ1 a1 b1 R1 => ?_⟩
    obtain ⟨x, ex, hx⟩ : ∃ x : Int, dIx (.lst [.int 4, .int 20]) (.int r1) μ1 = .ok (.int x) μ1 ∧ (x = 4 ∨ x = 20) := by
      have : r1 = 0 ∨ r1 = 1 := by omega
      rcases this with rfl | rfl
      · exact ⟨4, rfl, .inl rfl⟩
      · exact ⟨20, rfl, .inr rfl⟩
    rw [ex]
    simp only [wp_ok]
    exact rule_wp (n := n + 326) (R1.c c5 (by omega)) hk' (by omega) (by omega) fun d μ2 hd R6 => ⟨d, hd, rfl, ((R5.trans R1).trans R6).le (by omega)⟩
  rintro ρ μ6 ⟨d, hd, rfl, R6⟩
  have c6 : Case μ6 i (n + 326) := R6.c hc (by omega)
  refine cut (fun ρ μ' => ∃ es : List (Int × Int × Bool), (es.length : Int) ≤ many ∧ LogOk es ∧ ρ = [some (.ptr i), some (.str k), some (.int many), some (.int far), some (.str k'), some (.int gp), some (.int pr), some d, some (.tup (es.map entD)), none, none, none, none] ∧ Run i 316 μ μ') ?_ ?_
  · simp
    refine requests_wp (n := n + 24) (c6.le (by omega)) hm0 (by omega) hp0 (by omega) hr0 (by omega) fun t es μ1 hl ht0 ht1 hrow R7 => ?_
    have hi1 : i < μ1.length := (R7.c (k := n + 326) c6 (j := 0) (by omega)).lt
    refine heard_wp hd hrow ht1 (by omega) fun fs hfs => ?_
    have hlen : fs.length = es.length := by rw [← hfs, List.length_map]
    refine ⟨fs, by rw [hlen]; exact hl, ?_, rfl, ((R6.trans R7).trans (Run.app hi1 _)).le (by omega)⟩
    unfold LogOk
    rw [hfs]
    exact ⟨hrow.1, fun e he => let ⟨z1, z2, z3, z4⟩ := hrow.2 e he; ⟨z1, Int.le_trans z2 ht1, z3, z4⟩⟩
  rintro ρ μ7 ⟨es, hl, hlog, rfl, R7⟩
  have c7 : Case μ7 i (n + 24) := R7.c hc (by omega)
  refine cut (fun ρ μ' => ∃ es : List (Int × Int × Bool), (es.length : Int) ≤ many ∧ LogOk es ∧ ρ[8]? = some (some (.tup (es.map entD))) ∧ Run i 318 μ μ') ?_ ?_
  · simp
    rw [dNe_tup (plain_ents es) rfl]
    simp only [wp_ok, e_asB, deqAll_nil]
    by_cases hne : es = []
    · subst hne
      simp
      exact ⟨[], hl, hlog, rfl, R7.le (by omega)⟩
    · have : (es.map entD).isEmpty = false := by cases es <;> simp_all
      simp [this]
      have hpos : 0 < es.length := by cases es with
        | nil => exact absurd rfl hne
        | cons _ _ => simp
      refine take_wp (n := n + 23) c7 (by decide) (by decide) fun r1 μ1 a1 b1 R1 => ?_
      simp
      split
      · refine take_wp (n := n + 22) (R1.c c7 (by omega)) (by omega) (by omega) fun r2 μ2 a2 b2 R2 => ?_
        obtain ⟨j, rfl⟩ : ∃ j : Nat, r2 = (j : Int) := ⟨r2.toNat, by omega⟩
        have hj : j < es.length := by omega
        have ej : atI (es.map entD) (j : Int) = some (entD es[j]) := by rw [atI_ge (by rw [List.length_map]; exact hj), List.getElem_map]
        have ec1 : FL.cutD (es.map entD) none (some (j : Int)) = (es.take j).map entD := by rw [cutD_to (by rw [List.length_map]; omega), List.map_take]
        have ec2 : FL.cutD (es.map entD) (some ((j : Int) + 1)) none = (es.drop (j + 1)).map entD := by rw [show ((j : Int) + 1) = ((j + 1 : Nat) : Int) by omega, cutD_from (by rw [List.length_map]; omega), List.map_drop]
        have l1 : min j es.length + 1 ≤ lim := by have : (60 : Nat) ≤ lim := by decide
                                                  omega
        have l2 : min j es.length + 1 + (es.length - (j + 1)) ≤ lim := by have : (60 : Nat) ≤ lim := by decide
                                                                          omega
        simp [ej, entD, ec1, ec2]
        refine ⟨by decide, by decide, l1, l2, es.take j ++ (es[j].1, es[j].2.1, !es[j].2.2) :: es.drop (j + 1), ?_, ?_, ?_, ((R7.trans R1).trans R2).le (by omega)⟩
        · rw [List.length_append, List.length_cons, List.length_take, List.length_drop]; omega
        · have e1 : (es.take j ++ (es[j].1, es[j].2.1, !es[j].2.2) :: es.drop (j + 1)).map req = (es.take j ++ es[j] :: es.drop (j + 1)).map req := by
            rw [List.map_append, List.map_append]; rfl
          unfold LogOk
          rw [e1, ← List.drop_eq_getElem_cons hj, List.take_append_drop]
          exact hlog
        · rw [List.map_append, List.map_cons, List.map_take, List.map_drop]; rfl
      · exact ⟨es, hl, hlog, rfl, (R7.trans R1).le (by omega)⟩
  · rintro ρ μ8 ⟨fs, hl2, hlog2, h8, R8⟩
    simp [h8]
    exact h fs μ8 hl2 hlog2 (R8.le (by omega))
end Lk44
end S_P44_4
section S_P44_5
set_option Elab.async false
set_option linter.all false
set_option maxRecDepth 100000
set_option maxHeartbeats 400000
namespace Lk44
open PySem PySem.Spec PyProof.Rows L2 FL
def logD (es : List (Int × Int × Bool)) : D := .tup (es.map entD)
theorem is_integer_int (i : Int) (μ : Sto) : m_is_integer [.int i] μ = .ok (.bl true) μ := rfl
theorem is_at_least_int (i j : Int) (μ : Sto) : m_is_at_least [.int i, .int j] μ = .ok (.bl (decide (j ≤ i))) μ := rfl
theorem is_request_ok (t c : Int) (μ : Sto) : m_is_request [.tup [.int t, .int c]] μ = .ok (.bl (decide (0 ≤ t) && decide (1 ≤ c))) μ := by
  unfold m_is_request
  simp [fn_eq, b_is_request, is_at_least_int]
  by_cases h : 0 ≤ t <;> simp [h]
theorem is_entry_ok (e : Int × Int × Bool) (μ : Sto) (h0 : 0 ≤ e.1) (h1 : 1 ≤ e.2.1) : m_is_entry [entD e] μ = .ok (.bl true) μ := by
  unfold m_is_entry
  simp [fn_eq, b_is_entry, entD, FL.cutD, HT.sIx, is_request_ok, h0, h1]
theorem zip_tail_le : ∀ (es : List (Int × Int × Bool)), (es.map req).Pairwise (fun a b => a.1 ≤ b.1) → ∀ p ∈ es.zip es.tail, p.1.1 ≤ p.2.1
  | [], _, p, hp => by simp at hp
  | [x], _, p, hp => by simp at hp
  | x :: y :: r, h, p, hp => by
    simp only [List.map_cons, List.pairwise_cons] at h
    simp only [List.tail_cons, List.zip_cons_cons, List.mem_cons] at hp
    rcases hp with rfl | hp
    · exact h.1 (req y) List.mem_cons_self
    · exact zip_tail_le (y :: r) (by simp only [List.map_cons, List.pairwise_cons]; exact h.2) p hp
theorem zipD_map (es fs : List (Int × Int × Bool)) : zipD (es.map entD) (fs.map entD) = (es.zip fs).map fun p => D.tup [entD p.1, entD p.2] := by
  unfold zipD
  rw [List.zip_map, List.map_map]; rfl
theorem is_rising_ok (es : List (Int × Int × Bool)) (μ : Sto) (hl : es.length ≤ 1000) (h : LogOk es) : m_is_rising [logD es] μ = .ok (.bl true) μ := by
  have hlim : (1000 : Nat) ≤ lim := by decide
  unfold m_is_rising
  have hz : rdZip [logD es, .tup (FL.cutD (es.map entD) (some 1) none)] = some ((es.zip es.tail).map fun p => D.tup [entD p.1, entD p.2]) := by
    have e1 : FL.cutD (es.map entD) (some 1) none = es.tail.map entD := by
      cases es with
      | nil => rfl
      | cons x r =>
        rw [show (1 : Int) = ((1 : Nat) : Int) from rfl, cutD_from (by simp)]
        simp
    rw [e1]
    show some (zipD (es.map entD) (es.tail.map entD)) = _
    rw [zipD_map]
  have hx : xLc (iOf rdZip (aCons (xVar 0) (aCons (xSl (xVar 0) (oSome (xC (.int 1))) oNone) aNil))) (.tp [(.nm 1), (.nm 2)]) ttYes e_is_rising_1 [1, 2] [some (logD es), none, none] μ = .ok (.lst (((es.zip es.tail).map fun p => D.tup [entD p.1, entD p.2]).map fun _ => D.bl true)) μ := by
    refine xLc_map ?_ ?_ ?_
    · simp [logD] at hz ⊢
      rw [hz]
    · rw [List.length_map, List.length_zip]; omega
    · intro x hx
      obtain ⟨p, hp, rfl⟩ := List.mem_map.mp hx
      have hle := zip_tail_le es h.1 p hp
      obtain ⟨⟨a1, a2, a3⟩, b1, b2, b3⟩ := p
      refine ⟨_, rfl, ?_⟩
      simp [e_is_rising_1, entD, wipeR]
      exact hle
  have ha := dAll_true (μ := μ) ((es.zip es.tail).map fun p => D.tup [entD p.1, entD p.2])
  simp [fn_eq, b_is_rising]
  rw [hx]
  simp only [Res.bind_ok]
  rw [ha]
  rfl
theorem is_log_ok (es : List (Int × Int × Bool)) (μ : Sto) (hl : es.length ≤ 1000) (h : LogOk es) : m_is_log [logD es] μ = .ok (.bl true) μ := by
  have hlim : (1000 : Nat) ≤ lim := by decide
  unfold m_is_log
  have hx : xLc (iVal (xVar 0)) (.nm 1) ttYes e_is_log_1 [1] [some (logD es), none] μ = .ok (.lst ((es.map entD).map fun _ => D.bl true)) μ := by
    refine xLc_map ?_ ?_ ?_
    · simp [logD]
    · rw [List.length_map]; omega
    · intro x hx
      obtain ⟨e, he, rfl⟩ := List.mem_map.mp hx
      obtain ⟨q1, q2, q3, q4⟩ := h.2 (req e) (List.mem_map_of_mem he)
      refine ⟨_, rfl, ?_⟩
      simp [e_is_log_1, wipeR]
      exact is_entry_ok e μ q1 q3
  have ha := dAll_true (μ := μ) (es.map entD)
  have hr := is_rising_ok es μ hl h
  simp only [logD] at hx hr ⊢
  simp [fn_eq, b_is_log]
  rw [hx]
  simp only [Res.bind_ok]
  rw [ha]
  simp [hr]
theorem check_log_ok (es : List (Int × Int × Bool)) (μ : Sto) (hl : es.length ≤ 1000) (h : LogOk es) : m_check_log [logD es] μ = .ok .non μ := by
  unfold m_check_log
  simp [fn_eq, b_check_log, is_log_ok es μ hl h]
theorem check_kind_ok {k : Str} (hk : k ∈ kindL) (μ : Sto) : m_check_kind [.str k, .tup [(.str "bucket"), (.str "meter"), (.str "window"), (.str "frame"), (.str "gap")]] μ = .ok .non μ := by
  have e : dNotIn (.str k) (.tup [(.str "bucket"), (.str "meter"), (.str "window"), (.str "frame"), (.str "gap")]) μ = .ok (.bl false) μ := by
    simp only [kindL, List.mem_cons, List.not_mem_nil, or_false] at hk
    rcases hk with rfl | rfl | rfl | rfl | rfl <;> rfl
  unfold m_check_kind
  simp [fn_eq, b_check_kind, e]
end Lk44
end S_P44_5
section S_P44_6
set_option Elab.async false
set_option linter.all false
set_option maxRecDepth 100000
set_option maxHeartbeats 400000
namespace Lk44
open PySem PySem.Spec PyProof.Rows L2 FL
abbrev Ents := List (Int × Int × Bool)
def heardC (k : Str) (ls : List Ents) : Cell := .ins "Heard" [("heard_kind", .str k), ("heard_logs", .tup (ls.map logD))]
def orE (ls : List Ents) : List Ents := if ls = [] then [[]] else ls
def LogsOk (ls : List Ents) : Prop := ls.length ≤ 20 ∧ ∀ l ∈ ls, l.length ≤ 1000 ∧ LogOk l
theorem plain_logs {n : Nat} (ls : List Ents) : plainDs (n + 2) (ls.map logD) = true := plainDs_all fun x hx => by
  obtain ⟨l, _, rfl⟩ := List.mem_map.mp hx
  exact plain_ents l
theorem lim20 : (1000000 : Nat) ≤ lim := by decide
@[simp] theorem fne1 : ((Str.ofString "heard_kind") = (Str.ofString "heard_logs")) = False := by simp only [eq_iff_iff, iff_false]; decide +kernel
@[simp] theorem fne2 : ((Str.ofString "heard_logs") = (Str.ofString "heard_kind")) = False := by simp only [eq_iff_iff, iff_false]; decide +kernel
@[simp] theorem lk2 (x y : D) : List.lookup (Str.ofString "heard_logs") [(Str.ofString "heard_kind", x), (Str.ofString "heard_logs", y)] = some y := rfl
theorem init_ok {k : Str} (hk : k ∈ kindL) {ls : List Ents} (h : LogsOk ls) {μ : Sto} {j : Nat} (hj : μ[j]? = some (.ins "Heard" [])) : m_Heard___init__ (.ptr j :: .str k :: ls.map logD) μ = .ok .non (μ.set j (heardC k (orE ls))) := by
  have hlt : j < μ.length := (List.getElem?_eq_some_iff.mp hj).1
  have w : (m_Heard___init__ (.ptr j :: .str k :: ls.map logD) μ).wp (fun d μ' => d = .non ∧ μ' = μ.set j (heardC k (orE ls))) (fun _ _ => False) := by
    unfold m_Heard___init__ starM
    have hl : ls.length ≤ lim := by have := lim20; have := h.1; omega
    simp [hl]
    refine mDef_wp ?_
    unfold b_Heard___init__
    refine cut (fun ρ μ' => ρ = [some (.ptr j), some (.str k), some (.tup (ls.map logD)), none] ∧ μ' = μ) ?_ ?_
    · simp [st0, check_kind_ok hk]
    rintro ρ μ' ⟨rfl, rfl⟩
    refine cut (fun ρ μ2 => (∃ x, ρ = [some (.ptr j), some (.str k), some (.tup (ls.map logD)), x]) ∧ μ2 = μ') ?_ ?_
    · simp
      refine forL_wp (fun idx ρ μ2 => (∃ x, ρ = [some (.ptr j), some (.str k), some (.tup (ls.map logD)), x]) ∧ μ2 = μ') ?_ (fun _ _ z => z) ⟨⟨none, rfl⟩, rfl⟩
      rintro idx x ρ μ2 hx ⟨⟨y, rfl⟩, rfl⟩
      have hx := List.mem_of_getElem? hx
      obtain ⟨l, hl2, rfl⟩ := List.mem_map.mp hx
      obtain ⟨z1, z2⟩ := h.2 l hl2
      simp [g_Heard___init___1, b_Heard___init___2, check_log_ok l _ z1 z2]
    rintro ρ μ2 ⟨⟨x, rfl⟩, rfl⟩
    have hs : ∀ c : Cell, (μ2.set j c)[j]? = some c := fun c => List.getElem?_set_self hlt
    have hn := dNe_tup (μ := μ2.set j (.ins "Heard" [("heard_kind", .str k)])) (plain_logs (n := 61) ls) (show plainDs 63 [] = true from rfl)
    simp [sFldM, hj, putFD, hs, hn, logD]
    by_cases he : ls = []
    · subst he
      simp [hs, putFD, orE, heardC, logD]
      decide
    · have e2 : (ls.map logD).isEmpty = false := by cases ls <;> simp_all
      have e3 : (ls.map logD) ≠ [] := by cases ls <;> simp_all
      simp [he, hs, putFD, orE, heardC, logD]
  obtain ⟨d, μ', e, rfl, rfl⟩ := Res.wp_iff.mp w
  exact e
theorem make_ok {k : Str} (hk : k ∈ kindL) {ls : List Ents} (h : LogsOk ls) (μ : Sto) : mkM "Heard" m_Heard___init__ (.str k :: ls.map logD) μ = .ok (.ptr μ.length) (μ ++ [heardC k (orE ls)]) := by
  unfold mkM
  rw [init_ok hk h (by simp)]
  simp [set_app]
/-- what an object is -/
def HeardAt (μ : Sto) (j : Nat) (k : Str) (ls : List Ents) : Prop := μ[j]? = some (heardC k ls)
theorem kind_ok {μ : Sto} {j : Nat} {k : Str} {ls : List Ents} (h : HeardAt μ j k ls) : m_Heard_kind [.ptr j] μ = .ok (.str k) μ := by
  unfold HeardAt at h
  unfold m_Heard_kind
  simp [fn_eq, b_Heard_kind, fldD, h, heardC]
theorem logs_ok {μ : Sto} {j : Nat} {k : Str} {ls : List Ents} (h : HeardAt μ j k ls) (hl : ls.length ≤ 1000) : m_Heard_logs [.ptr j] μ = .ok (.ptr μ.length) (μ ++ [.lst (ls.map logD)]) := by
  have := lim20
  have hl2 : ls.length ≤ lim := by omega
  unfold HeardAt at h
  unfold m_Heard_logs
  simp [fn_eq, b_Heard_logs, fldD, h, heardC, hl2]
/-- all entries of some logs -/
def allE (ls : List Ents) : List D := (ls.map fun l => l.map entD).flatten
theorem lcN_var {n : Nat} {xs : List D} {ρ : Rho} {μ : Sto} {i : Nat} {vs : List Nat} (hi : i < ρ.length) (hv : i ∈ vs) (h : n + xs.length ≤ lim) : lcN (.nm i) ttYes (xVar i) vs n xs ρ μ = .ok xs μ := by
  have hw : ∀ (ρ : Rho) (vs : List Nat), (wipeR ρ vs).length = ρ.length := fun ρ vs => by
    induction vs with
    | nil => rfl
    | cons v vs ih => show ((wipeR ρ vs).set v none).length = _; rw [List.length_set, ih]
  induction xs generalizing n with
  | nil => rfl
  | cons x xs ih =>
    rw [List.length_cons] at h
    unfold lcN
    have e : (List.set (wipeR ρ vs) i (some x))[i]? = some (some x) := List.getElem?_set_self (by rw [hw]; exact hi)
    simp only [ntM, ttYes, noX_ok, Res.bind_ok, if_true, e_var, e]
    rw [if_pos (show n < lim by omega), ih (n := n + 1) (by omega)]
    rfl
theorem len_ok {μ : Sto} {j : Nat} {k : Str} {ls : List Ents} (h : HeardAt μ j k ls) (hl : (allE ls).length ≤ 100000) : m_Heard___len__ [.ptr j] μ = .ok (.int (allE ls).length) μ := by
  have := lim20
  have key : ∀ (n : Nat) (ls : List Ents) (ρ : Rho), ρ.length = 3 → n + (allE ls).length ≤ lim → lcO (.nm 1) ttYes (iVal (xVar 1)) (.nm 2) ttYes e_Heard___len___1 [1, 2] [2] n (ls.map logD) ρ μ = .ok (allE ls) μ := by
    intro n ls
    induction ls generalizing n with
    | nil => intro ρ _ _; rfl
    | cons l ls ih =>
      intro ρ hρ hn
      have ea : allE (l :: ls) = l.map entD ++ allE ls := by simp [allE]
      rw [ea] at hn ⊢
      rw [List.length_append] at hn
      match ρ, hρ with
      | [a, b, c], _ =>
        rw [List.map_cons]
        unfold lcO
        simp only [ntM, wipeR, List.set_cons_succ, List.set_cons_zero, ttYes, noX_ok, Res.bind_ok, if_true, e_iVal, e_var]
        have e1 : lcN (.nm 2) ttYes e_Heard___len___1 [2] n (l.map entD) [a, some (logD l), none] μ = .ok (l.map entD) μ := lcN_var (by simp) (by simp) (by omega)
        simp [logD] at e1 ⊢
        rw [e1]
        simp only [Res.bind_ok]
        have e2 := ih (n + (l.map entD).length) [a, b, c] rfl (by omega)
        rw [e2]
        rfl
  unfold HeardAt at h
  unfold m_Heard___len__
  have e := key 0 ls [some (.ptr j), none, none] rfl (by omega)
  simp [fn_eq, b_Heard___len__, xLc2, fldD, h, heardC, e]
theorem starL_snoc (ls : List D) (l : D) : starL 2 0 (ls ++ [l]) = [.lst ls, l] := by
  unfold starL
  have e : (ls ++ [l]).length + 1 - 2 = ls.length := by rw [List.length_append]; simp
  rw [e]
  simp
@[simp] theorem e_gStar {ρ : Rho} {μ : Sto} {gs : GsMir} (n i : Nat) (xs : List D) : gStar n i gs (.tup xs) ρ μ = if n ≤ xs.length + 1 then gs (starL n i xs) ρ μ else .stuck := rfl
theorem last_time_nil (μ : Sto) : m_last_time [logD []] μ = .ok (.int 0) μ := by
  unfold m_last_time
  have e : dNe (logD []) (.tup []) μ = .ok (.bl false) μ := dNe_tup rfl rfl
  simp [fn_eq, b_last_time, e]
theorem last_time_snoc (l : Ents) (e : Int × Int × Bool) (μ : Sto) : m_last_time [logD (l ++ [e])] μ = .ok (.int e.1) μ := by
  unfold m_last_time
  have e1 : dNe (logD (l ++ [e])) (.tup []) μ = .ok (.bl true) μ := by
    unfold logD
    rw [dNe_tup (plain_ents (n := 62) _) rfl, deqAll_nil]
    simp
  simp [fn_eq, b_last_time, e1]
  simp [logD, atI_neg1, entD]
/-- the last time of a log -/
def lastT (l : Ents) : Int := match l.getLast? with
  | some e => e.1
  | none => 0
theorem last_time_ok (l : Ents) (μ : Sto) : m_last_time [logD l] μ = .ok (.int (lastT l)) μ := by
  rcases List.eq_nil_or_concat l with rfl | ⟨l', e, rfl⟩
  · exact last_time_nil μ
  · rw [List.concat_eq_append, last_time_snoc]; simp [lastT]
theorem orE_snoc (ls : List Ents) (l : Ents) : orE (ls ++ [l]) = ls ++ [l] := by unfold orE; rw [if_neg (by simp)]
theorem add_ok {μ : Sto} {j : Nat} {k : Str} {ls : List Ents} {l : Ents} {e : Int × Int × Bool} (hk : k ∈ kindL) (h : HeardAt μ j k (ls ++ [l])) (h0 : 0 ≤ e.1) (h1 : 1 ≤ e.2.1) (ht : lastT l ≤ e.1) (hok : LogsOk (ls ++ [l ++ [e]])) :
    m_Heard___add__ [.ptr j, entD e] μ = .ok (.ptr μ.length) (μ ++ [heardC k (ls ++ [l ++ [e]])]) := by
  have l0 := lim20
  have l1 : ls.length + 1 ≤ 20 := by have := hok.1; rw [List.length_append] at this; exact this
  have l2 : l.length + 1 ≤ 1000 := by have := (hok.2 (l ++ [e]) (by simp)).1; rw [List.length_append] at this; exact this
  have mk := make_ok hk hok μ
  rw [orE_snoc] at mk
  have q1 : ¬ e.1 < lastT l := by omega
  have q2 : l.length + 1 ≤ lim := by omega
  have ee : ixD μ (entD e) 0 = some (.int e.1) := rfl
  have sl := starL_snoc (ls.map logD) (logD l)
  have elt := last_time_ok l μ
  have mk2 : mkM "Heard" m_Heard___init__ (.str k :: (ls.map logD ++ [.tup (l.map entD ++ [entD e])])) μ = .ok (.ptr μ.length) (μ ++ [heardC k (ls ++ [l ++ [e]])]) := by
    rw [← mk]; simp [logD]
  unfold HeardAt at h
  unfold m_Heard___add__
  simp [fn_eq, b_Heard___add__, is_entry_ok e μ h0 h1, fldD, h, heardC, sl, ee, elt, q1]
  simp [logD, q2, mk2, heardC, h, fldD]
theorem sub_ok {μ : Sto} {j : Nat} {k : Str} {ls : List Ents} {l : Ents} {n : Nat} (hk : k ∈ kindL) (h : HeardAt μ j k (ls ++ [l])) (hn : n ≤ l.length) (hok : LogsOk (ls ++ [l.take (l.length - n)])) :
    m_Heard___sub__ [.ptr j, .int n] μ = .ok (.ptr μ.length) (μ ++ [heardC k (ls ++ [l.take (l.length - n)])]) := by
  have mk := make_ok hk hok μ
  rw [orE_snoc] at mk
  have sl := starL_snoc (ls.map logD) (logD l)
  have ecut : FL.cutD (l.map entD) none (some ((l.length : Int) - n)) = (l.take (l.length - n)).map entD := by
    rw [show ((l.length : Int) - n) = ((l.length - n : Nat) : Int) by omega, cutD_to (by rw [List.length_map]; omega), List.map_take]
  have q1 : ¬ l.length < n := by omega
  have q0 : (0 : Int) ≤ n := by omega
  have mk2 : mkM "Heard" m_Heard___init__ (.str k :: (ls.map logD ++ [.tup ((l.take (l.length - n)).map entD)])) μ = .ok (.ptr μ.length) (μ ++ [heardC k (ls ++ [l.take (l.length - n)])]) := by
    rw [← mk]; simp [logD]
  unfold HeardAt at h
  unfold m_Heard___sub__
  simp only [List.map_take] at ecut mk2
  simp [fn_eq, b_Heard___sub__, fldD, h, heardC, sl, is_at_least_int, q0]
  simp [logD, q1, ecut, mk2, heardC, h, fldD]
theorem and_ok {μ : Sto} {j j2 : Nat} {k : Str} {ls ls2 : List Ents} (hk : k ∈ kindL) (h : HeardAt μ j k ls) (h2 : HeardAt μ j2 k ls2) (hne : ls ++ ls2 ≠ []) (hok : LogsOk (ls ++ ls2)) :
    m_Heard___and__ [.ptr j, .ptr j2] μ = .ok (.ptr μ.length) (μ ++ [heardC k (ls ++ ls2)]) := by
  have mk := make_ok hk hok μ
  have eo : orE (ls ++ ls2) = ls ++ ls2 := by unfold orE; rw [if_neg hne]
  rw [eo, List.map_append] at mk
  unfold HeardAt at h h2
  unfold m_Heard___and__
  simp [fn_eq, b_Heard___and__, xIso, isoD, tyN, ownL, fldD, h, h2, heardC, mk]
theorem inv_ok {μ : Sto} {j : Nat} {k : Str} {ls : List Ents} (hk : k ∈ kindL) (h : HeardAt μ j k ls) (hok : LogsOk (ls ++ [[]])) :
    m_Heard___invert__ [.ptr j] μ = .ok (.ptr μ.length) (μ ++ [heardC k (ls ++ [[]])]) := by
  have mk := make_ok hk hok μ
  rw [orE_snoc, List.map_append] at mk
  unfold HeardAt at h
  unfold m_Heard___invert__
  simp [fn_eq, b_Heard___invert__, fldD, h, heardC]
  simp [logD] at mk ⊢
  simp [mk, heardC, logD]
end Lk44
end S_P44_6
section S_P44_7
set_option Elab.async false
set_option linter.all false
set_option maxRecDepth 100000
set_option maxHeartbeats 400000
namespace Lk44
open PySem PySem.Spec PyProof.Rows L2 FL
theorem iOf_ok {rd : List D → Option (List D)} {ds xs : List D} {ρ : Rho} {μ : Sto} {m : Rho → Sto → Res (List D)} (l2 : m ρ μ = .ok ds μ) (e1 : rd ds = some xs) : iOf rd m ρ μ = .ok xs μ := by
  unfold iOf
  rw [l2]
  show (match rd ds with
    | some xs => Res.ok xs μ
    | none => .stuck) = _
  rw [e1]
theorem same_seq {r : Nat} {x y : D} {μ : Sto} {n : Nat} {b : Bool} (h1 : isiD ownL μ x "bool" = some false) (h2 : isiD ownL μ y "bool" = some false) (h3 : isiD ownL μ x "list" = some b) (h4 : isiD ownL μ y "list" = some b) (h5 : isiD ownL μ x "tuple" = some (!b)) (h6 : isiD ownL μ y "tuple" = some (!b))
    (l1 : dLen [x] μ = .ok (.int n) μ) (l2 : dLen [y] μ = .ok (.int n) μ) (hn : n ≤ 1000000) (hk : ∀ k : Nat, k < n → ∃ u v, ixD μ x k = some u ∧ ixD μ y k = some v ∧ m__law_same r [u, v] μ = .ok (.bl true) μ) : m__law_same (r + 1) [x, y] μ = .ok (.bl true) μ := by
  have hlc : xLc (iOf rdR1 (aCons (xCall dLen (aCons (xVar 1) aNil)) aNil)) (.nm 2) (tmNot (tB1 (xFn (m__law_same r) (aCons (xOp dIx (xVar 0) (xVar 2)) (aCons (xOp dIx (xVar 1) (xVar 2)) aNil))))) (e__law_same_1 (m__law_same r)) [2] [some x, some y, none] μ = .ok (.lst []) μ := by
    have e := xLc_fil (im := iOf rdR1 (aCons (xCall dLen (aCons (xVar 1) aNil)) aNil)) (t := .nm 2) (tt := tmNot (tB1 (xFn (m__law_same r) (aCons (xOp dIx (xVar 0) (xVar 2)) (aCons (xOp dIx (xVar 1) (xVar 2)) aNil))))) (m := e__law_same_1 (m__law_same r)) (vs := [2]) (ρ := [some x, some y, none]) (μ := μ) (xs := rngL 0 n) (p := fun _ => false) (f := id) ?_ ?_ ?_
    · rw [e]; simp
    · have e1 : rdR1 [.int (n : Int)] = some (rngL 0 n) := by
        have z := rdR1_nat (k := (n : Int)) (by omega) (by omega)
        rw [Int.toNat_natCast] at z
        exact z
      exact iOf_ok (by simp [l2]) e1
    · rw [rngL_len]; exact Nat.le_trans hn lim20
    · intro z hz
      obtain ⟨i, hi⟩ := List.mem_iff_getElem?.mp hz
      obtain ⟨rfl, hin⟩ := rngL_get hi
      obtain ⟨u, v, e1, e2, e3⟩ := hk i hin
      refine ⟨_, rfl, ?_, fun z => by cases z⟩
      simp [wipeR, e1, e2, e3]
  have e0 : dEq (.lst []) (.lst []) μ = .ok (.bl true) μ := dEq_lst rfl rfl
  show appN 2 [] (mDef 3 (b__law_same (m__law_same r))) [x, y] μ = _
  cases b <;> simp [fn_eq, b__law_same, h1, h2, h3, h4, h5, h6, l1, l2, hlc, e0]
theorem same_int (r : Nat) (i : Int) (μ : Sto) : m__law_same (r + 1) [.int i, .int i] μ = .ok (.bl true) μ := by
  show appN 2 [] (mDef 3 (b__law_same (m__law_same r))) [.int i, .int i] μ = _
  simp [fn_eq, b__law_same]
theorem same_str (r : Nat) (i : Str) (μ : Sto) : m__law_same (r + 1) [.str i, .str i] μ = .ok (.bl true) μ := by
  show appN 2 [] (mDef 3 (b__law_same (m__law_same r))) [.str i, .str i] μ = _
  simp [fn_eq, b__law_same]
theorem same_bl (r : Nat) (i : Bool) (μ : Sto) : m__law_same (r + 1) [.bl i, .bl i] μ = .ok (.bl true) μ := by
  show appN 2 [] (mDef 3 (b__law_same (m__law_same r))) [.bl i, .bl i] μ = _
  simp [fn_eq, b__law_same]
theorem same_tup {r : Nat} {xs : List D} {μ : Sto} (hl : xs.length ≤ 1000000) (h : ∀ x ∈ xs, m__law_same r [x, x] μ = .ok (.bl true) μ) : m__law_same (r + 1) [.tup xs, .tup xs] μ = .ok (.bl true) μ :=
  same_seq (b := false) (n := xs.length) rfl rfl rfl rfl rfl rfl rfl rfl hl fun k hk => ⟨xs[k], xs[k], by rw [d_ixT, atI_ge hk], by rw [d_ixT, atI_ge hk], h _ (List.getElem_mem hk)⟩
theorem same_ent (r : Nat) (e : Int × Int × Bool) (μ : Sto) : m__law_same (r + 2) [entD e, entD e] μ = .ok (.bl true) μ := same_tup (by show 3 ≤ 1000000; decide) fun x hx => by
  simp only [List.mem_cons, List.not_mem_nil, or_false] at hx
  rcases hx with rfl | rfl | rfl
  · exact same_int _ _ _
  · exact same_int _ _ _
  · exact same_bl _ _ _
theorem same_log (r : Nat) (l : Ents) (μ : Sto) (hl : l.length ≤ 1000) : m__law_same (r + 3) [logD l, logD l] μ = .ok (.bl true) μ := same_tup (by rw [List.length_map]; omega) fun x hx => by
  obtain ⟨e, _, rfl⟩ := List.mem_map.mp hx
  exact same_ent _ _ _
/-- the told list against the list of logs -/
theorem same_logs (r : Nat) {ls : List Ents} {μ : Sto} {j : Nat} (hj : μ[j]? = some (.lst (ls.map logD))) (hok : ls.length ≤ 20 ∧ ∀ l ∈ ls, l.length ≤ 1000) : m__law_same (r + 4) [.ptr j, .lst (ls.map logD)] μ = .ok (.bl true) μ := by
  have hl : ls.length ≤ 1000000 := by omega
  have ty : ∀ T : String, isiD ownL μ (.ptr j) T = some (isiB "list" T) := fun T => by unfold isiD tyN; simp [hj]
  refine same_seq (b := true) (n := ls.length) (ty _) rfl (ty _) rfl (ty _) rfl ?_ ?_ hl fun k hk => ⟨logD ls[k], logD ls[k], ?_, ?_, same_log _ _ _ (hok.2 _ (List.getElem_mem hk))⟩
  · simp [dLen, lenD, rdS, rdT, rdL, rdM, hj]
  · simp [dLen, lenD, rdS, rdT, rdL, rdM]
  · simp only [ixD, rdS, rdT, rdL, rdM, hj]
    rw [atI_ge (by rw [List.length_map]; exact hk), List.getElem_map]
  · rw [d_ixL, atI_ge (by rw [List.length_map]; exact hk), List.getElem_map]
theorem many_ok (ls : List Ents) (μ : Sto) (hl : ls.length ≤ 1000) : m__law_many [.lst (ls.map logD)] μ = .ok (.int (allE ls).length) μ := by
  have l0 := lim20
  have hx : xLc (iVal (xVar 0)) (.nm 1) ttYes e__law_many_1 [1] [some (.lst (ls.map logD)), none] μ = .ok (.lst (ls.map fun l => .int l.length)) μ := by
    have e := xLc_map (im := iVal (xVar 0)) (t := .nm 1) (m := e__law_many_1) (vs := [1]) (ρ := [some (.lst (ls.map logD)), none]) (μ := μ) (xs := ls.map logD) (f := fun x => match x with
      | .tup es => .int es.length
      | _ => .non) (by simp) (by rw [List.length_map]; omega) fun x hx => by
        obtain ⟨l, _, rfl⟩ := List.mem_map.mp hx
        refine ⟨_, rfl, ?_⟩
        simp [e__law_many_1, wipeR, logD]
    rw [e, List.map_map]
    congr 2
    apply List.map_congr_left
    intro l _
    simp [logD]
  have hs : ((allE ls).length : Int) = (ls.map fun l => (l.length : Int)).sum := by
    clear hx
    induction ls with
    | nil => rfl
    | cons l ls ih =>
      have := ih (by rw [List.length_cons] at hl; omega)
      simp only [allE, List.map_cons, List.flatten_cons, List.length_append, List.length_map, List.sum_cons] at this ⊢
      push_cast
      rw [this]
  have hi : rdInts μ (.lst (ls.map fun l => .int l.length)) = some (ls.map fun l => (l.length : Int)) := by
    have := intsD_map (ls.map fun l => (l.length : Int))
    rw [List.map_map] at this
    exact this
  unfold m__law_many
  simp [fn_eq, b__law_many]
  rw [hx]
  simp [dSum, hi, hs]
end Lk44
end S_P44_7
section S_P44_8
set_option Elab.async false
set_option linter.all false
set_option maxRecDepth 100000
set_option maxHeartbeats 400000
namespace Lk44
open PySem PySem.Spec PyProof.Rows L2 FL
@[simp] theorem atI_four {α : Type} {xs : List α} : atI xs 4 = xs[4]? := atI_nat 4
@[simp] theorem atI_five {α : Type} {xs : List α} : atI xs 5 = xs[5]? := atI_nat 5
theorem six_ok {k : Str} (hk : k ∈ kindL) {ls : List Ents} (h : LogsOk ls) (hl : ls.length ≤ 6) (μ : Sto) : m__law_six_logs [.str k, .lst (ls.map logD)] μ = .ok (.ptr μ.length) (μ ++ [heardC k (orE ls)]) := by
  have mk := make_ok hk h μ
  have e0 : dEq (.lst (ls.map logD)) (.lst []) μ = .ok (.bl (ls.map logD).isEmpty) μ := by rw [dEq_lst (plain_logs (n := 61) ls) rfl, deqAll_nil]
  unfold m__law_six_logs
  match ls, hl with
  | [], _ => simp [fn_eq, b__law_six_logs] at e0 mk ⊢; simp [e0, mk]
  | [a], _ => simp [fn_eq, b__law_six_logs] at e0 mk ⊢; simp [e0, mk]
  | [a, b], _ => simp [fn_eq, b__law_six_logs] at e0 mk ⊢; simp [e0, mk]
  | [a, b, c], _ => simp [fn_eq, b__law_six_logs] at e0 mk ⊢; simp [e0, mk]
  | [a, b, c, d], _ => simp [fn_eq, b__law_six_logs] at e0 mk ⊢; simp [e0, mk]
  | [a, b, c, d, e], _ => simp [fn_eq, b__law_six_logs] at e0 mk ⊢; simp [e0, mk]
  | [a, b, c, d, e, f], _ => simp [fn_eq, b__law_six_logs] at e0 mk ⊢; simp [e0, mk]
  | _ :: _ :: _ :: _ :: _ :: _ :: _ :: _, hl => simp only [List.length_cons] at hl; omega
theorem HeardAt.app {μ : Sto} {j : Nat} {k : Str} {ls : List Ents} (h : HeardAt μ j k ls) (cs : List Cell) : HeardAt (μ ++ cs) j k ls := by
  unfold HeardAt at h ⊢
  rw [List.getElem?_append_left (List.getElem?_eq_some_iff.mp h).1]; exact h
theorem HeardAt.ins {μ : Sto} {j : Nat} {k : Str} {ls : List Ents} (h : HeardAt μ j k ls) : isIns "Heard" μ (.ptr j) = true := by
  unfold HeardAt at h
  simp [isIns, insD, h, heardC]
@[simp] theorem e_xProp {C : Str} {m : FMir} {ma : Rho → Sto → Res D} {ρ : Rho} {μ : Sto} : xProp C m ma ρ μ = (ma ρ μ).bind fun x μ1 => if isIns C μ1 x = true then noX (m [x] μ1) else .stuck := rfl
theorem lenChk_ok (n : Nat) (μ : Sto) (h : n ≤ 1000000) : lenChk (.int n) μ = .ok (.int n) μ := by
  unfold lenChk
  simp only []
  rw [if_pos ⟨by omega, by omega⟩]
theorem ownLen_ok {C : Str} {m : FMir} {x : D} {μ : Sto} {n : Nat} (hi : isIns C μ x = true) (hm : m [x] μ = .ok (.int n) μ) (h : n ≤ 1000000) : ownLen C m [x] μ = .ok (.int n) μ := by
  unfold ownLen
  simp only []
  rw [if_pos hi, hm, Res.bind_ok, lenChk_ok n μ h]
theorem append_wp2 {mo me : Rho → Sto → Res D} {ρ : Rho} {μ μ1 : Sto} {L : Nat} {xs : List D} {S : WS} (hx : mo ρ μ = .ok (.ptr L) μ1) (hL : μ1[L]? = some (.lst xs)) (h : (me ρ μ1).wp (fun d μ' => ∃ ys, μ'[L]? = some (.lst ys) ∧ ys.length < lim ∧ S.nx ρ (μ'.set L (.lst (ys ++ [d])))) (fun x μ => S.ex x ρ μ)) : (sAppend mo me ρ μ).wp S := by
  unfold sAppend
  rw [hx]
  simp only [sB_ok]
  have e : lstP μ1 (.ptr L) = some L := by unfold lstP; simp [hL]
  rw [e]
  show (sB (me ρ μ1) ρ _).wp S
  rw [sw_sB]
  refine Res.wp_mono h fun d μ' ⟨ys, h1, h2, h3⟩ => ?_
  rw [lstAt_of h1]
  show (if ys.length < lim then SRes.nx ρ (μ'.set L (.lst (ys ++ [d]))) else .stuck).wp S
  rw [if_pos h2]; exact h3
theorem shown_s1 {μ : Sto} {k : Str} {ls : List Ents} {j : Nat} {n : Int} (hj : μ[j]? = some (.lst (ls.map logD))) (hok : ls.length ≤ 20 ∧ ∀ l ∈ ls, l.length ≤ 1000) : m__law_same 8 [.lst [.str k, .ptr j, .int n], .lst [.str k, .lst (ls.map logD), .int n]] μ = .ok (.bl true) μ := by
  refine same_seq (r := 7) (b := true) (n := 3) rfl rfl rfl rfl rfl rfl rfl rfl (by decide) fun i hi => ?_
  match i, hi with
  | 0, _ => exact ⟨_, _, rfl, rfl, same_str _ _ _⟩
  | 1, _ => exact ⟨_, _, rfl, rfl, same_logs 3 hj hok⟩
  | 2, _ => exact ⟨_, _, rfl, rfl, same_int _ _ _⟩
theorem shown_wp {μ : Sto} {j : Nat} {k : Str} {ls : List Ents} (h : HeardAt μ j k ls) (hl : ls.length ≤ 20) (hl2 : ∀ l ∈ ls, l.length ≤ 1000) : ∃ cs : List Cell, m__law_shown [.ptr j, .str k, .lst (ls.map logD)] μ = .ok (.bl true) (μ ++ cs) := by
  have hall : (allE ls).length ≤ 100000 := by
    have : ∀ ls : List Ents, (∀ l ∈ ls, l.length ≤ 1000) → (allE ls).length ≤ ls.length * 1000 := by
      intro ls
      induction ls with
      | nil => intro _; simp [allE]
      | cons l ls ih =>
        intro hh
        have h1 := hh l (by simp)
        have h2 := ih fun x hx => hh x (by simp [hx])
        simp only [allE, List.map_cons, List.flatten_cons, List.length_append, List.length_map, List.length_cons] at h2 ⊢
        omega
    have := this ls hl2
    omega
  have h1 := h.app [.lst (ls.map logD)]
  have h2 := h.app [.lst (ls.map logD), .lst (ls.map logD)]
  have h3 := h.app [.lst (ls.map logD), .lst (ls.map logD ++ [.tup [.tup [.int 0, .int 1, .bl true]]])]
  have h4 := h.app [.lst (ls.map logD), .lst (ls.map logD ++ [.tup [.tup [.int 0, .int 1, .bl true]]]), .lst (ls.map logD)]
  have g0 := logs_ok h (by omega)
  have g1 := logs_ok h1 (by omega)
  have g3 := logs_ok h3 (by omega)
  have ln := len_ok h1 hall
  have mn := many_ok ls (μ ++ [.lst (ls.map logD)]) (by omega)
  have s1 : m__law_same 8 [.lst [.str k, .ptr μ.length, .int (allE ls).length], .lst [.str k, .lst (ls.map logD), .int (allE ls).length]] (μ ++ [.lst (ls.map logD)]) = .ok (.bl true) (μ ++ [.lst (ls.map logD)]) := shown_s1 (by simp) ⟨hl, hl2⟩
  have s2 : m__law_same 8 [.ptr (μ.length + 2), .lst (ls.map logD)] (μ ++ [.lst (ls.map logD), .lst (ls.map logD ++ [.tup [.tup [.int 0, .int 1, .bl true]]]), .lst (ls.map logD)]) = .ok (.bl true) (μ ++ [.lst (ls.map logD), .lst (ls.map logD ++ [.tup [.tup [.int 0, .int 1, .bl true]]]), .lst (ls.map logD)]) := same_logs 4 (by simp) ⟨hl, hl2⟩
  refine ⟨[.lst (ls.map logD), .lst (ls.map logD ++ [.tup [.tup [.int 0, .int 1, .bl true]]]), .lst (ls.map logD)], ?_⟩
  have w : (m__law_shown [.ptr j, .str k, .lst (ls.map logD)] μ).wp (fun d μ' => d = .bl true ∧ μ' = μ ++ [.lst (ls.map logD), .lst (ls.map logD ++ [.tup [.tup [.int 0, .int 1, .bl true]]]), .lst (ls.map logD)]) (fun _ _ => False) := by
    unfold m__law_shown
    refine fn_wp rfl ?_
    unfold b__law_shown
    refine cut (fun ρ μ' => ρ = [some (.ptr j), some (.str k), some (.lst (ls.map logD))] ∧ μ' = μ ++ [.lst (ls.map logD)]) ?_ ?_
    · have ol := ownLen_ok h1.ins ln (by omega)
      simp [st0, h.ins, kind_ok h, g0, ol, mn]
      exact ⟨by decide, by rw [s1]; simp⟩
    rintro ρ μ' ⟨rfl, rfl⟩
    refine cut (fun ρ μ' => ρ = [some (.ptr j), some (.str k), some (.lst (ls.map logD))] ∧ μ' = μ ++ [.lst (ls.map logD), .lst (ls.map logD ++ [.tup [.tup [.int 0, .int 1, .bl true]]])]) ?_ ?_
    · have hlt : ls.length < lim := by have := lim20; omega
      refine append_wp2 (L := μ.length + 1) (μ1 := μ ++ [.lst (ls.map logD), .lst (ls.map logD)]) (xs := ls.map logD) ?_ (by simp) ?_
      · simp [h1.ins, g1]
      · simp [hlt]
        exact ⟨by decide, by decide⟩
    rintro ρ μ' ⟨rfl, rfl⟩
    have iso : isoD ownL (μ ++ [.lst (ls.map logD), .lst (ls.map logD ++ [.tup [.tup [.int 0, .int 1, .bl true]]]), .lst (ls.map logD)]) (.ptr j) "Heard" = some true := by
      unfold HeardAt at h4
      simp [isoD, tyN, h4, heardC, ownL]
    simp [h3.ins, g3]
    rw [s2]
    simp [xIso, iso]
  obtain ⟨d, μ', e, rfl, rfl⟩ := Res.wp_iff.mp w
  exact e
end Lk44
end S_P44_8
section S_P44_9
set_option Elab.async false
set_option linter.all false
set_option maxRecDepth 100000
set_option maxHeartbeats 400000
namespace Lk44
open PySem PySem.Spec PyProof.Rows L2 FL
theorem le_last {l : Ents} (h : (l.map req).Pairwise (fun a b => a.1 ≤ b.1)) : ∀ e ∈ l, e.1 ≤ lastT l := by
  rcases List.eq_nil_or_concat l with rfl | ⟨l', z, rfl⟩
  · intro e he; cases he
  · rw [List.concat_eq_append] at h ⊢
    rw [List.map_append, List.pairwise_append] at h
    intro e he
    have e1 : lastT (l' ++ [z]) = z.1 := by simp [lastT]
    rw [e1]
    rcases List.mem_append.mp he with he | he
    · exact h.2.2 (req e) (List.mem_map_of_mem he) (req z) (by simp)
    · rw [List.mem_singleton] at he
      subst he; exact Int.le_refl _
theorem LogOk.snoc {l : Ents} {t c : Int} {b : Bool} (h : LogOk l) (ht : lastT l ≤ t) (h0 : 0 ≤ t) (ht2 : t ≤ 10 ^ 15) (hc : 1 ≤ c) (hc2 : c ≤ 10 ^ 12) : LogOk (l ++ [(t, c, b)]) := by
  have r : RowOk t (l.map req) := ⟨h.1, fun e he => by
    obtain ⟨z, hz, rfl⟩ := List.mem_map.mp he
    obtain ⟨q1, q2, q3, q4⟩ := h.2 (req z) he
    exact ⟨q1, Int.le_trans (le_last h.1 z hz) ht, q3, q4⟩⟩
  unfold LogOk
  rw [List.map_append]
  have r2 := r.app h0 (Int.le_refl t) hc hc2
  exact ⟨r2.1, fun e he => let ⟨q1, q2, q3, q4⟩ := r2.2 e he; ⟨q1, Int.le_trans q2 ht2, q3, q4⟩⟩
theorem LogOk.take {l : Ents} (h : LogOk l) (n : Nat) : LogOk (l.take n) := by
  unfold LogOk
  rw [List.map_take]
  exact ⟨h.1.sublist (List.take_sublist _ _), fun e he => h.2 e (List.mem_of_mem_take he)⟩
theorem LogOk.nil : LogOk [] := ⟨List.Pairwise.nil, fun e he => by cases he⟩
/-- an object and what it may hold -/
structure Obj (μ : Sto) (j : Nat) (k : Str) (ls : List Ents) (B : Nat) : Prop where
  at_ : HeardAt μ j k ls
  ne : ls ≠ []
  len : ls.length ≤ 6
  ok : ∀ l ∈ ls, LogOk l
  all : (allE ls).length ≤ B
theorem allE_app (a b : List Ents) : allE (a ++ b) = allE a ++ allE b := by simp [allE]
theorem allE_one (l : Ents) : (allE [l]).length = l.length := by simp [allE]
theorem mem_allE {ls : List Ents} {l : Ents} (h : l ∈ ls) : l.length ≤ (allE ls).length := by
  induction ls with
  | nil => cases h
  | cons x r ih =>
    have e : allE (x :: r) = x.map entD ++ allE r := by simp [allE]
    rw [e, List.length_append, List.length_map]
    rcases List.mem_cons.mp h with rfl | h
    · omega
    · have := ih h; omega
theorem logsOk_of {ls : List Ents} (h1 : ls.length ≤ 20) (h2 : ∀ l ∈ ls, LogOk l) (h3 : (allE ls).length ≤ 1000) : LogsOk ls := ⟨h1, fun l hl => ⟨Nat.le_trans (mem_allE hl) h3, h2 l hl⟩⟩
section
variable {C : Str} {Ts : List String} {m : FMir} {base : D → D → Sto → Res D} {μ : Sto} {y : D}
@[simp] theorem ob_int (a : Int) : ownBin C Ts m base (.int a) y μ = base (.int a) y μ := by unfold ownBin; rw [if_neg (by simp [isIns, insD])]
@[simp] theorem ob_lst (a : List D) : ownBin C Ts m base (.lst a) y μ = base (.lst a) y μ := by unfold ownBin; rw [if_neg (by simp [isIns, insD])]
@[simp] theorem ob_tup (a : List D) : ownBin C Ts m base (.tup a) y μ = base (.tup a) y μ := by unfold ownBin; rw [if_neg (by simp [isIns, insD])]
theorem ob_pt {j : Nat} (h : isIns C μ (.ptr j) = true) (a : List D) : ownBin C ["tuple"] m base (.ptr j) (.tup a) μ = m [.ptr j, .tup a] μ := by
  unfold ownBin; rw [if_pos h]; simp [tyN]
theorem ob_pi {j : Nat} (h : isIns C μ (.ptr j) = true) (a : Int) : ownBin C ["int"] m base (.ptr j) (.int a) μ = m [.ptr j, .int a] μ := by
  unfold ownBin; rw [if_pos h]; simp [tyN]
end
theorem ob_pp {μ : Sto} {j j2 : Nat} {k k2 : Str} {ls ls2 : List Ents} {Ts : List String} {m : FMir} {base : D → D → Sto → Res D} (h : HeardAt μ j k ls) (h2 : HeardAt μ j2 k2 ls2) : ownBin "Heard" Ts m base (.ptr j) (.ptr j2) μ = m [.ptr j, .ptr j2] μ := by
  unfold ownBin; rw [if_pos h.ins]
  unfold HeardAt at h2
  simp [tyN, h2, heardC]
theorem far_ok {l : Ents} {ρ : Rho} {μ : Sto} (h : ρ[7]? = some (some (logD l))) : (xIf (tB1 (xOp dNe (xVar 7) (xTup aNil))) (xOp dIx (xOp dIx (xVar 7) (xNeg (xC (.int 1)))) (xC (.int 0))) (xC (.int 0))) ρ μ = .ok (.int (lastT l)) μ := by
  have e : dNe (logD l) (.tup []) μ = .ok (.bl (!(l.map entD).isEmpty)) μ := by
    unfold logD
    rw [dNe_tup (plain_ents (n := 62) _) rfl, deqAll_nil]
  rcases List.eq_nil_or_concat l with rfl | ⟨l', z, rfl⟩
  · simp [h, e, lastT]
  · rw [List.concat_eq_append] at *
    simp [h, e, lastT]
    simp [logD, atI_neg1, entD]
theorem cut_last {xs : List D} {x : D} : FL.cutD (xs ++ [x]) none (some (-1)) = xs := by
  unfold FL.cutD HT.sIx
  simp
  have e : (-1 + ((xs.length : Int) + 1)).toNat = xs.length := by omega
  rw [e]; simp
theorem HeardAt.run {μ μ' : Sto} {i n j : Nat} {k : Str} {ls : List Ents} (h : HeardAt μ j k ls) (hc : Case μ i n) {m : Nat} (R : Run i m μ μ') : HeardAt μ' j k ls := by
  unfold HeardAt at h ⊢
  have hne : j ≠ i := fun e => by
    obtain ⟨a, b, c, h1, _⟩ := hc
    subst e
    rw [h1] at h
    simp [heardC] at h
  rw [R.keep j hne (List.getElem?_eq_some_iff.mp h).1]; exact h
theorem Obj.run {μ μ' : Sto} {i n j : Nat} {k : Str} {ls : List Ents} {B : Nat} (o : Obj μ j k ls B) (hc : Case μ i n) {m : Nat} (R : Run i m μ μ') : Obj μ' j k ls B := ⟨o.at_.run hc R, o.ne, o.len, o.ok, o.all⟩
theorem Obj.le {μ : Sto} {j : Nat} {k : Str} {ls : List Ents} {B B' : Nat} (o : Obj μ j k ls B) (h : B ≤ B') : Obj μ j k ls B' := ⟨o.at_, o.ne, o.len, o.ok, Nat.le_trans o.all h⟩
end Lk44
end S_P44_9
section S_P44_10
set_option Elab.async false
set_option linter.all false
set_option maxRecDepth 100000
set_option maxHeartbeats 400000
namespace Lk44
open PySem PySem.Spec PyProof.Rows L2 FL
theorem step_wp {μ : Sto} {i n j j2 : Nat} {k : Str} {ls ls2 : List Ents} {B B2 : Nat} {most : Int} {Q : D → Sto → Prop} {X : Ex → Sto → Prop} (hc : Case μ i (n + 5)) (hk : k ∈ kindL) (o : Obj μ j k ls B) (o2 : Obj μ j2 k ls2 B2) (hB : 30 ≤ B) (hB2 : B ≤ 500) (hm0 : 0 ≤ most) (hm1 : most ≤ 10 ^ 12)
    (h : ∀ (j' : Nat) (ls' : List Ents) (μ' : Sto), Obj μ' j' k ls' (B + 1) → Run i 5 μ μ' → Q (.tup [.ptr j', .lst (ls'.map logD)]) μ') : (m__law_step [.ptr i, .ptr j, .lst (ls.map logD), .ptr j2, .lst (ls2.map logD), .int most] μ).wp Q X := by
  have l0 := lim20
  have g10 : lg 10 < 1000 := by decide
  obtain ⟨pre, l, rfl⟩ : ∃ pre l, ls = pre ++ [l] := by
    rcases List.eq_nil_or_concat ls with h | ⟨a, b, h⟩
    · exact absurd h o.ne
    · exact ⟨a, b, by rw [h, List.concat_eq_append]⟩
  have hpre : pre.length ≤ 5 := by have := o.len; rw [List.length_append] at this; simp at this; omega
  have hll : LogOk l := o.ok l (by simp)
  have hsum : (allE pre).length + l.length ≤ B := by have := o.all; rw [allE_app, List.length_append, allE_one] at this; exact this
  unfold m__law_step
  refine fn_wp rfl ?_
  unfold b__law_step
  refine cut (fun ρ μ' => ∃ r : Int, 0 ≤ r ∧ r < 4 ∧ ρ = [some (.ptr i), some (.ptr j), some (.lst ((pre ++ [l]).map logD)), some (.ptr j2), some (.lst (ls2.map logD)), some (.int most), some (.int r), some (logD l), none, none, none, none, none] ∧ Run i 1 μ μ') ?_ ?_
  · simp [st0]
    refine take_wp (n := n + 4) hc (by decide) (by decide) fun r μ1 a1 b1 R1 => ?_
    simp [atI_neg1]
    exact ⟨r, a1, b1, rfl, R1⟩
  rintro ρ μ1 ⟨r, hr0, hr1, rfl, R1⟩
  have c1 : Case μ1 i (n + 4) := R1.c hc (by omega)
  have o1 := o.run hc R1
  have o21 := o2.run hc R1
  have hi1 : i < μ1.length := c1.lt
  have hr4 : r = 0 ∨ r = 1 ∨ r = 2 ∨ r = 3 := by omega
  -- what a new object is
  have fin1 : ∀ (μ2 : Sto) (ls' : List Ents) (m : Nat), m ≤ 4 → Run i m μ1 μ2 → ls' ≠ [] → ls'.length ≤ 6 → (∀ l ∈ ls', LogOk l) → (allE ls').length ≤ B + 1 → Q (.tup [.ptr μ2.length, .lst (ls'.map logD)]) (μ2 ++ [heardC k ls']) := fun μ2 ls' m hm R2 h1 h2 h3 h4 =>
    h _ _ _ ⟨by unfold HeardAt; simp, h1, h2, h3, h4⟩ (((R1.trans R2).trans (Run.app (R2.c (j := 0) c1 (by omega)).lt _)).le (by omega))
  have mp : ∀ (a b : List Ents), (a ++ b).map logD = a.map logD ++ b.map logD := fun a b => List.map_append
  -- the last road
  have other : ∀ (ρ : Rho) (r : Int), ρ = [some (.ptr i), some (.ptr j), some (.lst ((pre ++ [l]).map logD)), some (.ptr j2), some (.lst (ls2.map logD)), some (.int most), some (.int r), some (logD l), none, none, none, none, none] →
      ((xIf (tB1 (xOp dLt (xCall dLen (aCons (xVar 2) aNil)) (xC (.int 6)))) (xTup (aCons (xUn "Heard" m_Heard___invert__ (xVar 1)) (aCons (xOp (ownBin "Heard" ["tuple"] m_Heard___add__ dAdd) (xVar 2) (xLst (aCons (xTup aNil) aNil))) aNil))) (xTup (aCons (xOp (ownBin "Heard" ["int"] m_Heard___sub__ dSub) (xVar 1) (xC (.int 0))) (aCons (xVar 2) aNil)))) ρ μ1).wp Q X := by
    rintro ρ r rfl
    by_cases h6 : pre.length + 1 < 6
    · have ok : LogsOk ((pre ++ [l]) ++ [[]]) := logsOk_of (by rw [List.length_append, List.length_append]; simp; omega) (fun x hx => by
        rcases List.mem_append.mp hx with hx | hx
        · exact o1.ok x hx
        · rw [List.mem_singleton] at hx; subst hx; exact LogOk.nil) (by rw [allE_app, allE_app]; simp [allE] at hsum ⊢; omega)
      have iv := inv_ok hk o1.at_ ok
      have q := fin1 μ1 ((pre ++ [l]) ++ [[]]) 0 (by omega) (Run.refl _ _) (by simp) (by simp; omega) (fun x hx => (ok.2 x hx).2) (by rw [allE_app, allE_app]; simp [allE] at hsum ⊢; omega)
      have h6i : (pre.length : Int) + 1 < 6 := by omega
      have hl : pre.length + 1 + 1 ≤ lim := by omega
      simp [h6i, xUn, o1.at_.ins, iv, hl]
      simp [logD] at q
      simp [logD]
      exact ⟨by decide, by decide, q⟩
    · have ok : LogsOk (pre ++ [l.take (l.length - 0)]) := logsOk_of (by simp; omega) (fun x hx => by
        rcases List.mem_append.mp hx with hx | hx
        · exact o1.ok x (by simp [hx])
        · rw [List.mem_singleton] at hx; subst hx; exact hll.take _) (by rw [allE_app]; simp [allE] at hsum ⊢; omega)
      have sb := sub_ok (n := 0) hk o1.at_ (Nat.zero_le _) ok
      have q := fin1 μ1 (pre ++ [l]) 0 (by omega) (Run.refl _ _) (by simp) (by simp; omega) (fun x hx => o1.ok x hx) (by rw [allE_app, List.length_append, allE_one]; omega)
      have h6i : ¬ ((pre.length : Int) + 1 < 6) := by omega
      simp at sb
      simp [h6i, ob_pi o1.at_.ins, sb]
      simp at q
      exact ⟨by decide, q⟩
  rcases hr4 with rfl | rfl | rfl | rfl
  · have hi0 : (0 : Int) ≤ lastT l ∧ lastT l ≤ 10 ^ 15 := by
      rcases List.eq_nil_or_concat l with rfl | ⟨l', z, rfl⟩
      · exact ⟨by decide, by decide⟩
      · rw [List.concat_eq_append] at hll ⊢
        have := hll.2 (req z) (List.mem_map_of_mem (by simp))
        have e1 : lastT (l' ++ [z]) = z.1 := by simp [lastT]
        rw [e1]; exact ⟨this.1, this.2.1⟩
    have ef := far_ok (l := l) (ρ := [some (.ptr i), some (.ptr j), some (.lst ((pre ++ [l]).map logD)), some (.ptr j2), some (.lst (ls2.map logD)), some (.int most), some (.int 0), some (logD l), none, none, none, none, none]) (μ := μ1) rfl
    simp only [mp, List.map_cons, List.map_nil] at ef ⊢
    simp [-e_if, ef, g10]
    refine take_wp (n := n + 3) c1 (by decide) (by decide) fun r2 μ2 a2 b2 R2 => ?_
    have c2 : Case μ2 i (n + 3) := R2.c c1 (by omega)
    simp
    refine ⟨by decide, take_wp (n := n + 2) c2 (by decide) (by decide) fun r3 μ3 a3 b3 R3 => ?_⟩
    have c3 : Case μ3 i (n + 2) := R3.c c2 (by omega)
    obtain ⟨x, ex, hx⟩ : ∃ x : Int, dIx (.lst [.int 9, .int 999999999]) (.int r3) μ3 = .ok (.int x) μ3 ∧ (x = 9 ∨ x = 999999999) := by
      have : r3 = 0 ∨ r3 = 1 := by omega
      rcases this with rfl | rfl
      · exact ⟨9, rfl, .inl rfl⟩
      · exact ⟨999999999, rfl, .inr rfl⟩
    rw [ex]
    simp only [wp_ok]
    refine take_wp (n := n + 1) c3 (by omega) (by omega) fun r4 μ4 a4 b4 R4 => ?_
    have c4 : Case μ4 i (n + 1) := R4.c c3 (by omega)
    simp
    refine take_wp (n := n) c4 (by decide) (by decide) fun r5 μ5 a5 b5 R5 => ?_
    have R15 := ((R2.trans R3).trans R4).trans R5
    have o5 := o1.run c1 R15
    generalize ht : (if (if lastT l + r2 < most then lastT l + r2 else most) > lastT l then (if lastT l + r2 < most then lastT l + r2 else most) else lastT l) = t
    have htl : lastT l ≤ t ∧ t ≤ 10 ^ 15 := by
      rw [← ht]
      split <;> split <;> omega
    have ok : LogsOk (pre ++ [l ++ [(t, 1 + r4, decide (r5 = 0))]]) := logsOk_of (by simp; omega) (fun x hx => by
      rcases List.mem_append.mp hx with hx | hx
      · exact o1.ok x (by simp [hx])
      · rw [List.mem_singleton] at hx; subst hx; exact hll.snoc htl.1 (by omega) htl.2 (by omega) (by omega)) (by rw [allE_app, List.length_append, allE_one]; simp; omega)
    have ad := add_ok (e := (t, 1 + r4, decide (r5 = 0))) hk o5.at_ (by show 0 ≤ t; omega) (by show 1 ≤ 1 + r4; omega) htl.1 ok
    have q := fin1 μ5 (pre ++ [l ++ [(t, 1 + r4, decide (r5 = 0))]]) 4 (by omega) (R15.le (by omega)) (by simp) (by simp; omega) (fun x hx => (ok.2 x hx).2) (by rw [allE_app, List.length_append, allE_one]; simp; omega)
    have hll2 : l.length + 1 ≤ lim := by omega
    have hpl : pre.length + 1 ≤ lim := by omega
    have cl : FL.cutD (pre.map logD ++ [logD l]) none (some (-1)) = pre.map logD := cut_last
    simp at ht
    simp [ht, ob_pt o5.at_.ins]
    simp [entD] at ad
    rw [ad]
    simp [logD, hll2] at cl ⊢
    rw [cl]
    simp [hpl]
    simp [logD, entD] at q
    exact ⟨by decide, by decide, by decide, q⟩
  · simp
    refine take_wp (n := n + 3) c1 (by simp [logD]) (by simp [logD]; omega) fun r2 μ2 a2 b2 R2 => ?_
    have b3 : r2 < (l.length : Int) + 1 := by simpa using b2
    obtain ⟨m, rfl⟩ : ∃ m : Nat, r2 = (m : Int) := ⟨r2.toNat, by omega⟩
    have hm : m ≤ l.length := by omega
    have o5 := o1.run c1 R2
    have ok : LogsOk (pre ++ [l.take (l.length - m)]) := logsOk_of (by rw [List.length_append]; simp; omega) (fun x hx => by
      rcases List.mem_append.mp hx with hx | hx
      · exact o1.ok x (by simp [hx])
      · rw [List.mem_singleton] at hx; subst hx; exact hll.take _) (by rw [allE_app, List.length_append, allE_one, List.length_take]; omega)
    have sb := sub_ok hk o5.at_ hm ok
    have q := fin1 μ2 (pre ++ [l.take (l.length - m)]) 1 (by omega) R2 (by simp) (by rw [List.length_append]; simp; omega) (fun x hx => (ok.2 x hx).2) (by rw [allE_app, List.length_append, allE_one, List.length_take]; omega)
    have hpl : pre.length + 1 ≤ lim := by omega
    have cl : FL.cutD (pre.map logD ++ [logD l]) none (some (-1)) = pre.map logD := cut_last
    have ecut : FL.cutD (l.map entD) none (some ((l.length : Int) - m)) = (l.take (l.length - m)).map entD := by
      rw [show ((l.length : Int) - m) = ((l.length - m : Nat) : Int) by omega, cutD_to (by rw [List.length_map]; omega), List.map_take]
    rw [ob_pi o5.at_.ins, sb]
    simp only [wp_ok, cl]
    simp [logD, ecut, hpl]
    simp [logD] at q
    exact ⟨by decide, by decide, q⟩
  · have z := other _ 2 rfl
    have hlen := o2.len
    simp at z ⊢
    by_cases h7 : (pre.length : Int) + 1 + ls2.length < 7
    · have mn := many_ok ((pre ++ [l]) ++ ls2) μ1 (by simp; omega)
      simp at mn
      have hlim : pre.length + 1 + ls2.length ≤ lim := by omega
      simp only [h7, if_true, hlim, true_and]
      rw [mn]
      simp
      by_cases h27 : ((allE (pre ++ l :: ls2)).length : Int) < 27
      · have ok : LogsOk ((pre ++ [l]) ++ ls2) := logsOk_of (by simp; omega) (fun x hx => by
          rcases List.mem_append.mp hx with hx | hx
          · exact o1.ok x hx
          · exact o2.ok x hx) (by simp; omega)
        have an := and_ok hk o1.at_ o21.at_ (by simp) ok
        have q := fin1 μ1 ((pre ++ [l]) ++ ls2) 0 (by omega) (Run.refl _ _) (by simp) (by simp; omega) (fun x hx => (ok.2 x hx).2) (by simp; omega)
        simp only [h27, if_true]
        rw [ob_pp o1.at_ o21.at_, an]
        simp at q
        simp
        exact ⟨by decide, q⟩
      · simp only [h27, if_false]
        exact z
    · simp only [h7, if_false]
      exact z
  · have z := other _ 3 rfl
    simp at z ⊢
    exact z
end Lk44
end S_P44_10
section S_P44_11
set_option Elab.async false
set_option linter.all false
set_option maxRecDepth 100000
set_option maxHeartbeats 400000
namespace Lk44
open PySem PySem.Spec PyProof.Rows L2 FL
/-! comprehensions with a bound on what was made -/
theorem lcL_wpN {t : NT} {m : Rho → Sto → Res D} {vs : List Nat} {ρ : Rho} {X : Ex → Sto → Prop} {N : Nat} (I : List D → Sto → Prop) : ∀ {xs : List D} {acc : List D} {μ : Sto} {Q : List D → Sto → Prop}, I acc μ → acc.length + xs.length ≤ N →
    (∀ (x : D) (acc : List D) (μ : Sto), acc.length < N → I acc μ → ∃ ρ1, ntM t x (wipeR ρ vs) = some ρ1 ∧ (m ρ1 μ).wp (fun y μ' => I (acc ++ [y]) μ') (fun _ _ => False)) →
    (∀ ys μ, I (acc ++ ys) μ → Q ys μ) → (lcL t ttYes m vs xs ρ μ).wp Q X
  | [], acc, μ, Q, h0, _, _, he => he [] μ (by rw [List.append_nil]; exact h0)
  | x :: xs, acc, μ, Q, h0, hn, hs, he => by
    rw [List.length_cons] at hn
    obtain ⟨ρ1, h1, h2⟩ := hs x acc μ (by omega) h0
    unfold lcL
    rw [h1]
    show ((noX (Res.ok true μ)).bind _).wp Q X
    simp only [noX_ok, Res.bind_ok, if_true, wp_bind, noX_wp]
    refine Res.wp_mono2 h2 (fun y μ2 hy => ?_) (fun _ _ z => z.elim)
    refine lcL_wpN I hy (by rw [List.length_append]; simp; omega) hs fun ys μ3 hi => ?_
    exact he (y :: ys) μ3 (by rw [List.append_assoc] at hi; exact hi)
theorem lcL_none {t : NT} {tt : Rho → Sto → Res Bool} {m : Rho → Sto → Res D} {vs : List Nat} {ρ : Rho} {X : Ex → Sto → Prop} (I : Sto → Prop) : ∀ {xs : List D} {μ : Sto} {Q : List D → Sto → Prop}, I μ →
    (∀ (x : D) (μ : Sto), x ∈ xs → I μ → ∃ ρ1, ntM t x (wipeR ρ vs) = some ρ1 ∧ (tt ρ1 μ).wp (fun b μ' => b = false ∧ I μ') (fun _ _ => False)) → (∀ μ, I μ → Q [] μ) → (lcL t tt m vs xs ρ μ).wp Q X
  | [], μ, Q, h0, _, he => he μ h0
  | x :: xs, μ, Q, h0, hs, he => by
    obtain ⟨ρ1, h1, h2⟩ := hs x μ List.mem_cons_self h0
    unfold lcL
    rw [h1]
    show ((noX (tt ρ1 μ)).bind _).wp Q X
    simp only [wp_bind, noX_wp]
    refine Res.wp_mono2 h2 (fun b μ2 ⟨hb, hi⟩ => ?_) (fun _ _ z => z.elim)
    subst hb
    simp only [Bool.false_eq_true, if_false]
    exact lcL_none I hi (fun x' μ' hx' => hs x' μ' (List.mem_cons_of_mem _ hx')) he
theorem Obj.app {μ : Sto} {j : Nat} {k : Str} {ls : List Ents} {B : Nat} (o : Obj μ j k ls B) (cs : List Cell) : Obj (μ ++ cs) j k ls B := ⟨o.at_.app cs, o.ne, o.len, o.ok, o.all⟩
theorem Obj.set {μ : Sto} {j h : Nat} {k : Str} {ls : List Ents} {B : Nat} {xs : List D} (o : Obj μ j k ls B) (hh : μ[h]? = some (.lst xs)) (c : Cell) : Obj (μ.set h c) j k ls B := ⟨by
  have h1 := o.at_
  unfold HeardAt at h1 ⊢
  have hne : h ≠ j := fun e => by
    subst e
    rw [hh] at h1
    simp [heardC] at h1
  rw [List.getElem?_set_ne hne]; exact h1, o.ne, o.len, o.ok, o.all⟩
theorem Obj.logs {μ : Sto} {j : Nat} {k : Str} {ls : List Ents} {B : Nat} (o : Obj μ j k ls B) (hB : B ≤ 1000) : LogsOk ls := logsOk_of (by have := o.len; omega) o.ok (Nat.le_trans o.all hB)
theorem Obj.shown {μ : Sto} {j : Nat} {k : Str} {ls : List Ents} {B : Nat} (o : Obj μ j k ls B) (hB : B ≤ 1000) : ∃ cs : List Cell, m__law_shown [.ptr j, .str k, .lst (ls.map logD)] μ = .ok (.bl true) (μ ++ cs) := shown_wp o.at_ (by have := o.len; omega) fun l hl => ((o.logs hB).2 l hl).1
theorem case_app {μ : Sto} {i k : Nat} (h : Case μ i k) (cs : List Cell) : Case (μ ++ cs) i k := by
  obtain ⟨a, b, c, h1, r⟩ := h
  exact ⟨a, b, c, by rw [List.getElem?_append_left (List.getElem?_eq_some_iff.mp h1).1]; exact h1, r⟩
theorem case_set {μ : Sto} {i k h : Nat} (hc : Case μ i k) (hne : h ≠ i) (c : Cell) : Case (μ.set h c) i k := by
  obtain ⟨a, b, c', h1, r⟩ := hc
  exact ⟨a, b, c', by rw [List.getElem?_set_ne hne]; exact h1, r⟩
def objD (p : Nat × List Ents) : D := .tup [.ptr p.1, .lst (p.2.map logD)]
/-- the state of the turns -/
structure Held (μ : Sto) (i h : Nat) (k : Str) (objs : List (Nat × List Ents)) (B K : Nat) : Prop where
  case_ : Case μ i K
  ne : h ≠ i
  cell : μ[h]? = some (.lst (objs.map objD))
  pos : objs ≠ []
  few : objs.length ≤ 20
  obj : ∀ p ∈ objs, Obj μ p.1 k p.2 B
theorem Held.lt {μ : Sto} {i h : Nat} {k : Str} {objs : List (Nat × List Ents)} {B K : Nat} (H : Held μ i h k objs B K) : h < μ.length := (List.getElem?_eq_some_iff.mp H.cell).1
theorem Held.run {μ μ' : Sto} {i h : Nat} {k : Str} {objs : List (Nat × List Ents)} {B K n K' : Nat} (H : Held μ i h k objs B K) (R : Run i n μ μ') (hk : n + K' ≤ K) : Held μ' i h k objs B K' :=
  ⟨R.c H.case_ hk, H.ne, by rw [R.keep h H.ne H.lt]; exact H.cell, H.pos, H.few, fun p hp => (H.obj p hp).run H.case_ R⟩
theorem Held.app {μ : Sto} {i h : Nat} {k : Str} {objs : List (Nat × List Ents)} {B K : Nat} (H : Held μ i h k objs B K) (cs : List Cell) : Held (μ ++ cs) i h k objs B K :=
  ⟨case_app H.case_ cs, H.ne, by rw [List.getElem?_append_left H.lt]; exact H.cell, H.pos, H.few, fun p hp => (H.obj p hp).app cs⟩
theorem Held.push {μ : Sto} {i h : Nat} {k : Str} {objs : List (Nat × List Ents)} {B B' K : Nat} (H : Held μ i h k objs B K) {p : Nat × List Ents} (o : Obj μ p.1 k p.2 B') (hB : B ≤ B') (hl : objs.length < 20) : Held (μ.set h (.lst ((objs ++ [p]).map objD))) i h k (objs ++ [p]) B' K :=
  ⟨case_set H.case_ H.ne _, H.ne, List.getElem?_set_self H.lt, by simp, by rw [List.length_append]; simp; omega, fun q hq => by
    rcases List.mem_append.mp hq with hq | hq
    · exact ((H.obj q hq).le hB).set H.cell _
    · rw [List.mem_singleton] at hq; subst hq; exact o.set H.cell _⟩
theorem Held.ix {μ : Sto} {i h : Nat} {k : Str} {objs : List (Nat × List Ents)} {B K : Nat} (H : Held μ i h k objs B K) {r : Int} (hr : r = -1 ∨ (0 ≤ r ∧ r < objs.length)) : ∃ p ∈ objs, ixD μ (.ptr h) r = some (objD p) := by
  have e : ixD μ (.ptr h) r = atI (objs.map objD) r := by simp [ixD, rdS, rdT, rdL, rdM, H.cell]
  rw [e]
  rcases hr with rfl | ⟨h0, h1⟩
  · rcases List.eq_nil_or_concat objs with hh | ⟨a, b, hh⟩
    · exact absurd hh H.pos
    · rw [hh, List.concat_eq_append]
      exact ⟨b, by simp, by rw [atI_neg1]; simp⟩
  · obtain ⟨m, rfl⟩ : ∃ m : Nat, r = (m : Int) := ⟨r.toNat, by omega⟩
    have hm : m < objs.length := by omega
    exact ⟨objs[m], List.getElem_mem hm, by rw [atI_ge (by rw [List.length_map]; exact hm), List.getElem_map]⟩
theorem Held.len {μ : Sto} {i h : Nat} {k : Str} {objs : List (Nat × List Ents)} {B K : Nat} (H : Held μ i h k objs B K) : dLen [.ptr h] μ = .ok (.int objs.length) μ := by simp [dLen, lenD, rdS, rdT, rdL, rdM, H.cell]
theorem Held.last {μ : Sto} {i h : Nat} {k : Str} {objs : List (Nat × List Ents)} {p : Nat × List Ents} {B K : Nat} (H : Held μ i h k (objs ++ [p]) B K) : ixD μ (.ptr h) (-1) = some (objD p) := by
  have e : ixD μ (.ptr h) (-1) = atI ((objs ++ [p]).map objD) (-1) := by simp [ixD, rdS, rdT, rdL, rdM, H.cell]
  rw [e, atI_neg1]; simp
end Lk44
end S_P44_11
section S_P44_12
set_option Elab.async false
set_option linter.all false
set_option maxRecDepth 100000
set_option maxHeartbeats 400000
namespace Lk44
open PySem PySem.Spec PyProof.Rows L2 FL
/-- the names in the loop of turns -/
def tRho (ns : List Int) (i h jm : Nat) (k : Str) (ls2 : List Ents) (a1 a4 a9 : Option D) (a7 a8 a11 a12 a13 a14 a15 : Option D) : Rho :=
  [some (.scr ns), a1, some (.ptr i), some (.str k), a4, some (.lst (ls2.map logD)), some (.ptr h), a7, a8, a9, some (.ptr jm), a11, a12, a13, a14, a15]
theorem turn_wp {S : WS} {ns : List Int} {i h jm : Nat} {k : Str} {ls2 : List Ents} {a1 a4 a9 a7 a8 a11 a12 a13 a14 a15 : Option D} {μ : Sto} {objs : List (Nat × List Ents)} {B B2 K : Nat} (hk : k ∈ kindL) (H : Held μ i h k objs B (K + 10)) (om : Obj μ jm k ls2 B2) (hB : 30 ≤ B) (hB2 : B ≤ 400) (hl : objs.length < 20)
    (hS : ∀ (b11 b12 b14 b15 : Option D) (objs' : List (Nat × List Ents)) (μ' : Sto), Held μ' i h k objs' (B + 1) K → objs'.length = objs.length + 1 → Obj μ' jm k ls2 B2 → S.nx (tRho ns i h jm k ls2 a1 a4 a9 a7 a8 b11 b12 a13 b14 b15) μ') :
    (b_law_4 (tRho ns i h jm k ls2 a1 a4 a9 a7 a8 a11 a12 a13 a14 a15) μ).wp S := by
  unfold b_law_4
  -- now
  refine cut (fun ρ μ' => ∃ p ∈ objs, ρ = tRho ns i h jm k ls2 a1 a4 a9 a7 a8 (some (.ptr p.1)) (some (.lst (p.2.map logD))) a13 a14 a15 ∧ Held μ' i h k objs B (K + 8) ∧ Obj μ' jm k ls2 B2) ?_ ?_
  · have hpos : 0 < objs.length := List.length_pos_iff.mpr H.pos
    simp [tRho]
    refine take_wp (n := K + 9) H.case_ (by decide) (by decide) fun r1 μ1 b1 c1 R1 => ?_
    have H1 := H.run (K' := K + 9) R1 (by omega)
    have om1 := om.run H.case_ R1
    simp
    by_cases h0 : r1 = 0
    · simp [h0, H1.len]
      refine take_wp (n := K + 8) H1.case_ (by omega) (by have := H1.few; omega) fun r2 μ2 b2 c2 R2 => ?_
      have H2 := H1.run (K' := K + 8) R2 (by omega)
      obtain ⟨p, hp, e⟩ := H2.ix (r := r2) (.inr ⟨b2, c2⟩)
      simp [e, objD]
      exact ⟨p.1, p.2, hp, ⟨rfl, rfl⟩, H2, om1.run H1.case_ R2⟩
    · obtain ⟨p, hp, e⟩ := H1.ix (r := -1) (.inl rfl)
      simp [h0, e, objD]
      exact ⟨p.1, p.2, hp, ⟨rfl, rfl⟩, H1.run (K' := K + 8) (Run.refl _ _) (by omega), om1⟩
  rintro ρ μ1 ⟨p, hp, rfl, H1, om1⟩
  -- far
  refine cut (fun ρ μ' => ∃ q ∈ objs, ρ = tRho ns i h jm k ls2 a1 a4 a9 a7 a8 (some (.ptr p.1)) (some (.lst (p.2.map logD))) a13 (some (.ptr q.1)) (some (.lst (q.2.map logD))) ∧ Held μ' i h k objs B (K + 7) ∧ Obj μ' jm k ls2 B2) ?_ ?_
  · have hpos : 0 < objs.length := List.length_pos_iff.mpr H.pos
    simp [tRho, H1.len]
    refine take_wp (n := K + 7) H1.case_ (by omega) (by have := H1.few; omega) fun r2 μ2 b2 c2 R2 => ?_
    have H2 := H1.run (K' := K + 7) R2 (by omega)
    obtain ⟨q, hq, e⟩ := H2.ix (r := r2) (.inr ⟨b2, c2⟩)
    simp [e, objD]
    exact ⟨q.1, q.2, hq, ⟨rfl, rfl⟩, H2, om1.run H1.case_ R2⟩
  rintro ρ μ2 ⟨q, hq, rfl, H2, om2⟩
  refine cut (fun ρ μ' => ∃ (jf : Nat) (lsf : List Ents) (Bf : Nat), Obj μ' jf k lsf Bf ∧ ρ = tRho ns i h jm k ls2 a1 a4 a9 a7 a8 (some (.ptr p.1)) (some (.lst (p.2.map logD))) a13 (some (.ptr jf)) (some (.lst (lsf.map logD))) ∧ Held μ' i h k objs B (K + 6) ∧ Obj μ' jm k ls2 B2) ?_ ?_
  · simp [tRho]
    refine take_wp (n := K + 6) H2.case_ (by decide) (by decide) fun r1 μ3 b1 c1 R1 => ?_
    have H3 := H2.run (K' := K + 6) R1 (by omega)
    have om3 := om2.run H2.case_ R1
    simp
    by_cases h0 : r1 = 0
    · simp [h0]
      exact ⟨jm, ls2, ⟨B2, om3⟩, ⟨rfl, rfl⟩, H3, om3⟩
    · simp [h0]
      exact ⟨q.1, q.2, ⟨B, H3.obj q hq⟩, ⟨rfl, rfl⟩, H3, om3⟩
  rintro ρ μ3 ⟨jf, lsf, Bf, of, rfl, H3, om3⟩
  refine cut (fun ρ μ' => ∃ objs' p', ρ = tRho ns i h jm k ls2 a1 a4 a9 a7 a8 (some (.ptr p.1)) (some (.lst (p.2.map logD))) a13 (some (.ptr jf)) (some (.lst (lsf.map logD))) ∧ Held μ' i h k (objs' ++ [p']) (B + 1) K ∧ objs'.length = objs.length ∧ Obj μ' p'.1 k p'.2 (B + 1) ∧ Obj μ' jm k ls2 B2) ?_ ?_
  · refine append_wp (L := h) (xs := objs.map objD) rfl H3.cell ?_
    have g10 : lg 10 < 1000 := by decide
    have stp : ∀ most : Int, 0 ≤ most → most ≤ 10 ^ 12 → (m__law_step [.ptr i, .ptr p.1, .lst (p.2.map logD), .ptr jf, .lst (lsf.map logD), .int most] μ3).wp (fun d μ' => ∃ ys, μ'[h]? = some (.lst ys) ∧ ys.length < lim ∧ ∃ objs' a b, Held (μ'.set h (.lst (ys ++ [d]))) i h k (objs' ++ [(a, b)]) (B + 1) K ∧ objs'.length = objs.length ∧ Obj (μ'.set h (.lst (ys ++ [d]))) a k b (B + 1) ∧ Obj (μ'.set h (.lst (ys ++ [d]))) jm k ls2 B2) (fun x μ => S.ex x [some (.scr ns), a1, some (.ptr i), some (.str k), a4, some (.lst (ls2.map logD)), some (.ptr h), a7, a8, a9, some (.ptr jm), some (.ptr p.1), some (.lst (p.2.map logD)), a13, some (.ptr jf), some (.lst (lsf.map logD))] μ) := fun most hm0 hm1 => by
      refine step_wp (n := K + 1) H3.case_ hk (H3.obj p hp) of hB (by omega) hm0 hm1 fun j' ls' μ4 o4 R4 => ?_
      have H4 := H3.run (K' := K) R4 (by omega)
      have H5 := H4.push (p := (j', ls')) (B' := B + 1) o4 (by omega) hl
      refine ⟨objs.map objD, H4.cell, by rw [List.length_map]; exact Nat.lt_trans hl (by decide), objs, j', ls', ?_, rfl, o4.set H4.cell _, (om3.run H3.case_ R4).set H4.cell _⟩
      rw [List.map_append] at H5
      exact H5
    simp [tRho, g10]
    by_cases hf : k = "frame"
    · rw [if_pos hf]
      exact stp 400 (by decide) (by decide)
    · rw [if_neg hf]
      exact stp 1000000000 (by decide) (by decide)
  rintro ρ μ4 ⟨objs', p', rfl, H4, hlen, o4, om4⟩
  obtain ⟨cs, es⟩ := o4.shown (by omega)
  have H5 := H4.app cs
  simp [tRho, H4.last, objD, es]
  exact hS _ _ _ _ (objs' ++ [p']) _ H5 (by rw [List.length_append, hlen]; rfl) (om4.app cs)
end Lk44
end S_P44_12
section S_P44_13
set_option Elab.async false
set_option linter.all false
set_option maxRecDepth 100000
set_option maxHeartbeats 400000
namespace Lk44
open PySem PySem.Spec PyProof.Rows L2 FL
theorem allE_le {c : Nat} : ∀ {ls : List Ents}, (∀ l ∈ ls, l.length ≤ c) → (allE ls).length ≤ ls.length * c
  | [], _ => by simp [allE]
  | x :: r, h => by
    have e : allE (x :: r) = x.map entD ++ allE r := by simp [allE]
    have := allE_le (ls := r) (c := c) fun l hl => h l (List.mem_cons_of_mem _ hl)
    have h0 := h x List.mem_cons_self
    rw [e, List.length_append, List.length_map, List.length_cons, Nat.add_mul]
    omega
theorem lcL_wpE {t : NT} {m : Rho → Sto → Res D} {vs : List Nat} {ρ : Rho} {X : Ex → Sto → Prop} {N : Nat} (I : List D → Sto → Prop) : ∀ {xs : List D} {acc : List D} {μ : Sto} {Q : List D → Sto → Prop}, I acc μ → acc.length + xs.length ≤ N →
    (∀ (x : D) (acc : List D) (μ : Sto), acc.length < N → I acc μ → ∃ ρ1, ntM t x (wipeR ρ vs) = some ρ1 ∧ (m ρ1 μ).wp (fun y μ' => I (acc ++ [y]) μ') (fun _ _ => False)) →
    (∀ ys μ, ys.length = xs.length → I (acc ++ ys) μ → Q ys μ) → (lcL t ttYes m vs xs ρ μ).wp Q X
  | [], acc, μ, Q, h0, _, _, he => he [] μ rfl (by rw [List.append_nil]; exact h0)
  | x :: xs, acc, μ, Q, h0, hn, hs, he => by
    rw [List.length_cons] at hn
    obtain ⟨ρ1, h1, h2⟩ := hs x acc μ (by omega) h0
    unfold lcL
    rw [h1]
    show ((noX (Res.ok true μ)).bind _).wp Q X
    simp only [noX_ok, Res.bind_ok, if_true, wp_bind, noX_wp]
    refine Res.wp_mono2 h2 (fun y μ2 hy => ?_) (fun _ _ z => z.elim)
    refine lcL_wpE I hy (by rw [List.length_append]; simp; omega) hs fun ys μ3 hl hi => ?_
    exact he (y :: ys) μ3 (by rw [List.length_cons, List.length_cons, hl]) (by rw [List.append_assoc] at hi; exact hi)
/-- a list of drawn logs -/
theorem logsL_wp {m : Rho → Sto → Res D} {i n N : Nat} {k : Str} {many : Int} {d0 : Option D} {a1 a4 a5 a6 a7 a8 a9 a10 a11 a12 a13 a14 a15 : Option D} {xs : List D} {μ : Sto} {Q : List D → Sto → Prop} {X : Ex → Sto → Prop} (hk : k ∈ kindL) (hc : Case μ i (n + 340 * N)) (hN : xs.length ≤ N) (hm0 : 0 ≤ many) (hm : many ≤ 40)
    (he : ∀ (x : D) (μ : Sto), m [d0, a1, some (.ptr i), some (.str k), a4, a5, a6, a7, a8, a9, a10, a11, a12, some x, a14, a15] μ = m__law_spoken [.ptr i, .str k, .int many, .int 10000000] μ)
    (h : ∀ (ls : List Ents) (μ' : Sto), ls.length = xs.length → (∀ l ∈ ls, LogOk l ∧ (l.length : Int) ≤ many) → Case μ' i n → Q (ls.map logD) μ') :
    (lcL (.nm 13) ttYes m [13] xs [d0, a1, some (.ptr i), some (.str k), a4, a5, a6, a7, a8, a9, a10, a11, a12, a13, a14, a15] μ).wp Q X := by
  refine lcL_wpE (N := N) (fun acc μ' => ∃ ls : List Ents, acc = ls.map logD ∧ (∀ l ∈ ls, LogOk l ∧ (l.length : Int) ≤ many) ∧ Case μ' i (n + 340 * (N - acc.length))) (acc := []) ⟨[], rfl, fun _ h => (by cases h), hc.le (Nat.le_refl _)⟩ (by simpa using hN) (fun x acc μ1 hlt => ?_) ?_
  · rintro ⟨ls, rfl, hls, hc1⟩
    refine ⟨_, rfl, ?_⟩
    rw [show (List.set (wipeR [d0, a1, some (.ptr i), some (.str k), a4, a5, a6, a7, a8, a9, a10, a11, a12, a13, a14, a15] [13]) 13 (some x)) = [d0, a1, some (.ptr i), some (.str k), a4, a5, a6, a7, a8, a9, a10, a11, a12, some x, a14, a15] from rfl, he]
    refine spoken_wp (n := n + 340 * (N - (ls.length + 1))) (hc1.le (by simp only [List.length_map] at hlt ⊢; omega)) hk hm0 hm (by decide) (by decide) fun es μ2 h1 h2 R => ?_
    refine ⟨ls ++ [es], by simp [logD], fun l hl => ?_, ?_⟩
    · rcases List.mem_append.mp hl with hl | hl
      · exact hls l hl
      · rw [List.mem_singleton] at hl; subst hl; exact ⟨h2, h1⟩
    · exact R.c hc1 (by simp only [List.length_append, List.length_map, List.length_cons, List.length_nil] at hlt ⊢; omega)
  · rintro ys μ1 hl ⟨ls, e, hls, hc1⟩
    rw [List.nil_append] at e
    subst e
    exact h ls μ1 (by rw [List.length_map] at hl; exact hl) hls (hc1.le (by omega))
end Lk44
end S_P44_13
section S_P44_14
set_option Elab.async false
set_option linter.all false
set_option maxRecDepth 100000
set_option maxHeartbeats 400000
namespace Lk44
open PySem PySem.Spec PyProof.Rows L2 FL
/-- the loop of turns -/
theorem turns_wp {S : WS} {ns : List Int} {i h jm : Nat} {k : Str} {ls2 : List Ents} {a1 a4 a9 a7 a8 a11 a12 a13 a14 a15 : Option D} {μ : Sto} {objs : List (Nat × List Ents)} {B2 K : Nat} (hk : k ∈ kindL) (H : Held μ i h k objs 30 (K + 100)) (om : Obj μ jm k ls2 B2) (hl : objs.length = 1)
    (hS : ∀ (b7 b11 b12 b14 b15 : Option D) (objs' : List (Nat × List Ents)) (μ' : Sto), Held μ' i h k objs' 40 K → objs'.length = 11 → Obj μ' jm k ls2 B2 → S.nx (tRho ns i h jm k ls2 a1 a4 a9 b7 a8 b11 b12 a13 b14 b15) μ') :
    (sForI (iOf rdR1 (aCons (xC (.int 10)) aNil)) g_law_3 b_law_4 (tRho ns i h jm k ls2 a1 a4 a9 a7 a8 a11 a12 a13 a14 a15) μ).wp S := by
  have e10 : rdR1 [.int 10] = some (rngL 0 10) := rdR1_nat (k := 10) (by decide) (by decide)
  simp [e10]
  refine forL_wp (fun idx ρ μ' => ∃ (b7 b11 b12 b14 b15 : Option D) (objs' : List (Nat × List Ents)), ρ = tRho ns i h jm k ls2 a1 a4 a9 b7 a8 b11 b12 a13 b14 b15 ∧ idx ≤ 10 ∧ Held μ' i h k objs' (30 + idx) (K + 10 * (10 - idx)) ∧ objs'.length = idx + 1 ∧ Obj μ' jm k ls2 B2) ?_ ?_ ⟨a7, a11, a12, a14, a15, objs, rfl, by omega, H, hl, om⟩
  · rintro idx x ρ μ1 hx ⟨b7, b11, b12, b14, b15, objs1, rfl, h10, H1, hl1, om1⟩
    obtain ⟨rfl, hi⟩ := rngL_get hx
    unfold g_law_3
    rw [e_gN, sw_nx]
    refine turn_wp (a7 := some (.int (0 + idx))) (K := K + 10 * (10 - (idx + 1))) (B := 30 + idx) (objs := objs1) hk (by rw [show K + 10 * (10 - (idx + 1)) + 10 = K + 10 * (10 - idx) by omega]; exact H1) om1 (by omega) (by omega) (by omega) fun c11 c12 c14 c15 objs2 μ2 H2 hl2 om2 => ?_
    exact ⟨_, c11, c12, c14, c15, objs2, rfl, by omega, H2, by omega, om2⟩
  · rintro ρ μ1 ⟨b7, b11, b12, b14, b15, objs1, rfl, h10, H1, hl1, om1⟩
    rw [rngL_len] at H1 hl1
    exact hS _ _ _ _ _ objs1 μ1 H1 hl1 om1
/-- all that is held is shown once more -/
theorem all_wp {ns : List Int} {i h jm : Nat} {k : Str} {ls2 : List Ents} {a1 a4 a9 a7 a8 a11 a12 a13 a14 a15 : Option D} {μ : Sto} {objs : List (Nat × List Ents)} {B B2 K : Nat} {Q : D → Sto → Prop} {X : Ex → Sto → Prop} (H : Held μ i h k objs B K) (om : Obj μ jm k ls2 B2) (hB : B ≤ 1000)
    (hQ : ∀ μ', Held μ' i h k objs B K → Obj μ' jm k ls2 B2 → Q (.lst []) μ') :
    (xLc (iOf rdR1 (aCons (xCall dLen (aCons (xVar 6) aNil)) aNil)) (.nm 13) (tmNot (tB1 (xFn m__law_shown (aCons (xOp dIx (xOp dIx (xVar 6) (xVar 13)) (xC (.int 0))) (aCons (xVar 3) (aCons (xOp dIx (xOp dIx (xVar 6) (xVar 13)) (xC (.int 1))) aNil)))))) e_law_5 [13] (tRho ns i h jm k ls2 a1 a4 a9 a7 a8 a11 a12 a13 a14 a15) μ).wp Q X := by
  have en : rdR1 [.int objs.length] = some (rngL 0 objs.length) := by
    rw [rdR1_nat (k := (objs.length : Int)) (by omega) (by have := H.few; omega)]; simp
  have l20 : (rngL 0 objs.length).length ≤ lim := by rw [rngL_len]; exact Nat.le_trans H.few (Nat.le_trans (by decide) lim20)
  have im : iOf rdR1 (aCons (xCall dLen (aCons (xVar 6) aNil)) aNil) (tRho ns i h jm k ls2 a1 a4 a9 a7 a8 a11 a12 a13 a14 a15) μ = .ok (rngL 0 objs.length) μ := iOf_ok (by simp [tRho, H.len]) en
  unfold xLc
  rw [im]
  simp only [wp_bind, wp_ok]
  rw [if_pos l20]
  simp only [wp_bind, wp_ok]
  refine lcL_none (fun μ' => Held μ' i h k objs B K ∧ Obj μ' jm k ls2 B2) ⟨H, om⟩ (fun x μ1 hx => ?_) fun μ1 ⟨H1, om1⟩ => hQ μ1 H1 om1
  rintro ⟨H1, om1⟩
  obtain ⟨idx, hlt, hx⟩ := List.getElem_of_mem hx
  have hx2 : (rngL 0 objs.length)[idx]? = some x := by rw [List.getElem?_eq_getElem hlt, hx]
  obtain ⟨rfl, hi⟩ := rngL_get hx2
  refine ⟨_, rfl, ?_⟩
  obtain ⟨p, hp, e⟩ := H1.ix (r := 0 + (idx : Int)) (.inr ⟨by omega, by omega⟩)
  obtain ⟨cs, es⟩ := (H1.obj p hp).shown hB
  have H2 := H1.app cs
  have om2 := om1.app cs
  rw [Int.zero_add] at e
  simp [tRho, wipeR]
  simp [e, objD, es]
  exact ⟨H2, om2⟩
/-- put behind and taken off again -/
theorem back_wp {S : WS} {ns : List Int} {i h jm : Nat} {k : Str} {ls2 : List Ents} {a1 a4 a9 a7 a8 a11 a12 a13 a14 a15 : Option D} {μ : Sto} {objs : List (Nat × List Ents)} {B B2 K : Nat} (hk : k ∈ kindL) (H : Held μ i h k objs B K) (om : Obj μ jm k ls2 B2) (hB : B ≤ 900) (hB2 : B2 ≤ 900)
    (hS : ∀ ρ μ', (∃ b1 b2 b3 b4 b5 b6 b7 b8 b9 b10 b11 b12 b13 b14 b15, ρ = [some (.scr ns), b1, b2, b3, b4, b5, b6, b7, b8, b9, b10, b11, b12, b13, b14, b15]) → S.nx ρ μ') :
    ((sSeq (sAsg (xOp dIx (xVar 6) (xNeg (xC (.int 1)))) (gT 2 (gsCons (gN 11) (gsCons (gN 12) gsNil)))) (sSeq (sSet 8 (xOp (ownBin "Heard" ["int"] m_Heard___sub__ dSub) (xOp (ownBin "Heard" ["tuple"] m_Heard___add__ dAdd) (xVar 11) (xTup (aCons (xIf (tB1 (xOp dNe (xOp dIx (xVar 12) (xNeg (xC (.int 1)))) (xTup aNil))) (xOp dIx (xOp dIx (xOp dIx (xVar 12) (xNeg (xC (.int 1)))) (xNeg (xC (.int 1)))) (xC (.int 0))) (xC (.int 7))) (aCons (xC (.int 2)) (aCons (xC (.bl true)) aNil))))) (xC (.int 1)))) (sIf (tmOr (tmNot (tB1 (xFn m__law_shown (aCons (xVar 8) (aCons (xVar 3) (aCons (xVar 12) aNil)))))) (tmNot (tB1 (xFn m__law_shown (aCons (xVar 10) (aCons (xVar 3) (aCons (xVar 5) aNil))))))) (sRet (xC (.bl false))) sNext))) (tRho ns i h jm k ls2 a1 a4 a9 a7 a8 a11 a12 a13 a14 a15) μ).wp S := by
  obtain ⟨⟨j, ls⟩, hp, e⟩ := H.ix (r := -1) (.inl rfl)
  have o := H.obj _ hp
  simp only at o
  obtain ⟨pre, l, rfl⟩ : ∃ pre l, ls = pre ++ [l] := by
    rcases List.eq_nil_or_concat ls with h | ⟨a, b, h⟩
    · exact absurd h o.ne
    · exact ⟨a, b, by rw [h, List.concat_eq_append]⟩
  have hpre : pre.length ≤ 5 := by have := o.len; rw [List.length_append] at this; simp at this; omega
  have hll : LogOk l := o.ok l (by simp)
  have hsum : (allE pre).length + l.length ≤ B := by have := o.all; rw [allE_app, List.length_append, allE_one] at this; exact this
  obtain ⟨t, ht0, ht1, ht2, et⟩ : ∃ t : Int, lastT l ≤ t ∧ 0 ≤ t ∧ t ≤ 10 ^ 15 ∧ ∀ (ρ : Rho) (μ : Sto), ρ[12]? = some (some (.lst (pre.map logD ++ [logD l]))) → (xIf (tB1 (xOp dNe (xOp dIx (xVar 12) (xNeg (xC (.int 1)))) (xTup aNil))) (xOp dIx (xOp dIx (xOp dIx (xVar 12) (xNeg (xC (.int 1)))) (xNeg (xC (.int 1)))) (xC (.int 0))) (xC (.int 7))) ρ μ = .ok (.int t) μ := by
    have en : ∀ μ, dNe (logD l) (.tup []) μ = .ok (.bl (!(l.map entD).isEmpty)) μ := fun μ => by
      unfold logD
      rw [dNe_tup (plain_ents (n := 62) _) rfl, deqAll_nil]
    rcases List.eq_nil_or_concat l with rfl | ⟨l', z, rfl⟩
    · refine ⟨7, by decide, by decide, by decide, fun ρ μ h => ?_⟩
      simp [h, en, atI_neg1]
    · rw [List.concat_eq_append] at *
      have h3 := hll.2 (req z) (List.mem_map_of_mem (by simp))
      have e1 : lastT (l' ++ [z]) = z.1 := by simp [lastT]
      refine ⟨z.1, by rw [e1]; exact Int.le_refl _, h3.1, h3.2.1, fun ρ μ h => ?_⟩
      simp [h, en, atI_neg1]
      simp [logD, atI_neg1, entD]
  have ok : LogsOk (pre ++ [l ++ [(t, 2, true)]]) := logsOk_of (by simp; omega) (fun x hx => by
    rcases List.mem_append.mp hx with hx | hx
    · exact o.ok x (by simp [hx])
    · rw [List.mem_singleton] at hx; subst hx; exact hll.snoc ht0 ht1 ht2 (by decide) (by decide)) (by rw [allE_app, List.length_append, allE_one]; simp; omega)
  have ad := add_ok (e := (t, 2, true)) hk o.at_ ht1 (show (1 : Int) ≤ 2 by decide) ht0 ok
  generalize hμ1 : μ ++ [heardC k (pre ++ [l ++ [(t, 2, true)]])] = μ1 at ad
  have at1 : HeardAt μ1 μ.length k (pre ++ [l ++ [(t, 2, true)]]) := by rw [← hμ1]; unfold HeardAt; simp
  have tk : (l ++ [(t, (2 : Int), true)]).take ((l ++ [(t, (2 : Int), true)]).length - 1) = l := by simp
  have ok2 : LogsOk (pre ++ [(l ++ [(t, 2, true)]).take ((l ++ [(t, (2 : Int), true)]).length - 1)]) := by rw [tk]; exact o.logs (by omega)
  have sb := sub_ok (n := 1) hk at1 (by simp) ok2
  rw [tk] at sb
  have ob : Obj (μ1 ++ [heardC k (pre ++ [l])]) μ1.length k (pre ++ [l]) B := ⟨by unfold HeardAt; simp, o.ne, o.len, o.ok, o.all⟩
  obtain ⟨cs, es⟩ := ob.shown (by omega)
  have om1 : Obj (((μ1 ++ [heardC k (pre ++ [l])]) ++ cs)) jm k ls2 B2 := by rw [← hμ1]; exact ((om.app _).app _).app _
  obtain ⟨cs2, es2⟩ := om1.shown (by omega)
  simp only [List.map_append, List.map_cons, List.map_nil] at es e
  have et2 := et (tRho ns i h jm k ls2 a1 a4 a9 a7 a8 (some (.ptr j)) (some (.lst (pre.map logD ++ [logD l]))) a13 a14 a15) μ rfl
  simp only [tRho] at et2 ⊢
  simp [-e_if, e, objD, et2]
  simp [entD] at ad sb
  rw [ob_pt o.at_.ins, ad]
  simp only [wp_ok]
  rw [ob_pi at1.ins, sb]
  simp
  simp at es es2
  simp [es, es2]
  exact ⟨by decide, hS _ _ ⟨_, _, _, _, _, _, _, _, _, _, _, _, _, _, _, rfl⟩⟩
end Lk44
end S_P44_14
section S_P44_15
set_option Elab.async false
set_option linter.all false
set_option maxRecDepth 100000
set_option maxHeartbeats 400000
namespace Lk44
open PySem PySem.Spec PyProof.Rows L2 FL
/-- one case -/
theorem body_wp {S : WS} {ns : List Int} {c : Nat} (hc64 : c < 64) {a2 a3 a4 a5 a6 a7 a8 a9 a10 a11 a12 a13 a14 a15 : Option D} {μ : Sto}
    (hS : ∀ ρ μ', (∃ b1 b2 b3 b4 b5 b6 b7 b8 b9 b10 b11 b12 b13 b14 b15, ρ = [some (.scr ns), b1, b2, b3, b4, b5, b6, b7, b8, b9, b10, b11, b12, b13, b14, b15]) → S.nx ρ μ') :
    (b_law_7 [some (.scr ns), some (.int c), a2, a3, a4, a5, a6, a7, a8, a9, a10, a11, a12, a13, a14, a15] μ).wp S := by
  have l0 := lim20
  have g10 : lg 10 < 1000 := by decide
  have e6 : ∀ ρ μ, (xOp dPow (xC (.int 10)) (xC (.int 7))) ρ μ = .ok (.int 10000000) μ := fun ρ μ => by simp [g10]
  unfold b_law_7
  refine cut (fun ρ μ' => ∃ i, Case μ' i 2002 ∧ ρ = [some (.scr ns), some (.int c), some (.ptr i), a3, a4, a5, a6, a7, a8, a9, a10, a11, a12, a13, a14, a15]) ?_ ?_
  · simp
    refine case_wp hc64 fun a b h1 h2 h3 => ?_
    exact ⟨μ.length, ⟨a, b, 0, by simp, h1, h2, h3, by decide, by decide⟩, rfl⟩
  rintro ρ μ1 ⟨i, c1, rfl⟩
  refine cut (fun ρ μ' => ∃ k, k ∈ kindL ∧ Case μ' i 2001 ∧ ρ = [some (.scr ns), some (.int c), some (.ptr i), some (.str k), a4, a5, a6, a7, a8, a9, a10, a11, a12, a13, a14, a15]) ?_ ?_
  · simp
    refine kinds_wp (n := 2001) c1 fun s μ2 hs R => ?_
    exact ⟨s, hs, R.c c1 (by omega), rfl⟩
  rintro ρ μ2 ⟨k, hk, c2, rfl⟩
  refine cut (fun ρ μ' => ∃ ls : List Ents, (ls.length ≤ 3 ∧ ∀ l ∈ ls, LogOk l ∧ l.length ≤ 6) ∧ Case μ' i 980 ∧ ρ = [some (.scr ns), some (.int c), some (.ptr i), some (.str k), some (.lst (ls.map logD)), a5, a6, a7, a8, a9, a10, a11, a12, a13, a14, a15]) ?_ ?_
  · rw [e_set, sw_sB]
    unfold xLc
    rw [wp_bind]
    refine Res.wp_mono2 (Q := fun xs μ' => xs.length ≤ 3 ∧ Case μ' i 2000) (X := fun _ _ => False) ?_ ?_ (fun _ _ h => h.elim)
    · simp
      refine take_wp (n := 2000) c2 (by decide) (by decide) fun r μ3 h0 h1 R => ?_
      rw [rdR1_nat h0 (by omega)]
      simp
      exact ⟨by rw [rngL_len]; omega, R.c c2 (by omega)⟩
    · rintro xs μ3 ⟨h3, c3⟩
      rw [if_pos (by omega)]
      rw [wp_bind]
      refine logsL_wp (n := 980) (N := 3) (many := 6) hk c3 h3 (by decide) (by decide) (fun x μ => by unfold e_law_1; simp [-e_op, e6]) fun ls μ4 hl h4 c4 => ?_
      exact ⟨ls, ⟨by omega, fun l hm => ⟨(h4 l hm).1, by have := (h4 l hm).2; omega⟩⟩, c4, rfl⟩
  rintro ρ μ3 ⟨ls, hls, c3, rfl⟩
  refine cut (fun ρ μ' => ∃ ls2 : List Ents, (ls2 ≠ [] ∧ ls2.length ≤ 2 ∧ ∀ l ∈ ls2, LogOk l ∧ l.length ≤ 4) ∧ Case μ' i 200 ∧ ρ = [some (.scr ns), some (.int c), some (.ptr i), some (.str k), some (.lst (ls.map logD)), some (.lst (ls2.map logD)), a6, a7, a8, a9, a10, a11, a12, a13, a14, a15]) ?_ ?_
  · rw [e_set, sw_sB]
    unfold xLc
    rw [wp_bind]
    refine Res.wp_mono2 (Q := fun xs μ' => (1 ≤ xs.length ∧ xs.length ≤ 2) ∧ Case μ' i 979) (X := fun _ _ => False) ?_ ?_ (fun _ _ h => h.elim)
    · simp
      refine take_wp (n := 979) c3 (by decide) (by decide) fun r μ4 h0 h1 R => ?_
      simp
      rw [rdR1_nat (by omega) (by omega)]
      simp
      exact ⟨⟨by rw [rngL_len]; omega, by rw [rngL_len]; omega⟩, R.c c3 (by omega)⟩
    · rintro xs μ4 ⟨⟨h3, h31⟩, c4⟩
      rw [if_pos (by omega)]
      rw [wp_bind]
      refine logsL_wp (n := 200) (N := 2) (many := 4) hk (c4.le (by omega)) h31 (by decide) (by decide) (fun x μ => by unfold e_law_2; simp [-e_op, e6]) fun ls2 μ5 hl h4 c5 => ?_
      exact ⟨ls2, ⟨fun e => by subst e; simp at hl; omega, by omega, fun l hm => ⟨(h4 l hm).1, by have := (h4 l hm).2; omega⟩⟩, c5, rfl⟩
  rintro ρ μ4 ⟨ls2, hls2, c4, rfl⟩
  have eo2 : orE ls2 = ls2 := by unfold orE; rw [if_neg hls2.1]
  have a1 : (allE ls).length ≤ ls.length * 6 := allE_le fun l hl => (hls.2 l hl).2
  have a2 : (allE ls2).length ≤ ls2.length * 4 := allE_le fun l hl => (hls2.2.2 l hl).2
  have ok1 : LogsOk ls := logsOk_of (by omega) (fun l hl => (hls.2 l hl).1) (by omega)
  have ok2 : LogsOk ls2 := logsOk_of (by omega) (fun l hl => (hls2.2.2 l hl).1) (by omega)
  have eo1 : orE ls ≠ [] ∧ (orE ls).length ≤ 3 ∧ (∀ l ∈ orE ls, LogOk l) ∧ (allE (orE ls)).length ≤ 30 := by
    unfold orE
    by_cases h : ls = []
    · rw [if_pos h]
      exact ⟨by simp, by simp, fun l hl => by rw [List.mem_singleton] at hl; subst hl; exact LogOk.nil, by simp [allE]⟩
    · rw [if_neg h]
      exact ⟨h, by omega, fun l hl => (hls.2 l hl).1, by omega⟩
  refine cut (fun ρ μ' => ∃ j jm, Case μ' i 200 ∧ Obj μ' j k (orE ls) 30 ∧ Obj μ' jm k ls2 30 ∧ ρ = [some (.scr ns), some (.int c), some (.ptr i), some (.str k), some (.lst (ls.map logD)), some (.lst (ls2.map logD)), a6, a7, a8, some (.ptr j), some (.ptr jm), a11, a12, a13, a14, a15]) ?_ ?_
  · have s1 := six_ok hk ok1 (by omega) μ4
    have s2 := six_ok hk ok2 (by omega) (μ4 ++ [heardC k (orE ls)])
    rw [eo2] at s2
    have o1 : Obj (μ4 ++ [heardC k (orE ls)]) μ4.length k (orE ls) 30 := ⟨by unfold HeardAt; simp, eo1.1, by omega, eo1.2.2.1, eo1.2.2.2⟩
    have o2 : Obj ((μ4 ++ [heardC k (orE ls)]) ++ [heardC k ls2]) (μ4 ++ [heardC k (orE ls)]).length k ls2 30 := ⟨by unfold HeardAt; simp, hls2.1, by omega, fun l hl => (hls2.2.2 l hl).1, by omega⟩
    simp only [e_par2, e_aCons, e_xFn, e_var]
    simp [s1]
    simp at s2
    simp [s2]
    simp at o2
    have o1' := o1.app [heardC k ls2]
    simp at o1'
    exact ⟨case_app c4 _, o1', o2⟩
  rintro ρ μ5 ⟨j, jm, c5, o1, om, rfl⟩
  refine cut (fun ρ μ' => ∃ h, Held μ' i h k [(j, orE ls)] 30 200 ∧ Obj μ' jm k ls2 30 ∧ ρ = tRho ns i h jm k ls2 (some (.int c)) (some (.lst (ls.map logD))) (some (.ptr j)) a7 a8 a11 a12 a13 a14 a15) ?_ ?_
  · have en : dNe (.lst (ls.map logD)) (.lst []) μ5 = .ok (.bl (!(ls.map logD).isEmpty)) μ5 := by rw [dNe_lst (plain_logs (n := 61) ls) rfl, deqAll_nil]
    have H : Held (μ5 ++ [.lst [objD (j, orE ls)]]) i μ5.length k [(j, orE ls)] 30 200 := ⟨case_app c5 _, fun e => by have := c5.lt; omega, by simp, by simp, by simp, fun p hp => by
      rw [List.mem_singleton] at hp; subst hp; exact o1.app _⟩
    by_cases h : ls = []
    · subst h
      simp at en
      simp [en]
      exact ⟨by decide, by decide, by decide, μ5.length, H, om.app _, rfl⟩
    · have e2 : (ls.map logD).isEmpty = false := by cases ls with | nil => exact absurd rfl h | cons _ _ => rfl
      rw [e2] at en
      have e3 : orE ls = ls := by unfold orE; rw [if_neg h]
      rw [e3] at H ⊢
      simp [en]
      exact ⟨by decide, by decide, μ5.length, H, om.app _, rfl⟩
  rintro ρ μ6 ⟨h, H, om6, rfl⟩
  refine cut (fun ρ μ' => ∃ (b7 b11 b12 b14 b15 : Option D) (objs' : List (Nat × List Ents)), Held μ' i h k objs' 40 100 ∧ Obj μ' jm k ls2 30 ∧ ρ = tRho ns i h jm k ls2 (some (.int c)) (some (.lst (ls.map logD))) (some (.ptr j)) b7 a8 b11 b12 a13 b14 b15) ?_ ?_
  · exact turns_wp (K := 100) hk H om6 rfl fun b7 b11 b12 b14 b15 objs' μ7 H7 hl om7 => ⟨b7, b11, b12, b14, b15, objs', H7, om7, rfl⟩
  rintro ρ μ7 ⟨b7, b11, b12, b14, b15, objs', H7, om7, rfl⟩
  refine cut (fun ρ μ' => Held μ' i h k objs' 40 100 ∧ Obj μ' jm k ls2 30 ∧ ρ = tRho ns i h jm k ls2 (some (.int c)) (some (.lst (ls.map logD))) (some (.ptr j)) b7 a8 b11 b12 a13 b14 b15) ?_ ?_
  · rw [e_sIf, sw_sB, e_tB1, e_op, wp_bind, wp_bind]
    refine all_wp H7 om7 (by decide) fun μ8 H8 om8 => ?_
    have en : dNe (.lst []) (.lst []) μ8 = .ok (.bl false) μ8 := by rw [dNe_lst rfl rfl, deqAll_nil]; rfl
    simp [en]
    exact ⟨H8, om8⟩
  rintro ρ μ8 ⟨H8, om8, rfl⟩
  exact back_wp hk H8 om8 (by decide) (by decide) hS
end Lk44
end S_P44_15
section S_P44_16
set_option Elab.async false
set_option linter.all false
set_option maxRecDepth 100000
set_option maxHeartbeats 400000
namespace Lk44
open PySem PySem.Spec PyProof.Rows L2 FL
theorem dEq_pl {xs ys : List D} {μ : Sto} {L : Nat} (h : μ[L]? = some (.lst xs)) (h1 : plainDs 63 xs = true) (h2 : plainDs 63 ys = true) : dEq (.ptr L) (.lst ys) μ = .ok (.bl (deqAll xs ys)) μ := by
  unfold dEq eqD
  have e1 : plainD 64 (.lst xs) = true := h1
  have e2 : plainD 64 (.lst ys) = true := h2
  have e0 : topD μ (.ptr L) = some (.lst xs) := by simp [topD, rdM, h]
  simp only [dscal, e0, e1, e2, Bool.and_self, if_true, deq]
  simp only [topD, e1, e2, Bool.and_self, if_true, deq]
theorem last_wp {S : WS} {ρ : Rho} {μ : Sto} (h : ∀ μ, S.rt (.bl true) μ) :
    ((sRet (xAnd (xOp dEq (xProp "Heard" m_Heard_logs (xFn (fun ds μ => if ds.length = 1 then (mkM "Heard" m_kw1_Heard___init___kind) ds μ else .stuck) (aCons (xC (.str "gap")) aNil))) (xLst (aCons (xTup aNil) aNil))) (xOp dEq (xProp "Heard" m_Heard_logs (xOp (ownBin "Heard" ["tuple"] m_Heard___add__ dAdd) (xFn (mkM "Heard" m_Heard___init__) (aCons (xC (.str "gap")) aNil)) (xTup (aCons (xC (.int 0)) (aCons (xC (.int 1)) (aCons (xC (.bl true)) aNil)))))) (xLst (aCons (xTup (aCons (xTup (aCons (xC (.int 0)) (aCons (xC (.int 1)) (aCons (xC (.bl true)) aNil)))) aNil)) aNil))))) ρ μ).wp S := by
  have hk : ("gap" : Str) ∈ kindL := by decide
  have mk : ∀ μ, mkM "Heard" m_Heard___init__ [.str "gap"] μ = .ok (.ptr μ.length) (μ ++ [heardC "gap" [[]]]) := fun μ => make_ok hk (ls := []) ⟨by decide, fun l hl => by cases hl⟩ μ
  have mk1 : ∀ μ, mkM "Heard" m_kw1_Heard___init___kind [.str "gap"] μ = .ok (.ptr μ.length) (μ ++ [heardC "gap" [[]]]) := mk
  have at1 : ∀ μ, HeardAt (μ ++ [heardC "gap" [[]]]) μ.length "gap" ([] ++ [[]]) := fun μ => by unfold HeardAt; simp
  have lg1 := fun μ => logs_ok (at1 μ) (by decide)
  have ad := fun μ => add_ok (e := (0, 1, true)) hk (at1 μ) (by decide) (by decide) (by decide) (logsOk_of (ls := [] ++ [[] ++ [((0 : Int), (1 : Int), true)]]) (by decide) (fun l hl => by
    simp at hl; subst hl; exact LogOk.nil.snoc (by decide) (by decide) (by decide) (by decide) (by decide)) (by decide))
  have at2 : ∀ μ, HeardAt (μ ++ [heardC "gap" [[(0, 1, true)]]]) μ.length "gap" [[(0, 1, true)]] := fun μ => by unfold HeardAt; simp
  have lg2 := fun μ => logs_ok (at2 μ) (by decide)
  have pl1 : ∀ μ, dEq (.ptr μ.length) (.lst [.tup []]) (μ ++ [.lst [.tup []]]) = .ok (.bl true) (μ ++ [.lst [.tup []]]) := fun μ => by
    rw [dEq_pl (xs := [.tup []]) (by simp) rfl rfl]; rfl
  have pl2 : ∀ μ, dEq (.ptr μ.length) (.lst [.tup [.tup [.int 0, .int 1, .bl true]]]) (μ ++ [.lst [.tup [.tup [.int 0, .int 1, .bl true]]]]) = .ok (.bl true) (μ ++ [.lst [.tup [.tup [.int 0, .int 1, .bl true]]]]) := fun μ => by
    rw [dEq_pl (xs := [.tup [.tup [.int 0, .int 1, .bl true]]]) (by simp) rfl rfl]; rfl
  simp only [List.nil_append] at at1 ad lg1
  have ins1 := fun μ => (at1 μ).ins
  have ins2 := fun μ => (at2 μ).ins
  have st1 : ∀ ρ μ, (xProp "Heard" m_Heard_logs (xFn (fun ds μ => if ds.length = 1 then (mkM "Heard" m_kw1_Heard___init___kind) ds μ else .stuck) (aCons (xC (.str "gap")) aNil))) ρ μ = .ok (.ptr (μ ++ [heardC "gap" [[]]]).length) ((μ ++ [heardC "gap" [[]]]) ++ [.lst [.tup []]]) := fun ρ μ => by
    unfold xProp
    simp only [e_xFn, e_aCons, e_aNil, e_c, Res.bind_ok]
    rw [if_pos (show ([D.str (Str.ofString "gap")] : List D).length = 1 from rfl), mk1]
    simp only [Res.bind_ok]
    rw [if_pos (ins1 μ), lg1 μ]
    rfl
  have st2 : ∀ ρ μ, (xProp "Heard" m_Heard_logs (xOp (ownBin "Heard" ["tuple"] m_Heard___add__ dAdd) (xFn (mkM "Heard" m_Heard___init__) (aCons (xC (.str "gap")) aNil)) (xTup (aCons (xC (.int 0)) (aCons (xC (.int 1)) (aCons (xC (.bl true)) aNil)))))) ρ μ = .ok (.ptr (μ ++ [heardC "gap" [[]]] ++ [heardC "gap" [[(0, 1, true)]]]).length) (μ ++ [heardC "gap" [[]]] ++ [heardC "gap" [[(0, 1, true)]]] ++ [.lst [.tup [.tup [.int 0, .int 1, .bl true]]]]) := fun ρ μ => by
    unfold xProp
    simp only [e_op, e_xFn, e_aCons, e_aNil, e_c, e_xTup, Res.bind_ok]
    rw [mk]
    simp only [Res.bind_ok]
    rw [if_pos (show ([D.int 0, D.int 1, D.bl true] : List D).length ≤ lim by decide)]
    simp only [Res.bind_ok]
    rw [ob_pt (ins1 μ)]
    have := ad μ
    simp only [entD] at this
    rw [this]
    simp only [Res.bind_ok]
    rw [if_pos (ins2 _), lg2 _]
    rfl
  rw [e_ret, sw_sB, e_xAnd, e_op, wp_bind, wp_bind, st1]
  simp only [wp_ok]
  have l1 : ∀ ρ μ, (xLst (aCons (xTup aNil) aNil)) ρ μ = .ok (.lst [.tup []]) μ := fun ρ μ => by simp
  have l2 : ∀ ρ μ, (xLst (aCons (xTup (aCons (xTup (aCons (xC (.int 0)) (aCons (xC (.int 1)) (aCons (xC (.bl true)) aNil)))) aNil)) aNil)) ρ μ = .ok (.lst [.tup [.tup [.int 0, .int 1, .bl true]]]) μ := fun ρ μ => by simp [show 3 ≤ lim by decide, show 1 ≤ lim by decide]
  rw [wp_bind, l1]
  simp only [wp_ok]
  rw [pl1]
  simp only [wp_ok, e_tru_bl, optB_some, if_true]
  rw [e_op, wp_bind, st2]
  simp only [wp_ok]
  rw [wp_bind, l2]
  simp only [wp_ok]
  rw [pl2]
  exact h _
theorem plain (ns : List Int) (hn : ns.length ≤ 63) : ∃ μ, FL.mDef 16 b_law [.scr ns] [] = .ok (.bl true) μ := by
  have w : (FL.mDef 16 b_law [.scr ns] []).wp (fun d _ => d = .bl true) (fun _ _ => False) := by
    refine mDef_wp ?_
    unfold b_law
    refine cut (fun ρ μ' => True) ?_ (fun ρ μ _ => last_wp fun μ => rfl)
    obtain ⟨n, hn8, e⟩ : ∃ n : Nat, n ≤ 8 ∧ ∀ μ, (iOf rdR1 (aCons (xCall dMax (aCons (xC (.int 1)) (aCons (xCall dMin (aCons (xC (.int 8)) (aCons (xCall dLen (aCons (xVar 0) aNil)) aNil))) aNil))) aNil)) (st0 16 [.scr ns]) μ = .ok (rngL 0 n) μ := by
      obtain ⟨z, h0, h1, ez⟩ : ∃ z : Int, 0 ≤ z ∧ z ≤ 8 ∧ ∀ μ, (aCons (xCall dMax (aCons (xC (.int 1)) (aCons (xCall dMin (aCons (xC (.int 8)) (aCons (xCall dLen (aCons (xVar 0) aNil)) aNil))) aNil))) aNil) (st0 16 [.scr ns]) μ = .ok [.int z] μ := by
        refine ⟨_, ?_, ?_, fun μ => by simp [st0]; rfl⟩
        · split <;> (try split) <;> omega
        · split <;> (try split) <;> omega
      exact ⟨z.toNat, by omega, fun μ => iOf_ok (ez μ) (rdR1_nat h0 (by omega))⟩
    rw [e_forI, sw_sB, e]
    simp only [wp_ok]
    refine forL_wp (fun idx ρ μ' => ∃ b1 b2 b3 b4 b5 b6 b7 b8 b9 b10 b11 b12 b13 b14 b15, ρ = [some (.scr ns), b1, b2, b3, b4, b5, b6, b7, b8, b9, b10, b11, b12, b13, b14, b15]) ?_ (fun _ _ _ => trivial) ⟨none, none, none, none, none, none, none, none, none, none, none, none, none, none, none, rfl⟩
    rintro idx x ρ μ1 hx ⟨b1, b2, b3, b4, b5, b6, b7, b8, b9, b10, b11, b12, b13, b14, b15, rfl⟩
    obtain ⟨rfl, hi⟩ := rngL_get hx
    unfold g_law_6
    rw [e_gN, sw_nx, Int.zero_add]
    exact body_wp (c := idx) (by omega) fun ρ μ' h => h
  obtain ⟨d, μ, e, rfl⟩ := Res.wp_iff.mp w
  exact ⟨μ, e⟩
end Lk44
end S_P44_16
section S_H
set_option Elab.async false
set_option linter.all false
set_option maxRecDepth 100000
set_option maxHeartbeats 0
namespace Lk44
open PySem PySem.Spec PyProof.Rows L2 FL
abbrev R : PySem.W.OpenRow := PySem.W.OpenLaw.row PySem.Challenge.rw_limiterheard_k44_heard_put_together
abbrev hk : PySem.W.Hook := hookF 6 fa fn px ex
def ob (s : PySem.W.SharedT) : AlF := obsF 6 fa fn px ex (HandSHeadRun.getT s)
theorem ob_eq (s : PySem.W.SharedT) : ob s = hk.obs s.abs := obsF_eq (HandSHeadRun.getT_eq s)
def loose0 : List PySem.Str := ["_wall", "LimitError", "InvalidLog", "InvalidTime", "InvalidKind", "InvalidEntry", "InvalidNumber", "InvalidRequest", "OtherKind", "TooEarly", "NoRule", "NotHeard", "Open", "BUCKET", "METER", "WINDOW", "FRAME", "GAP", "KINDS", "FILLED", "SPANNED", "is_integer", "is_at_least", "greatest_divisor", "is_fraction", "lowest", "is_request", "is_entry", "is_rising", "is_log"]
def loose1 : List PySem.Str := ["is_rule", "check_log", "check_time", "check_kind", "last_time", "levels", "counted", "answers_of", "row_in", "is_fitting", "ZERO", "GROUND", "is_less", "lines_of", "value_in", "crossing", "highest", "cells", "parts", "is_below", "cells_uncrossed", "lesser_of", "conditions_in", "borders", "pieces_between", "pieces_of", "is_room", "stretches_of", "sizes_of", "marks_of"]
def loose2 : List PySem.Str := ["marks_in", "spent_at", "mosts_at", "breaks_of", "spans_of", "distances_of", "distances_in", "gap_of", "widths_in", "gap_range_in", "answers_in", "rules_of", "is_possible", "has_rule", "simplest", "plainer", "plainest_gain", "plainest_size", "plainest_of", "plainest_in", "knows_in", "same_in", "PASSES", "REFUSED", "OPEN", "NONE", "with_entry", "can_be", "answer_in", "all_costs"]
def loose3 : List PySem.Str := ["passed_in", "later_lines", "is_doubted", "is_hoped", "filled_costs", "spent_in", "sure_widths", "open_widths", "spanned_costs", "gap_costs", "sure_costs_in", "two_rules_in", "Heard", "_law_case", "_law_take", "_law_same", "_law_common", "_law_lowest", "_law_fraction", "_law_rule", "_law_requests", "_law_is_enough", "_law_passes", "_law_heard", "_law_kinds", "_law_spoken", "_law_six_logs", "_law_many", "_law_shown", "_law_step"]
def loose : List PySem.Str := loose0 ++ loose1 ++ loose2 ++ loose3
section
open PySem.W PySem.Calls HandSHeadRun
abbrev qv : Program := view R.prog [128]
theorem run1 (w : World) : ∀ os, (endR R 15000 w os).map (fun s => looksF R.prog (boot_heap w.params) s.abs) = some true := by
  intro os
  kernel_rfl
theorem run2 (w : World) : ∀ os, (endR R 15000 w os).map (fun s => seenQ qv loose (importedModules R.prog.main.body) (fun s => xlAt qv [] s && recOk R.toRowW.records s) s.abs) = some (openGood qv loose) := by
  intro os
  kernel_rfl
theorem run3 (w : World) : ∀ os, (endR R 15000 w os).map ob = some (hk.val w) := by
  intro os
  kernel_rfl
theorem run (w : World) : RunEq R qv hk ob 15000 loose w := runEq_of (run1 w) (run2 w) (run3 w)
end
theorem facts {P : Program} {w : World} {K : PySem.W.Frag} {h : Heap} {mg : Str → Option Value} {f : Addr} (X : K.In h) (G : h.Ns mainGlobals mg) (hfa : mg ("law" : Str) = some (.ref f)) (c : Says fa fn px ex K) :
    ∃ fd : FuncData, (∀ (s : Shared) (v : Value), BindsTo s fd ⟨[v], []⟩ [("_law_script", v)]) ∧ ∀ base : Heap, K.In base → base.Ns mainGlobals mg → FnOk P w K mg base (L2.CX P w) 11 f fd ["_law_script"] (spM K 1 (mDef 16 b_law)) := by
  have k : KN K mg := ⟨c, h, X, G⟩
  obtain ⟨fd, F⟩ := k.def_ 32 (d := d_law)
  have e := hfa.symm.trans (k.glo 60)
  cases e
  have b := FunD.bindsA (ps := ["_law_script"]) F fun _ _ _ _ _ _ us hl => match us, hl with | [_], _ => rfl
  exact ⟨fd, fun s v => b s [v] rfl, fun base _ _ => fm_ok (N := N_law) F sc_law (bm_law k)⟩
end Lk44
open PySem PySem.W PySem.Calls PyProof.Rows in
theorem Lk44.holds (plain : ∀ ns : List Int, ns.length ≤ 63 → ∃ μ, FL.mDef 16 Lk44.b_law [.scr ns] [] = .ok (.bl true) μ) : PySem.Challenge.rw_limiterheard_k44_heard_put_together.Holds := by
  w_on; o_law
  refine HandSHeadRun.head_any (r := OpenLaw.row PySem.Challenge.rw_limiterheard_k44_heard_put_together) (q := view (OpenLaw.row PySem.Challenge.rw_limiterheard_k44_heard_put_together).prog [128]) (H := Lk44.hk) (ob := Lk44.ob) (M := 15000) (loose := Lk44.loose) (d := HandSHeadRun.topDef (OpenLaw.row PySem.Challenge.rw_limiterheard_k44_heard_put_together).prog 128) (kwd := []) Lk44.ob_eq
    (by kernel_rfl) (fun s => by kernel_rfl) Lk44.run (by kernel_rfl) (by kernel_rfl) (by kernel_rfl) (by rfl) (by first | assumption | decide +kernel) (by decide +kernel) ⟨rfl, rfl, rfl, rfl, rfl, by decide +kernel⟩ ?hw ?hc
  case hw => w_witness2
  case hc =>
    refine FL.walk_ofW (l := PySem.Challenge.rw_limiterheard_k44_heard_put_together) (n := 63) (k := 11) (x := "_law_script") rfl (by decide) (by kernel_rfl) ⟨rfl, by decide, by decide⟩ ?F
    intro w mg fa h Y G hmg0
    obtain ⟨K, KX, c⟩ := Y
    have hmg : mg ("law" : PySem.Str) = some (.ref fa) := by
      have e : (HandSHeadRun.topDef (OpenLaw.row PySem.Challenge.rw_limiterheard_k44_heard_put_together).prog 128).name = ("law" : PySem.Str) := by kernel_rfl
      rw [← e]
      exact hmg0
    obtain ⟨fd, hb, hF⟩ := Lk44.facts (P := (PySem.Challenge.rw_limiterheard_k44_heard_put_together).prog) (w := w) KX G hmg c
    exact ⟨K, fd, _, KX, hb, fun H a ns hl _ hS => FL.law_sp hS (plain ns hl), hF⟩
namespace Lk44
end Lk44
end S_H
theorem PySem.Challenge.cw_limiterheard_k44_heard_put_together_holds : PySem.Challenge.rw_limiterheard_k44_heard_put_together.Holds := by
  exact Lk44.holds Lk44.plain
