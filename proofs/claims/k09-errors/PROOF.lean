import PyProof.Rows.All
import Wide.All
import OpenK.AllK
import Wide.FinOn
import PySem.Challenge.RW_nightclasses_k09_errors
import HandS.ForMost
import HandS.Exc
import HandS.Deep
import HandS.Wide
import HandS.TupAny
import HandS.TupMul
import HandS.Conv
import HandS.IsInst
import HandS.Style
import HandS.ExcField
import HandS.ExcIs
import HandS.Iter
import HandS.TryMany
import HandS.Ends
import HandS.More
import HandS.HeadEnd
import HandS.HeadHook4
import KE.KExcSuper
import HandS.ExcInit
import HandS.ExcOwn
import HandS.Defaults
import HandS.Head0
import HandS.Head1
import HandS.Head2
set_option Elab.async false
set_option linter.all false
set_option autoImplicit false
set_option maxRecDepth 100000
set_option maxHeartbeats 4000000
/-! Data over the heap: what a value stands for, environments, what a run leaves. -/
namespace EV
open PySem PySem.Spec PyProof.Rows L2
abbrev St := L2.St

/-! ### values -/
inductive SV where
  | d (x : PyData)
  | fn (k : Nat)
  | obj (C : Nat) (fs : List (Str × PyData))
  | exc (C : Nat) (fs : List (Str × PyData))
  | olst (xs : List PyData)
  | oobj (C : Nat) (fs : List (Str × PyData))
def SV.isOwn : SV → Bool
  | .olst _ => true
  | .oobj _ _ => true
  | _ => false
abbrev Env := List (Option SV)
structure Err where
  C : Nat
  fs : List (Str × PyData)
inductive R (α : Type) where
  | ok (a : α) (ρ : Env)
  | err (e : Err) (ρ : Env)
  | stuck
def R.bind {α β : Type} (r : R α) (k : α → Env → R β) : R β := match r with
  | .ok a ρ => k a ρ
  | .err e ρ => .err e ρ
  | .stuck => .stuck
@[simp] theorem R.bind_ok {α β : Type} (a : α) (ρ : Env) (k : α → Env → R β) : (R.ok a ρ).bind k = k a ρ := rfl
@[simp] theorem R.bind_err {α β : Type} (e : Err) (ρ : Env) (k : α → Env → R β) : (R.err e ρ).bind k = .err e ρ := rfl
@[simp] theorem R.bind_stuck {α β : Type} (k : α → Env → R β) : (R.stuck : R α).bind k = .stuck := rfl
def R.lift {α : Type} (o : Option α) (ρ : Env) : R α := match o with
  | some a => .ok a ρ
  | none => .stuck
@[simp] theorem R.lift_some {α : Type} (a : α) (ρ : Env) : R.lift (some a) ρ = .ok a ρ := rfl
@[simp] theorem R.lift_none {α : Type} (ρ : Env) : R.lift (none : Option α) ρ = .stuck := rfl
def getS (ρ : Env) (i : Nat) : Option SV := (ρ[i]?).join

/-! ### what stays -/
def HOwn : HO → Bool
  | .lst _ => true
  | .ins _ _ _ => true
  | .dK _ => true
  | .dT _ => true
  | .set _ _ => true
  | .ext _ => true
  | _ => false
/-- what is no owned thing stays -/
def Stay (H H' : Hp) : Prop := ∀ b o, H b = some o → HOwn o = false → H' b = some o
/-- all that is tracked stays -/
def Ext (H H' : Hp) : Prop := ∀ b o, H b = some o → H' b = some o
theorem Ext.refl {H : Hp} : Ext H H := fun _ _ h => h
theorem Ext.trans {H H1 H2 : Hp} (a : Ext H H1) (b : Ext H1 H2) : Ext H H2 := fun c o h => b c o (a c o h)
theorem Ext.stay {H H' : Hp} (e : Ext H H') : Stay H H' := fun b o h _ => e b o h
theorem Ext.upd {H : Hp} {p : Addr} {o : HO} (hp : H p = none) : Ext H (upd H p o) := fun b u h => by
  rw [upd_ne (ne_of_none h hp)]; exact h
theorem Stay.refl {H : Hp} : Stay H H := fun _ _ h _ => h
theorem Stay.trans {H H1 H2 : Hp} (a : Stay H H1) (b : Stay H1 H2) : Stay H H2 := fun c o h p => b c o (a c o h p) p

def FzL (K : PySem.W.Frag) (H : Hp) (a : Addr) (xs : List V) : Prop :=
  (∃ o, H a = some (.frz o (.lst xs))) ∨
    ∃ (its : List Value) (n : Nat), K.lookup a = some { cls := .type "list", data := .seq its.toArray n } ∧ its.length ≤ sizeLine ∧ Vals xs its
theorem FzL.sq {K : PySem.W.Frag} {H : Hp} {a : Addr} {xs : List V} (h : FzL K H a xs) : SqL K H a xs :=
  h.imp (fun ⟨o, e⟩ => .inr ⟨o, e⟩) fun ⟨its, n, e, z, r⟩ => ⟨_, its.toArray, n, e, rfl, rfl, rfl, by simpa using z, by simpa using r⟩
theorem FzL.stay {K : PySem.W.Frag} {H H' : Hp} {a : Addr} {xs : List V} (h : FzL K H a xs) (s : Stay H H') : FzL K H' a xs := h.imp (fun ⟨o, e⟩ => ⟨o, s _ _ e rfl⟩) id
theorem SqT.stay {K : PySem.W.Frag} {H H' : Hp} {a : Addr} {xs : List V} (h : SqT K H a xs) (s : Stay H H') : SqT K H' a xs := h.imp (fun h => h.imp (fun e => s _ _ e rfl) fun ⟨o, e⟩ => ⟨o, s _ _ e rfl⟩) id

mutual
/-- a value stands for a datum that nobody changes -/
inductive Rep (K : PySem.W.Frag) (H : Hp) : V → PyData → Prop
  | non : Rep K H .non .none
  | bl (b : Bool) : Rep K H (.bl b) (.bool b)
  | int (i : Int) : Rep K H (.int i) (.int i)
  | str (x : Str) : PyData.strOk x = true → Rep K H (.str x) (.str x)
  | lst {a : Addr} {xs : List V} {ds : List PyData} : FzL K H a xs → Reps K H xs ds → Rep K H (.ref a) (.list ds)
  | tup {a : Addr} {xs : List V} {ds : List PyData} : SqT K H a xs → Reps K H xs ds → Rep K H (.ref a) (.tuple ds)
inductive Reps (K : PySem.W.Frag) (H : Hp) : List V → List PyData → Prop
  | nil : Reps K H [] []
  | cons {v : V} {vs : List V} {d : PyData} {ds : List PyData} : Rep K H v d → Reps K H vs ds → Reps K H (v :: vs) (d :: ds)
end
section
variable {K : PySem.W.Frag} {H H' : Hp}
mutual
theorem Rep.stay (s : Stay H H') : ∀ (d : PyData) (v : V), Rep K H v d → Rep K H' v d
  | .none, _, h => by cases h; exact .non
  | .bool _, _, h => by cases h; exact .bl _
  | .int _, _, h => by cases h; exact .int _
  | .str _, _, h => by cases h with | str _ k => exact .str _ k
  | .list ds, _, h => by cases h with | lst a b => exact .lst (a.stay s) (Reps.stay s ds _ b)
  | .tuple ds, _, h => by cases h with | tup a b => exact .tup (SqT.stay a s) (Reps.stay s ds _ b)
  | .dict _, _, h => by cases h
theorem Reps.stay (s : Stay H H') : ∀ (ds : List PyData) (vs : List V), Reps K H vs ds → Reps K H' vs ds
  | [], _, h => by cases h; exact .nil
  | d :: ds, _, h => by cases h with | cons a b => exact .cons (Rep.stay s d _ a) (Reps.stay s ds _ b)
end
mutual
theorem Rep.dp : ∀ (d : PyData) (v : V), Rep K H v d → Dp K H v d
  | .none, _, h => by cases h; exact .non
  | .bool _, _, h => by cases h; exact .bl _
  | .int _, _, h => by cases h; exact .int _
  | .str _, _, h => by cases h with | str _ k => exact .str _
  | .list ds, _, h => by cases h with | lst a b => exact .lst a.sq (Reps.dp ds _ b)
  | .tuple ds, _, h => by cases h with | tup a b => exact .tup a (Reps.dp ds _ b)
  | .dict _, _, h => by cases h
theorem Reps.dp : ∀ (ds : List PyData) (vs : List V), Reps K H vs ds → DpAll K H vs ds
  | [], _, h => by cases h; exact .nil
  | d :: ds, _, h => by cases h with | cons a b => exact .cons (Rep.dp d _ a) (Reps.dp ds _ b)
end
mutual
theorem Rep.lay : ∀ (d : PyData) (v : V), Rep K H v d → d.canLay0 = true
  | .none, _, h => rfl
  | .bool _, _, h => rfl
  | .int _, _, h => rfl
  | .str _, _, h => by cases h with | str _ k => simpa [PyData.canLay0] using k
  | .list ds, _, h => by cases h with | lst a b => simpa [PyData.canLay0] using Reps.lay ds _ b
  | .tuple ds, _, h => by cases h with | tup a b => simpa [PyData.canLay0] using Reps.lay ds _ b
  | .dict _, _, h => by cases h
theorem Reps.lay : ∀ (ds : List PyData) (vs : List V), Reps K H vs ds → PyData.canLayAll0 ds = true
  | [], _, h => by simp [PyData.canLayAll0]
  | d :: ds, _, h => by
    cases h with
    | cons a b => simp [PyData.canLayAll0, Rep.lay d _ a, Reps.lay ds _ b]
end
theorem Reps.length : ∀ {vs : List V} {ds : List PyData}, Reps K H vs ds → vs.length = ds.length
  | _, _, .nil => rfl
  | _, _, .cons _ t => by rw [List.length_cons, List.length_cons, Reps.length t]
theorem Reps.get : ∀ {vs : List V} {ds : List PyData} {i : Nat} {d : PyData}, Reps K H vs ds → ds[i]? = some d → ∃ v, vs[i]? = some v ∧ Rep K H v d
  | _, _, _, _, .nil, e => by simp at e
  | _, _, 0, _, .cons r _, e => by simp at e; subst e; exact ⟨_, rfl, r⟩
  | _, _, i + 1, d, .cons _ t, e => by
    obtain ⟨u, h1, h2⟩ := Reps.get (i := i) (d := d) t (by simpa using e)
    exact ⟨u, by simpa using h1, h2⟩
theorem Reps.getV : ∀ {vs : List V} {ds : List PyData} {i : Nat} {v : V}, Reps K H vs ds → vs[i]? = some v → ∃ d, ds[i]? = some d ∧ Rep K H v d
  | _, _, _, _, .nil, e => by simp at e
  | _, _, 0, _, .cons r _, e => by simp at e; subst e; exact ⟨_, rfl, r⟩
  | _, _, i + 1, d, .cons _ t, e => by
    obtain ⟨u, h1, h2⟩ := Reps.getV (i := i) (v := d) t (by simpa using e)
    exact ⟨u, by simpa using h1, h2⟩
theorem Reps.app : ∀ {vs ws : List V} {ds es : List PyData}, Reps K H vs ds → Reps K H ws es → Reps K H (vs ++ ws) (ds ++ es)
  | _, _, _, _, .nil, s => s
  | _, _, _, _, .cons r t, s => .cons r (Reps.app t s)
theorem Reps.take : ∀ {vs : List V} {ds : List PyData} (n : Nat), Reps K H vs ds → Reps K H (vs.take n) (ds.take n)
  | _, _, 0, _ => .nil
  | _, _, _ + 1, .nil => .nil
  | _, _, n + 1, .cons r t => .cons r (Reps.take n t)
theorem Reps.drop : ∀ {vs : List V} {ds : List PyData} (n : Nat), Reps K H vs ds → Reps K H (vs.drop n) (ds.drop n)
  | _, _, 0, r => r
  | _, _, _ + 1, .nil => .nil
  | _, _, n + 1, .cons _ t => Reps.drop n t
theorem Reps.set {v : V} {d : PyData} (r : Rep K H v d) : ∀ {vs : List V} {ds : List PyData} (i : Nat), Reps K H vs ds → Reps K H (vs.set i v) (ds.set i d)
  | _, _, _, .nil => .nil
  | _, _, 0, .cons _ t => .cons r t
  | _, _, i + 1, .cons q t => .cons q (Reps.set r i t)
theorem Reps.ints : ∀ ns : List Int, Reps K H (ns.map V.int) (ns.map PyData.int)
  | [] => .nil
  | n :: ns => .cons (.int n) (Reps.ints ns)
end

/-- fields of an instance -/
abbrev RepFs (K : PySem.W.Frag) (H : Hp) : List (Str × V) → List (Str × PyData) → Prop := Paired fun (p : Str × V) (q : Str × PyData) => p.1 = q.1 ∧ Rep K H p.2 q.2
theorem RepFs.stay {K : PySem.W.Frag} {H H' : Hp} (s : Stay H H') {vs : List (Str × V)} {ds : List (Str × PyData)} (r : RepFs K H vs ds) : RepFs K H' vs ds := Paired.mapP r fun _ _ h => ⟨h.1, Rep.stay s _ _ h.2⟩
theorem RepFs.lookup {K : PySem.W.Frag} {H : Hp} {f : Str} : ∀ {vs : List (Str × V)} {ds : List (Str × PyData)} {d : PyData}, RepFs K H vs ds → ds.lookup f = some d → ∃ v, vs.lookup f = some v ∧ Rep K H v d
  | _, _, _, .nil, e => by cases e
  | _, _, d, .cons (a := p) (b := q) r t, e => by
    obtain ⟨n, v⟩ := p
    obtain ⟨m, x⟩ := q
    obtain ⟨h1, h2⟩ := r
    dsimp only at h1 h2
    subst h1
    rw [List.lookup_cons] at e ⊢
    cases hb : (f == n) with
    | true =>
      rw [hb] at e
      cases e
      exact ⟨v, rfl, h2⟩
    | false =>
      rw [hb] at e
      exact RepFs.lookup t e
theorem RepFs.lookup_none {K : PySem.W.Frag} {H : Hp} {f : Str} : ∀ {vs : List (Str × V)} {ds : List (Str × PyData)}, RepFs K H vs ds → ds.lookup f = none → vs.lookup f = none
  | _, _, .nil, e => rfl
  | _, _, .cons (a := p) (b := q) r t, e => by
    obtain ⟨n, v⟩ := p
    obtain ⟨m, x⟩ := q
    obtain ⟨h1, h2⟩ := r
    dsimp only at h1 h2
    subst h1
    rw [List.lookup_cons] at e ⊢
    cases hb : (f == n) with
    | true =>
      rw [hb] at e
      cases e
    | false =>
      rw [hb] at e
      exact RepFs.lookup_none t e

/-- where the text's classes, errors and defs stand -/
structure AM where
  cls : Nat → Addr
  exc : Nat → Value
  fn : Nat → Addr
/-- errors in hand -/
abbrev XT := List (Addr × Value × Option Addr)
inductive SRep (K : PySem.W.Frag) (G : AM) (T : XT) (H : Hp) : V → SV → Prop
  | d {v : V} {x : PyData} : Rep K H v x → SRep K G T H v (.d x)
  | fn (k : Nat) : SRep K G T H (.ref (G.fn k)) (.fn k)
  | obj {a dx : Addr} {o : Obj} {C : Nat} {fvs : List (Str × V)} {fs : List (Str × PyData)} : H a = some (.frz o (.ins (G.cls C) dx fvs)) → RepFs K H fvs fs → SRep K G T H (.ref a) (.obj C fs)
  | exc {a d : Addr} {C : Nat} {fvs : List (Str × V)} {fs : List (Str × PyData)} : (a, G.exc C, some d) ∈ T → H d = some (.xd fvs) → RepFs K H fvs fs → SRep K G T H (.ref a) (.exc C fs)
  | exc0 {a : Addr} {C : Nat} : (a, G.exc C, none) ∈ T → SRep K G T H (.ref a) (.exc C [])
  | olst {a : Addr} {vs : List V} {xs : List PyData} : H a = some (.lst vs) → Reps K H vs xs → SRep K G T H (.ref a) (.olst xs)
  | oobj {a dx : Addr} {C : Nat} {fvs : List (Str × V)} {fs : List (Str × PyData)} : H a = some (.ins (G.cls C) dx fvs) → RepFs K H fvs fs → SRep K G T H (.ref a) (.oobj C fs)
section
variable {K : PySem.W.Frag} {G : AM} {T : XT} {H H' : Hp}
theorem SRep.stay (s : Stay H H') {v : V} {sv : SV} (h : SRep K G T H v sv) (n : sv.isOwn = false) : SRep K G T H' v sv := by
  cases h with
  | d r => exact .d (Rep.stay s _ _ r)
  | fn k => exact .fn k
  | obj e r => exact .obj (s _ _ e rfl) (r.stay s)
  | exc m e r => exact .exc m (s _ _ e rfl) (r.stay s)
  | exc0 m => exact .exc0 m
  | olst e r => cases n
  | oobj e r => cases n
/-- an owned value stays where its own object does -/
theorem SRep.stayO (s : Stay H H') {v : V} {sv : SV} (h : SRep K G T H v sv) (n : ∀ a o, v = .ref a → H a = some o → HOwn o = true → H' a = some o) : SRep K G T H' v sv := by
  cases h with
  | d r => exact .d (Rep.stay s _ _ r)
  | fn k => exact .fn k
  | obj e r => exact .obj (s _ _ e rfl) (r.stay s)
  | exc m e r => exact .exc m (s _ _ e rfl) (r.stay s)
  | exc0 m => exact .exc0 m
  | olst e r => exact .olst (n _ _ rfl e rfl) (Reps.stay s _ _ r)
  | oobj e r => exact .oobj (n _ _ rfl e rfl) (r.stay s)
theorem SRep.ext (e : Ext H H') {v : V} {sv : SV} (h : SRep K G T H v sv) : SRep K G T H' v sv := h.stayO e.stay fun a o _ x _ => e a o x
/-- an owned value's object -/
theorem SRep.owns {v : V} {sv : SV} (h : SRep K G T H v sv) (n : sv.isOwn = true) : ∃ a o, v = .ref a ∧ H a = some o ∧ HOwn o = true := by
  cases h with
  | olst e r => exact ⟨_, _, rfl, e, rfl⟩
  | oobj e r => exact ⟨_, _, rfl, e, rfl⟩
  | _ => cases n
end

/-! ### environments -/
structure EnvR (K : PySem.W.Frag) (G : AM) (T : XT) (σ : St) (H : Hp) (ρ : Env) : Prop where
  len : σ.length = ρ.length
  at_ : ∀ (i : Nat) (sv : SV), ρ[i]? = some (some sv) → ∃ v, σ[i]? = some (some v) ∧ SRep K G T H v sv
  sep : ∀ (i j : Nat) (sv sv' : SV) (v : V), ρ[i]? = some (some sv) → ρ[j]? = some (some sv') → sv.isOwn = true → sv'.isOwn = true → σ[i]? = some (some v) → σ[j]? = some (some v) → i = j
/-- the addresses of the owned things -/
def Ow (σ : St) (ρ : Env) (b : Addr) : Prop := ∃ (i : Nat) (sv : SV), ρ[i]? = some (some sv) ∧ sv.isOwn = true ∧ σ[i]? = some (some (.ref b))
section
variable {K : PySem.W.Frag} {G : AM} {T : XT} {σ σ' σ2 : St} {H H' H1 H2 : Hp} {ρ ρ' ρ1 ρ2 : Env} {pin : List Nat}
theorem EnvR.own (e : EnvR K G T σ H ρ) {b : Addr} (h : Ow σ ρ b) : ∃ o, H b = some o ∧ HOwn o = true := by
  obtain ⟨i, sv, h1, h2, h3⟩ := h
  obtain ⟨v, q, r⟩ := e.at_ i sv h1
  rw [h3] at q
  cases q
  obtain ⟨a, o, ea, q1, q2⟩ := r.owns h2
  cases ea
  exact ⟨o, q1, q2⟩
theorem EnvR.get (e : EnvR K G T σ H ρ) {i : Nat} {sv : SV} (h : getS ρ i = some sv) : ∃ v, σ[i]? = some (some v) ∧ SRep K G T H v sv := by
  refine e.at_ i sv ?_
  unfold getS at h
  cases q : ρ[i]? with
  | none => rw [q] at h; cases h
  | some o => rw [q] at h; exact congrArg some h
theorem getS_at {i : Nat} {sv : SV} (h : getS ρ i = some sv) : ρ[i]? = some (some sv) := by
  unfold getS at h
  cases q : ρ[i]? with
  | none => rw [q] at h; cases h
  | some o => rw [q] at h; exact congrArg some h
theorem getS_of {i : Nat} {sv : SV} (h : ρ[i]? = some (some sv)) : getS ρ i = some sv := by
  unfold getS
  rw [h]
  rfl
theorem EnvR.ext (e : EnvR K G T σ H ρ) (x : Ext H H') : EnvR K G T σ H' ρ :=
  ⟨e.len, fun i sv h => let ⟨v, h1, h2⟩ := e.at_ i sv h; ⟨v, h1, h2.ext x⟩, e.sep⟩
/-- what a run leaves -/
structure Post (K : PySem.W.Frag) (G : AM) (T : XT) (pin : List Nat) (σ σ' : St) (H H' : Hp) (ρ ρ' : Env) : Prop where
  env : EnvR K G T σ' H' ρ'
  keep : ∀ b o, H b = some o → ¬ Ow σ ρ b → H' b = some o
  own : ∀ b, Ow σ' ρ' b → Ow σ ρ b ∨ H b = none
  dom : ∀ b o, H b = some o → ∃ o', H' b = some o'
  pins : ∀ i ∈ pin, σ'[i]? = σ[i]?
theorem Post.refl (e : EnvR K G T σ H ρ) : Post K G T pin σ σ H H ρ ρ := ⟨e, fun _ _ h _ => h, fun _ h => .inl h, fun _ o h => ⟨o, h⟩, fun _ _ => rfl⟩
theorem Post.trans (a : Post K G T pin σ σ' H H1 ρ ρ1) (b : Post K G T pin σ' σ2 H1 H2 ρ1 ρ2) : Post K G T pin σ σ2 H H2 ρ ρ2 where
  env := b.env
  keep := fun c o h n => b.keep c o (a.keep c o h n) fun w => (a.own c w).elim n fun z => by rw [h] at z; cases z
  own := fun c w => (b.own c w).elim (fun w => a.own c w) fun z => by
    cases h : H c with
    | none => exact .inr rfl
    | some o =>
      obtain ⟨o', q⟩ := a.dom c o h
      rw [z] at q; cases q
  dom := fun c o h => let ⟨o', q⟩ := a.dom c o h; b.dom c o' q
  pins := fun i hi => (b.pins i hi).trans (a.pins i hi)
theorem Post.stay (p : Post K G T pin σ σ' H H' ρ ρ') (e : EnvR K G T σ H ρ) : Stay H H' := fun b o h n => p.keep b o h fun w => by
  obtain ⟨o', h1, h2⟩ := e.own w
  rw [h] at h1
  cases h1
  rw [n] at h2
  cases h2
theorem Post.ext (e : EnvR K G T σ H ρ) (x : Ext H H') : Post K G T pin σ σ H H' ρ ρ := ⟨e.ext x, fun b o h _ => x b o h, fun _ h => .inl h, fun b o h => ⟨o, x b o h⟩, fun _ _ => rfl⟩
/-- a value in flight: data, or a new owned thing -/
def Fresh (H : Hp) (σ : St) (ρ : Env) (v : V) (sv : SV) : Prop := sv.isOwn = true → ∃ a, v = .ref a ∧ H a = none ∧ ¬ Ow σ ρ a
theorem Fresh.no {H : Hp} {σ : St} {ρ : Env} {v : V} {sv : SV} (h : sv.isOwn = false) : Fresh H σ ρ v sv := fun z => by rw [h] at z; cases z
theorem SRep.post {v : V} {sv : SV} (r : SRep K G T H v sv) (e : EnvR K G T σ H ρ) (f : Fresh H1 σ ρ v sv) (p : Post K G T pin σ σ' H H' ρ ρ') : SRep K G T H' v sv := by
  cases n : sv.isOwn with
  | false => exact r.stay (p.stay e) n
  | true =>
    obtain ⟨a, ev, _, nw⟩ := f n
    exact r.stayO (p.stay e) fun b o eb hb _ => by
      rw [ev] at eb
      cases eb
      exact p.keep _ o hb nw
/-- .. and it is still new behind more -/
theorem Fresh.post {v : V} {sv : SV} (f : Fresh H σ ρ v sv) (r : SRep K G T H1 v sv) (p : Post K G T pin σ σ' H1 H' ρ ρ') : Fresh H σ' ρ' v sv := fun n => by
  obtain ⟨a, ev, h1, h2⟩ := f n
  obtain ⟨a', o, ev', h3, _⟩ := r.owns n
  rw [ev] at ev'
  cases ev'
  exact ⟨a, ev, h1, fun w => (p.own a w).elim h2 fun z => by rw [h3] at z; cases z⟩
theorem Fresh.back {v : V} {sv : SV} (f : Fresh H1 σ ρ v sv) (d : ∀ b o, H b = some o → ∃ o', H1 b = some o') : Fresh H σ ρ v sv := fun n => by
  obtain ⟨a, ev, h1, h2⟩ := f n
  refine ⟨a, ev, ?_, h2⟩
  cases q : H a with
  | none => rfl
  | some o =>
    obtain ⟨o', z⟩ := d a o q
    rw [h1] at z
    cases z
/-- a slot is stored -/
theorem EnvR.set {i : Nat} {v : V} {sv : SV} (e : EnvR K G T σ H ρ) (r : SRep K G T H v sv) (f : sv.isOwn = true → ∀ a, v = .ref a → ¬ Ow σ ρ a) : EnvR K G T (σ.set i (some v)) H (ρ.set i (some sv)) := by
  refine ⟨by rw [List.length_set, List.length_set]; exact e.len, fun j s h => ?_, fun j k s s' u h1 h2 o1 o2 g1 g2 => ?_⟩
  · by_cases hj : i = j
    · subst hj
      by_cases hl : i < ρ.length
      · rw [List.getElem?_set_self hl] at h
        cases h
        exact ⟨v, List.getElem?_set_self (by rw [e.len]; exact hl), r⟩
      · rw [List.getElem?_eq_none (by rw [List.length_set]; omega)] at h
        cases h
    · rw [List.getElem?_set_ne hj] at h
      obtain ⟨w, q, rr⟩ := e.at_ j s h
      exact ⟨w, by rw [List.getElem?_set_ne hj]; exact q, rr⟩
  · have own_at : ∀ (j : Nat) (s : SV), (ρ.set i (some sv))[j]? = some (some s) → s.isOwn = true → (σ.set i (some v))[j]? = some (some u) → (j = i ∧ u = v ∧ sv.isOwn = true) ∨ (j ≠ i ∧ ρ[j]? = some (some s) ∧ σ[j]? = some (some u)) := fun j s h o g => by
      by_cases hj : i = j
      · subst hj
        by_cases hl : i < ρ.length
        · rw [List.getElem?_set_self hl] at h
          rw [List.getElem?_set_self (by rw [e.len]; exact hl)] at g
          cases h
          cases g
          exact .inl ⟨rfl, rfl, o⟩
        · rw [List.getElem?_eq_none (by rw [List.length_set]; omega)] at h
          cases h
      · rw [List.getElem?_set_ne hj] at h g
        exact .inr ⟨fun z => hj z.symm, h, g⟩
    rcases own_at j s h1 o1 g1 with ⟨a1, a2, a3⟩ | ⟨a1, a2, a3⟩ <;> rcases own_at k s' h2 o2 g2 with ⟨b1, b2, b3⟩ | ⟨b1, b2, b3⟩
    · rw [a1, b1]
    · exfalso
      obtain ⟨a, o, ev, _, _⟩ := r.owns a3
      refine f a3 a ev ⟨k, s', b2, o2, ?_⟩
      rw [b3, a2, ev]
    · exfalso
      obtain ⟨a, o, ev, _, _⟩ := r.owns b3
      refine f b3 a ev ⟨j, s, a2, o1, ?_⟩
      rw [a3, b2, ev]
    · exact e.sep j k s s' u a2 b2 o1 o2 a3 b3
theorem Ow.of_set {i : Nat} {v : V} {sv : SV} (hl : σ.length = ρ.length) {b : Addr} (h : Ow (σ.set i (some v)) (ρ.set i (some sv)) b) : Ow σ ρ b ∨ (v = .ref b ∧ sv.isOwn = true) := by
  obtain ⟨j, s, h1, h2, h3⟩ := h
  by_cases hj : i = j
  · subst hj
    by_cases hlt : i < ρ.length
    · rw [List.getElem?_set_self hlt] at h1
      rw [List.getElem?_set_self (by rw [hl]; exact hlt)] at h3
      cases h1
      cases h3
      exact .inr ⟨rfl, h2⟩
    · rw [List.getElem?_eq_none (by rw [List.length_set]; omega)] at h1
      cases h1
  · rw [List.getElem?_set_ne hj] at h1 h3
    exact .inl ⟨j, s, h1, h2, h3⟩
theorem Post.set {i : Nat} {v : V} {sv : SV} (e : EnvR K G T σ H ρ) (r : SRep K G T H v sv) (f : Fresh H1 σ ρ v sv) (d : ∀ b o, H1 b = some o → ∃ o', H b = some o') (p : Post K G T pin σ' σ H1 H ρ' ρ) (hi : i ∉ pin) : Post K G T pin σ' (σ.set i (some v)) H1 H ρ' (ρ.set i (some sv)) := by
  refine ⟨e.set r fun n a ev => ?_, p.keep, fun b w => ?_, p.dom, fun j hj => ?_⟩
  · obtain ⟨a', ev', _, h⟩ := f n
    rw [ev] at ev'
    cases ev'
    exact h
  · rcases Ow.of_set e.len w with w | ⟨ev, n⟩
    · exact p.own b w
    · obtain ⟨a', ev', h, _⟩ := f n
      rw [ev] at ev'
      cases ev'
      exact .inr h
  · rw [List.getElem?_set_ne (fun z : i = j => hi (by rw [z]; exact hj))]
    exact p.pins j hj
end
end EV

/-! The small language and what it means. -/
namespace EV
open PySem PySem.Spec PyProof.Rows L2

inductive BOp where
  | add | sub | mul | fdiv | mod | pow
  deriving DecidableEq
inductive COp where
  | eq | ne | lt | le | gt | ge | in_ | notIn | isN | notN
  deriving DecidableEq
inductive BF where
  | len | abs | max1 | min1 | max2 | min2 | all | any | repr | int | tuple | list
  deriving DecidableEq
inductive Ty where
  | int | bool | str | list | tuple
  deriving DecidableEq
inductive IK where
  | val | range1 | range2 | enum | own (i : Nat)
  deriving DecidableEq
inductive Tg where
  | one (i : Nat)
  | many (is : List Nat)
  deriving DecidableEq
inductive C where
  | none | bl (b : Bool) | int (i : Int) | str (s : Str)
  | var (i : Nat) | gl (k : Nat) | gfn (k : Nat)
  | bin (o : BOp) (a b : C) | neg (a : C)
  | cmp (o : COp) (a b : C) | cmp2 (o p : COp) (a b c : C) | cmpO (o : COp) (a : C) (i : Nat)
  | not (a : C) | and (a b : C) | or (a b : C) | ife (c a b : C)
  | idx (a i : C) | idxO (i : Nat) (a : C) | slc (a lo hi : C) | fld (a : C) (f : Str) | efld (i : Nat) (f : Str)
  | tup (es : C) | lst (es : C) | nil | cons (a b : C) | frz (a : C)
  | isx (i k : Nat) | mkf (X : Nat) (ks : List Str) (perm : List Nat) (cs : List PyData) (f : Str)
  | lrg (a b : C) | bf (f : BF) (es : C) | lenO (i : Nat) | isi (a : C) (ts : List Ty)
  | call (k : Nat) (as : C) | refv (i : Nat)
  | comp (own : List Nat) (tg : Tg) (ik : IK) (it cond elt : C)
  -- statements
  | skip | seq (a b : C) | asg (tg : Tg) (e : C) | par (is : List Nat) (es : C) | asgI (i : Nat) (ix e : C) | aug (i : Nat) (o : BOp) (e : C)
  | app (i : Nat) (e : C) | ext (i : Nat) (e : C) | ins (i : Nat) (ix e : C) | ex (e : C) | ret (e : C)
  | ifs (c a b : C) | fors (tg : Tg) (ik : IK) (it body : C) | whl (fuel : Nat) (c body : C)
  | raise (X : Nat) (es : C) | tryx (body hs : C) | hnd (X : Nat) (slot : Option Nat) (suite rest : C)

/-! ### operations on data -/
def asB : SV → Option Bool
  | .d (.bool b) => some b
  | _ => Option.none
def asD : SV → Option PyData
  | .d x => some x
  | _ => Option.none
def allD : List SV → Option (List PyData)
  | [] => some []
  | .d x :: r => (allD r).map (x :: ·)
  | _ :: _ => Option.none
def asInts : List PyData → Option (List Int)
  | [] => some []
  | .int x :: r => (asInts r).map (x :: ·)
  | _ :: _ => Option.none
def asBools : List PyData → Option (List Bool)
  | [] => some []
  | .bool x :: r => (asBools r).map (x :: ·)
  | _ :: _ => Option.none
/-- the items of a list or tuple -/
def itemsOf : SV → Option (List PyData)
  | .d (.list xs) => some xs
  | .d (.tuple xs) => some xs
  | .olst xs => some xs
  | _ => Option.none
def seqD : SV → Option (List PyData)
  | .d (.list xs) => some xs
  | .d (.tuple xs) => some xs
  | _ => Option.none
def lstOf : SV → Option (List PyData)
  | .d (.list xs) => some xs
  | .olst xs => some xs
  | _ => Option.none
def small64 (a : Int) : Bool := decide (-(2 ^ 64) < a) && decide (a < 2 ^ 64)
def line : Nat := 16777216
def addD : SV → SV → Option SV
  | .d (.int a), .d (.int b) => some (.d (.int (a + b)))
  | .d (.str a), .d (.str b) => if a.length + b.length ≤ line then some (.d (.str (a ++ b))) else Option.none
  | .d (.tuple a), .d (.tuple b) => if a.length + b.length ≤ line then some (.d (.tuple (a ++ b))) else Option.none
  | x, y => match lstOf x, lstOf y with
    | some a, some b => if a.length + b.length ≤ line then some (.olst (a ++ b)) else Option.none
    | _, _ => Option.none
def subD : SV → SV → Option SV
  | .d (.int a), .d (.int b) => some (.d (.int (a - b)))
  | _, _ => Option.none
def mulD : SV → SV → Option SV
  | .d (.int a), .d (.int b) => if small64 a || small64 b then some (.d (.int (a * b))) else Option.none
  | _, _ => Option.none
def fdivD : SV → SV → Option SV
  | .d (.int a), .d (.int b) => if decide (0 < b) && decide (b < 2 ^ 64) then some (.d (.int (a / b))) else Option.none
  | _, _ => Option.none
def modD : SV → SV → Option SV
  | .d (.int a), .d (.int b) => if decide (0 < b) then some (.d (.int (a % b))) else Option.none
  | _, _ => Option.none
def powD : SV → SV → Option SV
  | .d (.int a), .d (.int b) => if decide (0 ≤ b) && decide (b ≤ 1000000) && small64 a then some (.d (.int (a ^ b.toNat))) else Option.none
  | _, _ => Option.none
def binop (o : BOp) (x y : SV) : Option SV := match o with
  | .add => addD x y
  | .sub => subD x y
  | .mul => mulD x y
  | .fdiv => fdivD x y
  | .mod => modD x y
  | .pow => powD x y
def memD (x : PyData) : List PyData → Bool
  | [] => false
  | y :: ys => PyData.eqv y x || memD x ys
def eqD (x y : PyData) : Option Bool := if min x.depth y.depth ≤ 60 then some (PyData.eqv x y) else Option.none
/-- x in ys: each item's == with x is within the depth -/
def inD (x : PyData) (ys : List PyData) : Option Bool := if x.depth ≤ 60 then some (memD x ys) else Option.none
def toD : SV → Option PyData
  | .d x => some x
  | .olst xs => some (.list xs)
  | _ => Option.none
def isNn : SV → Bool
  | .d .none => true
  | _ => false
def cmpop (o : COp) (x y : SV) : Option SV :=
  match o with
  | .eq => match toD x, toD y with
    | some a, some b => (eqD a b).map fun t => .d (.bool t)
    | _, _ => Option.none
  | .ne => match toD x, toD y with
    | some a, some b => (eqD a b).map fun t => .d (.bool !t)
    | _, _ => Option.none
  | .in_ => match x, itemsOf y with
    | .d a, some b => (inD a b).map fun t => .d (.bool t)
    | _, _ => Option.none
  | .notIn => match x, itemsOf y with
    | .d a, some b => (inD a b).map fun t => .d (.bool !t)
    | _, _ => Option.none
  | .lt => match x, y with
    | .d (.int a), .d (.int b) => some (.d (.bool (decide (a < b))))
    | _, _ => Option.none
  | .le => match x, y with
    | .d (.int a), .d (.int b) => some (.d (.bool (decide (a ≤ b))))
    | _, _ => Option.none
  | .gt => match x, y with
    | .d (.int a), .d (.int b) => some (.d (.bool (decide (b < a))))
    | _, _ => Option.none
  | .ge => match x, y with
    | .d (.int a), .d (.int b) => some (.d (.bool (decide (b ≤ a))))
    | _, _ => Option.none
  | .isN => some (.d (.bool (isNn x)))
  | .notN => some (.d (.bool !isNn x))
def idxD (x : SV) (i : SV) : Option SV := match i with
  | .d (.int k) => (match x with
    | .d (.str z) => if z.length ≤ line then (atI z.cps.toList k).map fun c => .d (.str ⟨#[c]⟩) else Option.none
    | x => (itemsOf x).bind fun xs => (atI xs k).map .d)
  | _ => Option.none
def cut {α : Type} (xs : List α) (lo hi : Option Int) : List α := (xs.drop (HT.sIx xs.length 0 lo)).take (HT.sIx xs.length xs.length hi - HT.sIx xs.length 0 lo)
def C.isNone : C → Bool
  | .none => true
  | _ => false
/-- a bound of a slice -/
def bound? (n : Bool) (x : SV) : Option (Option Int) := if n then some Option.none else match x with
  | .d (.int k) => some (some k)
  | _ => Option.none
def sliceD (x : SV) (l h : Option Int) : Option SV := match x with
  | .d (.list xs) => some (.olst (cut xs l h))
  | .d (.tuple xs) => some (.d (.tuple (cut xs l h)))
  | .d (.str z) => if z.length ≤ line then some (.d (.str (cutS z l h))) else Option.none
  | _ => Option.none
def hasTy : PyData → Ty → Bool
  | .int _, .int => true
  | .bool _, .int => true
  | .bool _, .bool => true
  | .str _, .str => true
  | .list _, .list => true
  | .tuple _, .tuple => true
  | _, _ => false
def bLen (x : SV) : Option SV := match x with
  | .d (.str t) => if t.length ≤ line then some (.d (.int t.length)) else Option.none
  | x => (itemsOf x).map fun xs => .d (.int xs.length)
def bAbs (x : SV) : Option SV := match x with
  | .d (.int a) => some (.d (.int (if a < 0 then -a else a)))
  | _ => Option.none
def bFold (f : Int → Int → Int) (x : SV) : Option SV := match lstOf x with
  | some xs => match asInts xs with
    | some (a :: r) => some (.d (.int (r.foldl f a)))
    | _ => Option.none
  | _ => Option.none
def bBools (f : List Bool → Bool) (x : SV) : Option SV := match lstOf x with
  | some xs => (asBools xs).map fun bs => .d (.bool (f bs))
  | _ => Option.none
def bRepr (x : SV) : Option SV := match x with
  | .d x => if x.showable && decide (x.shown.length ≤ line) && !x.hasDict && decide (x.depth ≤ 60) && PyData.strOk x.shown then some (.d (.str x.shown)) else Option.none
  | _ => Option.none
def bInt (x : SV) : Option SV := match x with
  | .d (.int a) => some (.d (.int a))
  | .d (.bool b) => some (.d (.int (if b then 1 else 0)))
  | _ => Option.none
def b1 (f : BF) (x : SV) : Option SV := match f with
  | .len => bLen x
  | .abs => bAbs x
  | .max1 => bFold (fun m b => if b > m then b else m) x
  | .min1 => bFold (fun m b => if b < m then b else m) x
  | .all => bBools (fun bs => bs.all id) x
  | .any => bBools (fun bs => bs.any id) x
  | .repr => bRepr x
  | .int => bInt x
  | .tuple => (itemsOf x).map fun xs => .d (.tuple xs)
  | .list => (itemsOf x).map fun xs => .olst xs
  | _ => Option.none
def b2 (f : BF) (x y : SV) : Option SV := match f with
  | .max2 => (match x, y with
    | .d (.int a), .d (.int b) => some (.d (.int (if b > a then b else a)))
    | _, _ => Option.none)
  | .min2 => (match x, y with
    | .d (.int a), .d (.int b) => some (.d (.int (if b < a then b else a)))
    | _, _ => Option.none)
  | _ => Option.none
def bfun (f : BF) (xs : List SV) : Option SV := match xs with
  | [x] => b1 f x
  | [x, y] => b2 f x y
  | _ => Option.none
/-- a range's numbers -/
def rangeD (a b : Int) : Option (List PyData) := if decide (-(2 ^ 62) ≤ a) && decide (a < 2 ^ 62) && decide (-(2 ^ 62) ≤ b) && decide (b < 2 ^ 62) && decide (b - a ≤ (line : Int)) then some ((List.range (b - a).toNat).map fun k => .int (a + (k : Nat))) else Option.none
def asInt (x : SV) : Option Int := match x with
  | .d (.int a) => some a
  | _ => Option.none
def enumD (xs : List PyData) : List PyData := xs.zipIdx.map fun p => .tuple [.int (p.2 : Nat), p.1]
/-- what a loop walks -/
def iterD (k : IK) (xs : List SV) : Option (List PyData) := match k with
  | .val => (match xs with
    | [.d (.str z)] => if z.length ≤ line then some (z.cps.toList.map fun c => .str ⟨#[c]⟩) else Option.none
    | [x] => seqD x
    | _ => Option.none)
  | .range1 => (match xs with
    | [x] => (asInt x).bind fun b => rangeD 0 b
    | _ => Option.none)
  | .range2 => (match xs with
    | [x, y] => (asInt x).bind fun a => (asInt y).bind fun b => rangeD a b
    | _ => Option.none)
  | .enum => (match xs with
    | [x] => (seqD x).map enumD
    | _ => Option.none)
  | .own _ => Option.none
def setMany (ρ : Env) : List Nat → List PyData → Option Env
  | [], [] => some ρ
  | i :: is, x :: xs => setMany (ρ.set i (some (.d x))) is xs
  | _, _ => Option.none
def setAll (ρ : Env) : List Nat → List SV → Env
  | i :: is, x :: xs => setAll (ρ.set i (some x)) is xs
  | _, _ => ρ
/-- a target gets a datum -/
def setT (tg : Tg) (x : PyData) (ρ : Env) : Option Env := match tg with
  | .one i => some (ρ.set i (some (.d x)))
  | .many is => match x with
    | .tuple xs => setMany ρ is xs
    | _ => Option.none
def tgs : Tg → List Nat
  | .one i => [i]
  | .many is => is
def wipeE (ρ : Env) : List Nat → Env
  | [] => ρ
  | v :: vs => (wipeE ρ vs).set v Option.none
/-- the names of a comprehension get what they had -/
def backE (ρ0 ρ : Env) : List Nat → Env
  | [] => ρ
  | v :: vs => (backE ρ0 ρ vs).set v (ρ0[v]?).join

/-- more turns than any loop takes -/
def FUEL : Nat := 2 ^ 200

/-! ### defs -/
inductive FR where
  | ok (r : SV) (outs : List SV)
  | err (e : Err) (outs : List SV)
  | stuck
abbrev Fm := List SV → FR
def SV.plain : SV → Bool
  | .exc _ _ => false
  | _ => true
inductive Arg where
  | v (x : SV)
  | r (i : Nat)
def refsOf : List Arg → List Nat
  | [] => []
  | .v _ :: l => refsOf l
  | .r i :: l => i :: refsOf l
def resolve (ρ : Env) : List Arg → Option (List SV)
  | [] => some []
  | .v x :: l => if x.isOwn || !x.plain then Option.none else (resolve ρ l).map (x :: ·)
  | .r i :: l => match getS ρ i with
    | some x => if x.isOwn then (resolve ρ l).map (x :: ·) else Option.none
    | Option.none => Option.none
def putOuts (ρ : Env) : List Arg → List SV → Env
  | .r i :: l, o :: os => putOuts (ρ.set i (some o)) l os
  | .v _ :: l, _ :: os => putOuts ρ l os
  | _, _ => ρ
def callF (f : Fm) (as : List Arg) (ρ : Env) : R SV := if (refsOf as).Nodup then
    match resolve ρ as with
    | Option.none => .stuck
    | some svs => match f svs with
      | .ok r outs => .ok r (putOuts ρ as outs)
      | .err e outs => .err e (putOuts ρ as outs)
      | .stuck => .stuck
  else .stuck

/-! ### the meaning -/
structure Cf where
  fns : List Fm
  gls : List PyData
  pin : List Nat
  exm : Nat → Nat → Option Bool
  excF : Nat → Option (Nat × List (Str × Nat))
  exi : Nat → Nat → Option Bool := fun _ _ => Option.none
inductive Fl where
  | nx
  | ret (v : SV)
def compM (step : PyData → Env → R (Option PyData)) : List PyData → Env → R (List PyData)
  | [], ρ => .ok [] ρ
  | x :: xs, ρ => match step x ρ with
    | .ok (some y) ρ1 => (compM step xs ρ1).bind fun ys ρ2 => .ok (y :: ys) ρ2
    | .ok Option.none ρ1 => compM step xs ρ1
    | _ => .stuck
def forM (step : PyData → Env → R Fl) : List PyData → Env → R Fl
  | [], ρ => .ok .nx ρ
  | x :: xs, ρ => (step x ρ).bind fun fl ρ1 => match fl with
    | .nx => forM step xs ρ1
    | .ret v => .ok (.ret v) ρ1
def whileM (c : Env → R SV) (b : Env → R Fl) : Nat → Env → R Fl
  | 0, _ => .stuck
  | n + 1, ρ => (c ρ).bind fun t ρ1 => match asB t with
    | some true => (b ρ1).bind fun fl ρ2 => match fl with
      | .nx => whileM c b n ρ2
      | .ret v => .ok (.ret v) ρ2
    | some false => .ok .nx ρ1
    | Option.none => .stuck
def errOf (cf : Cf) (X : Nat) (ds : List PyData) : Option Err := match cf.excF X with
  | some (n, fl) => if ds.length = n ∧ (fl.all fun p => decide (p.2 < n)) = true then some ⟨X, fl.map fun p => (p.1, (ds[p.2]?).getD .none)⟩ else Option.none
  | Option.none => Option.none
def noExc (ρ : Env) : Bool := ρ.all fun o => match o with
  | some sv => sv.plain
  | Option.none => true
def Fl.plain : Fl → Bool
  | .nx => true
  | .ret v => v.plain
/-- a field of an error that is made by keywords, perm: which keyword each parameter is -/
def mkfD (cf : Cf) (X : Nat) (perm : List Nat) (cs : List PyData) (f : Str) : Option PyData := match cf.excF X with
  | some (_, fl) => (fl.lookup f).bind fun j => (perm[j]?).bind fun i => cs[i]?
  | Option.none => Option.none
mutual
def semE (cf : Cf) : C → Env → R SV
  | .none, ρ => .ok (.d .none) ρ
  | .bl b, ρ => .ok (.d (.bool b)) ρ
  | .int i, ρ => .ok (.d (.int i)) ρ
  | .str s, ρ => .ok (.d (.str s)) ρ
  | .var i, ρ => match getS ρ i with
    | some (.olst xs) => .ok (.d (.list xs)) (ρ.set i (some (.d (.list xs))))
    | some (.oobj _ _) => .stuck
    | some sv => .ok sv ρ
    | Option.none => .stuck
  | .gl k, ρ => R.lift ((cf.gls[k]?).map .d) ρ
  | .gfn k, ρ => .ok (.fn k) ρ
  | .bin o a b, ρ => (semE cf a ρ).bind fun x ρ => (semE cf b ρ).bind fun y ρ => R.lift (binop o x y) ρ
  | .neg a, ρ => (semE cf a ρ).bind fun x ρ => match x with
    | .d (.int i) => .ok (.d (.int (-i))) ρ
    | _ => .stuck
  | .cmp o a b, ρ => (semE cf a ρ).bind fun x ρ => (semE cf b ρ).bind fun y ρ => R.lift (cmpop o x y) ρ
  | .cmp2 o p a b c, ρ => (semE cf a ρ).bind fun x ρ => (semE cf b ρ).bind fun y ρ => match (cmpop o x y).bind asB with
    | some true => (semE cf c ρ).bind fun z ρ => R.lift (cmpop p y z) ρ
    | some false => .ok (.d (.bool false)) ρ
    | Option.none => .stuck
  | .not a, ρ => (semE cf a ρ).bind fun x ρ => match asB x with
    | some b => .ok (.d (.bool !b)) ρ
    | Option.none => .stuck
  | .and a b, ρ => (semE cf a ρ).bind fun x ρ => match asB x with
    | some true => semE cf b ρ
    | some false => .ok (.d (.bool false)) ρ
    | Option.none => .stuck
  | .or a b, ρ => (semE cf a ρ).bind fun x ρ => match asB x with
    | some true => .ok (.d (.bool true)) ρ
    | some false => semE cf b ρ
    | Option.none => .stuck
  | .ife c a b, ρ => (semE cf c ρ).bind fun x ρ => match asB x with
    | some true => semE cf a ρ
    | some false => semE cf b ρ
    | Option.none => .stuck
  | .idx a i, ρ => (semE cf a ρ).bind fun x ρ => (semE cf i ρ).bind fun y ρ => R.lift (idxD x y) ρ
  | .idxO i a, ρ => match getS ρ i with
    | some _ => (semE cf a ρ).bind fun y ρ => (match getS ρ i with
      | some sv => R.lift (idxD sv y) ρ
      | Option.none => .stuck)
    | Option.none => .stuck
  | .cmpO o a i, ρ => (semE cf a ρ).bind fun x ρ => match getS ρ i with
    | some sv => R.lift (cmpop o x sv) ρ
    | Option.none => .stuck
  | .slc a lo hi, ρ => (semE cf a ρ).bind fun x ρ => (semE cf lo ρ).bind fun l ρ => match bound? lo.isNone l with
    | Option.none => .stuck
    | some l => (semE cf hi ρ).bind fun h ρ => (match bound? hi.isNone h with
      | Option.none => .stuck
      | some h => R.lift (sliceD x l h) ρ)
  | .fld a f, ρ => (semE cf a ρ).bind fun x ρ => match x with
    | .obj _ fs => R.lift ((fs.lookup f).map .d) ρ
    | _ => .stuck
  | .efld i f, ρ => match getS ρ i with
    | some (.exc C fs) => (match cf.excF C with
      | some (_, fl) => if fl.any fun p => p.1 == f then R.lift ((fs.lookup f).map .d) ρ else .stuck
      | Option.none => .stuck)
    | _ => .stuck
  | .isx i k, ρ => match getS ρ i with
    | some (.exc C _) => R.lift ((cf.exi C k).map fun b => .d (.bool b)) ρ
    | _ => .stuck
  | .mkf X _ perm cs f, ρ => R.lift ((mkfD cf X perm cs f).map .d) ρ
  | .tup es, ρ => (semL cf es ρ).bind fun xs ρ => R.lift ((allD xs).map fun ds => .d (.tuple ds)) ρ
  | .lst es, ρ => (semL cf es ρ).bind fun xs ρ => R.lift ((allD xs).map fun ds => .olst ds) ρ
  | .frz a, ρ => (semE cf a ρ).bind fun x ρ => match x with
    | .olst xs => .ok (.d (.list xs)) ρ
    | .oobj _ _ => .stuck
    | sv => .ok sv ρ
  | .lrg a b, ρ => (semE cf a ρ).bind fun x ρ => (semE cf b ρ).bind fun y ρ => R.lift (((asInt x).bind fun a => (asInt y).bind fun b => rangeD a b).map .olst) ρ
  | .bf f es, ρ => (semL cf es ρ).bind fun xs ρ => R.lift (bfun f xs) ρ
  | .lenO i, ρ => match getS ρ i with
    | some sv => R.lift (bLen sv) ρ
    | Option.none => .stuck
  | .isi a ts, ρ => (semE cf a ρ).bind fun x ρ => match x with
    | .d d => .ok (.d (.bool (ts.any (hasTy d)))) ρ
    | _ => .stuck
  | .call k as, ρ => (semA cf as ρ).bind fun args ρ => match cf.fns[k]? with
    | some f => callF f args ρ
    | Option.none => .stuck
  | .comp own tg ik it cond elt, ρ => R.bind (α := List PyData × List Nat) (match ik with
      | .own i => (match getS ρ i with
        | some (.olst xs) => .ok (xs, [i]) ρ
        | _ => .stuck)
      | ik => (semL cf it ρ).bind fun xs ρ => R.lift ((iterD ik xs).map fun z => (z, [])) ρ) fun items ρ0 =>
    (compM (fun x ρ => match setT tg x ρ with
      | Option.none => .stuck
      | some ρ => (semE cf cond ρ).bind fun t ρ => match asB t with
        | some true => (semE cf elt ρ).bind fun y ρ => (match asD y with
          | some d => .ok (some d) (wipeE ρ own)
          | Option.none => .stuck)
        | some false => .ok Option.none (wipeE ρ own)
        | Option.none => .stuck) items.1 (wipeE ρ0 (own ++ items.2))).bind fun ys ρ1 => .ok (.olst ys) (backE ρ0 ρ1 (own ++ items.2))
  | _, _ => .stuck
def semL (cf : Cf) : C → Env → R (List SV)
  | .nil, ρ => .ok [] ρ
  | .cons a b, ρ => (semE cf a ρ).bind fun x ρ => (semL cf b ρ).bind fun xs ρ => .ok (x :: xs) ρ
  | _, _ => .stuck
def semA (cf : Cf) : C → Env → R (List Arg)
  | .nil, ρ => .ok [] ρ
  | .cons a b, ρ => match a with
    | .refv i => (match getS ρ i with
      | some _ => (semA cf b ρ).bind fun xs ρ => .ok (.r i :: xs) ρ
      | Option.none => .stuck)
    | a => (semE cf a ρ).bind fun x ρ => (semA cf b ρ).bind fun xs ρ => .ok (.v x :: xs) ρ
  | _, _ => .stuck
def semS (cf : Cf) : C → Env → R Fl
  | .skip, ρ => .ok .nx ρ
  | .seq a b, ρ => (semS cf a ρ).bind fun fl ρ => match fl with
    | .nx => semS cf b ρ
    | .ret v => .ok (.ret v) ρ
  | .asg tg e, ρ => (semE cf e ρ).bind fun x ρ => if (tgs tg).any (cf.pin.contains ·) then .stuck else match tg with
    | .one i => .ok .nx (ρ.set i (some x))
    | .many is => match x with
      | .d d => (match setT (.many is) d ρ with
        | some ρ => .ok .nx ρ
        | Option.none => .stuck)
      | _ => .stuck
  | .par is es, ρ => (semL cf es ρ).bind fun xs ρ => if is.any (cf.pin.contains ·) || !decide is.Nodup || decide (xs.length ≠ is.length) then .stuck else .ok .nx (setAll ρ is xs)
  | .asgI i ix e, ρ => (semE cf e ρ).bind fun x ρ => match getS ρ i with
    | some (.olst _) => (semE cf ix ρ).bind fun k ρ => (match getS ρ i, k, x with
      | some (.olst xs), .d (.int k), .d y => if 0 ≤ k ∧ k < xs.length then .ok .nx (ρ.set i (some (.olst (xs.set k.toNat y)))) else .stuck
      | _, _, _ => .stuck)
    | _ => .stuck
  | .aug i o e, ρ => match getS ρ i with
    | some x => if cf.pin.contains i || x.isOwn then .stuck else (semE cf e ρ).bind fun y ρ => match x, y, o with
      | .d (.int a), .d (.int b), .add => .ok .nx (ρ.set i (some (.d (.int (a + b)))))
      | .d (.int a), .d (.int b), .sub => .ok .nx (ρ.set i (some (.d (.int (a - b)))))
      | _, _, _ => .stuck
    | Option.none => .stuck
  | .app i e, ρ => match getS ρ i with
    | some (.olst _) => (semE cf e ρ).bind fun x ρ => (match getS ρ i, x with
      | some (.olst xs), .d y => if xs.length < line then .ok .nx (ρ.set i (some (.olst (xs ++ [y])))) else .stuck
      | _, _ => .stuck)
    | _ => .stuck
  | .ext i e, ρ => match getS ρ i with
    | some (.olst _) => (semE cf e ρ).bind fun x ρ => (match getS ρ i, lstOf x with
      | some (.olst xs), some ys => if xs.length + ys.length ≤ line then .ok .nx (ρ.set i (some (.olst (xs ++ ys)))) else .stuck
      | _, _ => .stuck)
    | _ => .stuck
  | .ins i ix e, ρ => match getS ρ i with
    | some (.olst _) => (semE cf ix ρ).bind fun k ρ => (semE cf e ρ).bind fun x ρ => (match getS ρ i, k, x with
      | some (.olst xs), .d (.int k), .d y => if 0 ≤ k ∧ k ≤ xs.length ∧ xs.length < line then .ok .nx (ρ.set i (some (.olst (xs.take k.toNat ++ y :: xs.drop k.toNat)))) else .stuck
      | _, _, _ => .stuck)
    | _ => .stuck
  | .ex e, ρ => (semE cf e ρ).bind fun _ ρ => .ok .nx ρ
  | .ret e, ρ => (semE cf e ρ).bind fun x ρ => .ok (.ret x) ρ
  | .ifs c a b, ρ => (semE cf c ρ).bind fun x ρ => match asB x with
    | some true => semS cf a ρ
    | some false => semS cf b ρ
    | Option.none => .stuck
  | .fors tg ik it body, ρ => if (tgs tg).any (cf.pin.contains ·) then .stuck else ((semL cf it ρ).bind fun xs ρ => R.lift ((iterD ik xs).map fun z => (z, [])) ρ).bind fun (items : List PyData × List Nat) ρ => forM (fun x ρ => match setT tg x ρ with
    | Option.none => .stuck
    | some ρ => semS cf body ρ) items.1 ρ
  | .whl fuel c body, ρ => whileM (semE cf c) (semS cf body) fuel ρ
  | .raise X es, ρ => (semL cf es ρ).bind fun xs ρ => match (allD xs).bind (errOf cf X) with
    | some e => .err e ρ
    | Option.none => .stuck
  | .tryx body hs, ρ => match semS cf body ρ with
    | .err e ρ => semH cf hs e ρ
    | r => r
  | _, _ => .stuck
def semH (cf : Cf) : C → Err → Env → R Fl
  | .nil, e, ρ => .err e ρ
  | .hnd X slot suite rest, e, ρ => match cf.exm e.C X with
    | some true => (match slot with
      | some i => if cf.pin.contains i then .stuck else (match semS cf suite (ρ.set i (some (.exc e.C e.fs))) with
        | .ok fl ρ => if noExc (ρ.set i Option.none) && fl.plain then .ok fl (ρ.set i Option.none) else .stuck
        | _ => .stuck)
      | Option.none => (match semS cf suite ρ with
        | .ok fl ρ => .ok fl ρ
        | _ => .stuck))
    | some false => semH cf rest e ρ
    | Option.none => .stuck
  | _, _, _ => .stuck
end
/-- what a loop walks, and the slot that it hides -/
def semI (cf : Cf) (ik : IK) (it : C) (ρ : Env) : R (List PyData × List Nat) := match ik with
  | .own i => (match getS ρ i with
    | some (.olst xs) => .ok (xs, [i]) ρ
    | _ => .stuck)
  | ik => (semL cf it ρ).bind fun xs ρ => R.lift ((iterD ik xs).map fun z => (z, [])) ρ
/-- a def run -/
def isPinned (pin : List Nat) (i : Nat) (x : SV) : Bool := !x.isOwn || pin.contains i
def runF (cf : Cf) (np n : Nat) (body : C) : Fm := fun args =>
  if args.length = np ∧ (args.zipIdx.all fun p => isPinned cf.pin p.2 p.1) = true then
    (let outs := fun (ρ : Env) => args.zipIdx.map fun p => if p.1.isOwn then (getS ρ p.2).getD (.d .none) else p.1
    let fine := fun (ρ : Env) => args.zipIdx.all fun p => !p.1.isOwn || (match getS ρ p.2 with | some sv => sv.isOwn | Option.none => false)
    match semS cf body (args.map some ++ List.replicate (n - args.length) Option.none) with
    | .ok .nx ρ => if fine ρ then .ok (.d .none) (outs ρ) else .stuck
    | .ok (.ret v) ρ => if fine ρ then .ok v (outs ρ) else .stuck
    | .err e ρ => if fine ρ then .err e (outs ρ) else .stuck
    | .stuck => .stuck)
  else .stuck
end EV

/-! Readings by meanings. -/
namespace EV
open PySem PySem.Spec PyProof.Rows L2

def ErrR (K : PySem.W.Frag) (G : AM) (H : Hp) (cls : Value) (d : Option Addr) (e : Err) : Prop :=
  cls = G.exc e.C ∧ ((d = none ∧ e.fs = []) ∨ ∃ a fvs, d = some a ∧ H a = some (.xd fvs) ∧ RepFs K H fvs e.fs)
section
variable (K : PySem.W.Frag) (G : AM) (T : XT) (W : WX)
/-- what is left of a run from here -/
def Out {α : Type} (σ : St) (H : Hp) (ρ : Env) (r : R α) (Q : α → Env → Hp → Prop) : Prop := match r with
  | .ok a ρ' => ∀ H', Post K G T [] σ σ H H' ρ ρ' → Q a ρ' H'
  | .err e ρ' => ∀ cls d H', Post K G T [] σ σ H H' ρ ρ' → ErrR K G H' cls d e → W cls d σ H'
  | .stuck => False
def tE (m : Env → R SV) : TE := fun σ H Q => ∃ ρ, EnvR K G T σ H ρ ∧ Out K G T W σ H ρ (m ρ) fun sv ρ' H' => ∀ v, SRep K G T H' v sv → Fresh H σ ρ' v sv → Q v H'
def tT (m : Env → R SV) : TT := fun σ H Q => ∃ ρ, EnvR K G T σ H ρ ∧ Out K G T W σ H ρ (m ρ) fun sv ρ' H' => ∃ b, asB sv = some b ∧ Q b H'
/-- a list of values in flight -/
inductive SReps (H0 H : Hp) (σ : St) (ρ : Env) : List V → List SV → Prop
  | nil : SReps H0 H σ ρ [] []
  | cons {v : V} {vs : List V} {s : SV} {ss : List SV} : SRep K G T H v s → Fresh H0 σ ρ v s → SReps H0 H σ ρ vs ss → (s.isOwn = true → ∀ (j : Nat) (s' : SV), ss[j]? = some s' → s'.isOwn = true → vs[j]? ≠ some v) → SReps H0 H σ ρ (v :: vs) (s :: ss)
def tL (m : Env → R (List SV)) : TA := fun σ H Q => ∃ ρ, EnvR K G T σ H ρ ∧ Out K G T W σ H ρ (m ρ) fun svs ρ' H' => ∀ vs, SReps K G T H H' σ ρ' vs svs → Q vs H'
/-- what is left behind a statement -/
def OutS (pin : List Nat) (σ : St) (H : Hp) (ρ : Env) (r : R Fl) (D : Ends) : Prop := match r with
  | .ok .nx ρ' => ∀ σ' H', Post K G T pin σ σ' H H' ρ ρ' → D.nx σ' H'
  | .ok (.ret sv) ρ' => ∀ σ' H' v, Post K G T pin σ σ' H H' ρ ρ' → SRep K G T H' v sv → Fresh H σ' ρ' v sv → D.rt v H'
  | .err e ρ' => ∀ σ' cls d H', Post K G T pin σ σ' H H' ρ ρ' → ErrR K G H' cls d e → W cls d σ' H'
  | .stuck => False
def tS (pin : List Nat) (m : Env → R Fl) : TS := fun D σ H => ∃ ρ, EnvR K G T σ H ρ ∧ OutS K G T W pin σ H ρ (m ρ) D
end
section
variable {K : PySem.W.Frag} {G : AM} {T : XT} {W : WX} {α β : Type} {σ : St} {H H1 : Hp} {ρ ρ1 : Env} {pin : List Nat}
theorem Out.imp {r : R α} {Q Q' : α → Env → Hp → Prop} (h : Out K G T W σ H ρ r Q) (f : ∀ a ρ' H', Post K G T [] σ σ H H' ρ ρ' → Q a ρ' H' → Q' a ρ' H') : Out K G T W σ H ρ r Q' := by
  cases r with
  | ok a ρ' => exact fun H' p => f a ρ' H' p (h H' p)
  | err e ρ' => exact h
  | stuck => exact h
theorem Out.back {r : R α} {Q : α → Env → Hp → Prop} (p : Post K G T [] σ σ H H1 ρ ρ1) (h : Out K G T W σ H ρ r Q) : Out K G T W σ H1 ρ1 r Q := by
  cases r with
  | ok a ρ' => exact fun H' q => h H' (p.trans q)
  | err e ρ' => exact fun cls d H' q => h cls d H' (p.trans q)
  | stuck => exact h
theorem Out.bind {r : R α} {k : α → Env → R β} {Q : β → Env → Hp → Prop} (h : Out K G T W σ H ρ (r.bind k) Q) : Out K G T W σ H ρ r fun a ρ1 H1 => Out K G T W σ H1 ρ1 (k a ρ1) Q := by
  cases r with
  | ok a ρ' => exact fun H' p => Out.back p (h : Out K G T W σ H ρ (k a ρ') Q)
  | err e ρ' => exact h
  | stuck => exact h
theorem Out.lift {o : Option α} {Q : α → Env → Hp → Prop} (h : Out K G T W σ H ρ (R.lift o ρ1) Q) : ∃ a, o = some a ∧ ∀ H', Post K G T [] σ σ H H' ρ ρ1 → Q a ρ1 H' := by
  cases o with
  | none => exact h.elim
  | some a => exact ⟨a, rfl, h⟩
theorem Out.ok' {a : α} {Q : α → Env → Hp → Prop} (h : Out K G T W σ H ρ (R.ok a ρ1) Q) : ∀ H', Post K G T [] σ σ H H' ρ ρ1 → Q a ρ1 H' := h
end
/-! ### readings weakened -/
section
variable {X : Cx} {e : Expr} {es : List Expr} {st : Stmt} {sts : List Stmt}
theorem PE.imp {t t' : TE} (h : PE X e t) (f : ∀ σ H Q, t' σ H Q → t σ H Q) : PE X e t' := ⟨fun pins s σ H Q I q => h.run pins s σ H Q I (f σ H Q q)⟩
theorem PT.imp {t t' : TT} (h : PT X e t) (f : ∀ σ H Q, t' σ H Q → t σ H Q) : PT X e t' := ⟨fun pins s σ H Q I q => h.run pins s σ H Q I (f σ H Q q)⟩
theorem PW.imp {t t' : TT} (h : PW X e t) (f : ∀ σ H Q, t' σ H Q → t σ H Q) : PW X e t' := ⟨fun w pins s σ H Q I q => h.run w pins s σ H Q I (f σ H Q q)⟩
theorem PA.imp {t t' : TA} (h : PA X es t) (f : ∀ σ H Q, t' σ H Q → t σ H Q) : PA X es t' := ⟨fun p pins s σ H Q I q => h.run p pins s σ H Q I (f σ H Q q)⟩
theorem PS.imp {t t' : TS} (h : PS X st t) (f : ∀ D σ H, t' D σ H → t D σ H) : PS X st t' := ⟨fun pins s σ H D I q => h.run pins s σ H D I (f D σ H q)⟩
theorem PSs.imp {t t' : TS} (h : PSs X sts t) (f : ∀ D σ H, t' D σ H → t D σ H) : PSs X sts t' := ⟨fun pins s σ H D I q => h.run pins s σ H D I (f D σ H q)⟩
end
/-! ### operations by values -/
section
variable (K : PySem.W.Frag) (G : AM) (T : XT)
/-- the value of an operation: something that stands for r, all that stood stands -/
def Give (H : Hp) (r : SV) (Q : VK) : Prop := ∀ v H', Ext H H' → SRep K G T H' v r → (r.isOwn = true → ∃ a, v = .ref a ∧ H a = none) → Q v H'
def r2 (g : SV → SV → Option SV) : R2 := fun x y H Q => ∃ sx sy r, SRep K G T H x sx ∧ SRep K G T H y sy ∧ g sx sy = some r ∧ Give K G T H r Q
def rL (g : List SV → Option SV) : List V → Hp → VK → Prop := fun vs H Q => ∃ svs r, Paired (SRep K G T H) vs svs ∧ g svs = some r ∧ Give K G T H r Q
end
section
variable {K : PySem.W.Frag} {G : AM} {T : XT} {W : WX} {σ : St} {H H0 H1 : Hp} {ρ ρ0 : Env}
theorem SReps.pair {vs : List V} {ss : List SV} (h : SReps K G T H0 H σ ρ vs ss) : Paired (SRep K G T H) vs ss := by
  induction h with
  | nil => exact .nil
  | cons a _ _ _ ih => exact .cons a ih
theorem SReps.get {vs : List V} {ss : List SV} (h : SReps K G T H0 H σ ρ vs ss) : ∀ {j : Nat} {s : SV}, ss[j]? = some s → ∃ v, vs[j]? = some v ∧ SRep K G T H v s ∧ Fresh H0 σ ρ v s := by
  induction h with
  | nil => intro j s e; simp at e
  | cons a f _ _ ih =>
    intro j s e
    cases j with
    | zero => simp at e; subst e; exact ⟨_, rfl, a, f⟩
    | succ j => exact ih (by simpa using e)
/-- an operation's value is the run's value -/
theorem Give.of {r : SV} {Q : VK} (e : EnvR K G T σ H ρ) (d : ∀ b o, H0 b = some o → ∃ o', H b = some o')
    (h : ∀ H', Post K G T [] σ σ H H' ρ ρ → ∀ v, SRep K G T H' v r → Fresh H0 σ ρ v r → Q v H') : Give K G T H r Q := fun v H' x q n => by
  refine h H' (Post.ext e x) v q fun z => ?_
  obtain ⟨a, ev, hn⟩ := n z
  refine ⟨a, ev, ?_, fun w => ?_⟩
  · cases k : H0 a with
    | none => rfl
    | some o =>
      obtain ⟨o', u⟩ := d a o k
      rw [hn] at u
      cases u
  · obtain ⟨o, h1, _⟩ := e.own w
    rw [hn] at h1
    cases h1
theorem Give.dat {x : PyData} {v : V} {Q : VK} (h : Give K G T H (.d x) Q) (r : Rep K H v x) : Q v H := h v H Ext.refl (.d r) fun z => nomatch z
theorem Give.tup {ds : List PyData} {vs : List V} {Q : VK} {p : Addr} (h : Give K G T H (.d (.tuple ds)) Q) (r : Reps K H vs ds) (hp : H p = none) : Q (.ref p) (upd H p (.tup vs)) :=
  h _ _ (Ext.upd hp) (.d (.tup (.inl (.inl upd_same)) (Reps.stay (Ext.upd hp).stay _ _ r))) fun z => nomatch z
theorem Give.lst {ds : List PyData} {vs : List V} {Q : VK} {p : Addr} (h : Give K G T H (.olst ds) Q) (r : Reps K H vs ds) (hp : H p = none) : Q (.ref p) (upd H p (.lst vs)) :=
  h _ _ (Ext.upd hp) (.olst upd_same (Reps.stay (Ext.upd hp).stay _ _ r)) fun _ => ⟨p, rfl, hp⟩
theorem SRep.rep {v : V} {x : PyData} (h : SRep K G T H v (.d x)) : Rep K H v x := by cases h; assumption
theorem SReps.allD {vs : List V} {ss : List SV} {ds : List PyData} (h : Paired (SRep K G T H) vs ss) (e : allD ss = some ds) : Reps K H vs ds := by
  induction h generalizing ds with
  | nil => cases e; exact .nil
  | @cons v s vs ss a t ih =>
    cases s with
    | d x =>
      unfold EV.allD at e
      cases q : EV.allD ss with
      | none => rw [q] at e; cases e
      | some es =>
        rw [q] at e
        cases e
        exact .cons a.rep (ih q)
    | _ => cases e
theorem allD_len {ss : List SV} {ds : List PyData} (e : EV.allD ss = some ds) : ds.length = ss.length := by
  induction ss generalizing ds with
  | nil => cases e; rfl
  | cons s ss ih =>
    cases s with
    | d x =>
      unfold EV.allD at e
      cases q : EV.allD ss with
      | none => rw [q] at e; cases e
      | some es =>
        rw [q] at e
        cases e
        rw [List.length_cons, List.length_cons, ih q]
    | _ => cases e
/-- a list or tuple that is read -/
theorem SRep.items {v : V} {s : SV} {xs : List PyData} (h : SRep K G T H v s) (e : itemsOf s = some xs) : ∃ a vs, v = .ref a ∧ Reps K H vs xs ∧ (SqL K H a vs ∨ SqT K H a vs) := by
  cases s with
  | d x =>
    cases x with
    | list ds => cases e; cases h.rep with | lst a b => exact ⟨_, _, rfl, b, .inl a.sq⟩
    | tuple ds => cases e; cases h.rep with | tup a b => exact ⟨_, _, rfl, b, .inr a⟩
    | _ => cases e
  | olst ys => cases e; cases h with | olst a b => exact ⟨_, _, rfl, b, .inl (SqL.of a)⟩
  | _ => cases e
/-- a list that may be read, its object told -/
def LsL (K : PySem.W.Frag) (H : Hp) (a : Addr) (xs : List V) : Prop := H a = some (.lst xs) ∨ FzL K H a xs
theorem LsL.sq {a : Addr} {xs : List V} (h : LsL K H a xs) : SqL K H a xs := h.elim SqL.of FzL.sq
theorem LsL.at_ {X : Cx} {pins : List (Addr × Obj)} {s : Shared} {a : Addr} {xs : List V} (h : LsL X.K H a xs) (I : L2.Inv X pins σ H s) :
    xs.length ≤ sizeLine ∧ ∃ (its : List Value) (n : Nat), Vals xs its ∧ s.heap.get? a = some { cls := .type "list", data := .seq its.toArray n } := by
  rcases h with h | ⟨o, h⟩ | ⟨its, n, h, z, r⟩
  · obtain ⟨z, its, n, r, e⟩ := I.hok a _ h
    exact ⟨z, its, n, r, e⟩
  · obtain ⟨_, z, its, n, r, e⟩ := I.hok a _ h
    exact ⟨z, its, n, r, e⟩
  · exact ⟨by rw [r.length]; exact z, its, n, r, I.kIn a _ h⟩
theorem SRep.lsts {v : V} {s : SV} {xs : List PyData} (h : SRep K G T H v s) (e : lstOf s = some xs) : ∃ a vs, v = .ref a ∧ Reps K H vs xs ∧ LsL K H a vs := by
  cases s with
  | d x =>
    cases x with
    | list ds => cases e; cases h.rep with | lst a b => exact ⟨_, _, rfl, b, .inr a⟩
    | _ => cases e
  | olst ys => cases e; cases h with | olst a b => exact ⟨_, _, rfl, b, .inl a⟩
  | _ => cases e
theorem SRep.toDp {v : V} {s : SV} {x : PyData} (h : SRep K G T H v s) (e : toD s = some x) : Dp K H v x ∧ x.canLay0 = true := by
  cases s with
  | d y => cases e; exact ⟨Rep.dp _ _ h.rep, Rep.lay _ _ h.rep⟩
  | olst ys => cases e; cases h with | olst a b => exact ⟨.lst (SqL.of a) (Reps.dp _ _ b), by simpa [PyData.canLay0] using Reps.lay _ _ b⟩
  | _ => cases e
theorem reps_ints {vs : List V} {xs : List PyData} {ns : List Int} (r : Reps K H vs xs) (e : asInts xs = some ns) : vs = ns.map V.int := by
  induction xs generalizing vs ns with
  | nil => cases e; cases r; rfl
  | cons x xs ih =>
    cases r with
    | cons a b =>
      cases x with
      | int i =>
        unfold asInts at e
        cases q : asInts xs with
        | none => rw [q] at e; cases e
        | some es =>
          rw [q] at e
          cases e
          cases a
          rw [ih b q, List.map_cons]
      | _ => cases e
theorem reps_bools {vs : List V} {xs : List PyData} {ns : List Bool} (r : Reps K H vs xs) (e : asBools xs = some ns) : vs = ns.map V.bl := by
  induction xs generalizing vs ns with
  | nil => cases e; cases r; rfl
  | cons x xs ih =>
    cases r with
    | cons a b =>
      cases x with
      | bool i =>
        unfold asBools at e
        cases q : asBools xs with
        | none => rw [q] at e; cases e
        | some es =>
          rw [q] at e
          cases e
          cases a
          rw [ih b q, List.map_cons]
      | _ => cases e
end
end EV

/-! Operations, by values. -/
namespace EV
open PySem PySem.Spec PyProof.Rows L2
section
variable {X : Cx} {G : AM} {T : XT}
theorem line_eq : line = sizeLine := by rw [sizeLine_eq]; rfl

/-! ### arithmetic -/
theorem op_catS {pins : List (Addr × Obj)} {s : Shared} {σ : St} {H : Hp} {a b : Addr} {xs zs : List V} {Q : VK} (I : L2.Inv X pins σ H s) (ha : LsL X.K H a xs) (hb : LsL X.K H b zs) (hz : xs.length + zs.length ≤ sizeLine)
    (q : ∀ p, H p = none → Q (.ref p) (upd H p (.lst (xs ++ zs)))) : wpAny (model X.prog X.w) X.A (binaryOp .Add (.ref a) (.ref b)) (EP X pins σ Q) X.xe s := by
  obtain ⟨_, its, n, r, e⟩ := ha.at_ I
  obtain ⟨_, its2, n2, r2, e2⟩ := hb.at_ I
  have l1 := r.length
  have l2 := r2.length
  refine PySem.P.add_list e e2 ?_ (by simp only [List.size_toArray]; omega)
  rw [show its.toArray ++ its2.toArray = (its ++ its2).toArray by simp]
  exact ⟨.ref _, _, I.lnew (t' := s.toks) (r.append r2) (by simp only [List.length_append]; omega), rfl, q _ I.fresh⟩
theorem op_addD : OpR X (binaryOp .Add) (r2 X.K G T addD) := by
  rintro pins s σ H x y v u Q I rx ry ⟨sx, sy, r, hx, hy, e, g⟩
  unfold addD at e
  split at e
  · cases e
    cases hx.rep; cases hy.rep
    exact op_add pins s σ H _ _ v u Q I rx ry ⟨_, _, rfl, rfl, g.dat (.int _)⟩
  · rename_i a b
    split at e
    · rename_i hl
      cases e
      cases hx.rep with
      | str _ k1 =>
        cases hy.rep with
        | str _ k2 =>
          refine op_add_str pins s σ H _ _ v u Q I rx ry ⟨_, _, rfl, rfl, by rw [← line_eq]; exact hl, g.dat (.str _ ?_)⟩
          unfold PyData.strOk at k1 k2 ⊢
          show ((⟨a.cps ++ b.cps⟩ : Str).cps).all _ = true
          simp only [Array.all_append, k1, k2, Bool.and_self]
    · cases e
  · rename_i a b
    split at e
    · rename_i hl
      cases e
      cases hx.rep with
      | tup k1 r1 =>
        cases hy.rep with
        | tup k2 r2 =>
          have e1 := r1.length
          have e2 := r2.length
          refine op_catA pins s σ H _ _ v u Q I rx ry ⟨_, _, _, _, rfl, rfl, k1, k2, by rw [← line_eq, e1, e2]; exact hl, fun z => ?_, fun _ z => ?_, fun _ _ p hp => g.tup (r1.app r2) hp⟩
          · subst z
            cases r1
            exact g.dat (.tup k2 r2)
          · subst z
            cases r2
            refine g.dat ?_
            rw [List.append_nil]
            exact .tup k1 r1
    · cases e
  · split at e
    · rename_i a b ea eb
      split at e
      · rename_i hl
        cases e
        obtain ⟨p, vs, rfl, r1, k1⟩ := hx.lsts ea
        obtain ⟨q, ws, rfl, r2, k2⟩ := hy.lsts eb
        cases rx; cases ry
        have e1 := r1.length
        have e2 := r2.length
        exact op_catS I k1 k2 (by rw [← line_eq, e1, e2]; exact hl) fun p hp => g.lst (r1.app r2) hp
      · cases e
    · cases e
theorem small_mul {a b : Int} (h : small64 a = true) : IntMulOk a b := by
  unfold small64 at h
  simp only [Bool.and_eq_true, decide_eq_true_eq] at h
  exact .of_left (intBits_le_64 h.1 h.2)
theorem small_mulR {a b : Int} (h : small64 b = true) : IntMulOk a b := by
  unfold small64 at h
  simp only [Bool.and_eq_true, decide_eq_true_eq] at h
  exact .of_right (intBits_le_64 h.1 h.2)
def opOf : BOp → Operator
  | .add => .Add
  | .sub => .Sub
  | .mul => .Mult
  | .fdiv => .FloorDiv
  | .mod => .Mod
  | .pow => .Pow
theorem op_bin (o : BOp) : OpR X (binaryOp (opOf o)) (r2 X.K G T (binop o)) := by
  cases o with
  | add => exact op_addD
  | sub =>
    rintro pins s σ H x y v u Q I rx ry ⟨sx, sy, r, hx, hy, e, g⟩
    replace e : subD sx sy = some r := e
    unfold subD at e
    split at e <;> cases e
    cases hx.rep; cases hy.rep
    exact op_sub pins s σ H _ _ v u Q I rx ry ⟨_, _, rfl, rfl, g.dat (.int _)⟩
  | mul =>
    rintro pins s σ H x y v u Q I rx ry ⟨sx, sy, r, hx, hy, e, g⟩
    replace e : mulD sx sy = some r := e
    unfold mulD at e
    split at e <;> try cases e
    split at e
    · rename_i a b h
      cases e
      cases hx.rep; cases hy.rep
      obtain ⟨t, rfl⟩ := rx
      obtain ⟨t', rfl⟩ := ry
      refine mul_int ⟨.int _, H, I.tok _, ⟨_, rfl⟩, g.dat (.int _)⟩ ?_
      rcases Bool.or_eq_true_iff.mp h with h | h
      · exact small_mul h
      · exact small_mulR h
    · cases e
  | fdiv =>
    rintro pins s σ H x y v u Q I rx ry ⟨sx, sy, r, hx, hy, e, g⟩
    replace e : fdivD sx sy = some r := e
    unfold fdivD at e
    split at e <;> try cases e
    split at e
    · rename_i a b h
      cases e
      simp only [Bool.and_eq_true, decide_eq_true_eq] at h
      cases hx.rep; cases hy.rep
      refine op_fdivW pins s σ H _ _ v u Q I rx ry ⟨_, _, rfl, rfl, wide_div (b := 64) h.1 ?_ (by decide) (by decide), g.dat (.int _)⟩
      have h2 := h.2
      have : (2 : Int) ^ 64 = 18446744073709551616 := by decide
      have : (2 : Nat) ^ 64 = 18446744073709551616 := by decide
      omega
    · cases e
  | mod =>
    rintro pins s σ H x y v u Q I rx ry ⟨sx, sy, r, hx, hy, e, g⟩
    replace e : modD sx sy = some r := e
    unfold modD at e
    split at e <;> try cases e
    split at e
    · rename_i a b h
      cases e
      simp only [decide_eq_true_eq] at h
      cases hx.rep; cases hy.rep
      have h0 : b ≠ 0 := by omega
      refine op_modN pins s σ H _ _ v u Q I rx ry ⟨_, _, rfl, rfl, h0, ?_⟩
      show Q (.int (a.fmod b)) H
      rw [Int.fmod_eq_emod_of_nonneg a (show 0 ≤ b by omega)]
      exact g.dat (.int _)
    · cases e
  | pow =>
    rintro pins s σ H x y v u Q I rx ry ⟨sx, sy, r, hx, hy, e, g⟩
    replace e : powD sx sy = some r := e
    unfold powD at e
    split at e <;> try cases e
    split at e
    · rename_i a b h
      cases e
      unfold small64 at h
      simp only [Bool.and_eq_true, decide_eq_true_eq] at h
      cases hx.rep; cases hy.rep
      refine op_pow pins s σ H _ _ v u Q I rx ry ⟨_, _, rfl, rfl, ⟨h.1.1, h.1.2, ?_⟩, g.dat (.int _)⟩
      have h2 := h.2
      have : (2 : Int) ^ 64 = 18446744073709551616 := by decide
      have : (2 : Nat) ^ 64 = 18446744073709551616 := by decide
      omega
    · cases e

/-! ### comparisons -/
def cmpOf : COp → CmpOp
  | .eq => .Eq
  | .ne => .NotEq
  | .lt => .Lt
  | .le => .LtE
  | .gt => .Gt
  | .ge => .GtE
  | .in_ => .In
  | .notIn => .NotIn
  | .isN => .Is
  | .notN => .IsNot
theorem memD_any (x : PyData) : ∀ ys : List PyData, memD x ys = ys.any fun y => PyData.eqv y x
  | [] => rfl
  | y :: ys => by unfold memD; rw [memD_any x ys, List.any_cons]
def rcm (K : PySem.W.Frag) (G : AM) (T : XT) (o : COp) : R2 := r2 K G T (cmpop o)
theorem op_eqS (hu : X.A.units + 64 < cLine) : OpR X (compareOp .Eq) (rcm X.K G T .eq) := by
  rintro pins s σ H x y v u Q I rx ry ⟨sx, sy, r, hx, hy, e, g⟩
  unfold cmpop at e
  dsimp only at e
  split at e <;> try cases e
  rename_i a b ea eb
  unfold eqD at e
  split at e <;> cases e
  obtain ⟨d1, l1⟩ := hx.toDp ea
  obtain ⟨d2, l2⟩ := hy.toDp eb
  obtain ⟨as, q1⟩ := Dp.reads I _ x v d1 rx
  obtain ⟨bs, q2⟩ := Dp.reads I _ y u d2 ry
  refine SeqAt.compareEq_reads q1 q2 l1 l2 (by omega) ⟨.bl _, H, I, rfl, g.dat (.bl _)⟩
theorem op_neS (hu : X.A.units + 64 < cLine) : OpR X (compareOp .NotEq) (rcm X.K G T .ne) := by
  rintro pins s σ H x y v u Q I rx ry ⟨sx, sy, r, hx, hy, e, g⟩
  unfold cmpop at e
  dsimp only at e
  split at e <;> try cases e
  rename_i a b ea eb
  unfold eqD at e
  split at e <;> cases e
  obtain ⟨d1, l1⟩ := hx.toDp ea
  obtain ⟨d2, l2⟩ := hy.toDp eb
  obtain ⟨as, q1⟩ := Dp.reads I _ x v d1 rx
  obtain ⟨bs, q2⟩ := Dp.reads I _ y u d2 ry
  refine SeqAt.compareNe_reads q1 q2 l1 l2 (by omega) ⟨.bl _, H, I, rfl, g.dat (.bl _)⟩
theorem SRep.readsIn {K : PySem.W.Frag} {H : Hp} {v : V} {sv : SV} {xs : List PyData} (h : SRep K G T H v sv) (e : itemsOf sv = some xs) : (Dp K H v (.list xs) ∨ Dp K H v (.tuple xs)) ∧ PyData.canLayAll0 xs = true := by
  cases sv with
  | d x =>
    cases x with
    | list ds => cases e; exact ⟨.inl (Rep.dp _ _ h.rep), by simpa [PyData.canLay0] using Rep.lay _ _ h.rep⟩
    | tuple ds => cases e; exact ⟨.inr (Rep.dp _ _ h.rep), by simpa [PyData.canLay0] using Rep.lay _ _ h.rep⟩
    | _ => cases e
  | olst ys => cases e; cases h with | olst a b => exact ⟨.inl (.lst (SqL.of a) (Reps.dp _ _ b)), Reps.lay _ _ b⟩
  | _ => cases e
theorem op_inS (hu : X.A.units + 64 < cLine) : OpR X (compareOp .In) (rcm X.K G T .in_) := by
  rintro pins s σ H x y v u Q I rx ry ⟨sx, sy, r, hx, hy, e, g⟩
  unfold cmpop at e
  dsimp only at e
  split at e <;> try cases e
  rename_i a b eb
  unfold inD at e
  split at e <;> cases e
  rename_i ha
  obtain ⟨d2, l2⟩ := hy.readsIn eb
  obtain ⟨as, q1⟩ := Dp.reads I _ x v (Rep.dp _ _ hx.rep) rx
  have gg : Q (.bl (b.any fun y => PyData.eqv y a)) H := by rw [← memD_any]; exact g.dat (.bl _)
  rcases d2 with d2 | d2
  · obtain ⟨bs, q2⟩ := Dp.reads I _ y u d2 ry
    exact SeqAt.in_list_reads q2 q1 l2 (Rep.lay _ _ hx.rep) (by omega) ⟨.bl _, H, I, rfl, gg⟩
  · obtain ⟨bs, q2⟩ := Dp.reads I _ y u d2 ry
    exact SeqAt.in_tuple_reads q2 q1 l2 (Rep.lay _ _ hx.rep) (by omega) ⟨.bl _, H, I, rfl, gg⟩
theorem op_notInS (hu : X.A.units + 64 < cLine) : OpR X (compareOp .NotIn) (rcm X.K G T .notIn) := by
  rintro pins s σ H x y v u Q I rx ry ⟨sx, sy, r, hx, hy, e, g⟩
  unfold cmpop at e
  dsimp only at e
  split at e <;> try cases e
  rename_i a b eb
  unfold inD at e
  split at e <;> cases e
  rename_i ha
  obtain ⟨d2, l2⟩ := hy.readsIn eb
  obtain ⟨as, q1⟩ := Dp.reads I _ x v (Rep.dp _ _ hx.rep) rx
  have gg : Q (.bl (!b.any fun y => PyData.eqv y a)) H := by rw [← memD_any]; exact g.dat (.bl _)
  rcases d2 with d2 | d2
  · obtain ⟨bs, q2⟩ := Dp.reads I _ y u d2 ry
    exact SeqAt.notIn_list_reads q2 q1 l2 (Rep.lay _ _ hx.rep) (by omega) ⟨.bl _, H, I, rfl, gg⟩
  · obtain ⟨bs, q2⟩ := Dp.reads I _ y u d2 ry
    exact SeqAt.notIn_tuple_reads q2 q1 l2 (Rep.lay _ _ hx.rep) (by omega) ⟨.bl _, H, I, rfl, gg⟩
/-- the comparisons by an operator's rule (not «is») -/
def plainC : COp → Bool
  | .isN => false
  | .notN => false
  | _ => true
theorem op_cmp (hu : X.A.units + 64 < cLine) (o : COp) (h : plainC o = true) : OpR X (compareOp (cmpOf o)) (rcm X.K G T o) := by
  cases o with
  | eq => exact op_eqS hu
  | ne => exact op_neS hu
  | in_ => exact op_inS hu
  | notIn => exact op_notInS hu
  | isN => cases h
  | notN => cases h
  | lt =>
    rintro pins s σ H x y v u Q I rx ry ⟨sx, sy, r, hx, hy, e, g⟩
    unfold cmpop at e
    dsimp only at e
    split at e <;> cases e
    cases hx.rep; cases hy.rep
    exact op_lt pins s σ H _ _ v u Q I rx ry ⟨_, _, rfl, rfl, g.dat (.bl _)⟩
  | le =>
    rintro pins s σ H x y v u Q I rx ry ⟨sx, sy, r, hx, hy, e, g⟩
    unfold cmpop at e
    dsimp only at e
    split at e <;> cases e
    cases hx.rep; cases hy.rep
    exact op_le pins s σ H _ _ v u Q I rx ry ⟨_, _, rfl, rfl, g.dat (.bl _)⟩
  | gt =>
    rintro pins s σ H x y v u Q I rx ry ⟨sx, sy, r, hx, hy, e, g⟩
    unfold cmpop at e
    dsimp only at e
    split at e <;> cases e
    cases hx.rep; cases hy.rep
    exact op_gt pins s σ H _ _ v u Q I rx ry ⟨_, _, rfl, rfl, g.dat (.bl _)⟩
  | ge =>
    rintro pins s σ H x y v u Q I rx ry ⟨sx, sy, r, hx, hy, e, g⟩
    unfold cmpop at e
    dsimp only at e
    split at e <;> cases e
    cases hx.rep; cases hy.rep
    exact op_ge pins s σ H _ _ v u Q I rx ry ⟨_, _, rfl, rfl, g.dat (.bl _)⟩
end
end EV

/-! Built-in functions, by values. -/
namespace EV
open PySem PySem.Spec PyProof.Rows L2
section
variable {X : Cx} {G : AM} {T : XT}
theorem strOk_of {x : Str} (h : PyData.canLay0 (.str x) = true) : PyData.strOk x = true := by simpa [PyData.canLay0] using h
theorem Reps.one {K : PySem.W.Frag} {H : Hp} {vs : List V} {x : SV} (h : Paired (SRep K G T H) vs [x]) : ∃ v, vs = [v] ∧ SRep K G T H v x := by
  cases h with
  | cons a t => cases t; exact ⟨_, rfl, a⟩
theorem Reps.two {K : PySem.W.Frag} {H : Hp} {vs : List V} {x y : SV} (h : Paired (SRep K G T H) vs [x, y]) : ∃ v w, vs = [v, w] ∧ SRep K G T H v x ∧ SRep K G T H w y := by
  cases h with
  | cons a t =>
    cases t with
    | cons b t => cases t; exact ⟨_, _, rfl, a, b⟩
theorem fold_max : ∀ (r : List Int) (a : Int), (r.foldl (fun m b => if b > m then b else m) a ∈ a :: r) ∧ ∀ y ∈ a :: r, y ≤ r.foldl (fun m b => if b > m then b else m) a
  | [], a => ⟨List.mem_cons_self, fun y hy => by
      rcases List.mem_cons.mp hy with e | e
      · rw [e]; exact Int.le_refl _
      · cases e⟩
  | b :: r, a => by
    obtain ⟨h1, h2⟩ := fold_max r (if b > a then b else a)
    rw [List.foldl_cons]
    refine ⟨?_, fun y hy => ?_⟩
    · rcases List.mem_cons.mp h1 with e | e
      · rw [e]
        split
        · exact List.mem_cons_of_mem _ List.mem_cons_self
        · exact List.mem_cons_self
      · exact List.mem_cons_of_mem _ (List.mem_cons_of_mem _ e)
    · have h0 := h2 _ List.mem_cons_self
      rcases List.mem_cons.mp hy with e | e
      · rw [e]
        refine Int.le_trans ?_ h0
        split <;> omega
      · rcases List.mem_cons.mp e with e | e
        · rw [e]
          refine Int.le_trans ?_ h0
          split <;> omega
        · exact h2 y (List.mem_cons_of_mem _ e)
theorem fold_min : ∀ (r : List Int) (a : Int), (r.foldl (fun m b => if b < m then b else m) a ∈ a :: r) ∧ ∀ y ∈ a :: r, r.foldl (fun m b => if b < m then b else m) a ≤ y
  | [], a => ⟨List.mem_cons_self, fun y hy => by
      rcases List.mem_cons.mp hy with e | e
      · rw [e]; exact Int.le_refl _
      · cases e⟩
  | b :: r, a => by
    obtain ⟨h1, h2⟩ := fold_min r (if b < a then b else a)
    rw [List.foldl_cons]
    refine ⟨?_, fun y hy => ?_⟩
    · rcases List.mem_cons.mp h1 with e | e
      · rw [e]
        split
        · exact List.mem_cons_of_mem _ List.mem_cons_self
        · exact List.mem_cons_self
      · exact List.mem_cons_of_mem _ (List.mem_cons_of_mem _ e)
    · have h0 := h2 _ List.mem_cons_self
      rcases List.mem_cons.mp hy with e | e
      · rw [e]
        refine Int.le_trans h0 ?_
        split <;> omega
      · rcases List.mem_cons.mp e with e | e
        · rw [e]
          refine Int.le_trans h0 ?_
          split <;> omega
        · exact h2 y (List.mem_cons_of_mem _ e)
def bfVal : BF → Value
  | .len => .builtin "len"
  | .abs => .builtin "abs"
  | .max1 => .builtin "max"
  | .max2 => .builtin "max"
  | .min1 => .builtin "min"
  | .min2 => .builtin "min"
  | .all => .builtin "all"
  | .any => .builtin "any"
  | .repr => .builtin "repr"
  | .int => .type "int"
  | .tuple => .type "tuple"
  | .list => .type "list"
/-- which of them want no exception in hand -/
def bfCalm : BF → Bool
  | .len => false
  | .abs => false
  | .repr => false
  | .int => false
  | .tuple => false
  | .list => false
  | _ => true
theorem shown_bool (b : Bool) : (PyData.bool b).shown = (if b then "True" else "False" : Str) := by cases b <;> rfl
def bf1Calm : BF → Bool
  | .max1 => true
  | .min1 => true
  | .all => true
  | .any => true
  | _ => false
theorem bf1_ok (hu : X.A.units + 64 < cLine) (hg : X.A.guards = some []) (f : BF) (hc : bfCalm f = true → X.calm = true) {pins : List (Addr × Obj)} {s : Shared} {σ : St} {H : Hp} {v : V} {us : List Value} {Q : VK} {x r : SV} (I : L2.Inv X pins σ H s)
    (rv : Vals [v] us) (hx : SRep X.K G T H v x) (e : b1 f x = some r) (g : Give X.K G T H r Q) : wpAny (model X.prog X.w) X.A (PySem.call (bfVal f) us) (EP X pins σ Q) X.xe s := by
  cases f with
  | max2 => cases e
  | min2 => cases e
  | len =>
    replace e : bLen x = some r := e
    unfold bLen at e
    split at e
    · split at e <;> cases e
      rename_i t hl
      cases hx.rep with
      | str _ k => exact call_len pins s σ H _ us Q I rv ⟨_, _, rfl, ⟨by rw [← line_eq]; exact hl, rfl⟩, g.dat (.int _)⟩
    · cases q : itemsOf x with
      | none => rw [q] at e; cases e
      | some xs =>
        rw [q] at e
        cases e
        obtain ⟨a, ws, rfl, rr, k⟩ := hx.items q
        refine call_len pins s σ H _ us Q I rv ⟨_, _, rfl, k.imp (fun k => ⟨_, k, rfl⟩) (fun k => ⟨_, k, rfl⟩), ?_⟩
        rw [rr.length]
        exact g.dat (.int _)
  | abs =>
    replace e : bAbs x = some r := e
    unfold bAbs at e
    split at e <;> cases e
    cases hx.rep
    exact call_abs pins s σ H _ us Q I rv ⟨_, rfl, g.dat (.int _)⟩
  | max1 =>
    replace e : bFold _ x = some r := e
    unfold bFold at e
    split at e <;> try cases e
    rename_i xs ex
    split at e <;> try cases e
    rename_i a t ei
    obtain ⟨p, ws, rfl, rr, k⟩ := hx.lsts ex
    obtain rfl := reps_ints rr ei
    refine cr_max (hc rfl) pins s σ H _ us Q I rv ⟨_, _, rfl, k.sq, Nat.succ_pos _, fun m hm hle => ?_⟩
    obtain ⟨h1, h2⟩ := fold_max t a
    rw [show m = t.foldl (fun m b => if b > m then b else m) a from Int.le_antisymm (h2 m hm) (hle _ h1)]
    exact g.dat (.int _)
  | min1 =>
    replace e : bFold _ x = some r := e
    unfold bFold at e
    split at e <;> try cases e
    rename_i xs ex
    split at e <;> try cases e
    rename_i a t ei
    obtain ⟨p, ws, rfl, rr, k⟩ := hx.lsts ex
    obtain rfl := reps_ints rr ei
    refine cr_min (hc rfl) pins s σ H _ us Q I rv ⟨_, _, rfl, k.sq, Nat.succ_pos _, fun m hm hle => ?_⟩
    obtain ⟨h1, h2⟩ := fold_min t a
    rw [show m = t.foldl (fun m b => if b < m then b else m) a from Int.le_antisymm (hle _ h1) (h2 m hm)]
    exact g.dat (.int _)
  | all =>
    replace e : bBools _ x = some r := e
    unfold bBools at e
    split at e <;> try cases e
    rename_i xs ex
    cases q : asBools xs with
    | none => rw [q] at e; cases e
    | some bs =>
      rw [q] at e
      cases e
      obtain ⟨p, ws, rfl, rr, k⟩ := hx.lsts ex
      obtain rfl := reps_bools rr q
      exact cr_all (hc rfl) pins s σ H _ us Q I rv ⟨_, _, rfl, k.sq, g.dat (.bl _)⟩
  | any =>
    replace e : bBools _ x = some r := e
    unfold bBools at e
    split at e <;> try cases e
    rename_i xs ex
    cases q : asBools xs with
    | none => rw [q] at e; cases e
    | some bs =>
      rw [q] at e
      cases e
      obtain ⟨p, ws, rfl, rr, k⟩ := hx.lsts ex
      obtain rfl := reps_bools rr q
      exact cr_any (hc rfl) pins s σ H _ us Q I rv ⟨_, _, rfl, k.sq, g.dat (.bl _)⟩
  | int =>
    replace e : bInt x = some r := e
    unfold bInt at e
    split at e <;> cases e
    · cases hx.rep
      exact call_int1 pins s σ H _ us Q I rv (.inl ⟨_, rfl, g.dat (.int _)⟩)
    · cases hx.rep
      exact call_int1 pins s σ H _ us Q I rv (.inr ⟨_, rfl, g.dat (.int _)⟩)
  | tuple =>
    replace e : (itemsOf x).map (fun xs => SV.d (.tuple xs)) = some r := e
    cases q : itemsOf x with
    | none => rw [q] at e; cases e
    | some xs =>
      rw [q] at e
      cases e
      obtain ⟨a, ws, rfl, rr, k⟩ := hx.items q
      rcases k with k | k
      · exact call_tuple_of pins s σ H _ us Q I rv ⟨_, _, rfl, .inl ⟨k, fun l hl => g.tup rr hl⟩⟩
      · exact call_tuple_of pins s σ H _ us Q I rv ⟨_, _, rfl, .inr ⟨k, g.dat (.tup k rr)⟩⟩
  | list =>
    replace e : (itemsOf x).map (fun xs => SV.olst xs) = some r := e
    cases q : itemsOf x with
    | none => rw [q] at e; cases e
    | some xs =>
      rw [q] at e
      cases e
      obtain ⟨a, ws, rfl, rr, k⟩ := hx.items q
      exact call_list_of pins s σ H _ us Q I rv ⟨_, _, rfl, k, fun l hl => g.lst rr hl⟩
  | repr =>
    replace e : bRepr x = some r := e
    unfold bRepr at e
    split at e <;> try cases e
    rename_i x
    split at e <;> try cases e
    rename_i hh
    simp only [Bool.and_eq_true, decide_eq_true_eq, Bool.not_eq_true'] at hh
    obtain ⟨⟨⟨⟨h1, h2⟩, h3⟩, h4⟩, ok⟩ := hh
    obtain ⟨u, rfl, ru⟩ := vals1 rv
    have hl : x.shown.length ≤ sizeLine := by rw [← line_eq]; exact h2
    have fin : ∀ (h' : Heap) (u : Tok) (tk : Nat), (∀ b o, s.heap.get? b = some o → h'.get? b = some o) → EP X pins σ Q (.str x.shown u) { s with heap := h', toks := tk } := fun h' u tk k =>
      ⟨.str _, H, I.kept k, ⟨_, rfl⟩, g.dat (.str _ ok)⟩
    obtain ⟨as, rd⟩ := Dp.reads I _ v u (Rep.dp _ _ hx.rep) ru
    cases x with
    | none =>
      cases hx.rep
      cases ru
      exact PySem.P.repr_of_none (fin _ _ _ fun _ _ z => z)
    | bool b =>
      cases hx.rep
      cases ru
      refine PySem.P.repr_of_bool ?_
      have z := fin s.heap s.toks (s.toks + 1) fun _ _ z => z
      cases b <;> exact z
    | int i =>
      cases hx.rep
      obtain ⟨t, rfl⟩ := ru
      exact PySem.P.repr_of_int (by simpa [PyData.showable] using h1) (fin _ _ _ fun _ _ z => z)
    | str z =>
      cases hx.rep
      obtain ⟨t, rfl⟩ := ru
      exact PySem.P.repr_of_str (fin _ _ _ fun _ _ z => z) hl
    | list ds =>
      cases hx.rep
      cases ru
      exact repr_of_reads' rd h1 (fun z => by rw [h3] at z; cases z) hg (by omega) (fun _ _ z => z) fin hl
    | tuple ds =>
      cases hx.rep
      cases ru
      exact repr_of_reads' rd h1 (fun z => by rw [h3] at z; cases z) hg (by omega) (fun _ _ z => z) fin hl
    | dict kvs => cases hx.rep
theorem bf_ok (hu : X.A.units + 64 < cLine) (hg : X.A.guards = some []) (f : BF) (hc : bfCalm f = true → X.calm = true) : CallR X (bfVal f) (rL X.K G T (bfun f)) := by
  rintro pins s σ H vs us Q I rv ⟨svs, r, hs, e, g⟩
  unfold bfun at e
  split at e
  · obtain ⟨v, rfl, hx⟩ := Reps.one hs
    exact bf1_ok hu hg f hc I rv hx e g
  · rename_i x y
    obtain ⟨v, w, rfl, hx, hy⟩ := Reps.two hs
    unfold b2 at e
    split at e
    · split at e <;> cases e
      cases hx.rep
      cases hy.rep
      exact call_max2 (hc rfl) pins s σ H _ us Q I rv ⟨_, _, rfl, g.dat (.int _)⟩
    · split at e <;> cases e
      cases hx.rep
      cases hy.rep
      exact call_min2 (hc rfl) pins s σ H _ us Q I rv ⟨_, _, rfl, g.dat (.int _)⟩
    · cases e
  · cases e
end
end EV

/-! The text held against the small language. -/
namespace EV
open PySem PySem.Spec PyProof.Rows L2

/-- what stands of a def while it is looked at -/
structure Sc where
  sc : Scope
  fnS : Str → Bool
  calm : Bool
structure Cfg where
  N : List Str
  fnN : Nat → Option Str
  glN : List Str
  gfN : Nat → Option Str
  free : List Str
  lvl : Nat
  excN : Nat → Option Str
  excR : Nat → Bool
  kw : List (Nat × List Str × List Nat) := []
  ex0 : Nat → Bool := fun _ => false
def kindB (st : Sc) (x : Str) : Option NameKind := st.sc.names.lookup x
def visB (st : Sc) (x : Str) : Bool := match kindB st x with
  | some .local => true
  | some .cell => true
  | some .free => true
  | _ => false
def stoB (st : Sc) (x : Str) : Bool := match kindB st x with
  | some .local => true
  | some .cell => st.fnS x
  | _ => false
def gloB (st : Sc) (x : Str) : Bool := (match kindB st x with
  | some .globalImplicit => true
  | _ => false) && !(x == ("__debug__" : Str)) && !(x == ("__name__" : Str))
def okN (x : Str) : Bool := !(x == ("__debug__" : Str)) && !(x == ("__classdict__" : Str))
def opB (o : BOp) (p : Operator) : Bool := match o, p with
  | .add, .Add => true
  | .sub, .Sub => true
  | .mul, .Mult => true
  | .fdiv, .FloorDiv => true
  | .mod, .Mod => true
  | .pow, .Pow => true
  | _, _ => false
def cmB (o : COp) (p : CmpOp) : Bool := match o, p with
  | .eq, .Eq => true
  | .ne, .NotEq => true
  | .lt, .Lt => true
  | .le, .LtE => true
  | .gt, .Gt => true
  | .ge, .GtE => true
  | .in_, .In => true
  | .notIn, .NotIn => true
  | .isN, .Is => true
  | .notN, .IsNot => true
  | _, _ => false
theorem opB_eq {o : BOp} {p : Operator} (h : opB o p = true) : p = opOf o := by cases o <;> cases p <;> first | rfl | cases h
theorem cmB_eq {o : COp} {p : CmpOp} (h : cmB o p = true) : p = cmpOf o := by cases o <;> cases p <;> first | rfl | cases h
def noneB : Expr → Bool
  | .Constant .none _ _ => true
  | _ => false
/-- is this right side one whose «in» is walked as a call -/
def bfName : BF → Str
  | .len => "len"
  | .abs => "abs"
  | .max1 => "max"
  | .max2 => "max"
  | .min1 => "min"
  | .min2 => "min"
  | .all => "all"
  | .any => "any"
  | .repr => "repr"
  | .int => "int"
  | .tuple => "tuple"
  | .list => "list"
def tyName : Ty → Str
  | .int => "int"
  | .bool => "bool"
  | .str => "str"
  | .list => "list"
  | .tuple => "tuple"
def tysB (st : Sc) (free : List Str) : List Ty → List Expr → Bool
  | [], [] => true
  | t :: ts, .Name x _ :: es => x == tyName t && gloB st x && free.contains x && tysB st free ts es
  | _, _ => false
def nmB (st : Sc) (N : List Str) (i : Nat) (e : Expr) : Bool := match e with
  | .Name x _ => N[i]? == some x && stoB st x && okN x
  | _ => false
def nmsB (st : Sc) (N : List Str) : List Nat → List Expr → Bool
  | [], [] => true
  | i :: is, e :: es => nmB st N i e && nmsB st N is es
  | _, _ => false
def tgB (st : Sc) (N : List Str) (t : Tg) (e : Expr) : Bool := match t with
  | .one i => nmB st N i e
  | .many is => match e with
    | .Tuple es _ _ => nmsB st N is es && decide (0 < is.length)
    | _ => false
def ownN (N : List Str) (own : List Nat) : List (Str × Nat) := own.map fun i => ((N[i]?).getD Str.empty, i)
def inner (st : Sc) (scope : Scope) : Sc := ⟨relS scope st.sc, fun x => scope.names.lookup x == some .cell, true⟩
/-- what an iterable is made from -/
def iterArgs (cg : Cfg) (st : Sc) (ik : IK) (iter : Expr) : Option (List Expr) := match ik with
  | .val => some [iter]
  | .range1 => (match iter with
    | .Call (.Name x _) [l] [] _ => if x == ("range" : Str) && gloB st x && cg.free.contains x then some [l] else Option.none
    | _ => Option.none)
  | .range2 => (match iter with
    | .Call (.Name x _) [l, r] [] _ => if x == ("range" : Str) && gloB st x && cg.free.contains x then some [l, r] else Option.none
    | _ => Option.none)
  | .enum => Option.none
  | .own _ => Option.none
/-- keywords whose values are written -/
def kwB : List Str → List PyData → List Keyword → Bool
  | [], [], [] => true
  | k :: ks, .int i :: cs, ⟨some n, .Constant (.int j) _ _, _⟩ :: r => n == k && i == j && kwB ks cs r
  | k :: ks, .str i :: cs, ⟨some n, .Constant (.str j) _ _, _⟩ :: r => n == k && i == j && PyData.strOk i && kwB ks cs r
  | _, _, _ => false
mutual
def chkE (cg : Cfg) (st : Sc) : C → Expr → Bool
  | .none, e => (match e with | .Constant .none _ _ => true | _ => false)
  | .bl b, e => (match e with | .Constant (.bool c) _ _ => b == c | _ => false)
  | .int i, e => (match e with | .Constant (.int j) _ _ => i == j | _ => false)
  | .str s, e => (match e with | .Constant (.str z) _ _ => s == z && PyData.strOk s | _ => false)
  | .var i, e => (match e with | .Name x _ => cg.N[i]? == some x && visB st x && okN x | _ => false)
  | .gl k, e => (match e with | .Name x _ => cg.glN[k]? == some x && gloB st x | _ => false)
  | .gfn k, e => (match e with | .Name x _ => cg.gfN k == some x && gloB st x | _ => false)
  | .bin o a b, e => (match e with | .BinOp l p r _ => opB o p && chkE cg st a l && chkE cg st b r | _ => false)
  | .neg a, e => (match e with | .UnaryOp .USub l _ => chkE cg st a l | _ => false)
  | .cmp o a b, e => (match e with
    | .Compare l [p] [r] _ => cmB o p && chkE cg st a l && (if plainC o then chkE cg st b r && !behindInMarks p r else noneB r && (match b with | .none => true | _ => false))
    | _ => false)
  | .cmp2 o q a b c, e => (match e with
    | .Compare l [p, p2] [r, z] _ => cmB o p && cmB q p2 && plainC o && plainC q && chkE cg st a l && chkE cg st b r && chkE cg st c z && !lastMarks [p, p2] [r, z]
    | _ => false)
  | .cmpO o a i, e => (match e with
    | .Compare l [p] [.Name x q] _ => cmB o p && plainC o && chkE cg st a l && cg.N[i]? == some x && visB st x && okN x && !behindInMarks p (.Name x q)
    | _ => false)
  | .not a, e => (match e with | .UnaryOp .Not l _ => chkE cg st a l | _ => false)
  | .and a b, e => (match e with
    | .BoolOp .And (l :: r :: t) p => chkE cg st a l && (match t with | [] => chkE cg st b r | _ => (match b with | .and _ _ => true | _ => false) && chkE cg st b (.BoolOp .And (r :: t) p))
    | _ => false)
  | .or a b, e => (match e with
    | .BoolOp .Or (l :: r :: t) p => chkE cg st a l && (match t with | [] => chkE cg st b r | _ => (match b with | .or _ _ => true | _ => false) && chkE cg st b (.BoolOp .Or (r :: t) p))
    | _ => false)
  | .ife c a b, e => (match e with | .IfExp z l r _ => okT c && chkE cg st c z && chkE cg st a l && chkE cg st b r | _ => false)
  | .idx a i, e => (match e with | .Subscript l s _ => chkE cg st a l && chkE cg st i s | _ => false)
  | .idxO i a, e => (match e with | .Subscript (.Name x _) s _ => cg.N[i]? == some x && visB st x && okN x && chkE cg st a s | _ => false)
  | .slc a lo hi, e => (match e with
    | .Subscript l (.Slice x y none _) _ => chkE cg st a l && (match x with | some x => chkE cg st lo x && !lo.isNone | none => lo.isNone) && (match y with | some y => chkE cg st hi y && !hi.isNone | none => hi.isNone)
    | _ => false)
  | .tup es, e => (match e with | .Tuple l _ _ => chkL cg st es l && decide (l.length ≤ 1000) | _ => false)
  | .lst es, e => (match e with | .List l _ => chkL cg st es l && decide (l.length ≤ 1000) | _ => false)
  | .frz a, e => chkE cg st a e
  | .lrg a b, e => (match e with
    | .Call (.Name x _) [.Call (.Name y _) [l, r] [] _] [] _ => x == ("list" : Str) && y == ("range" : Str) && gloB st x && gloB st y && cg.free.contains x && cg.free.contains y && chkE cg st a l && chkE cg st b r && st.calm
    | _ => false)
  | .bf f es, e => (match e with
    | .Call (.Name x _) (l :: r) [] _ => x == bfName f && gloB st x && cg.free.contains x && chkL cg st es (l :: r) && (!bfCalm f || st.calm)
    | _ => false)
  | .lenO i, e => (match e with
    | .Call (.Name x _) [.Name y _] [] _ => x == ("len" : Str) && gloB st x && cg.free.contains x && cg.N[i]? == some y && visB st y && okN y
    | _ => false)
  | .isx i k, e => (match e with
    | .Call (.Name f _) [.Name x _, .Name y _] [] _ => f == ("isinstance" : Str) && gloB st f && cg.free.contains f && cg.N[i]? == some x && visB st x && okN x && cg.excN k == some y && gloB st y
    | _ => false)
  | .mkf X ks perm cs f, e => (match e with
    | .Attribute (.Call (.Name x _) [] kws _) g _ => g == f && cg.excN X == some x && gloB st x && st.calm && cg.kw.contains (X, ks, perm) && kwB ks cs kws
    | _ => false)
  | .efld i f, e => (match e with
    | .Attribute (.Name x _) g _ => f == g && cg.N[i]? == some x && visB st x && okN x
    | _ => false)
  | .isi a ts, e => (match e with
    | .Call (.Name x _) [l, t] [] _ => x == ("isinstance" : Str) && gloB st x && cg.free.contains x && chkE cg st a l && (match t with
      | .Name _ _ => tysB st cg.free ts [t]
      | .Tuple es _ _ => tysB st cg.free ts es && decide (2 ≤ ts.length) && decide (ts.length ≤ 100)
      | _ => false)
    | _ => false)
  | .call k as, e => (match e with
    | .Call (.Name x _) (l :: r) [] _ => cg.fnN k == some x && gloB st x && chkA cg st as (l :: r) && st.calm
    | _ => false)
  | .comp own tg ik it cond elt, e => (match e with
    | .ListComp el [⟨tgt, iter, ifs, 0⟩] scope _ => st.calm && blkC cg.N st.sc scope (ownN cg.N own) && (ownN cg.N own).all (fun p => decide (p.2 < cg.N.length)) && ((tgs tg).all fun i => own.contains i) &&
      tgB (inner st scope) cg.N tg tgt && (match ifs with | [] => (match cond with | .bl true => true | _ => false) | [c] => okT cond && chkE cg (inner st scope) cond c | _ => false) && chkE cg (inner st scope) elt el &&
      (match ik with
      | .own i => (match iter with | .Name x _ => cg.N[i]? == some x && visB st x && okN x && !own.contains i | _ => false)
      | ik => (match iterArgs cg st ik iter with | some es => chkL cg st it es | Option.none => false))
    | _ => false)
  | _, _ => false
def chkL (cg : Cfg) (st : Sc) : C → List Expr → Bool
  | .nil, es => es.isEmpty
  | .cons a b, es => (match es with | e :: r => chkE cg st a e && chkL cg st b r | [] => false)
  | _, _ => false
def chkA (cg : Cfg) (st : Sc) : C → List Expr → Bool
  | .nil, es => es.isEmpty
  | .cons a b, es => (match es with
    | e :: r => (match a with
      | .refv i => (match e with | .Name x _ => cg.N[i]? == some x && visB st x && okN x | _ => false)
      | a => chkE cg st a e) && chkA cg st b r
    | [] => false)
  | _, _ => false
/-- may it stand as a test -/
def okT : C → Bool
  | .cmp _ _ _ => true
  | .cmp2 _ _ _ _ _ => true
  | .not a => okT a
  | .and a b => okT a && okT b
  | .or a b => okT a && okT b
  | .var _ => true
  | .bf _ _ => true
  | .isi _ _ => true
  | .call _ _ => true
  | .bl _ => true
  | .idx _ _ => true
  | .idxO _ _ => true
  | .cmpO _ _ _ => true
  | .isx _ _ => true
  | _ => false
end
end EV

/-! Defs by their meanings; what a def's body may lean on. -/
namespace EV
open PySem PySem.Spec PyProof.Rows L2

/-! ### a def's promise, where the stack's guards are told -/
structure FnG (P : Program) (w : World) (K : PySem.W.Frag) (mg : Str → Option Value) (base : Heap) (k : Nat) (f : Addr) (fd : FuncData) (ps : List Str) (sp : Sp) : Prop where
  len : ∀ vs H Q E, sp vs H Q E → vs.length = ps.length
  run : ∀ (A : Around) (outer : List PySem.Env) (s : Shared) (H : Hp) (args : Args) (us : List Value) (vs : List V) (Q : VK) (E : XK), Room k A → A.guards = some [] → Env0 P w K mg base A outer s H → BindsTo s fd args (ps.zip us) → Vals vs us →
    sp vs H Q E → codeAny (model P w) A (.call (.ref f) args) (CR (L2.CX P w) outer P w H s Q E) s
theorem FnG.up {P : Program} {w : World} {K : PySem.W.Frag} {mg : Str → Option Value} {base : Heap} {j k : Nat} {f : Addr} {fd : FuncData} {ps : List Str} {sp : Sp} (F : FnG P w K mg base j f fd ps sp) (h : j ≤ k) : FnG P w K mg base k f fd ps sp where
  len := F.len
  run := fun A outer s H args us vs Q E hr => F.run A outer s H args us vs Q E (hr.mono h)
/-- by the body -/
theorem fnG_of {P : Program} {w : World} {K : PySem.W.Frag} {mg : Str → Option Value} {base : Heap} {k : Nat} {f : Addr} {name qual : Str} {params : Arguments} {body : List Stmt} {scope : Scope} {dV kV doc pm cdv ct oc : Value} {an od : Option Addr}
    {osl : Array (Option Value)} {N ps : List Str} {sp : Sp} (lk : K.lookup f = some ⟨oc, od, .func (PySem.W.fnOf name qual params body scope dV kV doc pm an cdv ct), osl⟩) (hcd : PySem.W.codeIn K cdv qual = true) (S : FnScope N ps scope)
    (len : ∀ vs H Q E, sp vs H Q E → vs.length = ps.length)
    (hbody : ∀ (A : Around) (outer : List PySem.Env) (s : Shared) (H : Hp) (vs : List V) (Q : VK) (E : XK), Room k (A.deeper (envOfC qual scope s.heap.objs.size f cdv)) → (A.deeper (envOfC qual scope s.heap.objs.size f cdv)).guards = some [] → sp vs H Q E →
      ∃ t, PSs (cxOf (L2.CX P w) P w K mg base N qual scope f cdv A outer s H E) body t ∧ t { nx := fun _ H' => Q .non H', rt := Q } (start N vs) H) :
    FnG P w K mg base (k + 1) f (PySem.W.fnOf name qual params body scope dV kV doc pm an cdv ct) ps sp where
  len := len
  run := by
    intro A outer s H args us vs Q E hr hg e0 hb r hsp
    have hl := len _ _ _ _ hsp
    have KX : K.In s.heap := e0.mod.kin.keeps fun b o e => (e0.bs b o e).1
    have lim : s.heap.NoLimit := e0.mod.nolimit.keeps fun b o e => (e0.bs b o e).1
    refine codeAny_call_function hr.depth (KX _ _ lk) rfl S.co S.gen rfl (PySem.W.codeRec_of KX hcd) (hb _ _ _ _ ?_)
    refine wpAny_newFunctionEnv_cells S.kind (fun ⟨n, v⟩ hy => (S.par n (List.of_mem_zip hy).1).imp id fun q => ⟨q, PySem.W.cellsFrom_some _ _ _ (.inl q)⟩) fun env he s1 x => ?_
    subst he
    refine ⟨lim.keeps x.toInCall.keep, codeAny_func ?_⟩
    obtain ⟨t, ht, hq⟩ := hbody A outer s H vs Q E (hr.deeper _) hg hsp
    have I := inv_start (CX := L2.CX P w) (E := E) S hr.hd e0 hl r x
    refine wpAny_mono (ht.run [] s1 (start N vs) H _ I hq) (fun fl s' hs => ?_) fun _ _ hs => hs
    cases fl with
    | ret u => exact let ⟨v, _, H', J, rv, q⟩ := hs; ⟨v, H', J.os, J.bare, J.base, J.hok, rv, q⟩
    | next => exact let ⟨_, H', J, q⟩ := hs; ⟨.non, H', J.os, J.bare, J.base, J.hok, rfl, q⟩
    | brk => exact let ⟨_, _, _, q⟩ := hs; False.elim q
    | cont => exact let ⟨_, _, _, q⟩ := hs; False.elim q
section
variable {X : Cx} {k : Nat} {f : Addr} {fd : FuncData} {ps : List Str} {sp : Sp} {E : XK} {W : WX} {x : Str} {p pos : Pos} {e : Expr} {es : List Expr} {t : TA}
/-- f(e, ..), f a def that may raise; E by the slots at hand -/
def tCallG (sp : Sp) (W : WX) (t : TA) : TE := fun σ H Q => t σ H fun vs H1 => sp vs H1 Q fun cls d H' => W cls d σ H'
theorem callG {pins : List (Addr × Obj)} {σ : St} {H : Hp} {s : Shared} {Q : VK} {us : List Value} {vs : List V} (F : FnG X.prog X.w X.K X.mg X.base k f fd ps sp) (hr : Room k X.A) (hg : X.A.guards = some []) (hb : Binds X.K fd ps []) (tk : Takes X W)
    (I : L2.Inv X pins σ H s) (r : Vals vs us) (h : sp vs H Q fun cls d H' => W cls d σ H') : wpAny (model X.prog X.w) X.A (PySem.call (.ref f) us) (EP X pins σ Q) X.xe s := by
  have hl : (us ++ []).length = ps.length := by rw [List.append_nil, ← r.length]; exact F.len _ _ _ _ h
  have hbb := hb s us I.kIn hl
  rw [List.append_nil] at hbb
  refine wpAny_call (codeAny_mono (F.run X.A X.stack s H ⟨us, []⟩ us vs Q _ hr hg I.env0 hbb r h) fun r s' hq => ?_)
  cases r with
  | error e => exact tk e s' (XE.of_call I (fun _ _ _ h => h) hq)
  | ok fl =>
    cases fl with
    | ret u => exact I.after hq
    | _ => exact False.elim hq
theorem pe_callG (F : FnG X.prog X.w X.K X.mg X.base k f fd ps sp) (hr : Room k X.A) (hg : X.A.guards = some []) (hb : Binds X.K fd ps []) (tk : Takes X W) (gl : Gl X x) (hm : X.mg x = some (.ref f)) (hk : PySem.W.keepIn X.K (.ref f) = true) (ha : PA X (e :: es) t)
    (hdb : (x == ("__debug__" : Str)) = false) (he : starEach (e :: es) X.env = (false, eval e X.env) :: starEach es X.env) (hpl : (backTo pos (starEach es X.env)).any (·.1) = false) : PE X (.Call (.Name x p) (e :: es) [] pos) (tCallG sp W t) where
  run := by
    intro pins s σ H Q I h
    refine wpAny_Call_Name_kw (ld_glob I gl hm ?_ hdb)
    exact PySem.W.callWith_K (h₀ := X.base) I.ok.mod.kin hk (thn (ha.run pos pins s σ H _ I h) fun us s1 ⟨vs, H1, I1, r, q⟩ => ⟨I1.kIn, callG F hr hg hb tk I1 r q⟩) he hpl
end

/-! ### meanings as promises -/
section
variable (K : PySem.W.Frag) (G : AM)
def OwA (vs : List V) (svs : List SV) (b : Addr) : Prop := ∃ (i : Nat) (sv : SV), svs[i]? = some sv ∧ sv.isOwn = true ∧ vs[i]? = some (.ref b)
structure ArgsR (H : Hp) (vs : List V) (svs : List SV) : Prop where
  rep : Paired (SRep K G [] H) vs svs
  plain : ∀ sv ∈ svs, sv.plain = true
  sep : ∀ (i j : Nat) (s s' : SV) (v : V), svs[i]? = some s → svs[j]? = some s' → s.isOwn = true → s'.isOwn = true → vs[i]? = some v → vs[j]? = some v → i = j
structure Aft (H H' : Hp) (vs : List V) (svs outs : List SV) : Prop where
  keep : ∀ b o, H b = some o → ¬ OwA vs svs b → H' b = some o
  dom : ∀ b o, H b = some o → ∃ o', H' b = some o'
  len : outs.length = svs.length
  rep : ∀ (i : Nat) (v : V) (sv o : SV), vs[i]? = some v → svs[i]? = some sv → sv.isOwn = true → outs[i]? = some o → o.isOwn = true ∧ SRep K G [] H' v o
def spM (m : Fm) : Sp := fun vs H Q E => ∃ svs, ArgsR K G H vs svs ∧ match m svs with
  | .ok r outs => ∀ v H', Aft K G H H' vs svs outs → SRep K G [] H' v r → (r.isOwn = true → ∃ a, v = .ref a ∧ H a = none) → Q v H'
  | .err e outs => ∀ cls d H', Aft K G H H' vs svs outs → ErrR K G H' cls d e → E cls d H'
  | .stuck => False
end
/-- a def that a body may call -/
def CalleeOk (X : Cx) (G : AM) (lvl : Nat) (nm : Str) (m : Fm) : Prop := ∃ (fa : Addr) (fd : FuncData) (ps : List Str) (k : Nat), k ≤ lvl ∧ X.mg nm = some (.ref fa) ∧ PySem.W.keepIn X.K (.ref fa) = true ∧ Binds X.K fd ps [] ∧ (∀ svs, m svs ≠ .stuck → svs.length = ps.length) ∧
  FnG X.prog X.w X.K X.mg X.base k fa fd ps fun vs H Q E => vs.length = ps.length ∧ spM X.K G m vs H Q E
/-- the fields of an error, from what its class is called with -/
def pickF (fl : List (Str × Nat)) (vs : List V) : List (Str × V) := fl.map fun p => (p.1, (vs[p.2]?).getD .non)
/-- an error is made -/
def MkOk (X : Cx) (cls : Value) (x : Str) (n : Nat) (fl : List (Str × Nat)) : Prop := ∀ (e : Expr) (es : List Expr) (ta : TA) (p pos : Pos), Gl X x → (x == ("__debug__" : Str)) = false → PA X (e :: es) ta → starEach (e :: es) X.env = (false, eval e X.env) :: starEach es X.env →
  (backTo pos (starEach es X.env)).any (·.1) = false → PMk X (.Call (.Name x p) (e :: es) [] pos) fun σ H Q => ta σ H fun vs H1 => vs.length = n ∧ ∀ d H2, Ext H1 H2 → H1 d = none → H2 d = some (.xd (pickF fl vs)) → Q cls (some d) H2
/-- an error made by keywords, one of its fields -/
def MkkOk (X : Cx) (x : Str) (ks : List Str) (perm : List Nat) (fl : List (Str × Nat)) : Prop := ∀ (kws : List Keyword) (tk : TA) (p pos q : Pos) (f : Str) (j i : Nat), Gl X x → (x == ("__debug__" : Str)) = false → PK X kws tk → kws.map (·.arg) = ks.map some → fl.lookup f = some j → perm[j]? = some i →
  PE X (.Attribute (.Call (.Name x p) [] kws pos) f q) fun σ H Q => tk σ H fun vs H1 => ∃ v, vs.length = ks.length ∧ vs[i]? = some v ∧ Q v H1
/-- an error made of nothing -/
def Mk0Ok (X : Cx) (cls : Value) (x : Str) : Prop := ∀ p pos : Pos, Gl X x → (x == ("__debug__" : Str)) = false → PMk X (.Call (.Name x p) [] [] pos) fun σ H Q => Q cls none H
structure SX (cg : Cfg) (cf : Cf) (G : AM) (T : XT) (st : Sc) (X : Cx) : Prop where
  N : X.N = cg.N
  nd : cg.N.Nodup
  sc : X.env.scope = st.sc
  fn : ∀ x, st.fnS x = true → X.fn x = true
  calm : st.calm = true → X.calm = true ∧ Room cg.lvl X.A ∧ T = []
  gd : X.A.guards = some []
  un : X.A.units + 70 < cLine
  free : ∀ x ∈ cg.free, X.mg x = none
  gls : ∀ (k : Nat) (x : Str) (d : PyData), cg.glN[k]? = some x → cf.gls[k]? = some d → ∃ u v, X.mg x = some u ∧ RelV v u ∧ ∀ H, Rep X.K H v d
  gfn : ∀ (k : Nat) (x : Str), cg.gfN k = some x → X.mg x = some (.ref (G.fn k))
  fns : ∀ (k : Nat) (x : Str), cg.fnN k = some x → ∃ m, cf.fns[k]? = some m ∧ CalleeOk X G cg.lvl x m
  exT : ∀ t ∈ T, ∃ oe vs, (t.1, oe) ∈ X.pn ∧ Zc t.2.1 t.2.2 oe ∧ oe.data = .fields vs
  exN : ∀ (k : Nat) (x : Str), cg.excN k = some x → X.mg x = some (G.exc k) ∨ (X.mg x = none ∧ bootBuiltins x = some (G.exc k) ∧ x ≠ "__name__")
  exM : ∀ (j k : Nat) (b : Bool), cf.exm j k = some b → PySem.W.exmOne X.K (G.exc j) (G.exc k) = some b
  exF : ∀ (k n : Nat) (fl : List (Str × Nat)), cf.excF k = some (n, fl) → ∃ C, G.exc k = .ref C ∧ XfC X.K C ∧ ∀ p ∈ fl, PySem.W.findIn X.K (.ref C) p.1 = some none
  mks : ∀ (k : Nat) (x : Str), cg.excN k = some x → cg.excR k = true → ∃ (n : Nat) (fl : List (Str × Nat)), cf.excF k = some (n, fl) ∧
    ∀ X' : Cx, X'.prog = X.prog → X'.w = X.w → X'.K = X.K → X'.mg = X.mg → X'.base = X.base → X'.calm = true → Room cg.lvl X'.A → X'.A.guards = some [] → MkOk X' (G.exc k) x n fl
  exI : ∀ (j k : Nat) (b : Bool), cf.exi j k = some b → ∃ (D : Addr) (cv : V), G.exc j = .ref D ∧ ExcC X.K D ∧ RelV cv (G.exc k) ∧ (∀ u, RelV cv u → u = G.exc k) ∧ PySem.W.kitOne X.K (.ref D) (G.exc k) = some b
  kws : ∀ p ∈ cg.kw, ∃ (x : Str) (n : Nat) (fl : List (Str × Nat)), cg.excN p.1 = some x ∧ cf.excF p.1 = some (n, fl) ∧ ∀ X' : Cx, X'.prog = X.prog → X'.w = X.w → X'.K = X.K → X'.mg = X.mg → X'.base = X.base → X'.calm = true → Room cg.lvl X'.A → X'.A.guards = some [] → MkkOk X' x p.2.1 p.2.2 fl
  mk0 : ∀ (k : Nat) (x : Str), cg.excN k = some x → cg.ex0 k = true → cf.excF k = some (0, []) ∧ ∀ X' : Cx, X'.prog = X.prog → X'.w = X.w → X'.K = X.K → X'.mg = X.mg → X'.base = X.base → X'.calm = true → Room cg.lvl X'.A → X'.A.guards = some [] → Mk0Ok X' (G.exc k) x
section
variable {cg : Cfg} {cf : Cf} {G : AM} {T : XT} {st : Sc} {X : Cx} {W : WX}
theorem vis_of (S : SX cg cf G T st X) {x : Str} (h : visB st x = true) : Vis X.env.scope x := by
  unfold Vis
  rw [S.sc]
  unfold visB kindB at h
  split at h <;> first | (rename_i q; first | exact .inl q | exact .inr (.inl q) | exact .inr (.inr q)) | cases h
theorem loc_of (S : SX cg cf G T st X) {x : Str} (h : stoB st x = true) : L2.Loc X.env.scope x ∧ (X.fn x = true ∨ X.env.scope.names.lookup x = some .local) := by
  unfold L2.Loc
  rw [S.sc]
  unfold stoB kindB at h
  split at h
  · rename_i q; exact ⟨.inl q, .inr q⟩
  · rename_i q; exact ⟨.inr q, .inl (S.fn x h)⟩
  · cases h
theorem glo_of (S : SX cg cf G T st X) {x : Str} (h : gloB st x = true) : Gl X x ∧ (x == ("__debug__" : Str)) = false ∧ x ≠ "__name__" := by
  unfold gloB at h
  simp only [Bool.and_eq_true, Bool.not_eq_true'] at h
  obtain ⟨⟨h1, h2⟩, h3⟩ := h
  refine ⟨?_, h2, by simpa using h3⟩
  unfold Gl
  show X.env.scope.names.lookup x = _
  rw [S.sc]
  unfold kindB at h1
  split at h1
  · assumption
  · cases h1
theorem okN_of {x : Str} (h : okN x = true) : (x == ("__debug__" : Str)) = false ∧ (x == ("__classdict__" : Str)) = false := by
  unfold okN at h
  simpa using h
theorem at_of {N : List Str} {i : Nat} {x : Str} (h : (N[i]? == some x) = true) : N[i]? = some x := by simpa using h
theorem SRep.noX {K : PySem.W.Frag} {H : Hp} {v : V} {sv : SV} {T' : XT} (h : SRep K G T H v sv) (p : sv.plain = true) : SRep K G T' H v sv := by
  cases h with
  | d r => exact .d r
  | fn k => exact .fn k
  | obj e r => exact .obj e r
  | exc m e r => cases p
  | exc0 m => cases p
  | olst e r => exact .olst e r
  | oobj e r => exact .oobj e r
end
end EV

/-! Expressions: each construct. -/
namespace EV
open PySem PySem.Spec PyProof.Rows L2

section
variable (cg : Cfg) (cf : Cf) (G : AM)
def SE (c : C) : Prop := ∀ (st : Sc) (e : Expr), chkE cg st c e = true → ∀ (X : Cx) (T : XT) (W : WX), SX cg cf G T st X → Takes X W → PE X e (tE X.K G T W (semE cf c))
def ST (c : C) : Prop := ∀ (st : Sc) (e : Expr), okT c = true → chkE cg st c e = true → ∀ (X : Cx) (T : XT) (W : WX), SX cg cf G T st X → Takes X W → PT X e (tT X.K G T W (semE cf c))
def SLs (c : C) : Prop := ∀ (st : Sc) (es : List Expr), chkL cg st c es = true → ∀ (X : Cx) (T : XT) (W : WX), SX cg cf G T st X → Takes X W → PA X es (tL X.K G T W (semL cf c))
end
/-! ### shapes -/
theorem chk_star {cg : Cfg} {st : Sc} : ∀ (c : C) (v : Expr) (p : Pos), chkE cg st c (.Starred v p) = false := by
  intro c
  induction c with
  | frz a ih => intro v p; unfold chkE; exact ih v p
  | _ => intro v p; first | rfl | (unfold chkE; rfl)
theorem noStar {cg : Cfg} {st : Sc} {c : C} {e : Expr} (h : chkE cg st c e = true) (es : List Expr) (env : PySem.Env) : starEach (e :: es) env = (false, eval e env) :: starEach es env := by
  cases e <;> first | rfl | (rw [chk_star] at h; cases h)
theorem noStarA {cg : Cfg} {st : Sc} : ∀ (c : C) {es : List Expr} {p : Pos} {env : PySem.Env}, chkA cg st c es = true → (backTo p (starEach es env)).any (·.1) = false := by
  intro c
  induction c with
  | nil =>
    intro es p env h
    unfold chkA at h
    cases es with
    | nil => rfl
    | cons _ _ => cases h
  | cons a b _ ih =>
    intro es p env h
    unfold chkA at h
    cases es with
    | nil => cases h
    | cons e r =>
      simp only [Bool.and_eq_true] at h
      have hs : starEach (e :: r) env = (false, eval e env) :: starEach r env := by
        cases e with
        | Starred v p => 
          have h1 := h.1
          split at h1
          · cases h1
          · rw [chk_star] at h1; cases h1
        | _ => rfl
      rw [hs]
      have := ih (p := p) (env := env) h.2
      unfold backTo at this ⊢
      rw [List.map_cons, List.any_cons, this]
      rfl
  | _ => intro es p env h; cases h
theorem noStarL {cg : Cfg} {st : Sc} : ∀ (c : C) {es : List Expr} {p : Pos} {env : PySem.Env}, chkL cg st c es = true → (backTo p (starEach es env)).any (·.1) = false := by
  intro c
  induction c with
  | nil =>
    intro es p env h
    unfold chkL at h
    cases es with
    | nil => rfl
    | cons _ _ => cases h
  | cons a b _ ih =>
    intro es p env h
    unfold chkL at h
    cases es with
    | nil => cases h
    | cons e r =>
      simp only [Bool.and_eq_true] at h
      rw [noStar h.1]
      have := ih (p := p) (env := env) h.2
      unfold backTo at this ⊢
      rw [List.map_cons, List.any_cons, this]
      rfl
  | _ => intro es p env h; cases h
section
variable {cg : Cfg} {cf : Cf} {G : AM} {a b c i lo hi es : C}
/-! ### constants and names -/
theorem tE_pure {K : PySem.W.Frag} {T : XT} {W : WX} {σ : St} {H : Hp} {Q : VK} {m : Env → R SV} {sv : SV} (hm : ∀ ρ, m ρ = .ok sv ρ) (v : V) (hv : ∀ H, SRep K G T H v sv) (n : sv.isOwn = false) (h : tE K G T W m σ H Q) : Q v H := by
  obtain ⟨ρ, env, o⟩ := h
  rw [hm] at o
  exact o H (Post.refl env) v (hv H) (Fresh.no n)
theorem se_none : SE cg cf G .none := by
  intro st e h X T W S tk
  unfold chkE at h
  split at h <;> first | cases h | skip
  exact PE.imp pe_non fun σ H Q q => tE_pure (fun _ => rfl) _ (fun H => .d .non) rfl q
theorem se_bl {t : Bool} : SE cg cf G (.bl t) := by
  intro st e h X T W S tk
  unfold chkE at h
  split at h <;> first | cases h | skip
  obtain rfl := eq_of_beq h
  exact PE.imp pe_bl fun σ H Q q => tE_pure (fun _ => rfl) _ (fun H => .d (.bl _)) rfl q
theorem se_int {n : Int} : SE cg cf G (.int n) := by
  intro st e h X T W S tk
  unfold chkE at h
  split at h <;> first | cases h | skip
  obtain rfl := eq_of_beq h
  exact PE.imp pe_int fun σ H Q q => tE_pure (fun _ => rfl) _ (fun H => .d (.int _)) rfl q
theorem se_str {z : Str} : SE cg cf G (.str z) := by
  intro st e h X T W S tk
  unfold chkE at h
  split at h <;> first | cases h | skip
  simp only [Bool.and_eq_true] at h
  obtain rfl := eq_of_beq h.1
  exact PE.imp pe_str fun σ H Q q => tE_pure (fun _ => rfl) _ (fun H => .d (.str _ h.2)) rfl q
/-- an owned list in hand is frozen -/
theorem frz_inv {X : Cx} {pins : List (Addr × Obj)} {σ : St} {H : Hp} {s : Shared} {p : Addr} {xs : List V} (I : L2.Inv X pins σ H s) (h : H p = some (.lst xs)) : ∃ o, L2.Inv X pins σ (upd H p (.frz o (.lst xs))) s := by
  obtain ⟨z, its, n, r, e⟩ := I.hok p _ h
  have ne : ∀ {b : Addr} {u : HO}, H b = some u → u ≠ .lst xs → b ≠ p := fun q d y => by rw [y, h] at q; cases q; exact d rfl
  refine ⟨({ cls := .type "list", data := .seq its.toArray n } : Obj), I.un (h' := s.heap) (t' := s.toks) (H' := upd H p (.frz ({ cls := .type "list", data := .seq its.toArray n } : Obj) (.lst xs)))
    ⟨fun b o q _ _ _ => q, fun b o q _ _ _ => ⟨o.slots, q⟩, fun b o q hn _ => ?_, fun b o q _ => ⟨o, q⟩, fun b ys q => ?_, fun b o u q => ?_, fun b ps q => ⟨(#[] : Array Value), ?_⟩⟩ fun b o q => ?_⟩
  · rw [upd_ne (fun y => by rw [y, h] at hn; cases hn)]; exact hn
  · rw [upd_ne (ne q (fun y => by cases y))]; exact q
  · rw [upd_ne (ne q (fun y => by cases y))]; exact q
  · rw [upd_ne (ne q (fun y => by cases y)), q]; simp
  · by_cases hb : b = p
    · subst hb
      rw [upd_same] at q
      cases q
      exact ⟨e, ⟨z, its, n, r, e⟩⟩
    · rw [upd_ne hb] at q
      exact (I.hok b o q).stay (fun c v _ z => z) (fun c z => by rw [upd_ne (ne z (fun y => by cases y))]; exact z) fun c ys z => by rw [upd_ne (ne z (fun y => by cases y))]; exact z
/-- a value in hand may be frozen -/
def tFz (t : TE) : TE := fun σ H Q => t σ H fun v H1 => Q v H1 ∨ ∃ p xs, v = .ref p ∧ H1 p = some (.lst xs) ∧ ∀ o, Q v (upd H1 p (.frz o (.lst xs)))
theorem pe_fz {X : Cx} {e : Expr} {t : TE} (h : PE X e t) : PE X e (tFz t) := ⟨fun pins s σ H Q I q => thn (h.run pins s σ H _ I q) fun u s1 ⟨v, H1, I1, r, q1⟩ => by
  rcases q1 with q1 | ⟨p, xs, e1, e2, q1⟩
  · exact ⟨v, H1, I1, r, q1⟩
  · obtain ⟨o, J⟩ := frz_inv I1 e2
    exact ⟨v, _, J, r, q1 o⟩⟩
/-- what a freezing does to an environment: the slot that owned the list, or none -/
theorem EnvR.frz {K : PySem.W.Frag} {T : XT} {σ : St} {H : Hp} {ρ : Env} {i : Nat} {p : Addr} {vs : List V} {xs : List PyData} {o : Obj} (e : EnvR K G T σ H ρ) (hi : ρ[i]? = some (some (.olst xs))) (hs : σ[i]? = some (some (.ref p))) (hp : H p = some (.lst vs))
    (r : Reps K H vs xs) : Post K G T [] σ σ H (upd H p (.frz o (.lst vs))) ρ (ρ.set i (some (.d (.list xs)))) := by
  have sty : Stay H (upd H p (.frz o (.lst vs))) := fun b u q n => by rw [upd_ne (fun y => by rw [y, hp] at q; cases q; cases n)]; exact q
  have hil : i < ρ.length := (List.getElem?_eq_some_iff.mp hi).1
  have new : SRep K G T (upd H p (.frz o (.lst vs))) (.ref p) (.d (.list xs)) := .d (.lst (.inl ⟨o, upd_same⟩) (Reps.stay sty _ _ r))
  have at_ : ∀ (j : Nat) (sv : SV), (ρ.set i (some (.d (.list xs))))[j]? = some (some sv) → (j = i ∧ sv = .d (.list xs)) ∨ (j ≠ i ∧ ρ[j]? = some (some sv)) := fun j sv h => by
    by_cases hj : i = j
    · subst hj
      rw [List.getElem?_set_self hil] at h
      cases h
      exact .inl ⟨rfl, rfl⟩
    · rw [List.getElem?_set_ne hj] at h
      exact .inr ⟨fun z => hj z.symm, h⟩
  refine ⟨⟨by rw [List.length_set]; exact e.len, fun j sv h => ?_, fun j k s s' v h1 h2 o1 o2 g1 g2 => ?_⟩, fun b u q n => ?_, fun b w => ?_, fun b u q => ?_, fun _ hm => (by cases hm)⟩
  · rcases at_ j sv h with ⟨rfl, rfl⟩ | ⟨hj, h⟩
    · exact ⟨_, hs, new⟩
    · obtain ⟨v, q, rr⟩ := e.at_ j sv h
      refine ⟨v, q, ?_⟩
      cases n : sv.isOwn with
      | false => exact rr.stay sty n
      | true =>
        refine rr.stayO sty fun a u ev q2 _ => ?_
        rw [upd_ne (fun y => ?_)]
        · exact q2
        · subst y
          subst ev
          exact hj (e.sep j i _ _ _ h hi n rfl q hs)
  · rcases at_ j s h1 with ⟨rfl, rfl⟩ | ⟨hj, h1⟩
    · cases o1
    · rcases at_ k s' h2 with ⟨rfl, rfl⟩ | ⟨hk, h2⟩
      · cases o2
      · exact e.sep j k s s' v h1 h2 o1 o2 g1 g2
  · rw [upd_ne (fun y => n ⟨i, _, hi, rfl, by rw [y]; exact hs⟩)]
    exact q
  · obtain ⟨j, sv, h1, h2, h3⟩ := w
    rcases at_ j sv h1 with ⟨rfl, rfl⟩ | ⟨hj, h1⟩
    · cases h2
    · exact .inl ⟨j, sv, h1, h2, h3⟩
  · by_cases hb : b = p
    · exact ⟨_, by rw [hb]; exact upd_same⟩
    · exact ⟨u, by rw [upd_ne hb]; exact q⟩
end
end EV

/-! Expressions: each construct (2). -/
namespace EV
open PySem PySem.Spec PyProof.Rows L2
section
variable (cg : Cfg) (cf : Cf) (G : AM)
def STs (c : C) : Prop := ∀ (st : Sc) (e : Expr), okT c = true → chkE cg st c e = true → ∀ (X : Cx) (T : XT) (W : WX), SX cg cf G T st X → Takes X W →
  PT X e (tT X.K G T W (semE cf c)) ∧ ((∃ o vs p, e = .BoolOp o vs p) → PW X e (tT X.K G T W (semE cf c)))
end
section
variable {K : PySem.W.Frag} {G : AM} {T : XT} {W : WX} {σ : St} {H : Hp} {Q : VK}
theorem tE_op2 {ma mb : Env → R SV} {g : SV → SV → Option SV} (q : tE K G T W (fun ρ => (ma ρ).bind fun x ρ => (mb ρ).bind fun y ρ => R.lift (g x y) ρ) σ H Q) : tOp (r2 K G T g) (tE K G T W ma) (tE K G T W mb) σ H Q := by
  obtain ⟨ρ, env, o⟩ := q
  refine ⟨ρ, env, o.bind.imp fun sa ρ1 H1 p1 h1 v r1 f1 => ⟨ρ1, p1.env, h1.bind.imp fun sb ρ2 H2 p2 h2 w r2 f2 => ?_⟩⟩
  obtain ⟨z, ez, hz⟩ := h2.lift
  exact ⟨sa, sb, z, r1.post p1.env f1 p2, r2, ez, Give.of p2.env (p1.trans p2).dom fun H' p v sv fr => hz H' p v sv fr⟩
theorem tT_E {m : Env → R SV} {Q : Bool → Hp → Prop} (q : tT K G T W m σ H Q) : tE K G T W m σ H fun x H1 => ∃ c, x = .bl c ∧ Q c H1 := by
  obtain ⟨ρ, env, o⟩ := q
  refine ⟨ρ, env, o.imp fun sv ρ1 H1 p1 h1 v r f => ?_⟩
  obtain ⟨b, eb, q⟩ := h1
  cases sv with
  | d x =>
    cases x with
    | bool c => cases eb; cases r.rep; exact ⟨_, rfl, q⟩
    | _ => cases eb
  | _ => cases eb
theorem asB_eq {sv : SV} {b : Bool} (h : asB sv = some b) : sv = .d (.bool b) := by
  cases sv with
  | d x =>
    cases x with
    | bool c => cases h; rfl
    | _ => cases h
  | _ => cases h
end
section
variable {cg : Cfg} {cf : Cf} {G : AM} {a b c i lo hi es : C}
theorem se_var {i : Nat} : SE cg cf G (.var i) := by
  intro st e h X T W S tk
  unfold chkE at h
  split at h <;> first | cases h | skip
  simp only [Bool.and_eq_true] at h
  obtain ⟨⟨h1, h2⟩, h3⟩ := h
  obtain ⟨d1, d2⟩ := okN_of h3
  refine PE.imp (pe_fz (pe_var (i := i) (by rw [S.N]; exact at_of h1) (vis_of S h2) d1 d2)) fun σ H Q q => ?_
  obtain ⟨ρ, env, o⟩ := q
  replace o : Out X.K G T W σ H ρ (match getS ρ i with
    | some (.olst xs) => .ok (.d (.list xs)) (ρ.set i (some (.d (.list xs))))
    | some (.oobj _ _) => .stuck
    | some sv => .ok sv ρ
    | Option.none => .stuck) _ := o
  cases g : getS ρ i with
  | none => rw [g] at o; exact o.elim
  | some sv =>
    obtain ⟨v, hv, rv⟩ := env.get g
    rw [g] at o
    cases sv with
    | olst xs =>
      cases rv with
      | olst e1 r1 =>
        refine ⟨_, hv, .inr ⟨_, _, rfl, e1, fun ob => ?_⟩⟩
        have p := env.frz (o := ob) (getS_at g) hv e1 r1
        refine o _ p _ ?_ (Fresh.no rfl)
        obtain ⟨w, q1, q2⟩ := p.env.at_ i (.d (.list xs)) (List.getElem?_set_self (List.getElem?_eq_some_iff.mp (getS_at g)).1)
        rw [hv] at q1
        cases q1
        exact q2
    | oobj C fs => exact o.elim
    | d x => exact ⟨_, hv, .inl (o H (Post.refl env) _ rv (Fresh.no rfl))⟩
    | fn k => exact ⟨_, hv, .inl (o H (Post.refl env) _ rv (Fresh.no rfl))⟩
    | obj C fs => exact ⟨_, hv, .inl (o H (Post.refl env) _ rv (Fresh.no rfl))⟩
    | exc C fs => exact ⟨_, hv, .inl (o H (Post.refl env) _ rv (Fresh.no rfl))⟩
theorem se_gl {k : Nat} : SE cg cf G (.gl k) := by
  intro st e h X T W S tk
  unfold chkE at h
  split at h <;> first | cases h | skip
  simp only [Bool.and_eq_true] at h
  obtain ⟨g1, g2, g3⟩ := glo_of S h.2
  cases hd : cf.gls[k]? with
  | none =>
    refine ⟨fun pins s σ H Q I q => ?_⟩
    obtain ⟨ρ, env, o⟩ := q
    replace o : Out X.K G T W σ H ρ (R.lift ((cf.gls[k]?).map SV.d) ρ) _ := o
    rw [hd] at o
    exact o.elim
  | some d =>
    obtain ⟨u, v, h1, h2, h3⟩ := S.gls k _ d (at_of h.1) hd
    refine PE.imp (pe_glob g1 h1 h2 g2) fun σ H Q q => tE_pure (fun ρ => ?_) v (fun H => .d (h3 H)) rfl q
    show R.lift ((cf.gls[k]?).map SV.d) ρ = _
    rw [hd]
    rfl
theorem se_gfn {k : Nat} : SE cg cf G (.gfn k) := by
  intro st e h X T W S tk
  unfold chkE at h
  split at h <;> first | cases h | skip
  simp only [Bool.and_eq_true] at h
  obtain ⟨g1, g2, g3⟩ := glo_of S h.2
  exact PE.imp (pe_glob g1 (S.gfn k _ (by simpa using h.1)) (v := .ref (G.fn k)) rfl g2) fun σ H Q q => tE_pure (fun _ => rfl) _ (fun H => .fn k) rfl q
theorem se_bin {o : BOp} (ia : SE cg cf G a) (ib : SE cg cf G b) : SE cg cf G (.bin o a b) := by
  intro st e h X T W S tk
  unfold chkE at h
  split at h <;> first | cases h | skip
  simp only [Bool.and_eq_true] at h
  obtain ⟨⟨h1, h2⟩, h3⟩ := h
  rw [opB_eq h1]
  exact PE.imp (pe_op (op_bin (G := G) (T := T) o) (ia st _ h2 X T W S tk) (ib st _ h3 X T W S tk)) fun σ H Q q => tE_op2 q
theorem se_neg (ia : SE cg cf G a) : SE cg cf G (.neg a) := by
  intro st e h X T W S tk
  unfold chkE at h
  split at h <;> first | cases h | skip
  refine PE.imp (pe_un un_neg (ia st _ h X T W S tk)) fun σ H Q q => ?_
  obtain ⟨ρ, env, o⟩ := q
  refine ⟨ρ, env, Out.imp (Out.bind o) fun sa ρ1 H1 p1 h1 v r1 f1 => ?_⟩
  split at h1
  · cases r1.rep
    exact ⟨_, rfl, h1 H1 (Post.refl p1.env) _ (.d (.int _)) (Fresh.no rfl)⟩
  · exact h1.elim
theorem cmp_op {o : COp} {X : Cx} {T : XT} {st : Sc} (S : SX cg cf G T st X) (h : plainC o = true) : OpR X (compareOp (cmpOf o)) (r2 X.K G T (cmpop o)) := op_cmp (by have := S.un; omega) o h
theorem isNn_v {X : Cx} {T : XT} {H : Hp} {v : V} {sa : SV} (r1 : SRep X.K G T H v sa) : isNn sa = decide (v = .non) := by
  cases sa with
  | d x =>
    cases x with
    | none => cases r1.rep; rfl
    | bool b => cases r1.rep; rfl
    | int b => cases r1.rep; rfl
    | str b => cases r1.rep; rfl
    | list b => cases r1.rep; rfl
    | tuple b => cases r1.rep; rfl
    | dict b => cases r1.rep
  | fn k => cases r1; rfl
  | obj C fs => cases r1; rfl
  | exc C fs => cases r1 <;> rfl
  | olst xs => cases r1; rfl
  | oobj C fs => cases r1; rfl
theorem isN_read {X : Cx} {T : XT} {W : WX} {ma : Env → R SV} {σ : St} {H : Hp} {Q : VK} 
    (q : tE X.K G T W (fun ρ => (ma ρ).bind fun x ρ => (R.ok (SV.d PyData.none) ρ : R SV).bind fun y ρ => R.lift (cmpop .isN x y) ρ) σ H Q) : tIsN (tE X.K G T W ma) σ H Q := by
  obtain ⟨ρ, env, oo⟩ := q
  refine ⟨ρ, env, oo.bind.imp fun sa ρ1 H1 p1 h1 v r1 f1 => ?_⟩
  have z := (h1 : Out X.K G T W σ H1 ρ1 (R.ok (SV.d (.bool (isNn sa))) ρ1) _) H1 (Post.refl p1.env) (.bl (isNn sa)) (.d (.bl _)) (Fresh.no rfl)
  rw [isNn_v r1] at z
  exact z
theorem notN_read {X : Cx} {T : XT} {W : WX} {ma : Env → R SV} {σ : St} {H : Hp} {Q : VK} 
    (q : tE X.K G T W (fun ρ => (ma ρ).bind fun x ρ => (R.ok (SV.d PyData.none) ρ : R SV).bind fun y ρ => R.lift (cmpop .notN x y) ρ) σ H Q) : tNotN (tE X.K G T W ma) σ H Q := by
  obtain ⟨ρ, env, oo⟩ := q
  refine ⟨ρ, env, oo.bind.imp fun sa ρ1 H1 p1 h1 v r1 f1 => ?_⟩
  have z := (h1 : Out X.K G T W σ H1 ρ1 (R.ok (SV.d (.bool !isNn sa)) ρ1) _) H1 (Post.refl p1.env) (.bl !isNn sa) (.d (.bl _)) (Fresh.no rfl)
  rw [isNn_v r1] at z
  exact z
theorem noneB_eq {r : Expr} (h : noneB r = true) : ∃ k p, r = .Constant .none k p := by
  unfold noneB at h
  split at h
  · exact ⟨_, _, rfl⟩
  · cases h
theorem se_cmp {o : COp} (ia : SE cg cf G a) (ib : SE cg cf G b) : SE cg cf G (.cmp o a b) := by
  intro st e h X T W S tk
  unfold chkE at h
  split at h <;> first | cases h | skip
  simp only [Bool.and_eq_true] at h
  obtain ⟨⟨h1, h2⟩, h3⟩ := h
  rw [cmB_eq h1]
  split at h3
  · rename_i hp
    simp only [Bool.and_eq_true, Bool.not_eq_true'] at h3
    rw [cmB_eq h1] at h3
    exact PE.imp (pe_cmpR (cmp_op S hp) (ia st _ h2 X T W S tk) (ib st _ h3.1 X T W S tk) h3.2) fun σ H Q q => tE_op2 q
  · rename_i hp
    simp only [Bool.and_eq_true] at h3
    obtain ⟨h4, h5⟩ := h3
    obtain ⟨k, ps, rfl⟩ := noneB_eq h4
    cases b <;> first | cases h5 | skip
    cases o <;> first | exact absurd rfl hp | skip
    · exact PE.imp (pe_cmp (pc_isN (ia st _ h2 X T W S tk)) (by rfl)) fun σ H Q q => isN_read q
    · exact PE.imp (pe_cmp (pc_notN (ia st _ h2 X T W S tk)) (by rfl)) fun σ H Q q => notN_read q
theorem st_cmp {o : COp} (ia : SE cg cf G a) (ib : SE cg cf G b) : STs cg cf G (.cmp o a b) := by
  intro st e _ h X T W S tk
  unfold chkE at h
  split at h <;> first | cases h | skip
  simp only [Bool.and_eq_true] at h
  obtain ⟨⟨h1, h2⟩, h3⟩ := h
  refine ⟨?_, fun ⟨_, _, _, z⟩ => nomatch z⟩
  rw [cmB_eq h1]
  split at h3
  · rename_i hp
    simp only [Bool.and_eq_true, Bool.not_eq_true'] at h3
    rw [cmB_eq h1] at h3
    exact PT.imp (pt_cmpR (cmp_op S hp) (ia st _ h2 X T W S tk) (ib st _ h3.1 X T W S tk) h3.2) fun σ H Q q => tE_op2 (tT_E q)
  · rename_i hp
    simp only [Bool.and_eq_true] at h3
    obtain ⟨h4, h5⟩ := h3
    obtain ⟨k, ps, rfl⟩ := noneB_eq h4
    cases b <;> first | cases h5 | skip
    cases o <;> first | exact absurd rfl hp | skip
    · exact PT.imp (pt_cmp (pc_isN (ia st _ h2 X T W S tk)) (by rfl)) fun σ H Q q => isN_read (tT_E q)
    · exact PT.imp (pt_cmp (pc_notN (ia st _ h2 X T W S tk)) (by rfl)) fun σ H Q q => notN_read (tT_E q)
/-- a test from a value -/
theorem st_val (ia : SE cg cf G a) (hs : ∀ st e, okT a = true → chkE cg st a e = true → (∀ (env : PySem.Env) (whole : Sem Value), isTrue e env whole = (do let v ← whole; standAt e.pos; holding [v] (truthy v))) ∧ ¬ ∃ o vs p, e = .BoolOp o vs p) : STs cg cf G a := by
  intro st e ho h X T W S tk
  obtain ⟨h1, h2⟩ := hs st e ho h
  exact ⟨PT.imp (pt_val (ia st e h X T W S tk) (h1 _)) fun σ H Q q => tT_E q, fun z => absurd z h2⟩
end
end EV

/-! Expressions: each construct (3). -/
namespace EV
open PySem PySem.Spec PyProof.Rows L2
section
variable {cg : Cfg} {cf : Cf} {G : AM} {a b c i lo hi es elt cond it : C}
theorem bind_asB {K : PySem.W.Frag} {T : XT} {W : WX} {σ : St} {H : Hp} {ρ : Env} {α : Type} {o : Option SV} {k : Option Bool → R α} {Q : α → Env → Hp → Prop} (h : Out K G T W σ H ρ (k (o.bind asB)) Q) (hn : k Option.none = .stuck) : ∃ z t, o = some z ∧ asB z = some t ∧ Out K G T W σ H ρ (k (some t)) Q := by
  cases o with
  | none => rw [Option.bind_none, hn] at h; exact h.elim
  | some z =>
    rw [Option.bind_some] at h
    cases e : asB z with
    | none => rw [e, hn] at h; exact h.elim
    | some t => rw [e] at h; exact ⟨z, t, rfl, e, h⟩
theorem cmp2_read {o q : COp} {K : PySem.W.Frag} {T : XT} {W : WX} {σ : St} {H : Hp} {Q : VK} (h : tE K G T W (semE cf (.cmp2 o q a b c)) σ H Q) :
    tChain (r2 K G T (cmpop o)) (r2 K G T (cmpop q)) (tE K G T W (semE cf a)) (tE K G T W (semE cf b)) (tE K G T W (semE cf c)) σ H Q := by
  obtain ⟨ρ, env, oo⟩ := h
  refine ⟨ρ, env, Out.imp (Out.bind oo) fun sa ρ1 H1 p1 h1 v r1 f1 => ⟨ρ1, p1.env, h1.bind.imp fun sb ρ2 H2 p2 h2 w r2 f2 => ?_⟩⟩
  obtain ⟨z, t, ez, et, h3⟩ := bind_asB (k := fun t => match t with
    | some true => (semE cf c ρ2).bind fun z ρ => R.lift (cmpop q sb z) ρ
    | some false => .ok (.d (.bool false)) ρ2
    | Option.none => .stuck) h2 rfl
  obtain rfl := asB_eq et
  refine ⟨sa, sb, _, r1.post p1.env f1 p2, r2, ez, fun v3 H3 x3 r3 _ => ?_⟩
  cases r3.rep
  refine ⟨t, rfl, ?_⟩
  have p3 : Post K G T [] σ σ H2 H3 ρ2 ρ2 := Post.ext p2.env x3
  cases t with
  | true =>
    rw [if_pos rfl]
    refine ⟨ρ2, p3.env, Out.imp (Out.bind (Out.back p3 h3)) fun sc ρ4 H4 p4 h4 v4 r4 f4 => ?_⟩
    obtain ⟨z, ez, hz⟩ := h4.lift
    exact ⟨sb, sc, z, (r2.post p2.env f2 p3).post p3.env (f2.post r2 p3) p4, r4, ez, Give.of p4.env (((p1.trans p2).trans p3).trans p4).dom fun H' p v sv fr => hz H' p v sv fr⟩
  | false =>
    rw [if_neg Bool.false_ne_true]
    exact (Out.back p3 h3) H3 (Post.refl p3.env) _ (.d (.bl _)) (Fresh.no rfl)
theorem se_cmp2 {o q : COp} (ia : SE cg cf G a) (ib : SE cg cf G b) (ic : SE cg cf G c) : SE cg cf G (.cmp2 o q a b c) := by
  intro st e h X T W S tk
  unfold chkE at h
  split at h <;> first | cases h | skip
  simp only [Bool.and_eq_true, Bool.not_eq_true'] at h
  obtain ⟨⟨⟨⟨⟨⟨⟨h1, h2⟩, h3⟩, h4⟩, h5⟩, h6⟩, h7⟩, h8⟩ := h
  obtain rfl := cmB_eq h1
  obtain rfl := cmB_eq h2
  exact PE.imp (pe_chain (cmp_op S h3) (cmp_op S h4) (ia st _ h5 X T W S tk) (ib st _ h6 X T W S tk) (ic st _ h7 X T W S tk) h8) fun σ H Q q => cmp2_read q
theorem st_cmp2 {o q : COp} (ia : SE cg cf G a) (ib : SE cg cf G b) (ic : SE cg cf G c) : STs cg cf G (.cmp2 o q a b c) := by
  intro st e _ h X T W S tk
  unfold chkE at h
  split at h <;> first | cases h | skip
  simp only [Bool.and_eq_true, Bool.not_eq_true'] at h
  obtain ⟨⟨⟨⟨⟨⟨⟨h1, h2⟩, h3⟩, h4⟩, h5⟩, h6⟩, h7⟩, h8⟩ := h
  obtain rfl := cmB_eq h1
  obtain rfl := cmB_eq h2
  exact ⟨PT.imp (pt_chain (cmp_op S h3) (cmp_op S h4) (ia st _ h5 X T W S tk) (ib st _ h6 X T W S tk) (ic st _ h7 X T W S tk) h8) fun σ H Q q => cmp2_read (tT_E q), fun ⟨_, _, _, z⟩ => nomatch z⟩
/-! ### and, or, not, if -/
section
variable {K : PySem.W.Frag} {T : XT} {W : WX} {σ : St} {H : Hp} {ρ : Env} {α : Type}
theorem caseB {sv : SV} {k : Option Bool → R α} {Q : α → Env → Hp → Prop} (h : Out K G T W σ H ρ (k (asB sv)) Q) (hn : k Option.none = .stuck) : ∃ t, sv = .d (.bool t) ∧ Out K G T W σ H ρ (k (some t)) Q := by
  obtain ⟨z, t, e1, e2, q⟩ := bind_asB (o := some sv) (k := k) h hn
  cases e1
  exact ⟨t, asB_eq e2, q⟩
theorem not_read {Q : VK} (h : tE K G T W (semE cf (.not a)) σ H Q) : tNotV (tE K G T W (semE cf a)) σ H Q := by
  obtain ⟨ρ, env, o⟩ := h
  refine ⟨ρ, env, Out.imp (Out.bind o) fun sa ρ1 H1 p1 h1 v r1 f1 => ?_⟩
  obtain ⟨t, rfl, h2⟩ := caseB (k := fun t => match t with
    | some b => .ok (SV.d (.bool !b)) ρ1
    | Option.none => .stuck) h1 rfl
  cases r1.rep
  exact ⟨t, rfl, h2 H1 (Post.refl p1.env) _ (.d (.bl _)) (Fresh.no rfl)⟩
theorem and_read {Q : VK} (h : tE K G T W (semE cf (.and a b)) σ H Q) : tAndV (tE K G T W (semE cf a)) (tE K G T W (semE cf b)) σ H Q := by
  obtain ⟨ρ, env, o⟩ := h
  refine ⟨ρ, env, Out.imp (Out.bind o) fun sa ρ1 H1 p1 h1 v r1 f1 => ?_⟩
  obtain ⟨t, rfl, h2⟩ := caseB (k := fun t => match t with
    | some true => semE cf b ρ1
    | some false => .ok (.d (.bool false)) ρ1
    | Option.none => .stuck) h1 rfl
  cases r1.rep
  refine ⟨t, rfl, ?_⟩
  cases t with
  | true => exact ⟨ρ1, p1.env, h2.imp fun sb ρ2 H2 p2 h3 v r f => h3 v r (f.back p1.dom)⟩
  | false => exact h2 H1 (Post.refl p1.env) _ (.d (.bl _)) (Fresh.no rfl)
theorem or_read {Q : VK} (h : tE K G T W (semE cf (.or a b)) σ H Q) : tOrV (tE K G T W (semE cf a)) (tE K G T W (semE cf b)) σ H Q := by
  obtain ⟨ρ, env, o⟩ := h
  refine ⟨ρ, env, Out.imp (Out.bind o) fun sa ρ1 H1 p1 h1 v r1 f1 => ?_⟩
  obtain ⟨t, rfl, h2⟩ := caseB (k := fun t => match t with
    | some true => .ok (.d (.bool true)) ρ1
    | some false => semE cf b ρ1
    | Option.none => .stuck) h1 rfl
  cases r1.rep
  refine ⟨t, rfl, ?_⟩
  cases t with
  | false => exact ⟨ρ1, p1.env, h2.imp fun sb ρ2 H2 p2 h3 v r f => h3 v r (f.back p1.dom)⟩
  | true => exact h2 H1 (Post.refl p1.env) _ (.d (.bl _)) (Fresh.no rfl)
theorem notT_read {Q : Bool → Hp → Prop} (h : tT K G T W (semE cf (.not a)) σ H Q) : tNot (tT K G T W (semE cf a)) σ H Q := by
  obtain ⟨ρ, env, o⟩ := h
  refine ⟨ρ, env, Out.imp (Out.bind o) fun sa ρ1 H1 p1 h1 => ?_⟩
  obtain ⟨t, rfl, h2⟩ := caseB (k := fun t => match t with
    | some b => .ok (SV.d (.bool !b)) ρ1
    | Option.none => .stuck) h1 rfl
  obtain ⟨c, ec, q⟩ := h2 H1 (Post.refl p1.env)
  cases ec
  exact ⟨t, rfl, q⟩
theorem andT_read {Q : Bool → Hp → Prop} (h : tT K G T W (semE cf (.and a b)) σ H Q) : tAnd (tT K G T W (semE cf a)) (tT K G T W (semE cf b)) σ H Q := by
  obtain ⟨ρ, env, o⟩ := h
  refine ⟨ρ, env, Out.imp (Out.bind o) fun sa ρ1 H1 p1 h1 => ?_⟩
  obtain ⟨t, rfl, h2⟩ := caseB (k := fun t => match t with
    | some true => semE cf b ρ1
    | some false => .ok (.d (.bool false)) ρ1
    | Option.none => .stuck) h1 rfl
  refine ⟨t, rfl, ?_⟩
  cases t with
  | true => exact ⟨ρ1, p1.env, h2⟩
  | false =>
    obtain ⟨c, ec, q⟩ := h2 H1 (Post.refl p1.env)
    cases ec
    exact q
theorem orT_read {Q : Bool → Hp → Prop} (h : tT K G T W (semE cf (.or a b)) σ H Q) : tOr (tT K G T W (semE cf a)) (tT K G T W (semE cf b)) σ H Q := by
  obtain ⟨ρ, env, o⟩ := h
  refine ⟨ρ, env, Out.imp (Out.bind o) fun sa ρ1 H1 p1 h1 => ?_⟩
  obtain ⟨t, rfl, h2⟩ := caseB (k := fun t => match t with
    | some true => .ok (.d (.bool true)) ρ1
    | some false => semE cf b ρ1
    | Option.none => .stuck) h1 rfl
  refine ⟨t, rfl, ?_⟩
  cases t with
  | false => exact ⟨ρ1, p1.env, h2⟩
  | true =>
    obtain ⟨c, ec, q⟩ := h2 H1 (Post.refl p1.env)
    cases ec
    exact q
theorem ife_read {Q : VK} (h : tE K G T W (semE cf (.ife c a b)) σ H Q) : tIf (tT K G T W (semE cf c)) (tE K G T W (semE cf a)) (tE K G T W (semE cf b)) σ H Q := by
  obtain ⟨ρ, env, o⟩ := h
  refine ⟨ρ, env, Out.imp (Out.bind o) fun sa ρ1 H1 p1 h1 => ?_⟩
  obtain ⟨t, rfl, h2⟩ := caseB (k := fun t => match t with
    | some true => semE cf a ρ1
    | some false => semE cf b ρ1
    | Option.none => .stuck) h1 rfl
  refine ⟨t, rfl, ?_⟩
  cases t with
  | true => exact ⟨ρ1, p1.env, h2.imp fun sb ρ2 H2 p2 h3 v r f => h3 v r (f.back p1.dom)⟩
  | false => exact ⟨ρ1, p1.env, h2.imp fun sb ρ2 H2 p2 h3 v r f => h3 v r (f.back p1.dom)⟩
end
theorem se_not (ia : SE cg cf G a) : SE cg cf G (.not a) := by
  intro st e h X T W S tk
  unfold chkE at h
  split at h <;> first | cases h | skip
  exact PE.imp (pe_not (ia st _ h X T W S tk)) fun σ H Q q => not_read q
theorem st_not (ia : STs cg cf G a) : STs cg cf G (.not a) := by
  intro st e ho h X T W S tk
  unfold chkE at h
  split at h <;> first | cases h | skip
  exact ⟨PT.imp (pt_not (ia st _ (by unfold okT at ho; exact ho) h X T W S tk).1) fun σ H Q q => notT_read q, fun ⟨_, _, _, z⟩ => nomatch z⟩
theorem se_and (ia : SE cg cf G a) (ib : SE cg cf G b) : SE cg cf G (.and a b) := by
  intro st e h X T W S tk
  unfold chkE at h
  split at h <;> first | cases h | skip
  rename_i t p
  simp only [Bool.and_eq_true] at h
  obtain ⟨h1, h2⟩ := h
  cases t with
  | nil => exact PE.imp (pe_and (ia st _ h1 X T W S tk) (pe_one (ib st _ h2 X T W S tk))) fun σ H Q q => and_read q
  | cons u t =>
    simp only [Bool.and_eq_true] at h2
    exact PE.imp (pe_and (ia st _ h1 X T W S tk) (ib st _ h2.2 X T W S tk)) fun σ H Q q => and_read q
theorem se_or (ia : SE cg cf G a) (ib : SE cg cf G b) : SE cg cf G (.or a b) := by
  intro st e h X T W S tk
  unfold chkE at h
  split at h <;> first | cases h | skip
  rename_i t p
  simp only [Bool.and_eq_true] at h
  obtain ⟨h1, h2⟩ := h
  cases t with
  | nil => exact PE.imp (pe_or (ia st _ h1 X T W S tk) (pe_one (ib st _ h2 X T W S tk))) fun σ H Q q => or_read q
  | cons u t =>
    simp only [Bool.and_eq_true] at h2
    exact PE.imp (pe_or (ia st _ h1 X T W S tk) (ib st _ h2.2 X T W S tk)) fun σ H Q q => or_read q
theorem st_and (ia : STs cg cf G a) (ib : STs cg cf G b) : STs cg cf G (.and a b) := by
  intro st e ho h X T W S tk
  unfold chkE at h
  split at h <;> first | cases h | skip
  rename_i t p
  unfold okT at ho
  simp only [Bool.and_eq_true] at h ho
  obtain ⟨h1, h2⟩ := h
  suffices key : PW X _ (tT X.K G T W (semE cf (.and a b))) from ⟨key.pt, fun _ => key⟩
  · cases t with
    | nil => exact PW.imp (pw_and (ia st _ ho.1 h1 X T W S tk).1 (pw_and1 (ib st _ ho.2 h2 X T W S tk).1)) fun σ H Q q => andT_read q
    | cons u t =>
      simp only [Bool.and_eq_true] at h2
      exact PW.imp (pw_and (ia st _ ho.1 h1 X T W S tk).1 ((ib st _ ho.2 h2.2 X T W S tk).2 ⟨_, _, _, rfl⟩)) fun σ H Q q => andT_read q
theorem st_or (ia : STs cg cf G a) (ib : STs cg cf G b) : STs cg cf G (.or a b) := by
  intro st e ho h X T W S tk
  unfold chkE at h
  split at h <;> first | cases h | skip
  rename_i t p
  unfold okT at ho
  simp only [Bool.and_eq_true] at h ho
  obtain ⟨h1, h2⟩ := h
  suffices key : PW X _ (tT X.K G T W (semE cf (.or a b))) from ⟨key.pt, fun _ => key⟩
  · cases t with
    | nil => exact PW.imp (pw_or (ia st _ ho.1 h1 X T W S tk).1 (pw_or1 (ib st _ ho.2 h2 X T W S tk).1)) fun σ H Q q => orT_read q
    | cons u t =>
      simp only [Bool.and_eq_true] at h2
      exact PW.imp (pw_or (ia st _ ho.1 h1 X T W S tk).1 ((ib st _ ho.2 h2.2 X T W S tk).2 ⟨_, _, _, rfl⟩)) fun σ H Q q => orT_read q
theorem se_ife (ic : STs cg cf G c) (ia : SE cg cf G a) (ib : SE cg cf G b) : SE cg cf G (.ife c a b) := by
  intro st e h X T W S tk
  unfold chkE at h
  split at h <;> first | cases h | skip
  simp only [Bool.and_eq_true] at h
  obtain ⟨⟨⟨h1, h2⟩, h3⟩, h4⟩ := h
  exact PE.imp (pe_ifExp (ic st _ h1 h2 X T W S tk).1 (ia st _ h3 X T W S tk) (ib st _ h4 X T W S tk)) fun σ H Q q => ife_read q
end
end EV

/-! Expressions: each construct (4): lists of values, displays, built-ins, places. -/
namespace EV
open PySem PySem.Spec PyProof.Rows L2
section
variable {cg : Cfg} {cf : Cf} {G : AM} {a b c i lo hi es elt cond it : C}
theorem SReps.post {K : PySem.W.Frag} {T : XT} {H0 H H' : Hp} {σ : St} {ρ ρ' : Env} {pin : List Nat} {vs : List V} {ss : List SV} (h : SReps K G T H0 H σ ρ vs ss) (e : EnvR K G T σ H ρ) (p : Post K G T pin σ σ H H' ρ ρ') : SReps K G T H0 H' σ ρ' vs ss := by
  induction h with
  | nil => exact .nil
  | cons r f _ d ih => exact .cons (r.post e f p) (f.post r p) ih d
theorem SReps.back {K : PySem.W.Frag} {T : XT} {H0 H1 H : Hp} {σ : St} {ρ : Env} {vs : List V} {ss : List SV} (h : SReps K G T H1 H σ ρ vs ss) (d : ∀ b o, H0 b = some o → ∃ o', H1 b = some o') : SReps K G T H0 H σ ρ vs ss := by
  induction h with
  | nil => exact .nil
  | cons r f _ q ih => exact .cons r (f.back d) ih q
theorem sl_nil : SLs cg cf G .nil := by
  intro st es h X T W S tk
  unfold chkL at h
  cases es with
  | cons _ _ => cases h
  | nil =>
    refine PA.imp pa_nil fun σ H Q q => ?_
    obtain ⟨ρ, env, o⟩ := q
    exact (o : Out X.K G T W σ H ρ (R.ok [] ρ) _) H (Post.refl env) [] .nil
theorem L_read {K : PySem.W.Frag} {T : XT} {W : WX} {σ : St} {H : Hp} {Q : List V → Hp → Prop} (q : tL K G T W (semL cf (.cons a b)) σ H Q) : tCons (tE K G T W (semE cf a)) (tL K G T W (semL cf b)) σ H Q := by
  obtain ⟨ρ, env, o⟩ := q
  refine ⟨ρ, env, Out.imp (Out.bind o) fun sa ρ1 H1 p1 h1 v r1 f1 => ⟨ρ1, p1.env, h1.bind.imp fun ss ρ2 H2 p2 h2 vs rs => ?_⟩⟩
  refine h2 H2 (Post.refl p2.env) _ (.cons (r1.post p1.env f1 p2) (f1.post r1 p2) (rs.back p1.dom) fun n j s' hs n' e => ?_)
  obtain ⟨a, o, ev, ha, _⟩ := r1.owns n
  obtain ⟨u, hu, _, fu⟩ := rs.get hs
  obtain ⟨a', ev', hn, _⟩ := fu n'
  rw [e] at hu
  cases hu
  rw [ev] at ev'
  cases ev'
  rw [ha] at hn
  cases hn
theorem sl_cons (ia : SE cg cf G a) (ib : SLs cg cf G b) : SLs cg cf G (.cons a b) := by
  intro st es h X T W S tk
  unfold chkL at h
  cases es with
  | nil => cases h
  | cons e r =>
    simp only [Bool.and_eq_true] at h
    exact PA.imp (pa_cons (ia st e h.1 X T W S tk) (ib st r h.2 X T W S tk) (noStar h.1 _ _)) fun σ H Q q => L_read q
/-! ### displays -/
theorem tup_read {K : PySem.W.Frag} {T : XT} {W : WX} {σ : St} {H : Hp} {Q : VK} {n : Nat} (hn : ∀ ρ ss ρ', semL cf es ρ = .ok ss ρ' → ss.length ≤ 1000) (q : tE K G T W (semE cf (.tup es)) σ H Q) : tTup (tL K G T W (semL cf es)) σ H Q := by
  obtain ⟨ρ, env, o⟩ := q
  refine ⟨ρ, env, ?_⟩
  have o2 : Out K G T W σ H ρ ((semL cf es ρ).bind fun xs ρ => R.lift ((allD xs).map fun ds => SV.d (.tuple ds)) ρ) _ := o
  cases e : semL cf es ρ with
  | stuck => rw [e] at o2; exact o2.elim
  | err z ρ' => rw [e] at o2; exact o2
  | ok ss ρ1 =>
    have hl := hn ρ ss ρ1 e
    rw [e] at o2
    intro H1 p1 vs rs
    obtain ⟨z, ez, hz⟩ := (Out.back p1 o2 : Out K G T W σ H1 ρ1 (R.lift _ ρ1) _).lift
    cases ed : allD ss with
    | none => rw [ed] at ez; cases ez
    | some ds =>
      rw [ed] at ez
      cases ez
      have rr := SReps.allD rs.pair ed
      have l1 := rr.length
      have l2 := allD_len ed
      refine ⟨by rw [sizeLine_eq]; omega, fun p hp => ?_⟩
      exact (Give.of p1.env p1.dom fun H' p v sv fr => hz H' p v sv fr : Give K G T H1 (.d (.tuple ds)) Q).tup rr hp
theorem lst_read {K : PySem.W.Frag} {T : XT} {W : WX} {σ : St} {H : Hp} {Q : VK} {n : Nat} (hn : ∀ ρ ss ρ', semL cf es ρ = .ok ss ρ' → ss.length ≤ 1000) (q : tE K G T W (semE cf (.lst es)) σ H Q) : tLst (tL K G T W (semL cf es)) σ H Q := by
  obtain ⟨ρ, env, o⟩ := q
  refine ⟨ρ, env, ?_⟩
  have o2 : Out K G T W σ H ρ ((semL cf es ρ).bind fun xs ρ => R.lift ((allD xs).map fun ds => SV.olst ds) ρ) _ := o
  cases e : semL cf es ρ with
  | stuck => rw [e] at o2; exact o2.elim
  | err z ρ' => rw [e] at o2; exact o2
  | ok ss ρ1 =>
    have hl := hn ρ ss ρ1 e
    rw [e] at o2
    intro H1 p1 vs rs
    obtain ⟨z, ez, hz⟩ := (Out.back p1 o2 : Out K G T W σ H1 ρ1 (R.lift _ ρ1) _).lift
    cases ed : allD ss with
    | none => rw [ed] at ez; cases ez
    | some ds =>
      rw [ed] at ez
      cases ez
      have rr := SReps.allD rs.pair ed
      have l1 := rr.length
      have l2 := allD_len ed
      refine ⟨by rw [sizeLine_eq]; omega, fun p hp => ?_⟩
      exact (Give.of p1.env p1.dom fun H' p v sv fr => hz H' p v sv fr : Give K G T H1 (.olst ds) Q).lst rr hp
theorem semL_len {st : Sc} : ∀ (es : C) (l : List Expr), chkL cg st es l = true → ∀ ρ ss ρ', semL cf es ρ = .ok ss ρ' → ss.length = l.length := by
  intro es
  induction es with
  | nil =>
    intro l h ρ ss ρ' e
    unfold chkL at h
    cases l with
    | nil => cases e; rfl
    | cons _ _ => cases h
  | cons a b _ ih =>
    intro l h ρ ss ρ' e
    unfold chkL at h
    cases l with
    | nil => cases h
    | cons x r =>
      simp only [Bool.and_eq_true] at h
      have e2 : ((semE cf a ρ).bind fun x ρ => (semL cf b ρ).bind fun xs ρ => .ok (x :: xs) ρ) = .ok ss ρ' := e
      cases ea : semE cf a ρ with
      | stuck => rw [ea] at e2; cases e2
      | err z ρ' => rw [ea] at e2; cases e2
      | ok y ρ1 =>
        rw [ea] at e2
        have e3 : ((semL cf b ρ1).bind fun xs ρ => .ok (y :: xs) ρ) = .ok ss ρ' := e2
        cases eb : semL cf b ρ1 with
        | stuck => rw [eb] at e3; cases e3
        | err z ρ' => rw [eb] at e3; cases e3
        | ok ys ρ2 =>
          rw [eb] at e3
          cases e3
          rw [List.length_cons, List.length_cons, ih r h.2 _ _ _ eb]
  | _ => intro l h; cases h
theorem se_tup (ie : SLs cg cf G es) : SE cg cf G (.tup es) := by
  intro st e h X T W S tk
  unfold chkE at h
  split at h <;> first | cases h | skip
  simp only [Bool.and_eq_true, decide_eq_true_eq] at h
  exact PE.imp (pe_tup (ie st _ h.1 X T W S tk)) fun σ H Q q => tup_read (n := 0) (fun ρ ss ρ' e => by rw [semL_len _ _ h.1 _ _ _ e]; exact h.2) q
theorem se_lst (ie : SLs cg cf G es) : SE cg cf G (.lst es) := by
  intro st e h X T W S tk
  unfold chkE at h
  split at h <;> first | cases h | skip
  simp only [Bool.and_eq_true, decide_eq_true_eq] at h
  exact PE.imp (pe_lst (ie st _ h.1 X T W S tk)) fun σ H Q q => lst_read (n := 0) (fun ρ ss ρ' e => by rw [semL_len _ _ h.1 _ _ _ e]; exact h.2) q
/-! ### a value frozen -/
theorem frz_list {K : PySem.W.Frag} {T : XT} {σ : St} {H0 H : Hp} {ρ0 ρ : Env} {p : Addr} {vs : List V} {xs : List PyData} {o : Obj} (q : Post K G T [] σ σ H0 H ρ0 ρ) (h0 : H0 p = none) (n : ¬ Ow σ ρ p) (hp : H p = some (.lst vs)) (r : Reps K H vs xs) :
    Post K G T [] σ σ H0 (upd H p (.frz o (.lst vs))) ρ0 ρ ∧ SRep K G T (upd H p (.frz o (.lst vs))) (.ref p) (.d (.list xs)) := by
  have e := q.env
  have sty : Stay H (upd H p (.frz o (.lst vs))) := fun b u q nn => by rw [upd_ne (fun y => by rw [y, hp] at q; cases q; cases nn)]; exact q
  refine ⟨⟨⟨e.len, fun j sv h => ?_, e.sep⟩, fun b u z w => ?_, q.own, fun b u z => ?_, fun _ hm => by cases hm⟩, .d (.lst (.inl ⟨o, upd_same⟩) (Reps.stay sty _ _ r))⟩
  · obtain ⟨v, q, rr⟩ := e.at_ j sv h
    refine ⟨v, q, ?_⟩
    cases nn : sv.isOwn with
    | false => exact rr.stay sty nn
    | true =>
      refine rr.stayO sty fun a u ev q2 _ => ?_
      subst ev
      rw [upd_ne (fun y => n ⟨j, sv, h, nn, by rw [← y]; exact q⟩)]
      exact q2
  · rw [upd_ne (ne_of_none z h0)]
    exact q.keep b u z w
  · obtain ⟨o', h⟩ := q.dom b u z
    exact ⟨o', by rw [upd_ne (ne_of_none z h0)]; exact h⟩
theorem se_frz (ia : SE cg cf G a) : SE cg cf G (.frz a) := by
  intro st e h X T W S tk
  unfold chkE at h
  refine PE.imp (pe_fz (ia st _ h X T W S tk)) fun σ H Q q => ?_
  obtain ⟨ρ, env, o⟩ := q
  refine ⟨ρ, env, ?_⟩
  have o2 : Out X.K G T W σ H ρ ((semE cf a ρ).bind fun x ρ => match x with
    | .olst xs => .ok (SV.d (.list xs)) ρ
    | .oobj _ _ => .stuck
    | sv => .ok sv ρ) _ := o
  cases e : semE cf a ρ with
  | stuck => rw [e] at o2; exact o2.elim
  | err z ρ' => rw [e] at o2; exact o2
  | ok sv ρ1 =>
    rw [e] at o2
    intro H1 p1 v r f
    cases sv with
    | olst xs =>
      obtain ⟨p, ep, h0, hn⟩ := f rfl
      subst ep
      cases r with
      | olst e1 r1 =>
        refine .inr ⟨_, _, rfl, e1, fun ob => ?_⟩
        obtain ⟨z1, z2⟩ := frz_list (o := ob) p1 h0 hn e1 r1
        exact o2 _ z1 _ z2 (Fresh.no rfl)
    | oobj C fs => exact (o2 : False).elim
    | d x => exact .inl (o2 H1 p1 v r f)
    | fn k => exact .inl (o2 H1 p1 v r f)
    | obj C fs => exact .inl (o2 H1 p1 v r f)
    | exc C fs => exact .inl (o2 H1 p1 v r f)
/-! ### built-in functions -/
theorem bf_read {K : PySem.W.Frag} {T : XT} {W : WX} {σ : St} {H : Hp} {Q : VK} {g : List SV → Option SV} (q : tE K G T W (fun ρ => (semL cf es ρ).bind fun xs ρ => R.lift (g xs) ρ) σ H Q) : tCB (rL K G T g) (tL K G T W (semL cf es)) σ H Q := by
  obtain ⟨ρ, env, o⟩ := q
  refine ⟨ρ, env, o.bind.imp fun ss ρ1 H1 p1 h1 vs rs => ?_⟩
  obtain ⟨z, ez, hz⟩ := h1.lift
  exact ⟨ss, z, rs.pair, ez, Give.of p1.env p1.dom fun H' p v sv fr => hz H' p v sv fr⟩
theorem bf_boot (f : BF) : bootBuiltins (bfName f) = some (bfVal f) := by cases f <;> decide +kernel
theorem bf_shape (f : BF) : (∃ id, bfVal f = .builtin id) ∨ ∃ T, bfVal f = .type T := by cases f <;> first | exact .inl ⟨_, rfl⟩ | exact .inr ⟨_, rfl⟩
theorem contains_mem {l : List Str} {x : Str} (h : l.contains x = true) : x ∈ l := by simpa using h
theorem se_bf {f : BF} (ie : SLs cg cf G es) : SE cg cf G (.bf f es) := by
  intro st e h X T W S tk
  unfold chkE at h
  split at h <;> first | cases h | skip
  rename_i x _ l r _
  simp only [Bool.and_eq_true, Bool.or_eq_true, Bool.not_eq_true'] at h
  obtain ⟨⟨⟨⟨h1, h2⟩, h3⟩, h4⟩, h5⟩ := h
  obtain rfl := eq_of_beq h1
  obtain ⟨g1, g2, g3⟩ := glo_of S h2
  have hm := S.free _ (contains_mem h3)
  have hc : bfCalm f = true → X.calm = true := fun z => by
    rcases h5 with h5 | h5
    · rw [z] at h5; cases h5
    · exact (S.calm h5).1
  have ok := bf_ok (G := G) (T := T) (by have := S.un; omega) S.gd f hc
  have pa := ie st _ h4 X T W S tk
  have hh : starEach (l :: r) X.env = (false, eval l X.env) :: starEach r X.env ∧ ∀ pos, (backTo pos (starEach r X.env)).any (·.1) = false := by
    cases es with
    | cons a b =>
      unfold chkL at h4
      simp only [Bool.and_eq_true] at h4
      exact ⟨noStar h4.1 _ _, fun pos => noStarL b h4.2⟩
    | _ => cases h4
  rcases bf_shape f with ⟨id, ef⟩ | ⟨ty, ef⟩
  · rw [ef] at ok
    exact PE.imp (pe_callB ok g1 hm (by rw [bf_boot, ef]) pa g3 g2 hh.1 (hh.2 _)) fun σ H Q q => bf_read q
  · rw [ef] at ok
    exact PE.imp (pe_callTy ok g1 hm (by rw [bf_boot, ef]) pa g3 g2 hh.1 (hh.2 _)) fun σ H Q q => bf_read q
theorem st_bf {f : BF} (ie : SLs cg cf G es) : STs cg cf G (.bf f es) := st_val (se_bf ie) fun st e _ h => by
  unfold chkE at h
  split at h <;> first | cases h | skip
  exact ⟨fun _ _ => rfl, fun ⟨_, _, _, z⟩ => nomatch z⟩
theorem st_var {n : Nat} : STs cg cf G (.var n) := st_val se_var fun st e _ h => by
  unfold chkE at h
  split at h <;> first | cases h | skip
  exact ⟨fun _ _ => rfl, fun ⟨_, _, _, z⟩ => nomatch z⟩
theorem st_bl {t : Bool} : STs cg cf G (.bl t) := st_val se_bl fun st e _ h => by
  unfold chkE at h
  split at h <;> first | cases h | skip
  exact ⟨fun _ _ => rfl, fun ⟨_, _, _, z⟩ => nomatch z⟩
/-! ### places of owned lists -/
theorem se_lenO {n : Nat} : SE cg cf G (.lenO n) := by
  intro st e h X T W S tk
  unfold chkE at h
  split at h <;> first | cases h | skip
  rename_i x _ y _ _
  simp only [Bool.and_eq_true] at h
  obtain ⟨⟨⟨⟨⟨h1, h2⟩, h3⟩, h4⟩, h5⟩, h6⟩ := h
  obtain rfl := eq_of_beq h1
  obtain ⟨g1, g2, g3⟩ := glo_of S h2
  have hm := S.free _ (contains_mem h3)
  obtain ⟨d1, d2⟩ := okN_of h6
  have ok := bf_ok (G := G) (T := T) (by have := S.un; omega) S.gd BF.len (fun z => by cases z)
  refine PE.imp (pe_callB (id := "len") ok g1 hm (by decide +kernel) (pa_cons (pe_var (i := n) (by rw [S.N]; exact at_of h4) (vis_of S h5) d1 d2) pa_nil) g3 g2) fun σ H Q q => ?_
  obtain ⟨ρ, env, o⟩ := q
  have o2 : Out X.K G T W σ H ρ (match getS ρ n with
    | some sv => R.lift (bLen sv) ρ
    | Option.none => .stuck) _ := o
  cases g : getS ρ n with
  | none => rw [g] at o2; exact o2.elim
  | some sv =>
    rw [g] at o2
    obtain ⟨v, hv, rv⟩ := env.get g
    obtain ⟨z, ez, hz⟩ := Out.lift o2
    exact ⟨v, hv, [sv], z, .cons rv .nil, ez, Give.of env (fun b o h => ⟨o, h⟩) fun H' p v sv fr => hz H' p v sv fr⟩
/-- a name on the right of a comparison is looked at, not taken -/
theorem cmpO_read {K : PySem.W.Frag} {T : XT} {W : WX} {σ : St} {H : Hp} {Q : VK} {o : COp} {n : Nat} (q : tE K G T W (semE cf (.cmpO o a n)) σ H Q) : tOp (r2 K G T (cmpop o)) (tE K G T W (semE cf a)) (tVar n) σ H Q := by
  obtain ⟨ρ, env, oo⟩ := q
  replace oo : Out K G T W σ H ρ ((semE cf a ρ).bind fun x ρ => match getS ρ n with
    | some sv => R.lift (cmpop o x sv) ρ
    | Option.none => .stuck) _ := oo
  refine ⟨ρ, env, oo.bind.imp fun sa ρ1 H1 p1 h1 v r1 f1 => ?_⟩
  cases g : getS ρ1 n with
  | none => rw [g] at h1; exact h1.elim
  | some sv =>
    rw [g] at h1
    obtain ⟨w, hw, rw_⟩ := p1.env.get g
    obtain ⟨z, ez, hz⟩ := Out.lift h1
    exact ⟨w, hw, sa, sv, z, r1, rw_, ez, Give.of p1.env p1.dom fun H' p v sv fr => hz H' p v sv fr⟩
theorem se_cmpO {o : COp} {n : Nat} (ia : SE cg cf G a) : SE cg cf G (.cmpO o a n) := by
  intro st e h X T W S tk
  unfold chkE at h
  split at h <;> first | cases h | skip
  simp only [Bool.and_eq_true, Bool.not_eq_true'] at h
  obtain ⟨⟨⟨⟨⟨⟨h1, h2⟩, h3⟩, h4⟩, h5⟩, h6⟩, h7⟩ := h
  obtain rfl := cmB_eq h1
  obtain ⟨d1, d2⟩ := okN_of h6
  exact PE.imp (pe_cmpR (cmp_op S h2) (ia st _ h3 X T W S tk) (pe_var (i := n) (by rw [S.N]; exact at_of h4) (vis_of S h5) d1 d2) h7) fun σ H Q q => cmpO_read q
theorem st_cmpO {o : COp} {n : Nat} (ia : SE cg cf G a) : STs cg cf G (.cmpO o a n) := by
  intro st e _ h X T W S tk
  unfold chkE at h
  split at h <;> first | cases h | skip
  simp only [Bool.and_eq_true, Bool.not_eq_true'] at h
  obtain ⟨⟨⟨⟨⟨⟨h1, h2⟩, h3⟩, h4⟩, h5⟩, h6⟩, h7⟩ := h
  obtain rfl := cmB_eq h1
  obtain ⟨d1, d2⟩ := okN_of h6
  exact ⟨PT.imp (pt_cmpR (cmp_op S h2) (ia st _ h3 X T W S tk) (pe_var (i := n) (by rw [S.N]; exact at_of h4) (vis_of S h5) d1 d2) h7) fun σ H Q q => cmpO_read (tT_E q), fun ⟨_, _, _, z⟩ => nomatch z⟩
end
end EV

/-! Expressions: each construct (5): places, slices, kinds. -/
namespace EV
open PySem PySem.Spec PyProof.Rows L2
section
variable {cg : Cfg} {cf : Cf} {G : AM} {a b c i lo hi es elt cond it : C}
/-! ### places -/
theorem plainIx {st : Sc} : ∀ {c : C} {e : Expr}, chkE cg st c e = true → PlainIx e := by
  intro c e h
  cases e with
  | Slice l u s p =>
    exfalso
    induction c with
    | frz a ih => unfold chkE at h; exact ih h
    | _ => first | (unfold chkE at h; cases h; done) | cases h
  | _ => exact fun _ _ => rfl
theorem atI_reps {K : PySem.W.Frag} {H : Hp} {vs : List V} {xs : List PyData} {k : Int} {d : PyData} (r : Reps K H vs xs) (h : atI xs k = some d) : ∃ v, atI vs k = some v ∧ Rep K H v d := by
  unfold atI at h ⊢
  rw [r.length]
  cases e : ixN xs.length k with
  | none => rw [e] at h; cases h
  | some j =>
    rw [e] at h
    obtain ⟨v, h1, h2⟩ := r.get (i := j) h
    exact ⟨v, h1, h2⟩
theorem chr_ok {z : Str} {c : Nat} (hz : PyData.strOk z = true) (h : c ∈ z.cps.toList) : PyData.strOk (⟨#[c]⟩ : Str) = true := by
  unfold PyData.strOk at hz ⊢
  have := Array.all_eq_true_iff_forall_mem.mp hz c (by simpa using h)
  simpa using this
theorem ix_ok {X : Cx} {T : XT} : IxR X (r2 X.K G T idxD) := by
  rintro value slice pins s σ H x y v u Q I rx ry ⟨sx, sy, r, hx, hy, e, g⟩ hsub
  unfold idxD at e
  split at e <;> try cases e
  rename_i k
  cases hy.rep
  split at e
  · rename_i z
    split at e <;> try cases e
    rename_i hl
    cases ez : atI z.cps.toList k with
    | none => rw [ez] at e; cases e
    | some c =>
      rw [ez] at e
      cases e
      cases hx.rep with
      | str _ ok =>
        refine ix_str value slice pins s σ H _ _ v u Q I rx ry ⟨_, _, _, rfl, rfl, by rw [← line_eq]; exact hl, ez, g.dat (.str _ (chr_ok ok ?_))⟩ hsub
        obtain ⟨j, _, h2, _⟩ := atI_get ez
        exact List.mem_of_getElem? h2
  · cases ei : itemsOf sx with
    | none => rw [ei] at e; cases e
    | some xs =>
      rw [ei, Option.bind_some] at e
      cases ea : atI xs k with
      | none => rw [ea] at e; cases e
      | some d =>
        rw [ea] at e
        cases e
        obtain ⟨p, vs, rfl, rr, kk⟩ := hx.items ei
        obtain ⟨w, h1, h2⟩ := atI_reps rr ea
        rcases kk with kk | kk
        · exact ix_list value slice pins s σ H _ _ v u Q I rx ry ⟨_, _, _, _, rfl, rfl, kk, h1, g.dat h2⟩ hsub
        · exact ix_tup value slice pins s σ H _ _ v u Q I rx ry ⟨_, _, _, _, rfl, rfl, kk, h1, g.dat h2⟩ hsub
theorem se_idx (ia : SE cg cf G a) (ib : SE cg cf G i) : SE cg cf G (.idx a i) := by
  intro st e h X T W S tk
  unfold chkE at h
  split at h <;> first | cases h | skip
  simp only [Bool.and_eq_true] at h
  exact PE.imp (pe_ix ix_ok (ia st _ h.1 X T W S tk) (ib st _ h.2 X T W S tk) (plainIx h.2)) fun σ H Q q => tE_op2 q
theorem st_idx (ia : SE cg cf G a) (ib : SE cg cf G i) : STs cg cf G (.idx a i) := st_val (se_idx ia ib) fun st e _ h => by
  unfold chkE at h
  split at h <;> first | cases h | skip
  exact ⟨fun _ _ => rfl, fun ⟨_, _, _, z⟩ => nomatch z⟩
theorem se_idxO {n : Nat} (ia : SE cg cf G a) : SE cg cf G (.idxO n a) := by
  intro st e h X T W S tk
  unfold chkE at h
  split at h <;> first | cases h | skip
  simp only [Bool.and_eq_true] at h
  obtain ⟨⟨⟨h1, h2⟩, h3⟩, h4⟩ := h
  obtain ⟨d1, d2⟩ := okN_of h3
  refine PE.imp (pe_ix (ix_ok (G := G) (T := T)) (pe_var (i := n) (by rw [S.N]; exact at_of h1) (vis_of S h2) d1 d2) (ia st _ h4 X T W S tk) (plainIx h4)) fun σ H Q q => ?_
  obtain ⟨ρ, env, o⟩ := q
  have o2 : Out X.K G T W σ H ρ (match getS ρ n with
    | some _ => (semE cf a ρ).bind fun y ρ => (match getS ρ n with
      | some sv => R.lift (idxD sv y) ρ
      | Option.none => .stuck)
    | Option.none => .stuck) _ := o
  cases g0 : getS ρ n with
  | none => rw [g0] at o2; exact o2.elim
  | some s0 =>
    rw [g0] at o2
    obtain ⟨v, hv, _⟩ := env.get g0
    refine ⟨v, hv, ρ, env, o2.bind.imp fun sy ρ1 H1 p1 h1 w r1 f1 => ?_⟩
    cases g : getS ρ1 n with
    | none => rw [g] at h1; exact h1.elim
    | some sv =>
      rw [g] at h1
      obtain ⟨z, ez, hz⟩ := Out.lift h1
      obtain ⟨v', hv', rv⟩ := p1.env.get g
      rw [hv] at hv'
      cases hv'
      exact ⟨sv, sy, z, rv, r1, ez, Give.of p1.env p1.dom fun H' p v sv fr => hz H' p v sv fr⟩
theorem st_idxO {n : Nat} (ia : SE cg cf G a) : STs cg cf G (.idxO n a) := st_val (se_idxO ia) fun st e _ h => by
  unfold chkE at h
  split at h <;> first | cases h | skip
  exact ⟨fun _ _ => rfl, fun ⟨_, _, _, z⟩ => nomatch z⟩
/-! ### slices -/
theorem cut_reps {K : PySem.W.Frag} {H : Hp} {vs : List V} {xs : List PyData} (r : Reps K H vs xs) (l h : Option Int) : Reps K H (cutV vs l h) (cut xs l h) := by
  unfold cutV cut
  rw [r.length]
  exact (r.drop _).take _
def tSlD (K : PySem.W.Frag) (T : XT) : V → Option Int → Option Int → Hp → VK → Prop := fun x l h H Q => ∃ sx r, SRep K G T H x sx ∧ sliceD sx l h = some r ∧ Give K G T H r Q
theorem sIx_le (n : Nat) (o : Option Int) : HT.sIx n n o ≤ n ∧ HT.sIx n 0 o ≤ n := by
  unfold HT.sIx
  cases o with
  | none => exact ⟨Nat.le_refl _, Nat.zero_le _⟩
  | some k => simp only; constructor <;> split <;> omega
theorem cut_all {α : Type} (xs : List α) (l h : Option Int) (e : HT.sIx xs.length 0 l = 0 ∧ HT.sIx xs.length xs.length h = xs.length) : cut xs l h = xs := by
  unfold cut
  rw [e.1, e.2]
  simp
theorem sl_ok {X : Cx} {T : XT} : SlR X (tSlD (G := G) X.K T) := by
  rintro pins s σ H x v vl vu l h sl Q I rx hs pl pu ⟨sx, r, hx, e, g⟩
  unfold sliceD at e
  split at e <;> try cases e
  · rename_i xs
    cases hx.rep with
    | lst k rr => exact sl_list pins s σ H _ v vl vu l h sl Q I rx hs pl pu ⟨_, _, rfl, k.sq, fun p hp => g.lst (cut_reps rr l h) hp⟩
  · rename_i xs
    cases hx.rep with
    | tup k rr =>
      refine sl_tupA pins s σ H _ v vl vu l h sl Q I rx hs pl pu ⟨_, _, rfl, k, fun z => ?_, fun _ p hp => g.tup (cut_reps rr l h) hp⟩
      rw [rr.length] at z
      refine g.dat ?_
      rw [cut_all xs l h z]
      exact .tup k rr
  · rename_i z
    split at e <;> try cases e
    rename_i hl
    cases hx.rep with
    | str _ ok =>
      refine sl_str pins s σ H _ v vl vu l h sl Q I rx hs pl pu ⟨_, rfl, by rw [← line_eq]; exact hl, g.dat (.str _ ?_)⟩
      unfold PyData.strOk at ok ⊢
      unfold cutS
      simp only [List.all_toArray, List.all_eq_true]
      intro c hc
      have h1 := List.mem_of_mem_drop (List.mem_of_mem_take hc)
      exact Array.all_eq_true_iff_forall_mem.mp ok c (by simpa using h1)
def tBd (K : PySem.W.Frag) (G : AM) (T : XT) (W : WX) (cf : Cf) (c : C) : TO := if c.isNone = true then tNoPart else tPart (tE K G T W (semE cf c))
theorem bd_read {K : PySem.W.Frag} {T : XT} {W : WX} {σ : St} {H : Hp} {ρ : Env} {β : Type} {k : SV → Env → R β} {Q : β → Env → Hp → Prop} {RR : Option Int → Hp → Prop} (env : EnvR K G T σ H ρ) (h : Out K G T W σ H ρ ((semE cf c ρ).bind k) Q)
    (hk : ∀ s o ρ2 H2, bound? c.isNone s = some o → Post K G T [] σ σ H H2 ρ ρ2 → Out K G T W σ H2 ρ2 (k s ρ2) Q → RR o H2) (hs : ∀ s ρ, bound? c.isNone s = Option.none → k s ρ = .stuck) : tBd K G T W cf c σ H RR := by
  unfold tBd
  cases e : c.isNone with
  | true =>
    rw [if_pos rfl]
    cases c <;> first | cases e | skip
    exact hk (.d .none) Option.none ρ H rfl (Post.refl env) (Out.back (Post.refl env) (h : Out K G T W σ H ρ (k (.d .none) ρ) Q))
  | false =>
    rw [if_neg Bool.false_ne_true]
    refine ⟨ρ, env, h.bind.imp fun s ρ2 H2 p h2 v r f => ?_⟩
    rw [e] at hk hs
    cases eb : bound? false s with
    | none => rw [hs s ρ2 eb] at h2; exact h2.elim
    | some o =>
      have hf := hk s o ρ2 H2 eb p h2
      unfold bound? at eb
      rw [if_neg Bool.false_ne_true] at eb
      split at eb <;> cases eb
      cases r.rep
      exact ⟨_, rfl, hf⟩
theorem po_bd {X : Cx} {T : XT} {W : WX} {st : Sc} (ic : SE cg cf G c) (S : SX cg cf G T st X) (tk : Takes X W) {x : Option Expr} (h : (match x with | some x => chkE cg st c x && !c.isNone | none => c.isNone) = true) : PO X x (tBd X.K G T W cf c) := by
  unfold tBd
  cases x with
  | none => rw [if_pos h]; exact po_none
  | some e =>
    simp only [Bool.and_eq_true, Bool.not_eq_true'] at h
    rw [h.2, if_neg Bool.false_ne_true]
    exact po_some (ic st e h.1 X T W S tk)
theorem se_slc (ia : SE cg cf G a) (il : SE cg cf G lo) (ih : SE cg cf G hi) : SE cg cf G (.slc a lo hi) := by
  intro st e h X T W S tk
  unfold chkE at h
  split at h <;> first | cases h | skip
  rw [Bool.and_eq_true, Bool.and_eq_true] at h
  obtain ⟨⟨h1, h2⟩, h3⟩ := h
  refine PE.imp (pe_slice (sl_ok (G := G) (T := T)) (ia st _ h1 X T W S tk) (po_bd il S tk h2) (po_bd ih S tk h3)) fun σ H Q q => ?_
  obtain ⟨ρ, env, o⟩ := q
  refine ⟨ρ, env, Out.imp (Out.bind o) fun sx ρ1 H1 p1 k1 v r1 f1 => ?_⟩
  refine bd_read p1.env k1 (fun sl l ρ2 H2 el p2 k2 => ?_) fun sl ρ2 el => ?_
  · rw [el] at k2
    refine bd_read p2.env k2 (fun sh hh ρ3 H3 eh p3 k3 => ?_) fun sh ρ3 eh => ?_
    · rw [eh] at k3
      obtain ⟨z, ez, hz⟩ := k3.lift
      have p23 := p2.trans p3
      exact ⟨sx, z, r1.post p1.env f1 p23, ez, Give.of p3.env (p1.trans p23).dom fun H' p v sv fr => hz H' p v sv fr⟩
    · simp only [eh]
  · simp only [el]
/-! ### ranges laid out -/
theorem asInt_eq {s : SV} {n : Int} (h : asInt s = some n) : s = .d (.int n) := by
  unfold asInt at h
  split at h <;> cases h
  rfl
theorem rangeD_eq {m n : Int} {xs : List PyData} (h : rangeD m n = some xs) : RgOk m n ∧ xs = (List.range (n - m).toNat).map fun k => .int (m + (k : Nat)) := by
  unfold rangeD at h
  split at h
  · rename_i hh
    cases h
    simp only [Bool.and_eq_true, decide_eq_true_eq] at hh
    obtain ⟨⟨⟨⟨h1, h2⟩, h3⟩, h4⟩, h5⟩ := hh
    have h6 : n - m ≤ 16777216 := h5
    have : (2 : Nat) ^ 24 = 16777216 := by decide
    exact ⟨⟨h1, h2, h3, h4, by omega⟩, rfl⟩
  · cases h
theorem reps_range {K : PySem.W.Frag} {H : Hp} (m : Int) (l : List Nat) : Reps K H (l.map fun k => V.int (m + (k : Nat))) (l.map fun k => PyData.int (m + (k : Nat))) := by
  induction l with
  | nil => exact .nil
  | cons k l ih => exact .cons (.int _) ih
theorem se_lrg (ia : SE cg cf G a) (ib : SE cg cf G b) : SE cg cf G (.lrg a b) := by
  intro st e h X T W S tk
  unfold chkE at h
  split at h <;> first | cases h | skip
  rename_i x _ y _ l r _ _
  simp only [Bool.and_eq_true] at h
  obtain ⟨⟨⟨⟨⟨⟨⟨⟨h1, h2⟩, h3⟩, h4⟩, h5⟩, h6⟩, h7⟩, h8⟩, h9⟩ := h
  obtain rfl := eq_of_beq h1
  obtain rfl := eq_of_beq h2
  obtain ⟨g1, _, _⟩ := glo_of S h3
  obtain ⟨g2, _, _⟩ := glo_of S h4
  refine PE.imp (pe_listRg (S.calm h9).1 g1 (S.free _ (contains_mem h5)) (prg_2 g2 (S.free _ (contains_mem h6)) (ia st _ h7 X T W S tk) (ib st _ h8 X T W S tk)
    (by rw [noStar h7, noStar h8]) (by rw [noStar h8]) (by rw [noStar h8]; rfl))) fun σ H Q q => ?_
  obtain ⟨ρ, env, o⟩ := q
  refine ⟨ρ, env, Out.imp (Out.bind o) fun sx ρ1 H1 p1 k1 v r1 f1 => ⟨ρ1, p1.env, k1.bind.imp fun sy ρ2 H2 p2 k2 w r2 f2 => ?_⟩⟩
  obtain ⟨z, ez, hz⟩ := k2.lift
  cases ea : asInt sx with
  | none => rw [ea] at ez; cases ez
  | some m =>
    cases eb : asInt sy with
    | none => rw [ea, eb] at ez; cases ez
    | some n =>
      rw [ea, eb, Option.bind_some, Option.bind_some] at ez
      obtain rfl := asInt_eq ea
      obtain rfl := asInt_eq eb
      cases er : rangeD m n with
      | none => rw [er] at ez; cases ez
      | some xs =>
        rw [er] at ez
        cases ez
        obtain ⟨hb, rfl⟩ := rangeD_eq er
        cases r1.rep
        cases r2.rep
        refine ⟨m, n, rfl, rfl, hb, fun p hp => ?_⟩
        have g : Give X.K G T H2 (.olst ((List.range (n - m).toNat).map fun k => .int (m + (k : Nat)))) Q := Give.of p2.env (p1.trans p2).dom fun H' p v sv fr => hz H' p v sv fr
        refine g.lst ?_ hp
        unfold rgV
        exact reps_range _ _
end
end EV

/-! Expressions: each construct (6): kinds, calls. -/
namespace EV
open PySem PySem.Spec PyProof.Rows L2
section
variable {cg : Cfg} {cf : Cf} {G : AM} {a b c i lo hi es elt cond it : C}
/-! ### isinstance -/
def tyOfD : PyData → Option String
  | .none => some "NoneType"
  | .bool _ => some "bool"
  | .int _ => some "int"
  | .str _ => some "str"
  | .list _ => some "list"
  | .tuple _ => some "tuple"
  | .dict _ => Option.none
def tyS : Ty → String
  | .int => "int"
  | .bool => "bool"
  | .str => "str"
  | .list => "list"
  | .tuple => "tuple"
theorem tyOf_rep {K : PySem.W.Frag} {H : Hp} {v : V} {d : PyData} (r : Rep K H v d) : ∃ n, tyOfD d = some n ∧ TyX K H v (.type n) := by
  cases r with
  | non => exact ⟨_, rfl, .base .non⟩
  | bl b => exact ⟨_, rfl, .base (.bl b)⟩
  | int n => exact ⟨_, rfl, .base (.int n)⟩
  | str x _ => exact ⟨_, rfl, .base (.str x)⟩
  | lst k _ =>
    refine ⟨_, rfl, ?_⟩
    rcases k with ⟨o, k⟩ | ⟨its, n, k, _⟩
    · exact .base (.frz k)
    · exact .kList k rfl
  | tup k _ =>
    refine ⟨_, rfl, ?_⟩
    rcases k with (k | ⟨o, k⟩) | ⟨o, its, n, k, kc, _⟩
    · exact .base (.tup k)
    · exact .fTuple k
    · exact .kTuple k kc
theorem kit_D (d : PyData) (t : Ty) (n : String) (h : tyOfD d = some n) : kitB n (tyS t) = some (hasTy d t) := by
  cases d <;> cases h <;> cases t <;> first | (show _ = some true; decide +kernel) | (show _ = some false; decide +kernel)
theorem kit_any {K : PySem.W.Frag} (d : PyData) (n : String) (h : tyOfD d = some n) : ∀ ts : List Ty, PySem.W.kitAny K (.type n) (ts.map fun t => Value.type (tyS t)) = some (ts.any (hasTy d))
  | [] => rfl
  | t :: ts => by
    have e := kit_ty (K := K) (kit_D d t n h)
    rw [List.map_cons, List.any_cons]
    cases q : hasTy d t with
    | true => rw [q] at e; exact kitAny_cons e (fun z => by cases z) fun _ => rfl
    | false => rw [q] at e; exact kitAny_cons e (fun _ => kit_any d n h ts) fun z => by cases z
theorem ty_boot (t : Ty) : bootBuiltins (tyName t) = some (.type (tyS t)) := by cases t <;> decide +kernel
theorem ty_pe {st : Sc} {X : Cx} {T : XT} (S : SX cg cf G T st X) (t : Ty) {x : Str} {p : Pos} (hx : x = tyName t) (hg : gloB st x = true) (hf : cg.free.contains x = true) : PE X (.Name x p) (tC (.ty (tyS t))) := by
  subst hx
  obtain ⟨g1, g2, g3⟩ := glo_of S hg
  exact pe_bltn g1 (S.free _ (contains_mem hf)) (ty_boot t) rfl g3 g2
def tTys : List Ty → TA
  | [] => tNil
  | t :: ts => tCons (tC (.ty (tyS t))) (tTys ts)
theorem tys_read {σ : St} {H : Hp} {Q : List V → Hp → Prop} : ∀ ts : List Ty, Q (ts.map fun t => V.ty (tyS t)) H → tTys ts σ H Q
  | [], h => h
  | t :: ts, h => tys_read (Q := fun xs H2 => Q (.ty (tyS t) :: xs) H2) ts h
theorem tys_pa {st : Sc} {X : Cx} {T : XT} (S : SX cg cf G T st X) : ∀ (ts : List Ty) (es : List Expr), tysB st cg.free ts es = true → PA X es (tTys ts) ∧ ∀ e ∈ es, ∃ x p, e = .Name x p
  | [], [], _ => ⟨pa_nil, fun _ h => by cases h⟩
  | t :: ts, e :: es, h => by
    unfold tysB at h
    split at h <;> first | cases h | skip
    · rename_i q1 q2; cases q1
    · rename_i t2 ts2 x p es2 q1 q2
      cases q1
      cases q2
      simp only [Bool.and_eq_true] at h
      obtain ⟨⟨⟨h1, h2⟩, h3⟩, h4⟩ := h
      obtain ⟨k1, k2⟩ := tys_pa S ts es h4
      refine ⟨pa_cons (ty_pe S t (eq_of_beq h1) h2 h3) k1, fun e he => ?_⟩
      rcases List.mem_cons.mp he with rfl | he
      · exact ⟨_, _, rfl⟩
      · exact k2 e he
  | [], _ :: _, h => by unfold tysB at h; cases h
  | _ :: _, [], h => by unfold tysB at h; cases h
theorem tys_len {st : Sc} {free : List Str} : ∀ (ts : List Ty) (es : List Expr), tysB st free ts es = true → ts.length = es.length
  | [], [], _ => rfl
  | t :: ts, e :: es, h => by
    unfold tysB at h
    split at h <;> first | cases h | skip
    · rename_i q1 q2; cases q1
    · rename_i t2 ts2 x p es2 q1 q2
      cases q1
      cases q2
      simp only [Bool.and_eq_true] at h
      rw [List.length_cons, List.length_cons, tys_len ts es h.2]
  | [], _ :: _, h => by unfold tysB at h; cases h
  | _ :: _, [], h => by unfold tysB at h; cases h
theorem se_isi {ts : List Ty} (ia : SE cg cf G a) : SE cg cf G (.isi a ts) := by
  intro st e h X T W S tk
  unfold chkE at h
  split at h <;> first | cases h | skip
  rename_i x _ l t _
  simp only [Bool.and_eq_true] at h
  obtain ⟨⟨⟨⟨h1, h2⟩, h3⟩, h4⟩, h5⟩ := h
  obtain rfl := eq_of_beq h1
  obtain ⟨g1, g2, g3⟩ := glo_of S h2
  have hm := S.free _ (contains_mem h3)
  have pa := ia st l h4 X T W S tk
  have ns := noStar (env := X.env) h4
  -- what both forms come to
  have fin : ∀ {σ : St} {H H2 : Hp} {ρ ρ1 : Env} {sv : SV} {v : V} {Q : VK}, Post X.K G T [] σ σ H H2 ρ ρ1 → SRep X.K G T H2 v sv →
      Out X.K G T W σ H2 ρ1 (match sv with
        | .d d => .ok (SV.d (.bool (ts.any (hasTy d)))) ρ1
        | _ => .stuck : R SV) (fun sv ρ' H' => ∀ v, SRep X.K G T H' v sv → Fresh H σ ρ' v sv → Q v H') →
      ∃ d n, Rep X.K H2 v d ∧ tyOfD d = some n ∧ TyX X.K H2 v (.type n) ∧ ∀ H3, Ext H2 H3 → Q (.bl (ts.any (hasTy d))) H3 := by
    intro σ H H2 ρ ρ1 sv v Q p r o
    split at o
    · rename_i d
      obtain ⟨n, e1, e2⟩ := tyOf_rep r.rep
      exact ⟨d, n, r.rep, e1, e2, fun H3 x => o H3 (Post.ext p.env x) _ (.d (.bl _)) (Fresh.no rfl)⟩
    · exact o.elim
  cases t with
  | Name y py =>
    cases ts with
    | nil => unfold tysB at h5; cases h5
    | cons t ts =>
      cases ts with
      | cons _ _ => unfold tysB at h5; simp only [Bool.and_eq_true] at h5; have := h5.2; unfold tysB at this; cases this
      | nil =>
        unfold tysB at h5
        simp only [Bool.and_eq_true] at h5
        obtain ⟨⟨⟨k1, k2⟩, k3⟩, _⟩ := h5
        refine PE.imp (pe_callB call_isi g1 hm (by decide +kernel) (pa_cons pa (pa_cons (ty_pe S t (eq_of_beq k1) k2 k3) pa_nil) (noStar h4 _ _)) g3 g2 (noStar h4 _ _) (by rfl)) fun σ H Q q => ?_
        obtain ⟨ρ, env, o⟩ := q
        refine ⟨ρ, env, Out.imp (Out.bind o) fun sv ρ1 H1 p1 h1 v r1 f1 => ?_⟩
        obtain ⟨d, n, e0, e1, e2, e3⟩ := fin p1 r1 h1
        refine ⟨_, _, _, _, _, rfl, .ty _, e2, kit_ty (kit_D d t n e1), ?_⟩
        have := e3 H1 Ext.refl
        rw [List.any_cons, List.any_nil, Bool.or_false] at this
        exact this
  | Tuple es k pt =>
    simp only [Bool.and_eq_true, decide_eq_true_eq] at h5
    obtain ⟨⟨k1, k2⟩, k3⟩ := h5
    refine PE.imp (pe_callB call_isiT g1 hm (by decide +kernel) (pa_cons pa (pa_cons (pe_tup (tys_pa S ts es k1).1) pa_nil) (noStar h4 _ _)) g3 g2 (noStar h4 _ _) (by rfl)) fun σ H Q q => ?_
    obtain ⟨ρ, env, o⟩ := q
    refine ⟨ρ, env, Out.imp (Out.bind o) fun sv ρ1 H1 p1 h1 v r1 f1 => ?_⟩
    obtain ⟨d, n, e0, e1, e2, e3⟩ := fin p1 r1 h1
    refine tys_read ts ⟨by rw [List.length_map, sizeLine_eq]; omega, fun p hp => ?_⟩
    obtain ⟨n', e1', e2'⟩ := tyOf_rep (Rep.stay (Ext.upd (o := .tup (ts.map fun t => V.ty (tyS t))) hp).stay _ _ e0)
    rw [e1] at e1'
    cases e1'
    refine ⟨_, p, _, _, _, _, rfl, upd_same, ?_, e2', kit_any d n e1 ts, e3 _ (Ext.upd hp)⟩
    have : ∀ ts : List Ty, Paired ClsV (ts.map fun t => V.ty (tyS t)) (ts.map fun t => Value.type (tyS t)) := fun ts => by
      induction ts with
      | nil => exact .nil
      | cons t ts ih => exact .cons (.ty _) ih
    exact this ts
  | _ => cases h5
theorem st_isi {ts : List Ty} (ia : SE cg cf G a) : STs cg cf G (.isi a ts) := st_val (se_isi ia) fun st e _ h => by
  unfold chkE at h
  split at h <;> first | cases h | skip
  exact ⟨fun _ _ => rfl, fun ⟨_, _, _, z⟩ => nomatch z⟩
end
end EV

/-! Expressions: each construct (7): calls of defs. -/
namespace EV
open PySem PySem.Spec PyProof.Rows L2
theorem resolve_at {ρ : Env} : ∀ {as : List Arg} {svs : List SV}, resolve ρ as = some svs → svs.length = as.length ∧ ∀ k : Nat, (∀ x, as[k]? = some (.v x) → svs[k]? = some x ∧ x.isOwn = false ∧ x.plain = true) ∧ (∀ i, as[k]? = some (.r i) → ∃ x, getS ρ i = some x ∧ x.isOwn = true ∧ svs[k]? = some x)
  | [], svs, h => by cases h; exact ⟨rfl, fun k => ⟨fun x e => by simp at e, fun i e => by simp at e⟩⟩
  | .v x :: l, svs, h => by
    unfold resolve at h
    split at h <;> try cases h
    rename_i hc
    simp only [Bool.or_eq_true, Bool.not_eq_true', not_or, Bool.not_eq_true, Bool.not_eq_false] at hc
    cases e : resolve ρ l with
    | none => rw [e] at h; cases h
    | some r =>
      rw [e] at h
      cases h
      obtain ⟨h1, h2⟩ := resolve_at e
      refine ⟨by rw [List.length_cons, List.length_cons, h1], fun k => ?_⟩
      cases k with
      | zero => exact ⟨fun y ey => by simp at ey; subst ey; exact ⟨rfl, hc.1, hc.2⟩, fun i ei => by simp at ei⟩
      | succ k => exact ⟨fun y ey => (h2 k).1 y (by simpa using ey), fun i ei => (h2 k).2 i (by simpa using ei)⟩
  | .r i :: l, svs, h => by
    unfold resolve at h
    cases g : getS ρ i with
    | none => rw [g] at h; cases h
    | some x =>
      rw [g] at h
      dsimp only at h
      split at h <;> try cases h
      rename_i hc
      cases e : resolve ρ l with
      | none => rw [e] at h; cases h
      | some r =>
        rw [e] at h
        cases h
        obtain ⟨h1, h2⟩ := resolve_at e
        refine ⟨by rw [List.length_cons, List.length_cons, h1], fun k => ?_⟩
        cases k with
        | zero => exact ⟨fun y ey => by simp at ey, fun j ej => by simp at ej; subst ej; exact ⟨x, g, hc, rfl⟩⟩
        | succ k => exact ⟨fun y ey => (h2 k).1 y (by simpa using ey), fun j ej => (h2 k).2 j (by simpa using ej)⟩
theorem refs_mem : ∀ {as : List Arg} {k i : Nat}, as[k]? = some (.r i) → i ∈ refsOf as
  | .v x :: l, 0, i, h => by simp at h
  | .v x :: l, k + 1, i, h => by unfold refsOf; exact refs_mem (k := k) (by simpa using h)
  | .r j :: l, 0, i, h => by simp at h; subst h; unfold refsOf; exact List.mem_cons_self
  | .r j :: l, k + 1, i, h => by unfold refsOf; exact List.mem_cons_of_mem _ (refs_mem (k := k) (by simpa using h))
theorem mem_refs : ∀ {as : List Arg} {i : Nat}, i ∈ refsOf as → ∃ k : Nat, as[k]? = some (.r i)
  | [], i, h => by cases h
  | .v x :: l, i, h => by unfold refsOf at h; obtain ⟨k, e⟩ := mem_refs h; exact ⟨k + 1, by simpa using e⟩
  | .r j :: l, i, h => by
    unfold refsOf at h
    rcases List.mem_cons.mp h with rfl | h
    · exact ⟨0, rfl⟩
    · obtain ⟨k, e⟩ := mem_refs h; exact ⟨k + 1, by simpa using e⟩
theorem refs_idx : ∀ {as : List Arg} {k l i : Nat}, (refsOf as).Nodup → as[k]? = some (.r i) → as[l]? = some (.r i) → k = l
  | .v x :: r, 0, _, i, _, h, _ => by simp at h
  | .v x :: r, _ + 1, 0, i, _, _, h => by simp at h
  | .v x :: r, k + 1, l + 1, i, n, h1, h2 => by
    unfold refsOf at n
    rw [refs_idx (k := k) (l := l) n (by simpa using h1) (by simpa using h2)]
  | .r j :: r, 0, 0, i, _, _, _ => rfl
  | .r j :: r, 0, l + 1, i, n, h1, h2 => by
    unfold refsOf at n
    simp at h1
    subst h1
    exact absurd (refs_mem (k := l) (by simpa using h2)) (List.nodup_cons.mp n).1
  | .r j :: r, k + 1, 0, i, n, h1, h2 => by
    unfold refsOf at n
    simp at h2
    subst h2
    exact absurd (refs_mem (k := k) (by simpa using h1)) (List.nodup_cons.mp n).1
  | .r j :: r, k + 1, l + 1, i, n, h1, h2 => by
    unfold refsOf at n
    rw [refs_idx (k := k) (l := l) (List.nodup_cons.mp n).2 (by simpa using h1) (by simpa using h2)]
theorem putOuts_len : ∀ {as : List Arg} {outs : List SV} {ρ : Env}, (putOuts ρ as outs).length = ρ.length
  | [], _, _ => rfl
  | .v _ :: _, [], _ => rfl
  | .v x :: l, o :: os, ρ => putOuts_len (as := l) (outs := os)
  | .r _ :: _, [], _ => rfl
  | .r i :: l, o :: os, ρ => (putOuts_len (as := l) (outs := os)).trans (List.length_set ..)
theorem putOuts_not : ∀ {as : List Arg} {outs : List SV} {ρ : Env} {i : Nat}, i ∉ refsOf as → (putOuts ρ as outs)[i]? = ρ[i]?
  | [], _, _, _, _ => rfl
  | .v _ :: _, [], _, _, _ => rfl
  | .v x :: l, o :: os, ρ, i, h => putOuts_not (as := l) (outs := os) (by unfold refsOf at h; exact h)
  | .r _ :: _, [], _, _, _ => rfl
  | .r j :: l, o :: os, ρ, i, h => by
    unfold refsOf at h
    simp only [List.mem_cons, not_or] at h
    unfold putOuts
    rw [putOuts_not (as := l) (outs := os) h.2, List.getElem?_set_ne (fun z => h.1 z.symm)]
theorem putOuts_at : ∀ {as : List Arg} {outs : List SV} {ρ : Env} {k i : Nat} {o : SV}, (refsOf as).Nodup → as[k]? = some (.r i) → outs[k]? = some o → i < ρ.length → (putOuts ρ as outs)[i]? = some (some o)
  | [], _, _, _, _, _, _, h, _, _ => by simp at h
  | .v x :: l, [], _, _, _, _, _, _, h, _ => by simp at h
  | .v x :: l, y :: os, ρ, 0, i, o, n, h1, h2, h3 => by simp at h1
  | .v x :: l, y :: os, ρ, k + 1, i, o, n, h1, h2, h3 => putOuts_at (as := l) (outs := os) (k := k) (by unfold refsOf at n; exact n) (by simpa using h1) (by simpa using h2) h3
  | .r j :: l, [], _, _, _, _, _, _, h, _ => by simp at h
  | .r j :: l, y :: os, ρ, 0, i, o, n, h1, h2, h3 => by
    unfold refsOf at n
    simp at h1 h2
    subst h1
    subst h2
    unfold putOuts
    rw [putOuts_not (List.nodup_cons.mp n).1, List.getElem?_set_self h3]
  | .r j :: l, y :: os, ρ, k + 1, i, o, n, h1, h2, h3 => by
    unfold refsOf at n
    unfold putOuts
    exact putOuts_at (as := l) (outs := os) (k := k) (List.nodup_cons.mp n).2 (by simpa using h1) (by simpa using h2) (by rw [List.length_set]; exact h3)
section
variable {K : PySem.W.Frag} {G : AM} {T : XT} {W : WX} {σ : St} {H H0 H1 H' : Hp} {ρ ρ' : Env}
theorem SRep.moreT {v : V} {sv : SV} (h : SRep K G [] H v sv) : SRep K G T H v sv := by
  cases h with
  | d r => exact .d r
  | fn k => exact .fn k
  | obj e r => exact .obj e r
  | exc m e r => cases m
  | exc0 m => cases m
  | olst e r => exact .olst e r
  | oobj e r => exact .oobj e r
theorem own_plain {sv : SV} (h : sv.isOwn = true) : sv.plain = true := by cases sv <;> first | rfl | cases h
/-- arguments at a call -/
inductive ARs (K : PySem.W.Frag) (G : AM) (T : XT) (H0 H : Hp) (σ : St) (ρ : Env) : List V → List Arg → Prop
  | nil : ARs K G T H0 H σ ρ [] []
  | v {v : V} {x : SV} {vs : List V} {as : List Arg} : SRep K G T H v x → Fresh H0 σ ρ v x → ARs K G T H0 H σ ρ vs as → ARs K G T H0 H σ ρ (v :: vs) (.v x :: as)
  | r {v : V} {i : Nat} {vs : List V} {as : List Arg} : σ[i]? = some (some v) → ARs K G T H0 H σ ρ vs as → ARs K G T H0 H σ ρ (v :: vs) (.r i :: as)
theorem ARs.at_ {vs : List V} {as : List Arg} (h : ARs K G T H0 H σ ρ vs as) : vs.length = as.length ∧ ∀ (k : Nat) (v : V), vs[k]? = some v → (∀ x, as[k]? = some (.v x) → SRep K G T H v x) ∧ (∀ i, as[k]? = some (.r i) → σ[i]? = some (some v)) := by
  induction h with
  | nil => exact ⟨rfl, fun k v e => by simp at e⟩
  | v r f _ ih =>
    refine ⟨by rw [List.length_cons, List.length_cons, ih.1], fun k v e => ?_⟩
    cases k with
    | zero => simp at e; subst e; exact ⟨fun x ex => by simp at ex; subst ex; exact r, fun i ei => by simp at ei⟩
    | succ k => exact ⟨fun x ex => (ih.2 k v (by simpa using e)).1 x (by simpa using ex), fun i ei => (ih.2 k v (by simpa using e)).2 i (by simpa using ei)⟩
  | r q _ ih =>
    refine ⟨by rw [List.length_cons, List.length_cons, ih.1], fun k v e => ?_⟩
    cases k with
    | zero => simp at e; subst e; exact ⟨fun x ex => by simp at ex, fun i ei => by simp at ei; subst ei; exact q⟩
    | succ k => exact ⟨fun x ex => (ih.2 k v (by simpa using e)).1 x (by simpa using ex), fun i ei => (ih.2 k v (by simpa using e)).2 i (by simpa using ei)⟩
theorem ARs.post {vs : List V} {as : List Arg} (h : ARs K G T H0 H σ ρ vs as) (e : EnvR K G T σ H ρ) {pin : List Nat} (p : Post K G T pin σ σ H H' ρ ρ') : ARs K G T H0 H' σ ρ' vs as := by
  induction h with
  | nil => exact .nil
  | v r f _ ih => exact .v (r.post e f p) (f.post r p) ih
  | r q _ ih => exact .r q ih
theorem ARs.back {vs : List V} {as : List Arg} (h : ARs K G T H1 H σ ρ vs as) (d : ∀ b o, H0 b = some o → ∃ o', H1 b = some o') : ARs K G T H0 H σ ρ vs as := by
  induction h with
  | nil => exact .nil
  | v r f _ ih => exact .v r (f.back d) ih
  | r q _ ih => exact .r q ih
theorem paired_at {α β : Type} {F : α → β → Prop} : ∀ {l : List α} {m : List β}, l.length = m.length → (∀ (k : Nat) (a : α) (b : β), l[k]? = some a → m[k]? = some b → F a b) → Paired F l m
  | [], [], _, _ => .nil
  | [], _ :: _, h, _ => by cases h
  | _ :: _, [], h, _ => by cases h
  | a :: l, b :: m, h, f => .cons (f 0 a b rfl rfl) (paired_at (by simpa using h) fun k a b h1 h2 => f (k + 1) a b (by simpa using h1) (by simpa using h2))
theorem arg_cases {as : List Arg} {k : Nat} (h : k < as.length) : (∃ x, as[k]? = some (.v x)) ∨ ∃ i, as[k]? = some (.r i) := by
  cases e : as[k]? with
  | none => rw [List.getElem?_eq_none_iff] at e; omega
  | some a => cases a with
    | v x => exact .inl ⟨x, rfl⟩
    | r i => exact .inr ⟨i, rfl⟩
/-- the arguments, as the callee sees them -/
theorem args_of {vs : List V} {as : List Arg} {svs : List SV} (a : ARs K G T H0 H σ ρ vs as) (e : EnvR K G T σ H ρ) (hr : resolve ρ as = some svs) (n : (refsOf as).Nodup) : ArgsR K G H vs svs := by
  obtain ⟨l1, r1⟩ := resolve_at hr
  obtain ⟨l2, r2⟩ := a.at_
  have pl : ∀ (k : Nat) (s : SV), svs[k]? = some s → s.plain = true ∧ (s.isOwn = true → ∃ i, as[k]? = some (.r i) ∧ getS ρ i = some s) := fun k s h => by
    have hk : k < as.length := by rw [← l1]; exact (List.getElem?_eq_some_iff.mp h).1
    rcases arg_cases hk with ⟨x, hx⟩ | ⟨i, hi⟩
    · obtain ⟨q1, q2, q3⟩ := (r1 k).1 x hx
      rw [h] at q1
      cases q1
      exact ⟨q3, fun z => by rw [q2] at z; cases z⟩
    · obtain ⟨x, q1, q2, q3⟩ := (r1 k).2 i hi
      rw [h] at q3
      cases q3
      exact ⟨own_plain q2, fun _ => ⟨i, hi, q1⟩⟩
  refine ⟨paired_at (l2.trans l1.symm) fun k v s h1 h2 => ?_, fun s hs => ?_, fun i j s s' v h1 h2 o1 o2 h3 h4 => ?_⟩
  · have hk : k < as.length := by rw [← l1]; exact (List.getElem?_eq_some_iff.mp h2).1
    refine SRep.noX ?_ (pl k s h2).1 (T := T)
    rcases arg_cases hk with ⟨x, hx⟩ | ⟨i, hi⟩
    · obtain ⟨q1, _⟩ := (r1 k).1 x hx
      rw [h2] at q1
      cases q1
      exact (r2 k v h1).1 _ hx
    · obtain ⟨x, q1, q2, q3⟩ := (r1 k).2 i hi
      rw [h2] at q3
      cases q3
      obtain ⟨w, e1, e2⟩ := e.get q1
      rw [(r2 k v h1).2 i hi] at e1
      cases e1
      exact e2
  · obtain ⟨k, hk⟩ := List.getElem?_of_mem hs
    exact (pl k s hk).1
  · obtain ⟨a1, b1, c1⟩ := (pl i s h1).2 o1
    obtain ⟨a2, b2, c2⟩ := (pl j s' h2).2 o2
    have e1 := (r2 i v h3).2 a1 b1
    have e2 := (r2 j v h4).2 a2 b2
    have := e.sep a1 a2 s s' v (getS_at c1) (getS_at c2) o1 o2 e1 e2
    subst this
    exact refs_idx n b1 b2
/-- behind a call -/
theorem post_call {vs : List V} {as : List Arg} {svs outs : List SV} (a : ARs K G T H0 H σ ρ vs as) (e : EnvR K G T σ H ρ) (hr : resolve ρ as = some svs) (n : (refsOf as).Nodup) (A : Aft K G H H' vs svs outs) : Post K G T [] σ σ H H' ρ (putOuts ρ as outs) := by
  obtain ⟨l1, r1⟩ := resolve_at hr
  obtain ⟨l2, r2⟩ := a.at_
  -- what the callee owned is ours
  have ow : ∀ b, OwA vs svs b → ∃ (k i : Nat) (sv : SV), as[k]? = some (.r i) ∧ getS ρ i = some sv ∧ sv.isOwn = true ∧ σ[i]? = some (some (.ref b)) := fun b ⟨k, s, h1, h2, h3⟩ => by
    have hk : k < as.length := by rw [← l1]; exact (List.getElem?_eq_some_iff.mp h1).1
    rcases arg_cases hk with ⟨x, hx⟩ | ⟨i, hi⟩
    · obtain ⟨q1, q2, _⟩ := (r1 k).1 x hx
      rw [h1] at q1
      cases q1
      rw [q2] at h2
      cases h2
    · obtain ⟨x, q1, q2, q3⟩ := (r1 k).2 i hi
      exact ⟨k, i, x, hi, q1, q2, (r2 k _ h3).2 i hi⟩
  have owO : ∀ b, OwA vs svs b → Ow σ ρ b := fun b h => let ⟨_, i, sv, _, h2, h3, h4⟩ := ow b h; ⟨i, sv, getS_at h2, h3, h4⟩
  have sty : Stay H H' := fun b o h nn => A.keep b o h fun w => by
    obtain ⟨o', q1, q2⟩ := e.own (owO b w)
    rw [h] at q1
    cases q1
    rw [nn] at q2
    cases q2
  -- each slot behind the call
  have slot : ∀ (j : Nat) (sv : SV), (putOuts ρ as outs)[j]? = some (some sv) → (∃ (k : Nat) (s0 : SV), as[k]? = some (.r j) ∧ outs[k]? = some sv ∧ ρ[j]? = some (some s0) ∧ s0.isOwn = true ∧ svs[k]? = some s0) ∨ (j ∉ refsOf as ∧ ρ[j]? = some (some sv)) := fun j sv h => by
    by_cases hj : j ∈ refsOf as
    · obtain ⟨k, hk⟩ := mem_refs hj
      obtain ⟨x, q1, q2, q3⟩ := (r1 k).2 j hk
      have hjl : j < ρ.length := (List.getElem?_eq_some_iff.mp (getS_at q1)).1
      have hkl : k < outs.length := by rw [A.len]; exact (List.getElem?_eq_some_iff.mp q3).1
      have ho : outs[k]? = some outs[k] := by simp [hkl]
      rw [putOuts_at n hk ho hjl] at h
      cases h
      exact .inl ⟨k, x, hk, ho, getS_at q1, q2, q3⟩
    · rw [putOuts_not hj] at h
      exact .inr ⟨hj, h⟩
  have vat : ∀ {k j : Nat}, as[k]? = some (.r j) → ∃ v, vs[k]? = some v ∧ σ[j]? = some (some v) := fun {k j} hk => by
    have hkl : k < vs.length := by rw [l2]; exact (List.getElem?_eq_some_iff.mp hk).1
    have hv : vs[k]? = some vs[k] := by simp [hkl]
    exact ⟨_, hv, (r2 k _ hv).2 j hk⟩
  have ownJ : ∀ (j : Nat) (sv : SV), (putOuts ρ as outs)[j]? = some (some sv) → sv.isOwn = true → ∃ s0, ρ[j]? = some (some s0) ∧ s0.isOwn = true := fun j sv h o => by
    rcases slot j sv h with ⟨k, s0, _, _, h3, h4, _⟩ | ⟨_, h3⟩
    · exact ⟨s0, h3, h4⟩
    · exact ⟨sv, h3, o⟩
  refine ⟨⟨by rw [putOuts_len]; exact e.len, fun j sv h => ?_, fun j k s s' v h1 h2 o1 o2 h3 h4 => ?_⟩, fun b o h w => A.keep b o h fun z => w (owO b z), fun b w => ?_, A.dom, fun _ hm => by cases hm⟩
  · rcases slot j sv h with ⟨k, s0, hk, ho, h3, h4, h5⟩ | ⟨hj, h3⟩
    · obtain ⟨v, v1, v2⟩ := vat hk
      exact ⟨v, v2, (A.rep k v s0 sv v1 h5 h4 ho).2.moreT⟩
    · obtain ⟨v, v1, rr⟩ := e.at_ j sv h3
      refine ⟨v, v1, ?_⟩
      cases q : sv.isOwn with
      | false => exact rr.stay sty q
      | true =>
        refine rr.stayO sty fun b o eb hb _ => A.keep b o hb fun w => ?_
        obtain ⟨k, i, s0, w1, w2, w3, w4⟩ := ow b w
        rw [eb] at v1
        have := e.sep i j s0 sv _ (getS_at w2) h3 w3 q w4 v1
        subst this
        exact hj (refs_mem w1)
  · obtain ⟨s0, p1, p2⟩ := ownJ j s h1 o1
    obtain ⟨s1, q1, q2⟩ := ownJ k s' h2 o2
    exact e.sep j k s0 s1 v p1 q1 p2 q2 h3 h4
  · obtain ⟨j, s, h1, h2, h3⟩ := w
    obtain ⟨s0, p1, p2⟩ := ownJ j s h1 h2
    exact .inl ⟨j, s0, p1, p2, h3⟩
end
end EV

/-! Expressions: each construct (8): calls of defs, walked things. -/
namespace EV
open PySem PySem.Spec PyProof.Rows L2
section
variable (K : PySem.W.Frag) (G : AM) (T : XT) (W : WX)
def tA (m : Env → R (List Arg)) : TA := fun σ H Q => ∃ ρ, EnvR K G T σ H ρ ∧ Out K G T W σ H ρ (m ρ) fun as ρ' H' => ∀ vs, ARs K G T H H' σ ρ' vs as → Q vs H'
end
section
variable (cg : Cfg) (cf : Cf) (G : AM)
def SAs (c : C) : Prop := ∀ (st : Sc) (es : List Expr), chkA cg st c es = true → ∀ (X : Cx) (T : XT) (W : WX), SX cg cf G T st X → Takes X W → PA X es (tA X.K G T W (semA cf c))
end
section
variable {cg : Cfg} {cf : Cf} {G : AM} {a b c i lo hi es elt cond it as : C}
theorem sa_nil : SAs cg cf G .nil := by
  intro st es h X T W S tk
  unfold chkA at h
  cases es with
  | cons _ _ => cases h
  | nil =>
    refine PA.imp pa_nil fun σ H Q q => ?_
    obtain ⟨ρ, env, o⟩ := q
    exact (o : Out X.K G T W σ H ρ (R.ok [] ρ) _) H (Post.refl env) [] .nil
def C.isRef : C → Bool
  | .refv _ => true
  | _ => false
theorem semA_v (h : a.isRef = false) (ρ : Env) : semA cf (.cons a b) ρ = (semE cf a ρ).bind fun x ρ => (semA cf b ρ).bind fun xs ρ => .ok (.v x :: xs) ρ := by
  cases a <;> first | rfl | cases h
theorem chkA_v {st : Sc} {e : Expr} {r : List Expr} (h : a.isRef = false) : chkA cg st (.cons a b) (e :: r) = (chkE cg st a e && chkA cg st b r) := by
  cases a <;> first | rfl | cases h
theorem sa_cons (ia : SE cg cf G a) (ib : SAs cg cf G b) : SAs cg cf G (.cons a b) := by
  intro st es h X T W S tk
  cases es with
  | nil => unfold chkA at h; cases h
  | cons e r =>
    cases hr : a.isRef with
    | false =>
      rw [chkA_v hr] at h
      simp only [Bool.and_eq_true] at h
      refine PA.imp (pa_cons (ia st e h.1 X T W S tk) (ib st r h.2 X T W S tk) (noStar h.1 _ _)) fun σ H Q q => ?_
      obtain ⟨ρ, env, o⟩ := q
      rw [semA_v hr] at o
      refine ⟨ρ, env, o.bind.imp fun sa ρ1 H1 p1 h1 v r1 f1 => ⟨ρ1, p1.env, h1.bind.imp fun ss ρ2 H2 p2 h2 vs rs => ?_⟩⟩
      exact h2 H2 (Post.refl p2.env) _ (.v (r1.post p1.env f1 p2) (f1.post r1 p2) (rs.back p1.dom))
    | true =>
      cases a <;> first | cases hr | skip
      rename_i n
      unfold chkA at h
      dsimp only at h
      rw [Bool.and_eq_true] at h
      obtain ⟨h1, h2⟩ := h
      split at h1 <;> first | cases h1 | skip
      rename_i x px
      simp only [Bool.and_eq_true] at h1
      obtain ⟨⟨k1, k2⟩, k3⟩ := h1
      obtain ⟨d1, d2⟩ := okN_of k3
      refine PA.imp (pa_cons (pe_var (i := n) (by rw [S.N]; exact at_of k1) (vis_of S k2) d1 d2) (ib st r h2 X T W S tk)) fun σ H Q q => ?_
      obtain ⟨ρ, env, o⟩ := q
      replace o : Out X.K G T W σ H ρ (match getS ρ n with
        | some _ => (semA cf b ρ).bind fun xs ρ => .ok (.r n :: xs) ρ
        | Option.none => .stuck) _ := o
      split at o
      · rename_i sv g
        obtain ⟨v, hv, _⟩ := env.get g
        refine ⟨v, hv, ρ, env, o.bind.imp fun ss ρ2 H2 p2 h2 vs rs => ?_⟩
        exact h2 H2 (Post.refl p2.env) _ (.r hv rs)
      · exact o.elim
theorem chkA_hd {st : Sc} {l : Expr} {r : List Expr} {env : PySem.Env} (h : chkA cg st as (l :: r) = true) : starEach (l :: r) env = (false, eval l env) :: starEach r env ∧ ∀ pos, (backTo pos (starEach r env)).any (·.1) = false := by
  cases as with
  | cons a b =>
    cases hr : a.isRef with
    | false =>
      rw [chkA_v hr] at h
      simp only [Bool.and_eq_true] at h
      exact ⟨noStar h.1 _ _, fun pos => noStarA b h.2⟩
    | true =>
      cases a <;> first | cases hr | skip
      unfold chkA at h
      dsimp only at h
      rw [Bool.and_eq_true] at h
      refine ⟨?_, fun pos => noStarA b h.2⟩
      have h1 := h.1
      split at h1 <;> first | cases h1 | skip
      rfl
  | _ => cases h
theorem putOuts_own {ρ : Env} {as : List Arg} {svs outs : List SV} {j : Nat} {sv : SV} (hr : resolve ρ as = some svs) (h : (putOuts ρ as outs)[j]? = some (some sv)) (o : sv.isOwn = true) : ∃ s0, ρ[j]? = some (some s0) ∧ s0.isOwn = true := by
  by_cases hj : j ∈ refsOf as
  · obtain ⟨k, hk⟩ := mem_refs hj
    obtain ⟨x, q1, q2, _⟩ := ((resolve_at hr).2 k).2 j hk
    exact ⟨x, getS_at q1, q2⟩
  · rw [putOuts_not hj] at h
    exact ⟨sv, h, o⟩
theorem se_call {k : Nat} (ia : SAs cg cf G as) : SE cg cf G (.call k as) := by
  intro st e h X T W S tk
  unfold chkE at h
  split at h <;> first | cases h | skip
  rename_i x px l r pos
  simp only [Bool.and_eq_true] at h
  obtain ⟨⟨⟨h1, h2⟩, h3⟩, h4⟩ := h
  obtain ⟨g1, g2, g3⟩ := glo_of S h2
  have pa := ia st _ h3 X T W S tk
  obtain ⟨s1, s2⟩ := chkA_hd (env := X.env) h3
  obtain ⟨m, em, fa, fd, ps, lv, c1, c2, c3, c4, ca, c5⟩ := S.fns k x (by simpa using h1)
  obtain ⟨_, c7, _⟩ := S.calm h4
  refine PE.imp (pe_callG c5 (c7.mono c1) S.gd c4 tk g1 c2 c3 pa g2 s1 (s2 _)) fun σ H Q q => ?_
  obtain ⟨ρ, env, o⟩ := q
  replace o : Out X.K G T W σ H ρ ((semA cf as ρ).bind fun args ρ => match cf.fns[k]? with
    | some f => callF f args ρ
    | Option.none => .stuck) _ := o
  rw [em] at o
  refine ⟨ρ, env, o.bind.imp fun args ρ1 H1 p1 h1 vs rs => ?_⟩
  dsimp only at h1
  unfold callF at h1
  split at h1
  · rename_i nd
    cases er : resolve ρ1 args with
    | none => rw [er] at h1; exact h1.elim
    | some svs =>
      rw [er] at h1
      dsimp only at h1
      refine ⟨?_, svs, args_of rs p1.env er nd, ?_⟩
      · rw [rs.at_.1, ← (resolve_at er).1]
        refine ca svs fun z => ?_
        rw [z] at h1
        exact h1
      · cases ef : m svs with
        | stuck => rw [ef] at h1; exact h1.elim
        | ok rr outs =>
          rw [ef] at h1
          intro v H' A r f
          have p2 := post_call rs p1.env er nd A
          refine h1 H' p2 v r.moreT fun z => ?_
          obtain ⟨p, ep, hp⟩ := f z
          refine ⟨p, ep, ?_, fun w => ?_⟩
          · cases q : H p with
            | none => rfl
            | some o =>
              obtain ⟨o', q2⟩ := p1.dom p o q
              rw [hp] at q2
              cases q2
          · obtain ⟨j, s, w1, w2, w3⟩ := w
            obtain ⟨s0, w4, w5⟩ := putOuts_own er w1 w2
            obtain ⟨o, q1, _⟩ := p1.env.own ⟨j, s0, w4, w5, w3⟩
            rw [hp] at q1
            cases q1
        | err z outs =>
          rw [ef] at h1
          intro cls d H' A er2
          exact h1 cls d H' (post_call rs p1.env er nd A) er2
  · exact h1.elim
theorem st_call {k : Nat} (ia : SAs cg cf G as) : STs cg cf G (.call k as) := st_val (se_call ia) fun st e _ h => by
  unfold chkE at h
  split at h <;> first | cases h | skip
  exact ⟨fun _ _ => rfl, fun ⟨_, _, _, z⟩ => nomatch z⟩
end
end EV

/-! Targets; what a loop walks. -/
namespace EV
open PySem PySem.Spec PyProof.Rows L2
section
variable {K : PySem.W.Frag} {G : AM} {T : XT} {W : WX} {σ σ' : St} {H H' H1 : Hp} {ρ ρ' ρ0 : Env} {pin : List Nat}

/-! ### slots forgotten -/
theorem wipeE_length (ρ : Env) : ∀ vs : List Nat, (wipeE ρ vs).length = ρ.length
  | [] => rfl
  | v :: vs => by unfold wipeE; rw [List.length_set, wipeE_length ρ vs]
theorem wipeE_at {i : Nat} : ∀ {vs : List Nat}, (wipeE ρ vs)[i]? = if i ∈ vs then (ρ[i]?).map (fun _ => Option.none) else ρ[i]?
  | [] => by simp [wipeE]
  | v :: vs => by
    unfold wipeE
    by_cases hi : v = i
    · subst hi
      by_cases hl : v < ρ.length
      · rw [List.getElem?_set_self (by rw [wipeE_length]; exact hl)]
        simp [hl]
      · rw [List.getElem?_eq_none (by rw [List.length_set, wipeE_length]; omega)]
        simp [hl]
    · rw [List.getElem?_set_ne hi, wipeE_at (vs := vs)]
      have : i ≠ v := fun z => hi z.symm
      simp [this]
theorem wipeE_some {i : Nat} {sv : SV} {vs : List Nat} : (wipeE ρ vs)[i]? = some (some sv) ↔ (i ∉ vs ∧ ρ[i]? = some (some sv)) := by
  rw [wipeE_at]
  by_cases h : i ∈ vs
  · simp [h]
  · simp [h]
theorem wipe_in {i : Nat} : ∀ {vs : List Nat}, i ∈ vs → i < σ.length → (wipe σ vs)[i]? = some none
  | v :: vs, h, hl => by
    unfold wipe
    by_cases hi : v = i
    · subst hi
      rw [List.getElem?_set_self (by rw [wipe_length]; exact hl)]
    · rw [List.getElem?_set_ne hi]
      rcases List.mem_cons.mp h with z | z
      · exact absurd z.symm hi
      · exact wipe_in z hl
theorem wipe_ext {σ2 : St} {vs : List Nat} (hl : σ2.length = σ.length) (h : ∀ j, j ∉ vs → σ2[j]? = σ[j]?) : wipe σ2 vs = wipe σ vs := by
  apply List.ext_getElem?
  intro j
  by_cases hj : j ∈ vs
  · by_cases hlt : j < σ.length
    · rw [wipe_in hj (by omega), wipe_in hj hlt]
    · rw [List.getElem?_eq_none (by rw [wipe_length]; omega), List.getElem?_eq_none (by rw [wipe_length]; omega)]
  · rw [wipe_out hj, wipe_out hj, h j hj]
theorem EnvR.wipe (e : EnvR K G T σ H ρ) (vs : List Nat) : EnvR K G T (wipe σ vs) H (wipeE ρ vs) := by
  refine ⟨by rw [wipe_length, wipeE_length]; exact e.len, fun i sv h => ?_, fun i j s s' v h1 h2 o1 o2 h3 h4 => ?_⟩
  · obtain ⟨h1, h2⟩ := wipeE_some.mp h
    rw [wipe_out h1]
    exact e.at_ i sv h2
  · obtain ⟨h1, k1⟩ := wipeE_some.mp h1
    obtain ⟨h2, k2⟩ := wipeE_some.mp h2
    rw [wipe_out h1] at h3
    rw [wipe_out h2] at h4
    exact e.sep i j s s' v k1 k2 o1 o2 h3 h4
theorem EnvR.wipe2 (e : EnvR K G T σ H ρ) (vs : List Nat) {ws : List Nat} (hs : ∀ i ∈ vs, i ∈ ws) : EnvR K G T (L2.wipe σ vs) H (wipeE ρ ws) := by
  refine ⟨by rw [wipe_length, wipeE_length]; exact e.len, fun i sv h => ?_, fun i j s s' v h1 h2 o1 o2 h3 h4 => ?_⟩
  · obtain ⟨h1, h2⟩ := wipeE_some.mp h
    rw [wipe_out fun z => h1 (hs i z)]
    exact e.at_ i sv h2
  · obtain ⟨h1, k1⟩ := wipeE_some.mp h1
    obtain ⟨h2, k2⟩ := wipeE_some.mp h2
    rw [wipe_out fun z => h1 (hs i z)] at h3
    rw [wipe_out fun z => h2 (hs j z)] at h4
    exact e.sep i j s s' v k1 k2 o1 o2 h3 h4
theorem Ow.unwipe2 {vs ws : List Nat} {b : Addr} (hs : ∀ i ∈ vs, i ∈ ws) (h : Ow (L2.wipe σ vs) (wipeE ρ ws) b) : Ow σ ρ b := by
  obtain ⟨i, sv, h1, h2, h3⟩ := h
  obtain ⟨h1, k1⟩ := wipeE_some.mp h1
  rw [wipe_out fun z => h1 (hs i z)] at h3
  exact ⟨i, sv, k1, h2, h3⟩
theorem Ow.unwipe {vs : List Nat} {b : Addr} (h : Ow (L2.wipe σ vs) (wipeE ρ vs) b) : Ow σ ρ b := h.unwipe2 fun _ h => h
theorem Post.wipe (p : Post K G T [] σ σ' H H' ρ ρ') (vs : List Nat) : Post K G T [] σ (wipe σ' vs) H H' ρ (wipeE ρ' vs) :=
  ⟨p.env.wipe vs, p.keep, fun b w => p.own b w.unwipe, p.dom, fun _ h => by cases h⟩
theorem backE_length (ρ0 ρ : Env) : ∀ vs : List Nat, (backE ρ0 ρ vs).length = ρ.length
  | [] => rfl
  | v :: vs => by unfold backE; rw [List.length_set, backE_length ρ0 ρ vs]
theorem backE_some {i : Nat} {sv : SV} : ∀ {vs : List Nat}, (backE ρ0 ρ vs)[i]? = some (some sv) → (i ∈ vs ∧ ρ0[i]? = some (some sv)) ∨ (i ∉ vs ∧ ρ[i]? = some (some sv))
  | [], h => .inr ⟨by simp, h⟩
  | v :: vs, h => by
    unfold backE at h
    by_cases hi : v = i
    · subst hi
      by_cases hl : v < ρ.length
      · rw [List.getElem?_set_self (by rw [backE_length]; exact hl)] at h
        refine .inl ⟨List.mem_cons_self, ?_⟩
        have h := Option.some.inj h
        cases q : ρ0[v]? with
        | none => rw [q] at h; cases h
        | some o => rw [q] at h; exact congrArg some h
      · rw [List.getElem?_eq_none (by rw [List.length_set, backE_length]; omega)] at h
        cases h
    · rw [List.getElem?_set_ne hi] at h
      rcases backE_some h with ⟨h1, h2⟩ | ⟨h1, h2⟩
      · exact .inl ⟨List.mem_cons_of_mem _ h1, h2⟩
      · exact .inr ⟨by simp only [List.mem_cons, not_or]; exact ⟨fun z => hi z.symm, h1⟩, h2⟩
/-- a block is left; vs its own names, ws more slots that it did not see -/
theorem hidden {vs ws : List Nat} (hs : ∀ i ∈ vs, i ∈ ws) (e : EnvR K G T σ H ρ0) {j : Nat} {b : Addr} {sv : SV} (hj : j ∈ ws) (h1 : ρ0[j]? = some (some sv)) (h2 : sv.isOwn = true) (h3 : σ[j]? = some (some (.ref b))) : ¬ Ow (L2.wipe σ vs) (wipeE ρ0 ws) b := fun ⟨k, s, k1, k2, k3⟩ => by
  obtain ⟨m1, m2⟩ := wipeE_some.mp k1
  rw [wipe_out fun z => m1 (hs k z)] at k3
  have := e.sep j k sv s _ h1 m2 h2 k2 h3 k3
  subst this
  exact m1 hj
theorem Post.back {vs ws : List Nat} (hs : ∀ i ∈ vs, i ∈ ws) (e : EnvR K G T σ H ρ0) (p : Post K G T [] (L2.wipe σ vs) (L2.wipe σ vs) H H' (wipeE ρ0 ws) ρ) : Post K G T [] σ σ H H' ρ0 (backE ρ0 ρ ws) := by
  have hw := e.wipe2 vs hs
  have out : ∀ {j : Nat} {b : Addr} {sv : SV}, j ∈ ws → ρ0[j]? = some (some sv) → sv.isOwn = true → σ[j]? = some (some (.ref b)) → ¬ Ow (L2.wipe σ vs) (wipeE ρ0 ws) b := fun hj h1 h2 h3 => hidden hs e hj h1 h2 h3
  have wo : ∀ {j : Nat}, j ∉ ws → (L2.wipe σ vs)[j]? = σ[j]? := fun {j} h => wipe_out fun z => h (hs j z)
  have inOw : ∀ {j : Nat} {b : Addr} {sv : SV}, j ∉ ws → ρ[j]? = some (some sv) → sv.isOwn = true → σ[j]? = some (some (.ref b)) → Ow σ ρ0 b ∨ H b = none := fun {j b sv} hj h1 h2 h3 => by
    rcases p.own b ⟨j, sv, h1, h2, by rw [wo hj]; exact h3⟩ with w | w
    · exact .inl (w.unwipe2 hs)
    · exact .inr w
  refine ⟨⟨?_, fun j sv h => ?_, fun j k s s' v h1 h2 o1 o2 h3 h4 => ?_⟩, fun b o h w => p.keep b o h fun z => w (z.unwipe2 hs), fun b w => ?_, p.dom, fun _ hm => by cases hm⟩
  · rw [backE_length, ← p.env.len, wipe_length]
  · rcases backE_some h with ⟨hj, h⟩ | ⟨hj, h⟩
    · obtain ⟨v, h1, r⟩ := e.at_ j sv h
      refine ⟨v, h1, ?_⟩
      cases n : sv.isOwn with
      | false => exact r.stay (p.stay hw) n
      | true => exact r.stayO (p.stay hw) fun a o ev ha _ => p.keep a o ha (out hj h n (by rw [h1, ev]))
    · obtain ⟨v, h1, r⟩ := p.env.at_ j sv h
      rw [wo hj] at h1
      exact ⟨v, h1, r⟩
  · have key : ∀ {j k : Nat} {s s' : SV} {v : V}, j ∈ ws → ρ0[j]? = some (some s) → s.isOwn = true → σ[j]? = some (some v) → k ∉ ws → ρ[k]? = some (some s') → s'.isOwn = true → σ[k]? = some (some v) → False := fun {j k s s' v} a1 a2 a3 a4 b1 b2 b3 b4 => by
      obtain ⟨v', c1, c2⟩ := e.at_ j s a2
      rw [a4] at c1
      cases c1
      obtain ⟨a, o, ev, c3, _⟩ := c2.owns a3
      subst ev
      rcases p.own a ⟨k, s', b2, b3, by rw [wo b1]; exact b4⟩ with w | w
      · exact out a1 a2 a3 a4 w
      · rw [c3] at w; cases w
    rcases backE_some h1 with ⟨a1, a2⟩ | ⟨a1, a2⟩ <;> rcases backE_some h2 with ⟨b1, b2⟩ | ⟨b1, b2⟩
    · exact e.sep j k s s' v a2 b2 o1 o2 h3 h4
    · exact (key a1 a2 o1 h3 b1 b2 o2 h4).elim
    · exact (key b1 b2 o2 h4 a1 a2 o1 h3).elim
    · exact p.env.sep j k s s' v a2 b2 o1 o2 (by rw [wo a1]; exact h3) (by rw [wo b1]; exact h4)
  · obtain ⟨j, s, h1, h2, h3⟩ := w
    rcases backE_some h1 with ⟨a1, a2⟩ | ⟨a1, a2⟩
    · exact .inl ⟨j, s, a2, h2, h3⟩
    · exact inOw a1 a2 h2 h3

/-! ### targets -/
theorem EnvR.setD {i : Nat} {v : V} {x : PyData} (e : EnvR K G T σ H ρ) (r : Rep K H v x) : EnvR K G T (σ.set i (some v)) H (ρ.set i (some (.d x))) := e.set (.d r) fun z => nomatch z
theorem Post.setD {i : Nat} {v : V} {x : PyData} (p : Post K G T pin σ' σ H1 H ρ' ρ) (r : Rep K H v x) (hi : i ∉ pin) : Post K G T pin σ' (σ.set i (some v)) H1 H ρ' (ρ.set i (some (.d x))) := by
  refine ⟨p.env.setD r, p.keep, fun b w => ?_, p.dom, fun j hj => ?_⟩
  · rcases Ow.of_set p.env.len w with w | ⟨_, n⟩
    · exact p.own b w
    · cases n
  · rw [List.getElem?_set_ne (fun z : i = j => hi (by rw [z]; exact hj))]
    exact p.pins j hj
def gNs : List Nat → TGs
  | [] => gNil
  | i :: is => gCons (gName i) (gNs is)
def gT (K : PySem.W.Frag) : Tg → TG
  | .one i => gName i
  | .many is => gTup K is.length (gNs is)
theorem gNs_read {σ0 : St} {ρ0 : Env} {H0 : Hp} {Q : St → Hp → Prop} : ∀ {is : List Nat} {vs : List V} {xs : List PyData} {σ : St} {ρ ρ' : Env}, Post K G T pin σ0 σ H0 H ρ0 ρ → Reps K H vs xs → setMany ρ is xs = some ρ' → (∀ i ∈ is, i ∉ pin) →
    (∀ σ', Post K G T pin σ0 σ' H0 H ρ0 ρ' → σ'.length = σ.length → (∀ j, j ∉ is → σ'[j]? = σ[j]?) → Q σ' H) → gNs is vs σ H Q
  | [], _, _, σ, ρ, ρ', p, r, h, hp, q => by
    cases r with
    | nil => cases h; exact ⟨rfl, q σ p rfl fun _ _ => rfl⟩
    | cons _ _ => cases h
  | i :: is, _, _, σ, ρ, ρ', p, r, h, hp, q => by
    cases r with
    | nil => cases h
    | @cons v vs x xs a b =>
      refine ⟨v, vs, rfl, ?_⟩
      refine gNs_read (is := is) (p.setD a (hp i List.mem_cons_self)) b h (fun j hj => hp j (List.mem_cons_of_mem _ hj)) fun σ' p' l' w' => ?_
      refine q σ' p' (by rw [l', List.length_set]) fun j hj => ?_
      simp only [List.mem_cons, not_or] at hj
      rw [w' j hj.2, List.getElem?_set_ne (fun z => hj.1 z.symm)]
theorem gT_read {σ0 : St} {ρ0 : Env} {H0 : Hp} {tg : Tg} {v : V} {x : PyData} {Q : St → Hp → Prop} (p : Post K G T pin σ0 σ H0 H ρ0 ρ) (r : Rep K H v x) (h : setT tg x ρ = some ρ') (hp : ∀ i ∈ tgs tg, i ∉ pin)
    (q : ∀ σ', Post K G T pin σ0 σ' H0 H ρ0 ρ' → σ'.length = σ.length → (∀ j, j ∉ tgs tg → σ'[j]? = σ[j]?) → Q σ' H) : gT K tg v σ H Q := by
  cases tg with
  | one i =>
    cases h
    exact q _ (p.setD r (hp i List.mem_cons_self)) (List.length_set ..) fun j hj => by
      have : i ≠ j := fun z => hj (by rw [z]; exact List.mem_cons_self)
      rw [List.getElem?_set_ne this]
  | many is =>
    cases x with
    | tuple xs =>
      cases r with
      | tup a b =>
        refine ⟨_, _, rfl, a, ?_, gNs_read p b h hp q⟩
        have : ∀ {is : List Nat} {xs : List PyData} {ρ ρ' : Env}, setMany ρ is xs = some ρ' → xs.length = is.length := by
          intro is
          induction is with
          | nil => intro xs ρ ρ' h; cases xs with
            | nil => rfl
            | cons _ _ => cases h
          | cons i is ih => intro xs ρ ρ' h; cases xs with
            | nil => cases h
            | cons x xs => rw [List.length_cons, List.length_cons, ih h]
        rw [b.length, this h]
    | _ => cases h
end
section
variable {cg : Cfg} {cf : Cf} {G : AM} {T : XT} {st : Sc} {X : Cx}
theorem pg_nm (S : SX cg cf G T st X) {i : Nat} {e : Expr} (h : nmB st cg.N i e = true) : PG X e (gName i) := by
  unfold nmB at h
  split at h
  · simp only [Bool.and_eq_true] at h
    obtain ⟨⟨h1, h2⟩, h3⟩ := h
    obtain ⟨l1, l2⟩ := loc_of S h2
    exact pg_name (by rw [S.N]; exact S.nd) (by rw [S.N]; exact at_of h1) l1 l2
  · cases h
theorem nms_len : ∀ {is : List Nat} {es : List Expr}, nmsB st cg.N is es = true → es.length = is.length
  | [], [], _ => rfl
  | [], _ :: _, h => by cases h
  | _ :: _, [], h => by cases h
  | i :: is, e :: es, h => by
    unfold nmsB at h
    simp only [Bool.and_eq_true] at h
    rw [List.length_cons, List.length_cons, nms_len h.2]
theorem nm_each {i : Nat} {e : Expr} {N : List Str} (h : nmB st N i e = true) (es : List Expr) (env : PySem.Env) : assignEach (e :: es) env = (false, assign e env) :: assignEach es env := by
  cases e <;> first | rfl | cases h
theorem pgs_nms (S : SX cg cf G T st X) : ∀ {is : List Nat} {es : List Expr}, nmsB st cg.N is es = true → PGs X es (gNs is) ∧ (assignEach es X.env).length = is.length ∧ (assignEach es X.env).findIdx? (·.1) = none
  | [], [], _ => ⟨pgs_nil, rfl, rfl⟩
  | [], _ :: _, h => by cases h
  | _ :: _, [], h => by cases h
  | i :: is, e :: es, h => by
    unfold nmsB at h
    simp only [Bool.and_eq_true] at h
    obtain ⟨h1, h2⟩ := h
    obtain ⟨q1, q2, q3⟩ := pgs_nms S h2
    refine ⟨pgs_cons (pg_nm S h1) q1 (by rw [nm_each h1]; rfl), by rw [nm_each h1, List.length_cons, List.length_cons, q2], ?_⟩
    rw [nm_each h1, List.findIdx?_cons]
    simp [q3]
theorem pg_tg (S : SX cg cf G T st X) {tg : Tg} {e : Expr} (h : tgB st cg.N tg e = true) (hc : st.calm = true) : PG X e (gT X.K tg) := by
  cases tg with
  | one i => exact pg_nm S h
  | many is =>
    unfold tgB at h
    dsimp only at h
    split at h
    · simp only [Bool.and_eq_true] at h
      obtain ⟨q1, q2, q3⟩ := pgs_nms S h.1
      exact pg_tup (S.calm hc).1 q1 q2 q3
    · cases h
end
end EV

/-! What a loop walks. -/
namespace EV
open PySem PySem.Spec PyProof.Rows L2
/-- the walk J gives the data xs, as long as what stood at H stands and P holds -/
structure ItD (K : PySem.W.Frag) (H : Hp) (P : Hp → Prop) (J : It) (xs : List PyData) : Prop where
  len : xs.length ≤ sizeLine
  go : ∀ (i : Nat) (H2 : Hp), Stay H H2 → P H2 → i < xs.length → J.go i H2
  yld : ∀ (i : Nat) (d : PyData) (H2 : Hp) (v : V) (H' : Hp), Stay H H2 → P H2 → xs[i]? = some d → J.yld i H2 v H' → Ext H2 H' ∧ Rep K H' v d
  stop : ∀ (H2 : Hp), Stay H H2 → P H2 → J.stop xs.length H2
/-- the lists in the hidden slots stand -/
def PH (σ : St) (hid : List Nat) (H H2 : Hp) : Prop := ∀ i ∈ hid, ∀ a, σ[i]? = some (some (.ref a)) → H2 a = H a
section
variable (K : PySem.W.Frag) (G : AM) (T : XT) (W : WX)
def tI (m : Env → R (List PyData × List Nat)) : TI := fun σ H R => ∃ ρ, EnvR K G T σ H ρ ∧ Out K G T W σ H ρ (m ρ) fun xs ρ' H' => ∀ J, ItD K H' (PH σ xs.2 H') J xs.1 → R J H'
end
section
variable {K : PySem.W.Frag} {G : AM} {T : XT} {W : WX} {σ : St} {H : Hp} {ρ : Env}
theorem PI.imp {X : Cx} {tg iter : Expr} {t t' : TI} (h : PI X tg iter t) (f : ∀ σ H R, t' σ H R → t σ H R) : PI X tg iter t' := ⟨fun pins s σ H R I q => h.run pins s σ H R I (f σ H R q)⟩
theorem SqL.stay {H' : Hp} {a : Addr} {xs : List V} (h : FzL K H a xs) (s : Stay H H') : SqL K H' a xs := (h.stay s).sq
theorem itd_list {a : Addr} {vs : List V} {xs : List PyData} {P : Hp → Prop} (hl : xs.length ≤ sizeLine) (h : FzL K H a vs) (r : Reps K H vs xs) : ItD K H P (Itl K a) xs where
  len := hl
  go := fun i H2 s _ hi => ⟨vs, vs[i]'(by rw [r.length]; exact hi), (h.stay s).sq, by simp [r.length, hi]⟩
  yld := fun i d H2 v H' s _ hd y => by
    obtain ⟨e, y⟩ := y
    subst e
    obtain ⟨w, h1, h2⟩ := r.get hd
    rw [y vs (h.stay s).sq] at h1
    cases h1
    exact ⟨Ext.refl, Rep.stay s _ _ h2⟩
  stop := fun H2 s _ => ⟨vs, (h.stay s).sq, by rw [r.length]; exact Nat.le_refl _⟩
theorem itd_tup {a : Addr} {vs : List V} {xs : List PyData} {P : Hp → Prop} (hl : xs.length ≤ sizeLine) (h : SqT K H a vs) (r : Reps K H vs xs) : ItD K H P (Itt K a) xs where
  len := hl
  go := fun i H2 s _ hi => ⟨vs, vs[i]'(by rw [r.length]; exact hi), SqT.stay h s, by simp [r.length, hi]⟩
  yld := fun i d H2 v H' s _ hd y => by
    obtain ⟨e, y⟩ := y
    subst e
    obtain ⟨w, h1, h2⟩ := r.get hd
    rw [y vs (SqT.stay h s)] at h1
    cases h1
    exact ⟨Ext.refl, Rep.stay s _ _ h2⟩
  stop := fun H2 s _ => ⟨vs, SqT.stay h s, by rw [r.length]; exact Nat.le_refl _⟩
theorem itd_str {P : Hp → Prop} {x : Str} (hl : x.length ≤ sizeLine) (ok : PyData.strOk x = true) : ItD K H P (Its x) (x.cps.toList.map fun c => .str ⟨#[c]⟩) where
  len := by rw [List.length_map, Array.length_toList]; exact hl
  go := fun i H2 s _ hi => by
    show i < x.cps.size
    simpa using hi
  yld := fun i d H2 v H' s _ hd y => by
    obtain ⟨e, c, hc, ev⟩ := y
    subst e
    subst ev
    rw [List.getElem?_map, Array.getElem?_toList, hc] at hd
    cases hd
    refine ⟨Ext.refl, .str _ (chr_ok ok ?_)⟩
    have := Array.mem_of_getElem? hc
    simpa using this
  stop := fun H2 s _ => by
    show x.cps.size ≤ _
    simp
theorem itd_range {P : Hp → Prop} {lo : Int} {n : Nat} (hl : n ≤ sizeLine) : ItD K H P (Itr lo n) ((List.range n).map fun k => .int (lo + (k : Nat))) where
  len := by simpa using hl
  go := fun i H2 s _ hi => by
    show i < n
    simpa using hi
  yld := fun i d H2 v H' s _ hd y => by
    obtain ⟨e, ev⟩ := y
    subst e
    subst ev
    rw [List.getElem?_map] at hd
    by_cases hi : i < n
    · rw [List.getElem?_range hi] at hd
      cases hd
      exact ⟨Ext.refl, .int _⟩
    · rw [List.getElem?_eq_none (by simpa using hi)] at hd
      cases hd
  stop := fun H2 s _ => by
    show n ≤ _
    simp
/-- any of: a list, a tuple, a text -/
def iAny (K : PySem.W.Frag) (te : TE) : TI := fun σ H R => te σ H fun v H1 => (∃ a xs, v = .ref a ∧ SqL K H1 a xs ∧ (xs.length ≤ sizeLine → R (Itl K a) H1)) ∨ (∃ a xs, v = .ref a ∧ SqT K H1 a xs ∧ (xs.length ≤ sizeLine → R (Itt K a) H1)) ∨ ∃ x, v = .str x ∧ R (Its x) H1
theorem pi_any {X : Cx} {tg e : Expr} {te : TE} (he : PE X e te) : PI X tg e (iAny X.K te) := by
  refine ⟨fun pins s σ H R I h => thn (he.run pins s σ H _ I h) fun v s1 ⟨y, H1, I1, r1, q⟩ => ?_⟩
  rcases q with ⟨a, xs, ey, hq, q⟩ | ⟨a, xs, ey, hq, q⟩ | ⟨x, ey, q⟩
  · subst ey
    cases r1
    obtain ⟨its, rv, p, hz⟩ := I1.list hq
    exact wpAny_pyIter_list p.isList (pi_one (tk := s1.toks) I1 _ (turn_list a _) ⟨_, Heap.get?_push_size _ rfl, rfl, rfl⟩ (q hz))
  · subst ey
    cases r1
    obtain ⟨its, rv, p, hz⟩ := I1.tuple hq
    exact wpAny_pyIter_tuple (show s1.heap.IsTuple a its.toArray from p) (pi_one (tk := s1.toks) I1 _ (turn_tuple a _) ⟨_, Heap.get?_push_size _ rfl, rfl, rfl⟩ (q hz))
  · subst ey
    obtain ⟨t, rfl⟩ := r1
    cases ha : x.cps.all (· < 128)
    · exact wpAny_pyIter_wide ha (pi_one (tk := s1.toks) I1 _ (turn_str _ x t "str_iterator" (.inr rfl)) ⟨_, Heap.get?_push_size _ rfl, rfl, rfl⟩ q)
    · exact wpAny_pyIter_ascii ha (pi_one (tk := s1.toks) I1 _ (turn_str _ x t "str_ascii_iterator" (.inl rfl)) ⟨_, Heap.get?_push_size _ rfl, rfl, rfl⟩ q)
theorem map_some {α β : Type} {f : α → β} {o : Option α} {b : β} (h : o.map f = some b) : ∃ a, o = some a ∧ b = f a := by
  cases o with
  | none => cases h
  | some a => cases h; exact ⟨a, rfl, rfl⟩
theorem one_sem {cf : Cf} {a : C} {α : Type} (f : List SV → Option α) (ρ : Env) : ((semL cf (.cons a .nil) ρ).bind fun xs ρ => R.lift (f xs) ρ) = (semE cf a ρ).bind fun x ρ => R.lift (f [x]) ρ := by
  show (((semE cf a ρ).bind fun x ρ => (R.ok [] ρ).bind fun xs ρ => R.ok (x :: xs) ρ)).bind _ = _
  cases semE cf a ρ <;> rfl
theorem any_read {R' : It → Hp → Prop} {cf : Cf} {a : C} (q : tI K G T W (fun ρ => (semL cf (.cons a .nil) ρ).bind fun xs ρ => R.lift ((iterD .val xs).map fun z => (z, [])) ρ) σ H R') : iAny K (tE K G T W (semE cf a)) σ H R' := by
  obtain ⟨ρ, env, o⟩ := q
  have o2 := o
  dsimp only at o2
  rw [one_sem] at o2
  refine ⟨ρ, env, o2.bind.imp fun sa ρ1 H1 p1 h1 v r f => ?_⟩
  obtain ⟨xh, exh, qq⟩ := h1.lift
  obtain ⟨xs, ex, rfl⟩ := map_some exh
  have q := qq H1 (Post.refl p1.env)
  clear qq exh
  unfold iterD at ex
  dsimp only at ex
  split at ex
  · rename_i z ez
    cases ez
    split at ex <;> try cases ex
    rename_i hl
    cases r.rep with
    | str _ ok => exact .inr (.inr ⟨_, rfl, q _ (itd_str (by rw [← line_eq]; exact hl) ok)⟩)
  · rename_i x _ ez
    cases ez
    unfold seqD at ex
    split at ex <;> try cases ex
    · cases r.rep with
      | lst a b => exact .inl ⟨_, _, rfl, a.sq, fun hl => q _ (itd_list (by rw [← b.length]; exact hl) a b)⟩
    · cases r.rep with
      | tup a b => exact .inr (.inl ⟨_, _, rfl, a, fun hl => q _ (itd_tup (by rw [← b.length]; exact hl) a b)⟩)
  · cases ex
theorem rangeD_of {a b : Int} {xs : List PyData} (h : rangeD a b = some xs) : (-(2 ^ 62) ≤ a ∧ a < 2 ^ 62 ∧ -(2 ^ 62) ≤ b ∧ b < 2 ^ 62) ∧ (b - a).toNat ≤ sizeLine ∧ xs = (List.range (b - a).toNat).map fun k => .int (a + (k : Nat)) := by
  unfold rangeD at h
  split at h
  · rename_i hc
    simp only [Bool.and_eq_true, decide_eq_true_eq] at hc
    cases h
    exact ⟨⟨hc.1.1.1.1, hc.1.1.1.2, hc.1.1.2, hc.1.2⟩, by rw [← line_eq]; omega, rfl⟩
  · cases h
theorem asInt_of {x : SV} {a : Int} (h : asInt x = some a) : x = .d (.int a) := by
  unfold asInt at h
  split at h
  · cases h; rfl
  · cases h
theorem rng1_read {cf : Cf} {it : C} {R' : It → Hp → Prop} (q : tI K G T W (fun ρ => (semL cf it ρ).bind fun xs ρ => R.lift ((iterD .range1 xs).map fun z => (z, [])) ρ) σ H R') : iRng1 (tL K G T W (semL cf it)) σ H R' := by
  obtain ⟨ρ, env, o⟩ := q
  refine ⟨ρ, env, o.bind.imp fun ss ρ1 H1 p1 h1 vs rs => ?_⟩
  obtain ⟨xh, exh, qq⟩ := h1.lift
  obtain ⟨xs, ex, rfl⟩ := map_some exh
  have q := qq H1 (Post.refl p1.env)
  clear qq exh
  unfold iterD at ex
  dsimp only at ex
  split at ex
  · rename_i x
    cases e : asInt x with
    | none => rw [e] at ex; cases ex
    | some b =>
      rw [e, Option.bind_some] at ex
      obtain rfl := asInt_of e
      obtain ⟨⟨_, _, h3, h4⟩, h5, rfl⟩ := rangeD_of ex
      cases rs with
      | cons r _ t _ =>
        cases t
        cases r.rep
        refine ⟨b, rfl, h3, h4, q _ ?_⟩
        rw [Int.sub_zero] at h5 ⊢
        exact itd_range h5
  · cases ex
theorem rng2_read {cf : Cf} {it : C} {R' : It → Hp → Prop} (q : tI K G T W (fun ρ => (semL cf it ρ).bind fun xs ρ => R.lift ((iterD .range2 xs).map fun z => (z, [])) ρ) σ H R') : iRng2 (tL K G T W (semL cf it)) σ H R' := by
  obtain ⟨ρ, env, o⟩ := q
  refine ⟨ρ, env, o.bind.imp fun ss ρ1 H1 p1 h1 vs rs => ?_⟩
  obtain ⟨xh, exh, qq⟩ := h1.lift
  obtain ⟨xs, ex, rfl⟩ := map_some exh
  have q := qq H1 (Post.refl p1.env)
  clear qq exh
  unfold iterD at ex
  dsimp only at ex
  split at ex
  · rename_i x y
    cases e : asInt x with
    | none => rw [e] at ex; cases ex
    | some a =>
      rw [e, Option.bind_some] at ex
      obtain rfl := asInt_of e
      cases e : asInt y with
      | none => rw [e] at ex; cases ex
      | some b =>
        rw [e, Option.bind_some] at ex
        obtain rfl := asInt_of e
        obtain ⟨h3, h5, rfl⟩ := rangeD_of ex
        cases rs with
        | cons r _ t _ =>
          cases t with
          | cons r' _ t _ =>
            cases t
            cases r.rep
            cases r'.rep
            exact ⟨a, b, rfl, h3, q _ (itd_range h5)⟩
  · cases ex
end
section
variable {cg : Cfg} {cf : Cf} {G : AM} {it a : C}
theorem chk_set {cg : Cfg} {st : Sc} : ∀ (c : C) (es : List Expr) (k : Nat) (p : Pos), chkE cg st c (.Set es k p) = false := by
  intro c
  induction c with
  | frz a ih => intro es k p; unfold chkE; exact ih es k p
  | _ => intro es k p; first | rfl | (unfold chkE; rfl)
theorem folded {cg : Cfg} {st : Sc} {c : C} {e : Expr} (h : chkE cg st c e = true) (env : PySem.Env) (x : Value) : foldedSetIterable e env x = pure x := by
  cases e <;> first | rfl | (rw [chk_set] at h; cases h)
theorem itd_own {K : PySem.W.Frag} {σ : St} {H : Hp} {i : Nat} {a : Addr} {vs : List V} {xs : List PyData} (hl : xs.length ≤ sizeLine) (hs : σ[i]? = some (some (.ref a))) (h : H a = some (.lst vs)) (r : Reps K H vs xs) : ItD K H (PH σ [i] H) (Itl K a) xs where
  len := hl
  go := fun j H2 s p hj => ⟨vs, vs[j]'(by rw [r.length]; exact hj), SqL.of (by rw [p i (by simp) a hs]; exact h), by simp [r.length, hj]⟩
  yld := fun j d H2 v H' s p hd y => by
    obtain ⟨e, y⟩ := y
    subst e
    obtain ⟨w, h1, h2⟩ := r.get hd
    rw [y vs (SqL.of (by rw [p i (by simp) a hs]; exact h))] at h1
    cases h1
    exact ⟨Ext.refl, Rep.stay s _ _ h2⟩
  stop := fun H2 s p => ⟨vs, SqL.of (by rw [p i (by simp) a hs]; exact h), by rw [r.length]; exact Nat.le_refl _⟩
/-- over an owned list in its slot -/
theorem pi_own {i : Nat} {st : Sc} {tgt : Expr} {x : Str} {px : Pos} {X : Cx} {T : XT} {W : WX} (h1 : cg.N[i]? = some x) (h2 : visB st x = true) (h3 : okN x = true) (S : SX cg cf G T st X) :
    PI X tgt (.Name x px) (tI X.K G T W (semI cf (.own i) it)) ∧ ∀ y, foldedSetIterable (.Name x px) X.env y = pure y := by
  obtain ⟨d1, d2⟩ := okN_of h3
  refine ⟨PI.imp (pi_any (pe_var (i := i) (by rw [S.N]; exact h1) (vis_of S h2) d1 d2)) fun σ H R q => ?_, fun _ => rfl⟩
  obtain ⟨ρ, env, o⟩ := q
  unfold semI at o
  dsimp only at o
  split at o
  · rename_i xs g
    obtain ⟨v, hv, r⟩ := env.get g
    cases r with
    | olst e1 r1 => exact ⟨_, hv, .inl ⟨_, _, rfl, SqL.of e1, fun hl => o H (Post.refl env) _ (itd_own (by rw [← r1.length]; exact hl) hv e1 r1)⟩⟩
  · exact o.elim
/-- what is asked of one element -/
def SE1 (cg : Cfg) (cf : Cf) (G : AM) (it : C) : Prop := ∀ a b, it = .cons a b → SE cg cf G a
theorem pi_it {ik : IK} {st : Sc} {tgt iter : Expr} {es : List Expr} {X : Cx} {T : XT} {W : WX} (i1 : SE1 cg cf G it) (ia : SLs cg cf G it) (he : iterArgs cg st ik iter = some es) (h : chkL cg st it es = true) (S : SX cg cf G T st X) (tk : Takes X W) :
    PI X tgt iter (tI X.K G T W (semI cf ik it)) ∧ ∀ x, foldedSetIterable iter X.env x = pure x := by
  cases ik with
  | val =>
    cases he
    cases it with
    | cons a b =>
      unfold chkL at h
      simp only [Bool.and_eq_true] at h
      obtain ⟨h1, h2⟩ := h
      cases b with
      | nil => exact ⟨PI.imp (pi_any (i1 a _ rfl st _ h1 X T W S tk)) fun σ H R q => any_read q, folded h1 _⟩
      | cons _ _ => cases h2
      | _ => cases h2
    | nil => cases h
    | _ => cases h
  | range1 =>
    unfold iterArgs at he
    dsimp only at he
    split at he <;> try cases he
    split at he <;> try cases he
    rename_i hc
    simp only [Bool.and_eq_true] at hc
    obtain ⟨⟨c1, c2⟩, c3⟩ := hc
    obtain rfl := eq_of_beq c1
    obtain ⟨g1, g2, g3⟩ := glo_of S c2
    have hm := S.free _ (contains_mem c3)
    cases it with
    | cons a b =>
      unfold chkL at h
      simp only [Bool.and_eq_true] at h
      refine ⟨PI.imp (pi_range1 g1 hm (ia st _ (by unfold chkL; simp only [Bool.and_eq_true]; exact h) X T W S tk) (noStar h.1 _ _)) fun σ H R q => rng1_read q, fun _ => rfl⟩
    | _ => cases h
  | range2 =>
    unfold iterArgs at he
    dsimp only at he
    split at he <;> try cases he
    split at he <;> try cases he
    rename_i hc
    simp only [Bool.and_eq_true] at hc
    obtain ⟨⟨c1, c2⟩, c3⟩ := hc
    obtain rfl := eq_of_beq c1
    obtain ⟨g1, g2, g3⟩ := glo_of S c2
    have hm := S.free _ (contains_mem c3)
    cases it with
    | cons a b =>
      have h0 := h
      unfold chkL at h
      simp only [Bool.and_eq_true] at h
      cases b with
      | cons c d =>
        obtain ⟨h1, h2⟩ := h
        unfold chkL at h2
        simp only [Bool.and_eq_true] at h2
        have e2 := noStar h2.1 [] X.env
        refine ⟨PI.imp (pi_range2 g1 hm (ia st _ h0 X T W S tk) (by rw [noStar h1, e2]; rfl) e2) fun σ H R q => rng2_read q, fun _ => rfl⟩
      | _ => cases h.2
    | _ => cases h
  | enum => cases he
  | own i => cases he
end
end EV

/-! List comprehensions. -/
namespace EV
open PySem PySem.Spec PyProof.Rows L2
section
variable {K : PySem.W.Frag} {G : AM} {T : XT} {σ σ' σ2 : St} {H H' H1 H3 : Hp} {ρ ρ' ρ0 : Env} {pin : List Nat}
/-- a new list that nobody owns grows -/
theorem Post.updNew {D : Addr} {vs ws : List V} (p : Post K G T pin σ σ' H1 H3 ρ ρ') (h1 : H1 D = none) (hw : ¬ Ow σ' ρ' D) (hd : H3 D = some (.lst vs)) : Post K G T pin σ σ' H1 (upd H3 D (.lst ws)) ρ ρ' := by
  have sty : Stay H3 (upd H3 D (.lst ws)) := fun b u q n => by rw [upd_ne (fun y => by rw [y, hd] at q; cases q; cases n)]; exact q
  refine ⟨⟨p.env.len, fun j sv h => ?_, p.env.sep⟩, fun b o h w => ?_, p.own, fun b o h => ?_, p.pins⟩
  · obtain ⟨v, h2, r⟩ := p.env.at_ j sv h
    refine ⟨v, h2, ?_⟩
    cases n : sv.isOwn with
    | false => exact r.stay sty n
    | true =>
      refine r.stayO sty fun a o ev ha _ => ?_
      rw [upd_ne (fun y => hw ⟨j, sv, h, n, by rw [← y, ← ev]; exact h2⟩)]
      exact ha
  · rw [upd_ne (fun y => by rw [y, h1] at h; cases h)]
    exact p.keep b o h w
  · by_cases hb : b = D
    · rw [hb, h1] at h; cases h
    · obtain ⟨o', q⟩ := p.dom b o h
      exact ⟨o', by rw [upd_ne hb]; exact q⟩
end
section
variable {cg : Cfg} {cf : Cf} {G : AM} {it cond elt : C}
def stepC (cf : Cf) (own : List Nat) (tg : Tg) (cond elt : C) : PyData → Env → R (Option PyData) := fun x ρ => match setT tg x ρ with
  | Option.none => .stuck
  | some ρ => (semE cf cond ρ).bind fun t ρ => match asB t with
    | some true => (semE cf elt ρ).bind fun y ρ => (match asD y with
      | some d => .ok (some d) (wipeE ρ own)
      | Option.none => .stuck)
    | some false => .ok Option.none (wipeE ρ own)
    | Option.none => .stuck
/-- the block's errors: none -/
def W0 : WX := fun _ _ _ _ => False
theorem takes0 {X : Cx} {s : Shared} {H : Hp} {scope : Scope} {cenv : PySem.Env} {fp : List Addr} : Takes (X.blk s H scope cenv fp) W0 := fun u s' ⟨a, B, sI, pins, σ, H, cls, d, e, I, nb, up, sky, na, os, ag, w⟩ => w.elim
theorem sx_blk {X : Cx} {T : XT} {st : Sc} (S : SX cg cf G T st X) (hc : st.calm = true) {s : Shared} {H : Hp} {scope : Scope} {cl : List (Str × Addr)} {Ca : Addr} {fp : List Addr} : SX cg cf G T (inner st scope) (X.blk s H scope (compEnvC scope cl Ca X.env) fp) where
  N := S.N
  nd := S.nd
  sc := by
    show relS scope X.env.scope = _
    rw [S.sc]
    rfl
  fn := fun x h => h
  calm := fun _ => S.calm hc
  gd := S.gd
  un := S.un
  free := S.free
  gls := S.gls
  gfn := S.gfn
  fns := S.fns
  exT := fun t ht => by rw [(S.calm hc).2.2] at ht; cases ht
  exN := S.exN
  exM := S.exM
  exF := S.exF
  exI := S.exI
  kws := S.kws
  mk0 := S.mk0
  mks := S.mks
/-- a comprehension's tests, whether there is one -/
def tTs (K : PySem.W.Frag) (G : AM) (T : XT) (W : WX) (cf : Cf) (cond : C) (yes : Bool) : TT := if yes then tYes else tT K G T W (semE cf cond)
theorem setT_own {tg : Tg} {own : List Nat} (h : ((tgs tg).all fun i => own.contains i) = true) {i : Nat} (hi : i ∈ tgs tg) : i ∈ own := by
  have := List.all_eq_true.mp h i hi
  simpa using this
/-- one turn, read -/
theorem turn_read {K : PySem.W.Frag} {T : XT} {own : List Nat} {tg : Tg} {yes : Bool} {σ : St} {H0 H H' : Hp} {ρ0 ρ ρ2 : Env} {v : V} {x : PyData} {r : Option PyData} {D : Addr} {accV : List V} {acc : List PyData} {Nx : Hp → Prop}
    (hy : yes = true → ∀ ρ, semE cf cond ρ = .ok (.d (.bool true)) ρ) (ht : ((tgs tg).all fun i => own.contains i) = true)
    (p : Post K G T [] (wipe σ own) (wipe σ own) H0 H ρ0 ρ) (x1 : Ext H H') (rx : Rep K H' v x) (hs : stepC cf own tg cond elt x ρ = .ok r ρ2)
    (hD0 : H0 D = none) (hDo : ¬ Ow (wipe σ own) ρ D) (hD : H D = some (.lst accV)) (ra : Reps K H accV acc) (hz : accV.length < sizeLine)
    (nx : ∀ H3 accV', Post K G T [] (wipe σ own) (wipe σ own) H0 H3 ρ0 ρ2 → ¬ Ow (wipe σ own) ρ2 D → H3 D = some (.lst accV') → Reps K H3 accV' (acc ++ r.toList) → accV'.length ≤ accV.length + 1 → Nx H3) :
    gT K tg v (wipe σ own) H' fun σ2 H2 => wipe σ2 own = wipe σ own ∧ tTs K G T W0 cf cond yes σ2 H2 fun b H3 =>
      if b = true then tE K G T W0 (semE cf elt) σ2 H3 fun y H4 => ∃ acc, H4 D = some (.lst acc) ∧ acc.length < sizeLine ∧ Nx (upd H4 D (.lst (acc ++ [y]))) else Nx H3 := by
  unfold stepC at hs
  cases es : setT tg x ρ with
  | none => rw [es] at hs; cases hs
  | some ρs =>
    rw [es] at hs
    dsimp only at hs
    have p1 : Post K G T [] (wipe σ own) (wipe σ own) H0 H' ρ0 ρ := p.trans (Post.ext p.env x1)
    refine gT_read (pin := []) (Post.refl p1.env) rx es (fun _ _ => by simp) fun σ2 p2 l2 w2 => ?_
    have hw : wipe σ2 own = wipe σ own := by
      refine (wipe_ext (by rw [l2, wipe_length]) fun j hj => ?_)
      rw [w2 j fun z => hj (setT_own ht z), wipe_out hj]
    refine ⟨hw, ?_⟩
    have hD' := x1 D _ hD
    -- from any end of the turn
    have fin : ∀ {H3 : Hp} {ρe : Env}, Post K G T [] (wipe σ own) σ2 H' H3 ρ ρe → H3 D = some (.lst accV) ∧ ¬ Ow σ2 ρe D ∧ Post K G T [] (wipe σ own) (wipe σ own) H0 H3 ρ0 (wipeE ρe own) := fun {H3 ρe} q => by
      refine ⟨q.keep D _ hD' hDo, fun z => ?_, ?_⟩
      · rcases q.own D z with w | w
        · exact hDo w
        · rw [hD'] at w; cases w
      · have := (p1.trans q).wipe own
        rw [hw] at this
        exact this
    have yesB : ∀ {H3 : Hp} {ρc : Env}, Post K G T [] (wipe σ own) σ2 H' H3 ρ ρc → ((semE cf elt ρc).bind fun y ρ => (match asD y with
      | some d => .ok (some d) (wipeE ρ own)
      | Option.none => .stuck)) = .ok r ρ2 → tE K G T W0 (semE cf elt) σ2 H3 fun y H4 => ∃ acc, H4 D = some (.lst acc) ∧ acc.length < sizeLine ∧ Nx (upd H4 D (.lst (acc ++ [y]))) := fun {H3 ρc} q he => by
      refine ⟨ρc, q.env, ?_⟩
      cases ee : semE cf elt ρc with
      | stuck => rw [ee] at he; cases he
      | err _ _ => rw [ee] at he; cases he
      | ok sv ρe =>
        rw [ee] at he
        dsimp only [R.bind_ok] at he
        cases ed : asD sv with
        | none => rw [ed] at he; cases he
        | some d =>
          rw [ed] at he
          cases he
          intro H4 p4 y ry _
          have q4 := q.trans p4
          obtain ⟨f1, f2, f3⟩ := fin q4
          refine ⟨accV, f1, hz, nx _ (accV ++ [y]) ?_ ?_ upd_same ?_ (by rw [List.length_append]; exact Nat.le_refl _)⟩
          · exact f3.updNew hD0 (fun z => f2 (by rw [← hw] at z; exact z.unwipe)) f1
          · exact fun z => f2 (by rw [← hw] at z; exact z.unwipe)
          · have sty : Stay H4 (upd H4 D (.lst (accV ++ [y]))) := fun b u q n => by rw [upd_ne (fun y => by rw [y, f1] at q; cases q; cases n)]; exact q
            have e1 : Reps K (upd H4 D (.lst (accV ++ [y]))) accV acc := by
              have s0 : Stay H H4 := fun b u z n => q4.stay p1.env b u (x1 b u z) n
              exact Reps.stay (s0.trans sty) _ _ ra
            have e2 : sv = .d d := by
              cases sv with
              | d z => cases ed; rfl
              | _ => cases ed
            subst e2
            exact e1.app (.cons (Rep.stay sty _ _ ry.rep) .nil)
    have noB : ∀ {H3 : Hp} {ρc : Env}, Post K G T [] (wipe σ own) σ2 H' H3 ρ ρc → (R.ok none (wipeE ρc own) : R (Option PyData)) = .ok r ρ2 → Nx H3 := fun {H3 ρc} q he => by
      cases he
      obtain ⟨f1, f2, f3⟩ := fin q
      refine nx H3 accV f3 (fun z => f2 (by rw [← hw] at z; exact z.unwipe)) f1 ?_ (Nat.le_succ _)
      rw [Option.toList_none, List.append_nil]
      exact Reps.stay (fun b u z n => q.stay p1.env b u (x1 b u z) n) _ _ ra
    cases yes with
    | true =>
      rw [hy rfl] at hs
      simp only [tTs, tYes, ↓reduceIte]
      exact yesB p2 hs
    | false =>
      refine ⟨ρs, p2.env, ?_⟩
      cases ec : semE cf cond ρs with
      | stuck => rw [ec] at hs; cases hs
      | err _ _ => rw [ec] at hs; cases hs
      | ok sv ρc =>
        rw [ec] at hs
        dsimp only [R.bind_ok] at hs
        intro H3 p3
        cases eb : asB sv with
        | none => rw [eb] at hs; cases hs
        | some b =>
          rw [eb] at hs
          refine ⟨b, rfl, ?_⟩
          cases b with
          | true => rw [if_pos rfl]; exact yesB (p2.trans p3) hs
          | false => rw [if_neg Bool.false_ne_true]; exact noB (p2.trans p3) hs
theorem semI_hid {ik : IK} {ρ ρ0 : Env} {xs : List PyData} {hid : List Nat} (h : semI cf ik it ρ = .ok (xs, hid) ρ0) : ∀ j ∈ hid, ∃ ys, getS ρ0 j = some (.olst ys) := by
  have no : ∀ (m : R (List PyData)), (m.bind fun xs ρ => R.ok (xs, ([] : List Nat)) ρ) = .ok (xs, hid) ρ0 → hid = [] := fun m h => by
    cases m with
    | ok a ρ => cases h; rfl
    | err _ _ => cases h
    | stuck => cases h
  have nil : ∀ (a : R (List SV)) (f : List SV → Option (List PyData)), (a.bind fun xs ρ => R.lift ((f xs).map fun z => (z, ([] : List Nat))) ρ) = .ok (xs, hid) ρ0 → hid = [] := fun a f h => by
    cases a with
    | ok b ρ =>
      rw [R.bind_ok] at h
      cases q : f b with
      | none => rw [q] at h; cases h
      | some z => rw [q] at h; cases h; rfl
    | err _ _ => cases h
    | stuck => cases h
  intro j hj
  cases ik with
  | own i =>
    unfold semI at h
    dsimp only at h
    split at h
    · rename_i ys g
      cases h
      obtain rfl : j = i := by simpa using hj
      exact ⟨_, g⟩
    · cases h
  | _ =>
    have e := nil _ _ h
    rw [e] at hj
    cases hj
/-- the owned list in a slot -/
theorem own_at {K : PySem.W.Frag} {T : XT} {σ : St} {H : Hp} {ρ : Env} {i : Nat} {xs : List PyData} (e : EnvR K G T σ H ρ) (g : getS ρ i = some (.olst xs)) : ∃ p vs, σ[i]? = some (some (.ref p)) ∧ H p = some (.lst vs) ∧ Reps K H vs xs := by
  obtain ⟨v, hv, r⟩ := e.get g
  cases r with
  | olst e1 r1 => exact ⟨_, _, hv, e1, r1⟩
/-- the loop -/
theorem comp_read {K : PySem.W.Frag} {T : XT} {W : WX} {own : List Nat} {tg : Tg} {ik : IK} {yes : Bool} {σ : St} {H : Hp} {Q : VK}
    (hy : yes = true → ∀ ρ, semE cf cond ρ = .ok (.d (.bool true)) ρ) (ht : ((tgs tg).all fun i => own.contains i) = true) (q : tE K G T W (semE cf (.comp own tg ik it cond elt)) σ H Q) :
    tLc (tI K G T W (semI cf ik it)) (gT K tg) (tTs K G T W0 cf cond yes) (tE K G T W0 (semE cf elt)) own σ H Q := by
  obtain ⟨ρ, env, o⟩ := q
  replace o : Out K G T W σ H ρ ((semI cf ik it ρ).bind fun items ρ0 => (compM (stepC cf own tg cond elt) items.1 (wipeE ρ0 (own ++ items.2))).bind fun ys ρ1 => .ok (SV.olst ys) (backE ρ0 ρ1 (own ++ items.2))) _ := o
  refine ⟨ρ, env, ?_⟩
  cases esi : semI cf ik it ρ with
  | stuck => rw [esi] at o; exact o.elim
  | err _ _ => rw [esi] at o; exact o
  | ok xh ρ0 =>
  rw [esi] at o
  intro H1 p1 J itd D hD
  have h1 := Out.back p1 o
  obtain ⟨xs, hid⟩ := xh
  have hown := semI_hid esi
  dsimp only [R.bind_ok] at h1 itd
  have sub : ∀ i ∈ own, i ∈ own ++ hid := fun i hi => List.mem_append_left _ hi
  cases ec : compM (stepC cf own tg cond elt) xs (wipeE ρ0 (own ++ hid)) with
  | stuck => rw [ec] at h1; exact h1.elim
  | err z ρ' =>
    -- a block never raises
    exfalso
    have : ∀ (xs : List PyData) (ρ : Env) (z : Err) (ρ' : Env), compM (stepC cf own tg cond elt) xs ρ ≠ .err z ρ' := by
      intro xs
      induction xs with
      | nil => intro ρ z ρ' h; cases h
      | cons x xs ih =>
        intro ρ z ρ' h
        unfold compM at h
        split at h
        · rename_i y ρ1 _
          cases e2 : compM (stepC cf own tg cond elt) xs ρ1 with
          | ok _ _ => rw [e2] at h; cases h
          | err z2 ρ2 => exact ih _ _ _ e2
          | stuck => rw [e2] at h; cases h
        · exact ih _ _ _ h
        · cases h
    exact this _ _ _ _ ec
  | ok ys ρ1 =>
    rw [ec] at h1
    have h1 : ∀ H', Post K G T [] σ σ H1 H' ρ0 (backE ρ0 ρ1 (own ++ hid)) → ∀ v, SRep K G T H' v (.olst ys) → Fresh H σ (backE ρ0 ρ1 (own ++ hid)) v (.olst ys) → Q v H' := h1
    have e0 := p1.env.wipe2 own sub
    refine ⟨fun i m H2 => m = xs.length - i ∧ i ≤ xs.length ∧ ∃ ρi accV acc rest, Post K G T [] (wipe σ own) (wipe σ own) H1 H2 (wipeE ρ0 (own ++ hid)) ρi ∧ ¬ Ow (wipe σ own) ρi D ∧ H2 D = some (.lst accV) ∧ Reps K H2 accV acc ∧ accV.length ≤ i ∧
      compM (stepC cf own tg cond elt) (xs.drop i) ρi = .ok rest ρ1 ∧ acc ++ rest = ys, ⟨_, rfl, Nat.zero_le _, wipeE ρ0 (own ++ hid), [], [], ys, Post.ext e0 (Ext.upd hD), ?_, upd_same, .nil, Nat.zero_le _, ec, rfl⟩, ?_⟩
    · intro z
      obtain ⟨o, q, _⟩ := e0.own z
      rw [hD] at q
      cases q
    rintro i m H2 ⟨rfl, hi, ρi, accV, acc, rest, pi, nD, hD2, ra, hl, er, ea⟩
    have sty : Stay H1 H2 := pi.stay e0
    have hph : PH σ hid H1 H2 := fun j hj a ha => by
      obtain ⟨ys, g⟩ := hown j hj
      obtain ⟨p, vs, g1, g2, _⟩ := own_at p1.env g
      rw [ha] at g1
      cases g1
      rw [g2]
      exact pi.keep a _ g2 (hidden sub p1.env (List.mem_append_right _ hj) (getS_at g) rfl ha)
    by_cases hlt : i < xs.length
    · refine .inr ⟨itd.go i H2 sty hph hlt, fun H3 => i + 1 ≤ xs.length ∧ ∃ ρi accV acc rest, Post K G T [] (wipe σ own) (wipe σ own) H1 H3 (wipeE ρ0 (own ++ hid)) ρi ∧ ¬ Ow (wipe σ own) ρi D ∧ H3 D = some (.lst accV) ∧ Reps K H3 accV acc ∧ accV.length ≤ i + 1 ∧
        compM (stepC cf own tg cond elt) (xs.drop (i + 1)) ρi = .ok rest ρ1 ∧ acc ++ rest = ys, fun H' h' => ⟨_, by omega, rfl, h'⟩, fun v H' hv => ?_⟩
      have hx : xs[i]? = some xs[i] := by simp [hlt]
      obtain ⟨x1, rx⟩ := itd.yld i _ H2 v H' sty hph hx hv
      have ed : xs.drop i = xs[i] :: xs.drop (i + 1) := List.drop_eq_getElem_cons hlt
      rw [ed] at er
      unfold compM at er
      have z : accV.length < sizeLine := Nat.lt_of_le_of_lt hl (Nat.lt_of_lt_of_le hlt itd.len)
      split at er
      · rename_i y ρ2 es
        cases e2 : compM (stepC cf own tg cond elt) (xs.drop (i + 1)) ρ2 with
        | stuck => rw [e2] at er; cases er
        | err _ _ => rw [e2] at er; cases er
        | ok r2 ρ3 =>
          rw [e2] at er
          cases er
          refine turn_read hy ht pi x1 rx es hD nD hD2 ra z fun H3 accV' q1 q2 q3 q4 q5 => ⟨hlt, ρ2, accV', _, r2, q1, q2, q3, q4, Nat.le_trans q5 (Nat.succ_le_succ hl), e2, ?_⟩
          rw [← ea]
          simp
      · rename_i ρ2 es
        refine turn_read hy ht pi x1 rx es hD nD hD2 ra z fun H3 accV' q1 q2 q3 q4 q5 => ⟨hlt, ρ2, accV', _, rest, q1, q2, q3, q4, Nat.le_trans q5 (Nat.succ_le_succ hl), er, ?_⟩
        rw [← ea]
        simp
      · cases er
    · have e : i = xs.length := by omega
      subst e
      rw [List.drop_length] at er
      cases er
      rw [List.append_nil] at ea
      subst ea
      refine .inl ⟨itd.stop H2 sty hph, h1 H2 (Post.back sub p1.env pi) _ (.olst hD2 ra) fun _ => ⟨D, rfl, ?_, fun z => ?_⟩⟩
      · cases q : H D with
        | none => rfl
        | some o =>
          obtain ⟨o', z⟩ := p1.dom D o q
          rw [hD] at z
          cases z
      · rcases (Post.back sub p1.env pi).own D z with w | w
        · obtain ⟨o, q, _⟩ := p1.env.own w
          rw [hD] at q
          cases q
        · obtain ⟨j, s, k1, k2, k3⟩ := z
          rcases backE_some k1 with ⟨a1, a2⟩ | ⟨a1, a2⟩
          · obtain ⟨o, q, _⟩ := p1.env.own ⟨j, s, a2, k2, k3⟩
            rw [hD] at q
            cases q
          · exact nD ⟨j, s, a2, k2, by rw [wipe_out fun z => a1 (sub j z)]; exact k3⟩
theorem ownN_map {N : List Str} {own : List Nat} : (ownN N own).map (·.2) = own := by
  unfold ownN
  rw [List.map_map]
  exact List.map_id _
theorem comp_parts {own : List Nat} {tg : Tg} {ik : IK} {st : Sc} {v : Expr} {X : Cx} {T : XT} {W : WX} (i1 : SE1 cg cf G it) (ia : SLs cg cf G it) (ic : STs cg cf G cond) (ie : SE cg cf G elt) (h : chkE cg st (.comp own tg ik it cond elt) v = true) (S : SX cg cf G T st X) (tk : Takes X W) :
    ∃ el tgt iter ifs scope pos, ∃ yes : Bool, v = .ListComp el [⟨tgt, iter, ifs, 0⟩] scope pos ∧ X.calm = true ∧ PI X tgt iter (tI X.K G T W (semI cf ik it)) ∧ BlkOk X.N X.env.scope scope (ownN cg.N own) ∧
      (∀ (s : Shared) (H : Hp) (Ca : Addr) (cl : List (Str × Addr)) (fp : List Addr), PG (X.blk s H scope (compEnvC scope cl Ca X.env) fp) tgt (gT X.K tg)) ∧
      (∀ (s : Shared) (H : Hp) (Ca : Addr) (cl : List (Str × Addr)) (fp : List Addr), PTs (X.blk s H scope (compEnvC scope cl Ca X.env) fp) ifs (tTs X.K G T W0 cf cond yes)) ∧
      (∀ (s : Shared) (H : Hp) (Ca : Addr) (cl : List (Str × Addr)) (fp : List Addr), PE (X.blk s H scope (compEnvC scope cl Ca X.env) fp) el (tE X.K G T W0 (semE cf elt))) ∧ (∀ x, foldedSetIterable iter X.env x = pure x) ∧
      ∀ σ H Q, tE X.K G T W (semE cf (.comp own tg ik it cond elt)) σ H Q → tLc (tI X.K G T W (semI cf ik it)) (gT X.K tg) (tTs X.K G T W0 cf cond yes) (tE X.K G T W0 (semE cf elt)) ((ownN cg.N own).map (·.2)) σ H Q := by
  unfold chkE at h
  split at h <;> first | cases h | skip
  rename_i el tgt iter ifs scope pos
  simp only [Bool.and_eq_true] at h
  obtain ⟨⟨⟨⟨⟨⟨⟨h1, h2⟩, h3⟩, h4⟩, h5⟩, h6⟩, h7⟩, h8⟩ := h
  have pi : PI X tgt iter (tI X.K G T W (semI cf ik it)) ∧ ∀ x, foldedSetIterable iter X.env x = pure x := by
    cases ik with
    | own i =>
      dsimp only at h8
      split at h8
      · simp only [Bool.and_eq_true] at h8
        exact pi_own (at_of h8.1.1.1) h8.1.1.2 h8.1.2 S
      · cases h8
    | _ =>
      dsimp only at h8
      split at h8
      · rename_i he
        exact pi_it i1 ia he h8 S tk
      · cases h8
  obtain ⟨q1, q2⟩ := pi
  · have ok : BlkOk X.N X.env.scope scope (ownN cg.N own) := by rw [S.N, S.sc]; exact blkOk_by h2
    have main : ∀ (yes : Bool), (yes = true → ∀ ρ, semE cf cond ρ = .ok (.d (.bool true)) ρ) →
        (∀ (s : Shared) (H : Hp) (Ca : Addr) (cl : List (Str × Addr)) (fp : List Addr), PTs (X.blk s H scope (compEnvC scope cl Ca X.env) fp) ifs (tTs X.K G T W0 cf cond yes)) → _ := fun yes hy hts =>
      (⟨el, tgt, iter, ifs, scope, pos, yes, rfl, (S.calm h1).1, q1, ok, (fun s H Ca cl fp => pg_tg (sx_blk S h1) h5 (by rfl)), hts, (fun s H Ca cl fp => ie _ _ h7 _ T W0 (sx_blk S h1) takes0), q2, fun σ H Q q => by rw [ownN_map]; exact comp_read hy h4 q⟩ :
        ∃ el' tgt' iter' ifs' scope' pos', ∃ yes : Bool, Expr.ListComp el [⟨tgt, iter, ifs, 0⟩] scope pos = .ListComp el' [⟨tgt', iter', ifs', 0⟩] scope' pos' ∧ X.calm = true ∧ PI X tgt' iter' (tI X.K G T W (semI cf ik it)) ∧ BlkOk X.N X.env.scope scope' (ownN cg.N own) ∧
      (∀ (s : Shared) (H : Hp) (Ca : Addr) (cl : List (Str × Addr)) (fp : List Addr), PG (X.blk s H scope' (compEnvC scope' cl Ca X.env) fp) tgt' (gT X.K tg)) ∧
      (∀ (s : Shared) (H : Hp) (Ca : Addr) (cl : List (Str × Addr)) (fp : List Addr), PTs (X.blk s H scope' (compEnvC scope' cl Ca X.env) fp) ifs' (tTs X.K G T W0 cf cond yes)) ∧
      (∀ (s : Shared) (H : Hp) (Ca : Addr) (cl : List (Str × Addr)) (fp : List Addr), PE (X.blk s H scope' (compEnvC scope' cl Ca X.env) fp) el' (tE X.K G T W0 (semE cf elt))) ∧ (∀ x, foldedSetIterable iter' X.env x = pure x) ∧
      ∀ σ H Q, tE X.K G T W (semE cf (.comp own tg ik it cond elt)) σ H Q → tLc (tI X.K G T W (semI cf ik it)) (gT X.K tg) (tTs X.K G T W0 cf cond yes) (tE X.K G T W0 (semE cf elt)) ((ownN cg.N own).map (·.2)) σ H Q)
    cases ifs with
    | nil =>
      dsimp only at h6
      split at h6
      · exact main true (fun _ _ => rfl) fun s H Ca cl fp => pts_nil
      · cases h6
    | cons c r =>
      cases r with
      | nil =>
        simp only [Bool.and_eq_true] at h6
        exact main false (fun z => by cases z) fun s H Ca cl fp => pts_one (ic _ _ h6.1 h6.2 _ T W0 (sx_blk S h1) takes0).1
      | cons _ _ => cases h6
theorem se_comp {own : List Nat} {tg : Tg} {ik : IK} (i1 : SE1 cg cf G it) (ia : SLs cg cf G it) (ic : STs cg cf G cond) (ie : SE cg cf G elt) : SE cg cf G (.comp own tg ik it cond elt) := by
  intro st e h X T W S tk
  obtain ⟨el, tgt, iter, ifs, scope, pos, yes, rfl, hc, q1, ok, pg, pt, pe, q2, rd⟩ := comp_parts i1 ia ic ie h S tk
  exact PE.imp (pe_lc hc (by rw [S.N]; exact S.nd) q1 ok pg pt pe q2) rd
end
end EV

/-! Statements: readings. -/
namespace EV
open PySem PySem.Spec PyProof.Rows L2
section
variable {K : PySem.W.Frag} {G : AM} {T : XT} {W : WX} {α : Type} {σ σ1 : St} {H H1 : Hp} {ρ ρ1 : Env} {pin : List Nat} {D : Ends}
theorem Post.any {H' : Hp} {ρ' : Env} (p : Post K G T [] σ σ H H' ρ ρ') : Post K G T pin σ σ H H' ρ ρ' := ⟨p.env, p.keep, p.own, p.dom, fun _ _ => rfl⟩
theorem OutS.back {r : R Fl} (p : Post K G T pin σ σ1 H H1 ρ ρ1) (h : OutS K G T W pin σ H ρ r D) : OutS K G T W pin σ1 H1 ρ1 r D := by
  cases r with
  | ok fl ρ' =>
    cases fl with
    | nx => exact fun σ' H' q => h σ' H' (p.trans q)
    | ret v => exact fun σ' H' v q r f => h σ' H' v (p.trans q) r (f.back p.dom)
  | err e ρ' => exact fun σ' cls d H' q => h σ' cls d H' (p.trans q)
  | stuck => exact h
/-- an expression, then a statement's rest (from the statement's start) -/
theorem OutS.bindE {m : R α} {k : α → Env → R Fl} (h : OutS K G T W pin σ H ρ (m.bind k) D) : Out K G T W σ H ρ m fun a ρ1 H1 => OutS K G T W pin σ H ρ (k a ρ1) D := by
  cases m with
  | ok a ρ' => exact fun H' p => h
  | err e ρ' => exact fun cls d H' p er => h σ cls d H' p.any er
  | stuck => exact h
theorem OutS.bindS {m : R Fl} {k : Env → R Fl} (h : OutS K G T W pin σ H ρ (m.bind fun fl ρ => match fl with
    | .nx => k ρ
    | .ret v => .ok (.ret v) ρ) D) : OutS K G T W pin σ H ρ m { D with nx := fun σ1 H1 => ∃ ρ1, Post K G T pin σ σ1 H H1 ρ ρ1 ∧ OutS K G T W pin σ1 H1 ρ1 (k ρ1) D } := by
  cases m with
  | ok fl ρ' =>
    cases fl with
    | nx => exact fun σ' H' p => ⟨ρ', p, OutS.back p h⟩
    | ret v => exact h
  | err e ρ' => exact h
  | stuck => exact h
theorem OutS.mono {r : R Fl} {D' : Ends} (h : OutS K G T W pin σ H ρ r D) (hn : ∀ σ' H', D.nx σ' H' → D'.nx σ' H') (hr : D.rt = D'.rt) : OutS K G T W pin σ H ρ r D' := by
  cases r with
  | ok fl ρ' =>
    cases fl with
    | nx => exact fun σ' H' p => hn _ _ (h σ' H' p)
    | ret v => rw [OutS, ← hr]; exact h
  | err e ρ' => exact h
  | stuck => exact h
theorem caseBS {sv : SV} {k : Option Bool → R Fl} (h : OutS K G T W pin σ H ρ (k (asB sv)) D) (hn : k Option.none = .stuck) : ∃ t, sv = .d (.bool t) ∧ OutS K G T W pin σ H ρ (k (some t)) D := by
  cases e : asB sv with
  | none => rw [e, hn] at h; exact h.elim
  | some t => rw [e] at h; exact ⟨t, asB_eq e, h⟩
end
section
variable (cg : Cfg) (cf : Cf) (G : AM)
/-- what a statement's place gives besides -/
structure SY (X : Cx) (st : Sc) : Prop where
  kind : st.sc.kind = .function
  po : PassesOwn (model X.prog X.w) X.A X.env X.xe
  stk : st.calm = true → X.stack = X.env :: X.outer ∧ X.env.frame = some X.env.locals
def SB (chk : Sc → Stmt → Bool) (c : C) : Prop := ∀ (st : Sc) (s : Stmt), chk st s = true → ∀ (X : Cx) (T : XT) (W : WX), SX cg cf G T st X → SY X st → Takes X W → PS X s (tS X.K G T W cf.pin (semS cf c))
def SBs (chk : Sc → List Stmt → Bool) (c : C) : Prop := ∀ (st : Sc) (s : List Stmt), chk st s = true → ∀ (X : Cx) (T : XT) (W : WX), SX cg cf G T st X → SY X st → Takes X W → PSs X s (tS X.K G T W cf.pin (semS cf c))
end
section
variable {cg : Cfg} {cf : Cf} {G : AM} {K : PySem.W.Frag} {T : XT} {W : WX} {σ : St} {H : Hp} {D : Ends} {a b c e ix es it body : C}
theorem seq_read (q : tS K G T W cf.pin (semS cf (.seq a b)) D σ H) : tSeq (tS K G T W cf.pin (semS cf a)) (tS K G T W cf.pin (semS cf b)) D σ H := by
  obtain ⟨ρ, env, o⟩ := q
  exact ⟨ρ, env, (OutS.bindS (k := semS cf b) o).mono (fun σ' H' ⟨ρ1, p, q⟩ => ⟨ρ1, p.env, q⟩) rfl⟩
theorem skip_read (q : tS K G T W cf.pin (semS cf .skip) D σ H) : tNext D σ H := by
  obtain ⟨ρ, env, o⟩ := q
  exact (o : OutS K G T W cf.pin σ H ρ (.ok .nx ρ) D) σ H (Post.refl env)
theorem ret_read (q : tS K G T W cf.pin (semS cf (.ret e)) D σ H) : tRet (tE K G T W (semE cf e)) D σ H := by
  obtain ⟨ρ, env, o⟩ := q
  replace o : OutS K G T W cf.pin σ H ρ ((semE cf e ρ).bind fun x ρ => .ok (.ret x) ρ) D := o
  exact ⟨ρ, env, o.bindE.imp fun sv ρ1 H1 p1 h1 v r f => h1 σ H1 v p1.any r f⟩
theorem ex_read (q : tS K G T W cf.pin (semS cf (.ex e)) D σ H) : tDrop (tE K G T W (semE cf e)) D σ H := by
  obtain ⟨ρ, env, o⟩ := q
  replace o : OutS K G T W cf.pin σ H ρ ((semE cf e ρ).bind fun _ ρ => .ok .nx ρ) D := o
  exact ⟨ρ, env, o.bindE.imp fun sv ρ1 H1 p1 h1 v r f => h1 σ H1 p1.any⟩
theorem ifs_read (q : tS K G T W cf.pin (semS cf (.ifs c a b)) D σ H) : tIfS (tT K G T W (semE cf c)) (tS K G T W cf.pin (semS cf a)) (tS K G T W cf.pin (semS cf b)) D σ H := by
  obtain ⟨ρ, env, o⟩ := q
  replace o : OutS K G T W cf.pin σ H ρ ((semE cf c ρ).bind fun x ρ => match asB x with
    | some true => semS cf a ρ
    | some false => semS cf b ρ
    | Option.none => .stuck) D := o
  refine ⟨ρ, env, o.bindE.imp fun sv ρ1 H1 p1 h1 => ?_⟩
  obtain ⟨t, rfl, h2⟩ := caseBS (k := fun t => match t with
    | some true => semS cf a ρ1
    | some false => semS cf b ρ1
    | Option.none => .stuck) h1 rfl
  refine ⟨t, rfl, ?_⟩
  cases t with
  | true => rw [if_pos rfl]; exact ⟨ρ1, p1.env, h2.back p1.any⟩
  | false => rw [if_neg Bool.false_ne_true]; exact ⟨ρ1, p1.env, h2.back p1.any⟩
theorem mem_any {l : List Nat} {pin : List Nat} (h : ¬ (l.any (pin.contains ·)) = true) {i : Nat} (hi : i ∈ l) : i ∉ pin := fun z => h (List.any_eq_true.mpr ⟨i, hi, by simpa using z⟩)
theorem asg1_read {i : Nat} (q : tS K G T W cf.pin (semS cf (.asg (.one i) e)) D σ H) : tAsg (tE K G T W (semE cf e)) (gName i) D σ H := by
  obtain ⟨ρ, env, o⟩ := q
  replace o : OutS K G T W cf.pin σ H ρ ((semE cf e ρ).bind fun x ρ => if (tgs (.one i)).any (cf.pin.contains ·) then .stuck else .ok .nx (ρ.set i (some x))) D := o
  refine ⟨ρ, env, o.bindE.imp fun sv ρ1 H1 p1 h1 v r f => ?_⟩
  split at h1
  · exact h1.elim
  · rename_i hp
    exact h1 _ H1 (Post.set p1.env r f p1.dom p1.any (mem_any hp (by simp [tgs])))
theorem asgM_read {is : List Nat} (q : tS K G T W cf.pin (semS cf (.asg (.many is) e)) D σ H) : tAsg (tE K G T W (semE cf e)) (gT K (.many is)) D σ H := by
  obtain ⟨ρ, env, o⟩ := q
  replace o : OutS K G T W cf.pin σ H ρ ((semE cf e ρ).bind fun x ρ => if (tgs (.many is)).any (cf.pin.contains ·) then .stuck else match x with
      | .d d => (match setT (.many is) d ρ with
        | some ρ => .ok .nx ρ
        | Option.none => .stuck)
      | _ => .stuck) D := o
  refine ⟨ρ, env, o.bindE.imp fun sv ρ1 H1 p1 h1 v r f => ?_⟩
  split at h1
  · exact h1.elim
  · rename_i hp
    split at h1
    · rename_i d
      cases es : setT (.many is) d ρ1 with
      | none => rw [es] at h1; exact h1.elim
      | some ρ2 =>
        rw [es] at h1
        exact gT_read p1.any r.rep es (fun i hi => mem_any hp hi) fun σ' p' _ _ => h1 σ' H1 p'
    · exact h1.elim
end
end EV

/-! Statements: readings (2). -/
namespace EV
open PySem PySem.Spec PyProof.Rows L2
section
variable {K : PySem.W.Frag} {G : AM} {T : XT} {W : WX} {σ σ1 σ' : St} {H H0 H1 H' : Hp} {ρ ρ' ρ1 : Env} {pin : List Nat}
/-- an owned list is written -/
theorem Post.wrt {i : Nat} {p : Addr} {vs ws : List V} {xs ys : List PyData} (e : EnvR K G T σ H ρ) (hi : ρ[i]? = some (some (.olst xs))) (hs : σ[i]? = some (some (.ref p))) (hp : H p = some (.lst vs)) (r : Reps K H ws ys) :
    Post K G T pin σ σ H (upd H p (.lst ws)) ρ (ρ.set i (some (.olst ys))) := by
  have sty : Stay H (upd H p (.lst ws)) := fun b u q n => by rw [upd_ne (fun y => by rw [y, hp] at q; cases q; cases n)]; exact q
  have hil : i < ρ.length := (List.getElem?_eq_some_iff.mp hi).1
  have new : SRep K G T (upd H p (.lst ws)) (.ref p) (.olst ys) := .olst upd_same (Reps.stay sty _ _ r)
  have at_ : ∀ (j : Nat) (sv : SV), (ρ.set i (some (.olst ys)))[j]? = some (some sv) → (j = i ∧ sv = .olst ys) ∨ (j ≠ i ∧ ρ[j]? = some (some sv)) := fun j sv h => by
    by_cases hj : i = j
    · subst hj
      rw [List.getElem?_set_self hil] at h
      cases h
      exact .inl ⟨rfl, rfl⟩
    · rw [List.getElem?_set_ne hj] at h
      exact .inr ⟨fun z => hj z.symm, h⟩
  have own_ : ∀ (j : Nat) (sv : SV), (ρ.set i (some (.olst ys)))[j]? = some (some sv) → sv.isOwn = true → ∃ s0, ρ[j]? = some (some s0) ∧ s0.isOwn = true := fun j sv h o => by
    rcases at_ j sv h with ⟨rfl, rfl⟩ | ⟨_, h⟩
    · exact ⟨_, hi, rfl⟩
    · exact ⟨sv, h, o⟩
  refine ⟨⟨by rw [List.length_set]; exact e.len, fun j sv h => ?_, fun j k s s' v h1 h2 o1 o2 g1 g2 => ?_⟩, fun b u q n => ?_, fun b w => ?_, fun b u q => ?_, fun _ _ => rfl⟩
  · rcases at_ j sv h with ⟨rfl, rfl⟩ | ⟨hj, h⟩
    · exact ⟨_, hs, new⟩
    · obtain ⟨v, q, rr⟩ := e.at_ j sv h
      refine ⟨v, q, ?_⟩
      cases n : sv.isOwn with
      | false => exact rr.stay sty n
      | true =>
        refine rr.stayO sty fun a u ev q2 _ => ?_
        rw [upd_ne (fun y => ?_)]
        · exact q2
        · subst y
          subst ev
          exact hj (e.sep j i _ _ _ h hi n rfl q hs)
  · obtain ⟨s0, a1, a2⟩ := own_ j s h1 o1
    obtain ⟨s1, b1, b2⟩ := own_ k s' h2 o2
    exact e.sep j k s0 s1 v a1 b1 a2 b2 g1 g2
  · rw [upd_ne (fun y => n ⟨i, _, hi, rfl, by rw [y]; exact hs⟩)]
    exact q
  · obtain ⟨j, sv, h1, h2, h3⟩ := w
    obtain ⟨s0, a1, a2⟩ := own_ j sv h1 h2
    exact .inl ⟨j, s0, a1, a2, h3⟩
  · by_cases hb : b = p
    · exact ⟨_, by rw [hb]; exact upd_same⟩
    · exact ⟨u, by rw [upd_ne hb]; exact q⟩
/-- several new values into slots -/
theorem SReps.setS {v : V} {s : SV} {i : Nat} {vs : List V} {ss : List SV} (hl : σ.length = ρ.length) (h : SReps K G T H0 H σ ρ vs ss) (r : SRep K G T H v s) (d : s.isOwn = true → ∀ (j : Nat) (s' : SV), ss[j]? = some s' → s'.isOwn = true → vs[j]? ≠ some v) :
    SReps K G T H0 H (σ.set i (some v)) (ρ.set i (some s)) vs ss := by
  induction h with
  | nil => exact .nil
  | @cons v' vs s' ss r' f' t d' ih =>
    refine .cons r' (fun n => ?_) (ih fun n j s2 h1 h2 => d n (j + 1) s2 (by simpa using h1) h2) d'
    obtain ⟨a, ev, h1, h2⟩ := f' n
    refine ⟨a, ev, h1, fun w => ?_⟩
    rcases Ow.of_set hl w with w | ⟨e, o⟩
    · exact h2 w
    · exact d o 0 s' rfl n (by rw [e, ← ev]; rfl)
theorem setAll_post {Q : St → Prop} : ∀ {is : List Nat} {vs : List V} {ss : List SV} {σ : St} {ρ : Env}, Post K G T pin σ' σ H0 H ρ' ρ → SReps K G T H0 H σ ρ vs ss → ss.length = is.length → (∀ i ∈ is, i ∉ pin) →
    ∃ σ2, Post K G T pin σ' σ2 H0 H ρ' (setAll ρ is ss) ∧ (∀ D : St → Hp → Prop, D σ2 H → gNs is vs σ H D) ∧ σ2 = (is.zip vs).foldl (fun s p => s.set p.1 (some p.2)) σ
  | [], vs, ss, σ, ρ, p, h, hl, hp => by
    cases h with
    | nil => exact ⟨σ, p, fun D q => ⟨rfl, q⟩, rfl⟩
    | cons _ _ _ _ => cases hl
  | i :: is, vs, ss, σ, ρ, p, h, hl, hp => by
    cases h with
    | nil => cases hl
    | @cons v vs s ss r f t d =>
      obtain ⟨σ2, p2, q2, e2⟩ := setAll_post (is := is) (Q := Q) (Post.set p.env r f p.dom p (hp i List.mem_cons_self)) (t.setS p.env.len r d) (by simpa using hl) fun j hj => hp j (List.mem_cons_of_mem _ hj)
      exact ⟨σ2, p2, fun D q => ⟨v, vs, rfl, q2 D q⟩, e2⟩
end
section
variable {cg : Cfg} {cf : Cf} {G : AM} {K : PySem.W.Frag} {T : XT} {W : WX} {σ : St} {H : Hp} {D : Ends} {a b c e ix es it body : C}
theorem SReps.len {H0 : Hp} {ρ : Env} {vs : List V} {ss : List SV} (h : SReps K G T H0 H σ ρ vs ss) : vs.length = ss.length := by
  induction h with
  | nil => rfl
  | cons _ _ _ _ ih => rw [List.length_cons, List.length_cons, ih]
theorem SReps.upd {H0 : Hp} {ρ : Env} {vs : List V} {ss : List SV} {H2 : Hp} (h : SReps K G T H0 H σ ρ vs ss) (x : Ext H H2) : SReps K G T H0 H2 σ ρ vs ss := by
  induction h with
  | nil => exact .nil
  | cons r f _ d ih => exact .cons (r.ext x) f ih d
/-- what par leaves, by the slots' fold -/
theorem par_core {is : List Nat} (q : tS K G T W cf.pin (semS cf (.par is es)) D σ H) : tL K G T W (semL cf es) σ H fun vs H1 => is.Nodup ∧ vs.length = is.length ∧
    (∀ H2, Ext H1 H2 → gNs is vs σ H2 D.nx ∧ D.nx ((is.zip vs).foldl (fun s p => s.set p.1 (some p.2)) σ) H2) := by
  obtain ⟨ρ, env, o⟩ := q
  replace o : OutS K G T W cf.pin σ H ρ ((semL cf es ρ).bind fun xs ρ => if is.any (cf.pin.contains ·) || !decide is.Nodup || decide (xs.length ≠ is.length) then .stuck else .ok .nx (setAll ρ is xs)) D := o
  refine ⟨ρ, env, o.bindE.imp fun ss ρ1 H1 p1 h1 vs rs => ?_⟩
  split at h1
  · exact h1.elim
  · rename_i hc
    simp only [Bool.or_eq_true, Bool.not_eq_true', decide_eq_true_eq, decide_eq_false_iff_not, not_or, Decidable.not_not] at hc
    obtain ⟨⟨c1, c2⟩, c3⟩ := hc
    refine ⟨c2, by rw [rs.len, c3], fun H2 x2 => ?_⟩
    obtain ⟨σ2, p2, q2, e2⟩ := setAll_post (Q := fun _ => True) (p1.any.trans (Post.ext p1.env x2)) (rs.upd x2) c3 fun i hi => mem_any c1 hi
    refine ⟨q2 _ (h1 σ2 H2 p2), ?_⟩
    rw [← e2]
    exact h1 σ2 H2 p2
theorem parT_read {is : List Nat} (hn : ∀ ρ ss ρ', semL cf es ρ = .ok ss ρ' → ss.length ≤ 1000) (hk : is.length ≤ 1000) (q : tS K G T W cf.pin (semS cf (.par is es)) D σ H) : tAsg (tTup (tL K G T W (semL cf es))) (gTup K is.length (gNs is)) D σ H := by
  obtain ⟨ρ, env, o⟩ := par_core q
  refine ⟨ρ, env, o.imp fun ss ρ1 H1 p1 h vs rs => ?_⟩
  obtain ⟨h1, h2, h3⟩ := h vs rs
  refine ⟨by rw [h2, sizeLine_eq]; omega, fun p hp => ⟨p, vs, rfl, .inl (.inl upd_same), h2, (h3 _ (Ext.upd hp)).1⟩⟩
theorem par2_read {i j : Nat} (q : tS K G T W cf.pin (semS cf (.par [i, j] es)) D σ H) : tPar i j (tL K G T W (semL cf es)) D σ H := by
  obtain ⟨ρ, env, o⟩ := par_core q
  refine ⟨ρ, env, o.imp fun ss ρ1 H1 p1 h vs rs => ?_⟩
  obtain ⟨h1, h2, h3⟩ := h vs rs
  match vs, h2 with
  | [v, w], _ => exact ⟨v, w, rfl, (h3 H1 Ext.refl).2⟩
theorem par3_read {i j k : Nat} (q : tS K G T W cf.pin (semS cf (.par [i, j, k] es)) D σ H) : tPar3 i j k (tL K G T W (semL cf es)) D σ H := by
  obtain ⟨ρ, env, o⟩ := par_core q
  refine ⟨ρ, env, o.imp fun ss ρ1 H1 p1 h vs rs => ?_⟩
  obtain ⟨h1, h2, h3⟩ := h vs rs
  match vs, h2 with
  | [u, v, w], _ => exact ⟨u, v, w, rfl, (h3 H1 Ext.refl).2⟩
theorem ixN_nat {n : Nat} {k : Int} (h0 : 0 ≤ k) (h1 : k < n) : ixN n k = some k.toNat := by
  unfold ixN
  first
    | (rw [if_pos h0, if_pos (by omega)])
    | (simp; omega)
theorem same_at {ρ ρ' : Env} {H' : Hp} {i : Nat} {p q : Addr} (h1 : σ[i]? = some (some (.ref p))) (h2 : σ[i]? = some (some (.ref q))) : q = p := by
  rw [h1] at h2
  cases h2
  rfl
theorem asgI_read {i : Nat} (q : tS K G T W cf.pin (semS cf (.asgI i ix e)) D σ H) : tAsg (tE K G T W (semE cf e)) (gSub (tVar i) (tE K G T W (semE cf ix)) rSetL) D σ H := by
  obtain ⟨ρ, env, o⟩ := q
  replace o : OutS K G T W cf.pin σ H ρ ((semE cf e ρ).bind fun x ρ => match getS ρ i with
    | some (.olst _) => (semE cf ix ρ).bind fun k ρ => (match getS ρ i, k, x with
      | some (.olst xs), .d (.int k), .d y => if 0 ≤ k ∧ k < xs.length then .ok .nx (ρ.set i (some (.olst (xs.set k.toNat y)))) else .stuck
      | _, _, _ => .stuck)
    | _ => .stuck) D := o
  refine ⟨ρ, env, o.bindE.imp fun sv ρ1 H1 p1 h1 v r f => ?_⟩
  split at h1
  · rename_i xs0 g0
    obtain ⟨p, vs0, hs, _, _⟩ := own_at p1.env g0
    refine ⟨.ref p, hs, ρ1, p1.env, (h1.back p1.any).bindE.imp fun kv ρ2 H2 p2 h2 w r2 f2 => ?_⟩
    split at h2
    · rename_i xs k y g
      split at h2
      · rename_i hk
        obtain ⟨p', vs, hs', hp, rr⟩ := own_at p2.env g
        obtain rfl : p' = p := by rw [hs] at hs'; cases hs'; rfl
        cases r2.rep
        refine ⟨p', vs, k, k.toNat, rfl, rfl, hp, ixN_nat hk.1 (by rw [rr.length]; exact hk.2), h2 σ _ (p2.any.trans (Post.wrt p2.env (getS_at g) hs' hp (Reps.set ((r.post p1.env f p2).rep) _ rr)))⟩
      · exact h2.elim
    · exact h2.elim
  · exact h1.elim
theorem aug_read {i : Nat} {op : BOp} (ho : op = .add ∨ op = .sub) (q : tS K G T W cf.pin (semS cf (.aug i op e)) D σ H) : tAug i (tE K G T W (semE cf e)) (ipI fun a b => if op = .add then a + b else a - b) D σ H := by
  obtain ⟨ρ, env, o⟩ := q
  clear ho
  unfold semS at o
  cases g : getS ρ i with
  | none => rw [g] at o; exact o.elim
  | some x =>
    rw [g] at o
    dsimp only at o
    split at o
    · exact o.elim
    · rename_i hc
      simp only [Bool.or_eq_true, not_or] at hc
      obtain ⟨v, hv, r⟩ := env.get g
      refine ⟨v, hv, ρ, env, o.bindE.imp fun sv ρ1 H1 p1 h1 w r1 f1 => ?_⟩
      have hi : i ∉ cf.pin := fun z => hc.1 (by simpa using z)
      split at h1
      · cases r.rep
        cases r1.rep
        refine ⟨_, _, rfl, rfl, ?_⟩
        dsimp only
        rw [if_pos rfl]
        exact h1 _ H1 (p1.any.setD (.int _) hi)
      · cases r.rep
        cases r1.rep
        refine ⟨_, _, rfl, rfl, ?_⟩
        dsimp only
        rw [if_neg (by intro z; cases z)]
        exact h1 _ H1 (p1.any.setD (.int _) hi)
      · exact h1.elim
theorem app_read {i : Nat} (q : tS K G T W cf.pin (semS cf (.app i e)) D σ H) : tDrop (tBM K "list" rAppend (tVar i) (tCons (tE K G T W (semE cf e)) tNil)) D σ H := by
  obtain ⟨ρ, env, o⟩ := q
  replace o : OutS K G T W cf.pin σ H ρ (match getS ρ i with
    | some (.olst _) => (semE cf e ρ).bind fun x ρ => (match getS ρ i, x with
      | some (.olst xs), .d y => if xs.length < line then .ok .nx (ρ.set i (some (.olst (xs ++ [y])))) else .stuck
      | _, _ => .stuck)
    | _ => .stuck) D := o
  split at o
  · rename_i xs0 g0
    obtain ⟨p, vs0, hs, hp0, _⟩ := own_at env g0
    refine ⟨.ref p, hs, .inl ⟨rfl, _, SqL.of hp0⟩, ρ, env, o.bindE.imp fun sv ρ1 H1 p1 h1 v r f => ?_⟩
    split at h1
    · rename_i xs y g
      split at h1
      · rename_i hk
        obtain ⟨p', vs, hs', hp, rr⟩ := own_at p1.env g
        obtain rfl : p' = p := by rw [hs] at hs'; cases hs'; rfl
        refine ⟨p', vs, v, rfl, rfl, hp, by rw [rr.length, ← line_eq]; exact hk, h1 σ _ (p1.any.trans (Post.wrt p1.env (getS_at g) hs' hp (rr.app (.cons r.rep .nil))))⟩
      · exact h1.elim
    · exact h1.elim
  · exact o.elim
def rExt (K : PySem.W.Frag) : V → List V → Hp → VK → Prop := fun x vs H Q => ∃ l b xs zs, x = .ref l ∧ vs = [.ref b] ∧ H l = some (.lst xs) ∧ LsL K H b zs ∧ xs.length + zs.length ≤ sizeLine ∧ Q .non (upd H l (.lst (xs ++ zs)))
theorem mt_ext {X : Cx} : MtM X "list.extend" (rExt X.K) := by
  intro pins s σ H x vs v us Q I rx rv h
  obtain ⟨l, b, xs, zs, rfl, rfl, hH, hB, hz, q⟩ := h
  obtain rfl : v = Value.ref l := rx
  obtain ⟨u, rfl, ru⟩ := rv.one
  obtain rfl : u = Value.ref b := ru
  obtain ⟨z1, i1, n1, r1, l1, e1⟩ := I.lstM hH
  obtain ⟨z2, i2, n2, r2, e2⟩ := hB.at_ I
  have l2 := r2.length
  have total : i1.toArray.size + i2.toArray.size ≤ sizeLine := by rw [List.size_toArray, List.size_toArray]; omega
  have short : ¬ (!i1.toArray.isEmpty && Builtin.List.listTooLong (i1.toArray.size + i2.toArray.size)) = true := by
    rw [notLongL total, Bool.and_false]
    exact Bool.false_ne_true
  refine call_meets F.slot_list_extend ⟨_, e1, rfl⟩ F.entry_list_extend (F.args_list_extend_2 _ _) (AutoSeq1.list_extend_list_list_0 l i1.toArray n1 b i2.toArray n2 short (by rw [List.size_toArray]; omega) (by omega)) ⟨e1, e2, ?_⟩
  exact ⟨.non, _, I.lset (its' := i1 ++ i2) hH e1 (by simp) (r1.append r2) (by rw [List.length_append]; exact hz), rfl, q⟩
theorem ext_read {i : Nat} (q : tS K G T W cf.pin (semS cf (.ext i e)) D σ H) : tDrop (tBM K "list" (rExt K) (tVar i) (tCons (tE K G T W (semE cf e)) tNil)) D σ H := by
  obtain ⟨ρ, env, o⟩ := q
  replace o : OutS K G T W cf.pin σ H ρ (match getS ρ i with
    | some (.olst _) => (semE cf e ρ).bind fun x ρ => (match getS ρ i, lstOf x with
      | some (.olst xs), some ys => if xs.length + ys.length ≤ line then .ok .nx (ρ.set i (some (.olst (xs ++ ys)))) else .stuck
      | _, _ => .stuck)
    | _ => .stuck) D := o
  split at o
  · rename_i xs0 g0
    obtain ⟨p, vs0, hs, hp0, _⟩ := own_at env g0
    refine ⟨.ref p, hs, .inl ⟨rfl, _, SqL.of hp0⟩, ρ, env, o.bindE.imp fun sv ρ1 H1 p1 h1 v r f => ?_⟩
    split at h1
    · rename_i xs ys g hy
      split at h1
      · rename_i hk
        obtain ⟨p', vs, hs', hp, rr⟩ := own_at p1.env g
        obtain rfl : p' = p := by rw [hs] at hs'; cases hs'; rfl
        obtain ⟨b, zs, rfl, rz, lz⟩ := r.lsts hy
        refine ⟨p', b, vs, zs, rfl, rfl, hp, lz, by rw [rr.length, rz.length, ← line_eq]; exact hk, h1 σ _ (p1.any.trans (Post.wrt p1.env (getS_at g) hs' hp (rr.app rz)))⟩
      · exact h1.elim
    · exact h1.elim
  · exact o.elim
def rIns : V → List V → Hp → VK → Prop := fun x vs H Q => ∃ (l : Addr) (xs : List V) (i : Int) (y : V), x = .ref l ∧ vs = [.int i, y] ∧ H l = some (.lst xs) ∧ xs.length < sizeLine ∧ 0 ≤ i ∧ i < 2 ^ 63 ∧
    Q .non (upd H l (.lst (xs.take i.toNat ++ [y] ++ xs.drop i.toNat)))
theorem ins_read {i : Nat} (q : tS K G T W cf.pin (semS cf (.ins i ix e)) D σ H) : tDrop (tBM K "list" rIns (tVar i) (tCons (tE K G T W (semE cf ix)) (tCons (tE K G T W (semE cf e)) tNil))) D σ H := by
  obtain ⟨ρ, env, o⟩ := q
  replace o : OutS K G T W cf.pin σ H ρ (match getS ρ i with
    | some (.olst _) => (semE cf ix ρ).bind fun k ρ => (semE cf e ρ).bind fun x ρ => (match getS ρ i, k, x with
      | some (.olst xs), .d (.int k), .d y => if 0 ≤ k ∧ k ≤ xs.length ∧ xs.length < line then .ok .nx (ρ.set i (some (.olst (xs.take k.toNat ++ y :: xs.drop k.toNat)))) else .stuck
      | _, _, _ => .stuck)
    | _ => .stuck) D := o
  split at o
  · rename_i xs0 g0
    obtain ⟨p, vs0, hs, hp0, _⟩ := own_at env g0
    refine ⟨.ref p, hs, .inl ⟨rfl, _, SqL.of hp0⟩, ρ, env, o.bindE.imp fun kv ρ1 H1 p1 h1 u r1 f1 => ⟨ρ1, p1.env, (h1.back p1.any).bindE.imp fun sv ρ2 H2 p2 h2 v r f => ?_⟩⟩
    split at h2
    · rename_i xs k y g
      split at h2
      · rename_i hk
        obtain ⟨p', vs, hs', hp, rr⟩ := own_at p2.env g
        obtain rfl : p' = p := by rw [hs] at hs'; cases hs'; rfl
        cases r1.rep
        have e1 : line = 16777216 := rfl
        refine ⟨p', vs, k, v, rfl, rfl, hp, by rw [rr.length, ← line_eq]; exact hk.2.2, hk.1, by omega, ?_⟩
        have z := h2 σ _ (p2.any.trans (Post.wrt p2.env (getS_at g) hs' hp ((rr.take k.toNat).app (.cons r.rep (rr.drop k.toNat)))))
        rw [List.append_assoc]
        exact z
      · exact h2.elim
    · exact h2.elim
  · exact o.elim
end
end EV

/-! Statements: loops. -/
namespace EV
open PySem PySem.Spec PyProof.Rows L2
section
variable {cg : Cfg} {cf : Cf} {G : AM} {K : PySem.W.Frag} {T : XT} {W : WX} {σ : St} {H : Hp} {D : Ends} {a b c e ix es it body : C}
def stepF (cf : Cf) (tg : Tg) (body : C) : PyData → Env → R Fl := fun x ρ => match setT tg x ρ with
  | Option.none => .stuck
  | some ρ => semS cf body ρ
theorem lift_nil {a : R (List SV)} {f : List SV → Option (List PyData)} {xh : List PyData × List Nat} {ρ0 : Env} (h : (a.bind fun xs ρ => R.lift ((f xs).map fun z => (z, ([] : List Nat))) ρ) = .ok xh ρ0) : xh.2 = [] := by
  cases a with
  | ok b ρ =>
    rw [R.bind_ok] at h
    cases q : f b with
    | none => rw [q] at h; cases h
    | some z => rw [q] at h; cases h; rfl
  | err _ _ => cases h
  | stuck => cases h
theorem fors_read {tg : Tg} {ik : IK} (q : tS K G T W cf.pin (semS cf (.fors tg ik it body)) D σ H) :
    tFor (tI K G T W fun ρ => (semL cf it ρ).bind fun xs ρ => R.lift ((iterD ik xs).map fun z => (z, [])) ρ) (gT K tg) (tS K G T W cf.pin (semS cf body)) D σ H := by
  obtain ⟨ρ, env, o⟩ := q
  replace o : OutS K G T W cf.pin σ H ρ (if (tgs tg).any (cf.pin.contains ·) then .stuck else ((semL cf it ρ).bind fun xs ρ => R.lift ((iterD ik xs).map fun z => (z, [])) ρ).bind fun (items : List PyData × List Nat) ρ => forM (stepF cf tg body) items.1 ρ) D := o
  split at o
  · exact o.elim
  rename_i hp
  refine ⟨ρ, env, ?_⟩
  show Out K G T W σ H ρ ((semL cf it ρ).bind fun xs ρ => R.lift ((iterD ik xs).map fun z => (z, ([] : List Nat))) ρ) _
  cases esi : ((semL cf it ρ).bind fun xs ρ => R.lift ((iterD ik xs).map fun z => (z, ([] : List Nat))) ρ) with
  | stuck => rw [esi] at o; exact o.elim
  | err e ρ' => rw [esi] at o; exact fun cls d H' p er => o σ cls d H' (Post.any p) er
  | ok xh ρ0 =>
  rw [esi] at o
  intro H1 p1 J itd
  have h1 := OutS.back p1.any o
  have hn := lift_nil esi
  obtain ⟨xs, hid⟩ := xh
  dsimp only at hn
  subst hn
  dsimp only [R.bind_ok] at h1 itd
  have hph : ∀ {σ : St} {H H2 : Hp}, PH σ [] H H2 := fun j hj => by cases hj
  refine ⟨fun i m σ2 H2 => m = xs.length - i ∧ i ≤ xs.length ∧ ∃ ρi, Post K G T cf.pin σ σ2 H1 H2 ρ0 ρi ∧ OutS K G T W cf.pin σ2 H2 ρi (forM (stepF cf tg body) (xs.drop i) ρi) D, ⟨_, rfl, Nat.zero_le _, ρ0, Post.refl p1.env, h1⟩, ?_⟩
  rintro i m σ2 H2 ⟨rfl, hi, ρi, pi, oi⟩
  have sty : Stay H1 H2 := pi.stay p1.env
  by_cases hlt : i < xs.length
  · refine .inr ⟨itd.go i H2 sty hph hlt, fun σ3 H3 => i + 1 ≤ xs.length ∧ ∃ ρi, Post K G T cf.pin σ σ3 H1 H3 ρ0 ρi ∧ OutS K G T W cf.pin σ3 H3 ρi (forM (stepF cf tg body) (xs.drop (i + 1)) ρi) D, fun σ' H' h' => ⟨_, by omega, rfl, h'⟩, fun v H' hv => ?_⟩
    have hx : xs[i]? = some xs[i] := by simp [hlt]
    obtain ⟨x1, rx⟩ := itd.yld i _ H2 v H' sty hph hx hv
    have ed : xs.drop i = xs[i] :: xs.drop (i + 1) := List.drop_eq_getElem_cons hlt
    rw [ed] at oi
    replace oi : OutS K G T W cf.pin σ2 H2 ρi ((stepF cf tg body xs[i] ρi).bind fun fl ρ1 => match fl with
      | .nx => forM (stepF cf tg body) (xs.drop (i + 1)) ρ1
      | .ret v => .ok (.ret v) ρ1) D := oi
    cases es : setT tg xs[i] ρi with
    | none =>
      have e1 : stepF cf tg body xs[i] ρi = .stuck := by unfold stepF; rw [es]
      rw [e1] at oi
      exact oi.elim
    | some ρs =>
      have e1 : stepF cf tg body xs[i] ρi = semS cf body ρs := by unfold stepF; rw [es]
      rw [e1] at oi
      refine gT_read (pin := cf.pin) ((Post.ext (pin := cf.pin) pi.env x1)) rx es (fun j hj => mem_any hp hj) fun σ3 p3 _ _ => ?_
      refine ⟨ρs, p3.env, (OutS.bindS (k := fun ρ => forM (stepF cf tg body) (xs.drop (i + 1)) ρ) (oi.back p3)).mono (fun σ4 H4 ⟨ρ4, p4, o4⟩ => ?_) rfl⟩
      exact ⟨hlt, ρ4, (pi.trans p3).trans p4, o4⟩
  · have e : i = xs.length := by omega
    subst e
    rw [List.drop_length] at oi
    exact .inl ⟨itd.stop H2 sty hph, (oi : OutS K G T W cf.pin σ2 H2 ρi (.ok .nx ρi) D) σ2 H2 (Post.refl pi.env)⟩
theorem whl_read {fuel : Nat} (q : tS K G T W cf.pin (semS cf (.whl fuel c body)) D σ H) : tWhile (tT K G T W (semE cf c)) (tS K G T W cf.pin (semS cf body)) D σ H := by
  obtain ⟨ρ, env, o⟩ := q
  replace o : OutS K G T W cf.pin σ H ρ (whileM (semE cf c) (semS cf body) fuel ρ) D := o
  refine ⟨fun n σ2 H2 => ∃ ρi, EnvR K G T σ2 H2 ρi ∧ OutS K G T W cf.pin σ2 H2 ρi (whileM (semE cf c) (semS cf body) n ρi) D, ⟨fuel, ρ, env, o⟩, ?_⟩
  rintro n σ2 H2 ⟨ρi, ei, oi⟩
  cases n with
  | zero => exact oi.elim
  | succ n =>
    replace oi : OutS K G T W cf.pin σ2 H2 ρi ((semE cf c ρi).bind fun t ρ1 => match asB t with
      | some true => (semS cf body ρ1).bind fun fl ρ2 => match fl with
        | .nx => whileM (semE cf c) (semS cf body) n ρ2
        | .ret v => .ok (.ret v) ρ2
      | some false => .ok .nx ρ1
      | Option.none => .stuck) D := oi
    refine ⟨ρi, ei, oi.bindE.imp fun sv ρ1 H1 p1 h1 => ?_⟩
    obtain ⟨t, rfl, h2⟩ := caseBS (k := fun t => match t with
      | some true => (semS cf body ρ1).bind fun fl ρ2 => match fl with
        | .nx => whileM (semE cf c) (semS cf body) n ρ2
        | .ret v => .ok (.ret v) ρ2
      | some false => .ok .nx ρ1
      | Option.none => .stuck) h1 rfl
    refine ⟨t, rfl, ?_⟩
    have h2 := h2.back p1.any
    cases t with
    | true =>
      dsimp only
      rw [if_pos rfl]
      refine ⟨fun σ3 H3 => ∃ ρ3, EnvR K G T σ3 H3 ρ3 ∧ OutS K G T W cf.pin σ3 H3 ρ3 (whileM (semE cf c) (semS cf body) n ρ3) D, fun σ' H' h' => ⟨n, Nat.lt_succ_self _, h'⟩, ρ1, p1.env, ?_⟩
      exact (OutS.bindS (k := fun ρ => whileM (semE cf c) (semS cf body) n ρ) h2).mono (fun σ4 H4 ⟨ρ4, p4, o4⟩ => ⟨ρ4, p4.env, o4⟩) rfl
    | false =>
      dsimp only
      rw [if_neg Bool.false_ne_true]
      exact (h2 : OutS K G T W cf.pin σ2 H1 ρ1 (.ok .nx ρ1) D) σ2 H1 (Post.refl p1.env)
end
end EV

/-! try with several clauses, each with or without a name. -/
namespace EV
open PySem PySem.Spec PyProof.Rows L2

abbrev ClT := Value × Option Nat × (Addr → Value → Option Addr → TS)
/-- the suite's ends, its name gone -/
def offN (D : Ends) : Option Nat → Ends
  | none => D
  | some i => { nx := fun σ H => D.nx (σ.set i none) H, rt := D.rt, bk := fun σ H => D.bk (σ.set i none) H, ct := fun σ H => D.ct (σ.set i none) H }
def onN (σ : St) (a : Addr) : Option Nat → St
  | none => σ
  | some i => σ.set i (some (.ref a))
/-- what the clauses wish of what the body raises -/
def wCl (K : PySem.W.Frag) (Wout : WX) (D : Ends) : List ClT → WX
  | [] => Wout
  | (c, n, ts) :: l => fun cls d σ H => ∃ b, PySem.W.exmOne K cls c = some b ∧ if b then ∀ a, H a = none → ts a cls d (offN D n) (onN σ a n) H else wCl K Wout D l cls d σ H
/-- a clause's suite, whatever is caught -/
def SuiteOk (X : Cx) (suite : List Stmt) (ts : Addr → Value → Option Addr → TS) : Prop :=
  ∀ (a : Addr) (oe : Obj) (cls : Value) (d : Option Addr) (pn : List (Addr × Obj)), Zc cls d oe → (∃ vs, oe.data = .fields vs) → PSs (X.suite a ((a, oe) :: pn)) suite (ts a cls d)
inductive ClOk (X : Cx) : List ExceptHandler → List ClT → Prop
  | nil : ClOk X [] []
  | plain {x : Str} {c : Value} {ts : Addr → Value → Option Addr → TS} {s : Stmt} {suite : List Stmt} {p q : Pos} {hs : List ExceptHandler} {l : List ClT} : Names X x c → SuiteOk X (s :: suite) ts → ClOk X hs l →
      ClOk X (.ExceptHandler (some (.Name x p)) none (s :: suite) q :: hs) ((c, none, ts) :: l)
  | named {x n : Str} {i : Nat} {c : Value} {ts : Addr → Value → Option Addr → TS} {s : Stmt} {suite : List Stmt} {p q : Pos} {hs : List ExceptHandler} {l : List ClT} : Names X x c → X.N[i]? = some n → X.env.kindOf n = some .local → SuiteOk X (s :: suite) ts →
      ClOk X hs l → ClOk X (.ExceptHandler (some (.Name x p)) (some n) (s :: suite) q :: hs) ((c, some i, ts) :: l)
section
variable {X : Cx} {Wout : WX} {D : Ends}
/-- the clause's class is looked up -/
theorem looked {x : Str} {c : Value} {p : Pos} {a : Addr} {oe : Obj} {pins : List (Addr × Obj)} {σ : St} {H : Hp} {s : Shared} {Q : Value → Shared → Prop} {E : Value → Shared → Prop} (hc : Names X x c) (S : L2.Inv (X.suite a ((a, oe) :: pins)) [] σ H s) (q : Q c s) :
    wpAny (model X.prog X.w) (X.A.mark (some (.ref a))) (eval (.Name x p) X.env) Q E s := by
  obtain ⟨g, hd, m | ⟨m, b, nn⟩⟩ := hc
  · exact ld_glob (X := X.suite a ((a, oe) :: pins)) S g m q hd
  · exact ld_blt (X := X.suite a ((a, oe) :: pins)) S g m b q nn hd
/-- an exception lies before the clauses -/
theorem caught (hs : X.stack = X.env :: X.outer) (hf : X.env.frame = some X.env.locals) (hN : X.N.Nodup) (tk : Takes X Wout) {a : Addr} {B : Heap} {sI s' : Shared} {pins pins' : List (Addr × Obj)} {σ : St} {H : Hp} {cls : Value} {d : Option Addr} {h3 : Heap}
    (ok : X.Ok) (J : L2.Inv X pins σ H sI) (nb : ∀ b o, sI.heap.get? b = some o → b ∉ frs X.stack → B.get? b = some o) (up : sI.heap.UpToSlots h3) (na : H a = none) (os : s'.os = sI.os) (ag : AllBare s'.gens)
    (fl : HandSPX.FlyingZ B (X.env :: X.outer) a (Zc cls d) h3) {hds : List ExceptHandler} {l : List ClT} (ch : ClOk X hds l) (w : wCl X.K Wout D l cls d σ H) :
    wpAny (model X.prog X.w) X.A (handleBy (.ref a) X.env hds) (SP X pins D) X.xe { s' with heap := h3 } := by
  have outside : ∀ {h : Heap}, HandSPX.FlyingZ B (X.env :: X.outer) a (Zc cls d) h → a ≠ X.env.locals ∧ a ∉ X.fs := fun {h} f => by
    obtain ⟨oe, vs, he, _, hd⟩ := f.there
    have nm : a ∉ frs (X.env :: X.outer) := fun hm => by
      obtain ⟨_, o2, e2, nf⟩ := f.2.2.1.mem hm
      rw [he] at e2
      cases e2
      exact nf _ hd
    exact ⟨fun z => nm (List.mem_filterMap.mpr ⟨X.env, List.mem_cons_self, by rw [hf, z]⟩), fun hm => by
      obtain ⟨e, he2, q⟩ := List.mem_filterMap.mp hm
      exact nm (List.mem_filterMap.mpr ⟨e, List.mem_cons_of_mem _ he2, q⟩)⟩
  have here : ∀ {h : Heap}, HandSPX.FlyingZ B (X.env :: X.outer) a (Zc cls d) h → sI.heap.UpToSlots h → ∃ oe, h.get? a = some oe ∧ Zc cls d oe ∧ (∃ vs, oe.data = .fields vs) ∧ L2.Inv (X.suite a ((a, oe) :: (X.pn ++ pins))) [] σ H { s' with heap := h } := fun {h} f u => by
    obtain ⟨oe, vs, he, hz, hd⟩ := f.there
    obtain ⟨n1, n2⟩ := outside f
    exact ⟨oe, he, hz, ⟨vs, hd⟩, (J.landed (s' := { s' with heap := h }) nb f.1 u os ag).suite he hd na n1 n2⟩
  induction ch with
  | nil =>
    refine wpAny_handleBy_nil ?_
    obtain ⟨_, _, _, oe, vs, tb, _, _, he, _, hd, h1, _⟩ := id fl
    unfold PySem.passOn
    refine wpAny_bind (wpAny_field he hd h1 ?_)
    rw [if_neg (show ¬ ((Value.ref tb == Value.none) = true) from by simp)]
    have away : wpAny (model X.prog X.w) X.A (setFlight (.ref a) X.env.frame) (fun _ s4 => wpAny (model X.prog X.w) X.A (throw (.ref a) : Sem Flow) (SP X pins D) X.xe s4) X.xe { s' with heap := h3 } := by
      rw [hf]
      exact HandSPX.setFlight_upZ fl fun h4 held up4 => wpAny_throw (tk _ _ ⟨a, B, sI, pins, σ, H, cls, d, rfl, J, nb, up.trans up4, .inr (.inr (by rw [hs]; exact held)), na, os, ag, w⟩)
    first
      | exact wpAny_bind (wpAny_pure (wpAny_bind away))
      | exact wpAny_bind away
  | @plain x c ts s suite p q hds2 l2 hc su r ih =>
    obtain ⟨b, hb, w⟩ := w
    obtain ⟨oe, he, hz, _, S⟩ := here fl up
    refine wpAny_handleBy_cons (codeAny_handlers_test ?_) (by intro q; cases q)
    have LT : PySem.W.Looks (model X.prog X.w) h3 (typeOf (.ref a)) cls := fun A Q E s k q => wpAny_typeOf_ref (k _ _ he) (by rw [hz.1]; exact q)
    refine looked hc S ((PySem.W.exm_one (M := model X.prog X.w) S.kIn LT hb).here ?_)
    cases b with
    | true =>
      refine codeAny_handlers_suite (HandSPX.lands_againZ fl fun h4 fl4 up4 => ?_)
      obtain ⟨oe4, _, hz4, hd4, S4⟩ := here fl4 (up.trans up4)
      refine wpAny_mono ((su a oe4 cls d (X.pn ++ pins) hz4 hd4).run [] _ _ H _ S4 (w a na)) (fun f s6 h6 => ?_) (fun _ _ z => False.elim z)
      cases f with
      | next => exact let ⟨σ6, H6, S6, q6⟩ := h6; ⟨_, _, S6.unsuite ok, q6⟩
      | brk => exact let ⟨σ6, H6, S6, q6⟩ := h6; ⟨_, _, S6.unsuite ok, q6⟩
      | cont => exact let ⟨σ6, H6, S6, q6⟩ := h6; ⟨_, _, S6.unsuite ok, q6⟩
      | ret u => exact let ⟨v6, σ6, H6, S6, r6, q6⟩ := h6; ⟨_, _, _, S6.unsuite ok, r6, q6⟩
    | false => exact ih w
  | @named x n i c ts s suite p q hds2 l2 hc hi hl su r ih =>
    obtain ⟨b, hb, w⟩ := w
    obtain ⟨oe, he, hz, _, S⟩ := here fl up
    refine wpAny_handleBy_cons (codeAny_handlers_test ?_) (by intro q; cases q)
    have LT : PySem.W.Looks (model X.prog X.w) h3 (typeOf (.ref a)) cls := fun A Q E s k q => wpAny_typeOf_ref (k _ _ he) (by rw [hz.1]; exact q)
    refine looked hc S ((PySem.W.exm_one (M := model X.prog X.w) S.kIn LT hb).here ?_)
    cases b with
    | true =>
      refine codeAny_handlers_suite_as (HandSPX.lands_againZ fl fun h4 fl4 up4 => ?_)
      obtain ⟨oe4, _, hz4, hd4, S4⟩ := here fl4 (up.trans up4)
      refine store_ok (X := X.suite a ((a, oe4) :: (X.pn ++ pins))) (v := .ref a) S4 hN hi (.inl hl) rfl (fun s5 S5 => ?_) (.inr hl)
      refine wpAny_mono ((su a oe4 cls d (X.pn ++ pins) hz4 hd4).run [] s5 _ H _ S5 (w a na)) (fun f s6 h6 => ?_) (fun _ _ z => False.elim z)
      have drop : ∀ {σ6 : St} {H6 : Hp} {Q : Shared → Prop}, L2.Inv (X.suite a ((a, oe4) :: (X.pn ++ pins))) [] σ6 H6 s6 → (∀ s7, L2.Inv X pins (σ6.set i none) H6 s7 → Q s7) →
          wpAny (model X.prog X.w) X.A (do bindName X.env n .none; unbindBehindTheSuite X.env n q) (fun _ s7 => Q s7) X.xe s6 := fun {σ6 H6 Q} S6 hq => gone_ok (S6.unsuite ok) hN hi hl hq
      cases f with
      | next => exact let ⟨σ6, H6, S6, q6⟩ := h6; drop S6 fun s7 J7 => ⟨_, _, J7, q6⟩
      | brk => exact let ⟨σ6, H6, S6, q6⟩ := h6; drop S6 fun s7 J7 => ⟨_, _, J7, q6⟩
      | cont => exact let ⟨σ6, H6, S6, q6⟩ := h6; drop S6 fun s7 J7 => ⟨_, _, J7, q6⟩
      | ret u => exact let ⟨v6, σ6, H6, S6, r6, q6⟩ := h6; drop S6 fun s7 J7 => ⟨_, _, _, J7, r6, q6⟩
    | false => exact ih w
/-- try: body, then the clauses -/
theorem ps_tryN {body : List Stmt} {h₀ : ExceptHandler} {hds : List ExceptHandler} {l : List ClT} {pos : Pos} {tb : WX → TS} (hs : X.stack = X.env :: X.outer) (hf : X.env.frame = some X.env.locals) (hN : X.N.Nodup) (tk : Takes X Wout)
    (hb : ∀ (W : WX) (pn : List (Addr × Obj)) (xe : Value → Shared → Prop), Takes (X.tr pn xe) W → PassesOwn (model X.prog X.w) X.A X.env xe → PSs (X.tr pn xe) body (tb W)) (ch : ClOk X (h₀ :: hds) l) :
    PS X (.Try body (h₀ :: hds) [] [] pos) (fun D σ H => tb (wCl X.K Wout D l) D σ H) := by
  refine ⟨fun pins s σ H D I h => ?_⟩
  have ok := I.ok
  have hfr : X.A.frames = some (X.env :: X.outer) := by rw [ok.frames, hs]
  refine wpAny_Try_except (wpAny_mono ((hb (wCl X.K Wout D l) (X.pn ++ pins) (fun e s₁ => wpAny (model X.prog X.w) X.A (noteFrame e X.env) (fun _ s₂ => wpAny (model X.prog X.w) X.A (setFlight e none) (fun _ s₃ =>
    wpAny (model X.prog X.w) X.A (handleBy e X.env (h₀ :: hds)) (SP X pins D) X.xe s₃) X.xe s₂) X.xe s₁) (fun u s1 air => ?_) PassesOwn.looking).run [] s σ H D (I.toTry _) h) (fun f s1 done => ?_) (fun e s1 he => he))
  · obtain ⟨a, B, sI, pins2, σ2, H2, cls, d, rfl, J2, nb, up, sky, na, os, ag, w⟩ := air
    show wpAny (model X.prog X.w) X.A (noteFrame (.ref a) X.env) _ _ _
    refine Sky.land (B := B) (env := X.env) (outer := X.outer) Zc.steady hfr hf (by rw [← hs]; exact sky) fun h3 fl up3 => ?_
    exact caught hs hf hN tk (pins' := pins2) ok (J2.ofTry ok) nb (up.trans up3) na os ag fl ch w
  · cases f with
    | next => exact let ⟨σ2, H2, J2, q⟩ := done; wpAny_execs_nil ⟨σ2, H2, J2.ofTry ok, q⟩
    | brk => exact let ⟨σ2, H2, J2, q⟩ := done; ⟨σ2, H2, J2.ofTry ok, q⟩
    | cont => exact let ⟨σ2, H2, J2, q⟩ := done; ⟨σ2, H2, J2.ofTry ok, q⟩
    | ret u => exact let ⟨v, σ2, H2, J2, r, q⟩ := done; ⟨v, σ2, H2, J2.ofTry ok, r, q⟩
end
end EV

/-! Errors: fields, raise, try. -/
namespace EV
open PySem PySem.Spec PyProof.Rows L2
section
variable {cg : Cfg} {cf : Cf} {G : AM} {es body suite hs : C}
theorem se_efld {i : Nat} {f : Str} : SE cg cf G (.efld i f) := by
  intro st e h X T W S tk
  unfold chkE at h
  split at h <;> first | cases h | skip
  rename_i x px g pos
  simp only [Bool.and_eq_true] at h
  obtain ⟨⟨⟨h1, h2⟩, h3⟩, h4⟩ := h
  obtain rfl := eq_of_beq h1
  obtain ⟨d1, d2⟩ := okN_of h4
  refine ⟨fun pins s σ H Q I q => ?_⟩
  obtain ⟨ρ, env, o⟩ := q
  unfold semE at o
  split at o
  · rename_i C fs g
    cases eF : cf.excF C with
    | none => rw [eF] at o; exact o.elim
    | some nf =>
      obtain ⟨n, fl⟩ := nf
      rw [eF] at o
      dsimp only at o
      split at o
      · rename_i hany
        obtain ⟨z, ez, hz⟩ := o.lift
        cases el : fs.lookup f with
        | none => rw [el] at ez; cases ez
        | some dv =>
          rw [el] at ez
          cases ez
          obtain ⟨v, hv, rv⟩ := env.get g
          obtain ⟨CC, eC, xf, hno⟩ := S.exF C n fl eF
          have hno : PySem.W.findIn X.K (.ref CC) f = some none := by
            obtain ⟨p, hp, he⟩ := List.any_eq_true.mp hany
            have := hno p hp
            rwa [eq_of_beq he] at this
          cases rv with
          | exc m e1 r1 =>
            rename_i a d fvs
            obtain ⟨oe, vs, hm, hz1, hd⟩ := S.exT _ m
            obtain ⟨w, l1, l2⟩ := r1.lookup el
            refine attr_of rfl (thn ((pe_var (X := X) (i := i) (by rw [S.N]; exact at_of h2) (vis_of S h3) d1 d2).run pins s σ H (fun x H1 => x = .ref a ∧ H1 = H) I ⟨_, hv, rfl, rfl⟩) fun u s1 hh => ?_)
            obtain ⟨y, H1, I1, ry, ey, eH⟩ := hh
            subst ey
            subst eH
            obtain rfl : u = Value.ref a := ry
            obtain ⟨ha, _⟩ := I1.pin (a, oe) (List.mem_append_left _ hm)
            have hx : ObjOk X.prog X.w H1 s1.heap d (.xd fvs) := I1.hok d _ e1
            obtain ⟨mA, hns, hr⟩ := hx
            obtain ⟨od, ho, hl⟩ := lookIn_ns hns
            obtain ⟨u, hu, ru⟩ := RelO.some_of (v := w) (o := mA f) (by rw [← l1]; exact hr f)
            have J : PySem.W.InstAt s1.heap a oe CC (some od) := ⟨ha, by rw [hz1.1]; exact eC, by unfold PySem.W.notCls; rw [hd] <;> rfl, by rw [hz1.2]; exact ho⟩
            exact HandSPX.exc_get I1.kIn J xf.ga xf.gg xf.exC (PySem.W.findObj_own xf.hdC hno rfl (by rw [hl, hu])) (handed_of ru) ⟨w, H1, I1.tok _, ru, hz H1 (Post.refl env) _ (.d l2) (Fresh.no rfl)⟩
          | exc0 m => cases el
      · exact o.elim
  · exact o.elim
theorem pick_rep {K : PySem.W.Frag} {H : Hp} {vs : List V} {ds : List PyData} (r : Reps K H vs ds) : ∀ {fl : List (Str × Nat)}, (fl.all fun p => decide (p.2 < ds.length)) = true → RepFs K H (pickF fl vs) (fl.map fun p => (p.1, (ds[p.2]?).getD .none))
  | [], _ => .nil
  | p :: fl, h => by
    rw [List.all_cons, Bool.and_eq_true, decide_eq_true_eq] at h
    refine .cons ⟨rfl, ?_⟩ (pick_rep r h.2)
    have e : ds[p.2]? = some ds[p.2] := by simp [h.1]
    obtain ⟨v, h1, h2⟩ := r.get e
    dsimp only
    rw [h1, e]
    exact h2
theorem raise_read {K : PySem.W.Frag} {T : XT} {W : WX} {σ : St} {H : Hp} {D : Ends} {X n : Nat} {fl : List (Str × Nat)} (eF : cf.excF X = some (n, fl)) (q : tS K G T W cf.pin (semS cf (.raise X es)) D σ H) :
    tL K G T W (semL cf es) σ H fun vs H1 => vs.length = n ∧ ∀ d H2, Ext H1 H2 → H1 d = none → H2 d = some (.xd (pickF fl vs)) → W (G.exc X) (some d) σ H2 := by
  obtain ⟨ρ, env, o⟩ := q
  replace o : OutS K G T W cf.pin σ H ρ ((semL cf es ρ).bind fun xs ρ => match (allD xs).bind (errOf cf X) with
    | some e => .err e ρ
    | Option.none => .stuck) D := o
  refine ⟨ρ, env, o.bindE.imp fun ss ρ1 H1 p1 h1 vs rs => ?_⟩
  cases ea : allD ss with
  | none => rw [ea] at h1; exact h1.elim
  | some ds =>
    rw [ea, Option.bind_some] at h1
    unfold errOf at h1
    rw [eF] at h1
    dsimp only at h1
    split at h1
    · rename_i z hz
      split at hz
      · rename_i hc
        cases hz
        have rr := SReps.allD rs.pair ea
        refine ⟨by rw [rr.length]; exact hc.1, fun d H2 x2 hn hd => h1 σ (G.exc X) (some d) H2 (p1.any.trans (Post.ext p1.env x2)) ⟨rfl, .inr ⟨d, _, rfl, hd, ?_⟩⟩⟩
        exact pick_rep (Reps.stay x2.stay _ _ rr) (by rw [hc.1]; exact hc.2)
      · cases hz
    · exact h1.elim
theorem raise0_read {K : PySem.W.Frag} {T : XT} {W : WX} {σ : St} {H : Hp} {D : Ends} {X : Nat} (eF : cf.excF X = some (0, [])) (q : tS K G T W cf.pin (semS cf (.raise X .nil)) D σ H) : W (G.exc X) none σ H := by
  obtain ⟨ρ, env, o⟩ := q
  have e : semS cf (.raise X .nil) ρ = .err ⟨X, []⟩ ρ := by
    show (match (some []).bind (errOf cf X) with
      | some e => .err e ρ
      | Option.none => .stuck : R Fl) = _
    unfold errOf
    rw [Option.bind_some, eF]
    rfl
  rw [e] at o
  exact o σ (G.exc X) none H (Post.refl env) ⟨rfl, .inl ⟨rfl, rfl⟩⟩
/-! ### try -/
theorem EnvR.moreT {K : PySem.W.Frag} {T : XT} {σ : St} {H : Hp} {ρ : Env} (e : EnvR K G [] σ H ρ) : EnvR K G T σ H ρ := ⟨e.len, fun i sv h => let ⟨v, h1, h2⟩ := e.at_ i sv h; ⟨v, h1, h2.moreT⟩, e.sep⟩
theorem EnvR.lessT {K : PySem.W.Frag} {T T' : XT} {σ : St} {H : Hp} {ρ : Env} (e : EnvR K G T σ H ρ) (n : noExc ρ = true) : EnvR K G T' σ H ρ := ⟨e.len, fun i sv h => by
  obtain ⟨v, h1, h2⟩ := e.at_ i sv h
  refine ⟨v, h1, h2.noX ?_⟩
  have := List.all_eq_true.mp n (some sv) (List.mem_of_getElem? h)
  exact this, e.sep⟩
theorem EnvR.off {K : PySem.W.Frag} {T : XT} {σ : St} {H : Hp} {ρ : Env} {i : Nat} (e : EnvR K G T σ H ρ) : EnvR K G T (σ.set i none) H (ρ.set i Option.none) ∧ ∀ b, Ow (σ.set i none) (ρ.set i Option.none) b → Ow σ ρ b := by
  have key : ∀ {j : Nat} {sv : SV}, (ρ.set i Option.none)[j]? = some (some sv) → ρ[j]? = some (some sv) ∧ (σ.set i none)[j]? = σ[j]? := fun {j sv} h => by
    by_cases hj : i = j
    · subst hj
      by_cases hl : i < ρ.length
      · rw [List.getElem?_set_self hl] at h; cases h
      · rw [List.getElem?_eq_none (by rw [List.length_set]; omega)] at h; cases h
    · rw [List.getElem?_set_ne hj] at h
      exact ⟨h, List.getElem?_set_ne hj⟩
  refine ⟨⟨by rw [List.length_set, List.length_set]; exact e.len, fun j sv h => ?_, fun j k s s' v h1 h2 o1 o2 h3 h4 => ?_⟩, fun b ⟨j, sv, h1, h2, h3⟩ => ?_⟩
  · obtain ⟨h1, h2⟩ := key h
    rw [h2]
    exact e.at_ j sv h1
  · obtain ⟨a1, a2⟩ := key h1
    obtain ⟨b1, b2⟩ := key h2
    rw [a2] at h3
    rw [b2] at h4
    exact e.sep j k s s' v a1 b1 o1 o2 h3 h4
  · obtain ⟨a1, a2⟩ := key h1
    rw [a2] at h3
    exact ⟨j, sv, a1, h2, h3⟩
/-- an error in hand, in slot i -/
theorem EnvR.exc {K : PySem.W.Frag} {σ : St} {H : Hp} {ρ : Env} {i : Nat} {a : Addr} {cls : Value} {d : Option Addr} {e : Err} (env : EnvR K G [] σ H ρ) (er : ErrR K G H cls d e) :
    EnvR K G [(a, cls, d)] (σ.set i (some (.ref a))) H (ρ.set i (some (.exc e.C e.fs))) ∧ ∀ b, Ow (σ.set i (some (.ref a))) (ρ.set i (some (.exc e.C e.fs))) b → Ow σ ρ b := by
  refine ⟨env.moreT.set ?_ (fun z => nomatch z), fun b w => (Ow.of_set env.len w).elim id (fun z => nomatch z.2)⟩
  obtain ⟨ec, er | ⟨dx, fvs, ed, hd, r⟩⟩ := er
  · obtain ⟨ed, ef⟩ := er
    subst ec
    subst ed
    rw [ef]
    exact .exc0 List.mem_cons_self
  · subst ec
    subst ed
    exact .exc List.mem_cons_self hd r
/-- what a suite does, by its slot -/
def tCl (K : PySem.W.Frag) (G : AM) (cf : Cf) (slot : Option Nat) (suite : C) : Addr → Value → Option Addr → TS := fun a cls d => match slot with
  | some _ => tS K G [(a, cls, d)] W0 cf.pin (semS cf suite)
  | none => tS K G [] W0 cf.pin (semS cf suite)
theorem suite_read {K : PySem.W.Frag} {W : WX} {σ : St} {H : Hp} {D : Ends} {ρ : Env} {e : Err} {slot : Option Nat} {a : Addr} {cls : Value} {d : Option Addr} (env : EnvR K G [] σ H ρ) (er : ErrR K G H cls d e)
    (o : OutS K G [] W cf.pin σ H ρ (match slot with
      | some i => if cf.pin.contains i then .stuck else (match semS cf suite (ρ.set i (some (.exc e.C e.fs))) with
        | .ok fl ρ => if noExc (ρ.set i Option.none) && fl.plain then .ok fl (ρ.set i Option.none) else .stuck
        | _ => .stuck)
      | Option.none => (match semS cf suite ρ with
        | .ok fl ρ => .ok fl ρ
        | _ => .stuck)) D) : tCl K G cf slot suite a cls d (offN D slot) (onN σ a slot) H := by
  cases slot with
  | none =>
    refine ⟨ρ, env, ?_⟩
    dsimp only at o
    split at o
    · rename_i fl ρ2 es
      rw [es]
      exact OutS.mono (D := D) (by cases fl <;> exact o) (fun _ _ h => h) rfl
    · exact o.elim
  | some i =>
    obtain ⟨e1, w1⟩ := env.exc (i := i) (a := a) er
    refine ⟨_, e1, ?_⟩
    dsimp only at o
    split at o
    · exact o.elim
    · rename_i hp
      have hi : i ∉ cf.pin := fun z => hp (by simpa using z)
      split at o
      · rename_i fl ρ2 es
        rw [es]
        split at o
        · rename_i hc
          rw [Bool.and_eq_true] at hc
          obtain ⟨c1, c2⟩ := hc
          have back : ∀ {σ' : St} {H' : Hp}, Post K G [(a, cls, d)] cf.pin (σ.set i (some (.ref a))) σ' H H' (ρ.set i (some (.exc e.C e.fs))) ρ2 → Post K G [] cf.pin σ (σ'.set i none) H H' ρ (ρ2.set i Option.none) := fun {σ' H'} p => by
            obtain ⟨q1, q2⟩ := p.env.off (i := i)
            refine ⟨q1.lessT c1, fun b o h w => p.keep b o h fun z => w (w1 b z), fun b w => ?_, p.dom, fun j hj => ?_⟩
            · rcases p.own b (q2 b w) with z | z
              · exact .inl (w1 b z)
              · exact .inr z
            · have hji : i ≠ j := fun z => hi (by rw [z]; exact hj)
              rw [List.getElem?_set_ne hji, p.pins j hj, List.getElem?_set_ne hji]
          cases fl with
          | nx => exact fun σ' H' p => o _ H' (back p)
          | ret v =>
            intro σ' H' u p r f
            refine o _ H' u (back p) (r.noX c2) fun n => ?_
            obtain ⟨x, ex, h1, h2⟩ := f n
            exact ⟨x, ex, h1, fun w => h2 ((p.env.off (i := i)).2 x w)⟩
        · exact o.elim
      · exact o.elim
theorem tryx_read {K : PySem.W.Frag} {W W' : WX} {σ : St} {H : Hp} {D : Ends} (q : tS K G [] W cf.pin (semS cf (.tryx body hs)) D σ H)
    (hw : ∀ (σ' : St) (H' : Hp) (ρ' : Env) (e : Err) (cls : Value) (d : Option Addr), EnvR K G [] σ' H' ρ' → ErrR K G H' cls d e → OutS K G [] W cf.pin σ' H' ρ' (semH cf hs e ρ') D → W' cls d σ' H') : tS K G [] W' cf.pin (semS cf body) D σ H := by
  obtain ⟨ρ, env, o⟩ := q
  refine ⟨ρ, env, ?_⟩
  replace o : OutS K G [] W cf.pin σ H ρ (match semS cf body ρ with
    | .err e ρ => semH cf hs e ρ
    | r => r) D := o
  cases es : semS cf body ρ with
  | stuck => rw [es] at o; exact o.elim
  | ok fl ρ' =>
    rw [es] at o
    cases fl <;> exact o
  | err e ρ' =>
    rw [es] at o
    exact fun σ' cls d H' p er => hw σ' H' ρ' e cls d p.env er (o.back p)
end
end EV

/-! isinstance of an error in hand; an error made by keywords, one of its fields read. -/
namespace EV
open PySem PySem.Spec PyProof.Rows L2
section
variable {prog : Program} {w : World} {A : Around} {E : Value → Shared → Prop} {s : Shared} {K : PySem.W.Frag} {x D : Addr} {ox : Obj} {od : Option Obj}
theorem isd_find (F : ExcC K D) : PySem.W.findObj K D od "__class__" = some (.bind (.builtin "getset_descriptor.__get__") (.builtin "object.__class__")) := by
  obtain ⟨cd, hc, _⟩ := PySem.W.any_some F.hd
  unfold PySem.W.findObj
  simp only [hc, F.ha, F.hn, F.ht, Option.bind_some]
/-- e.__class__, e an error with or without a dict -/
theorem isd_class (F : ExcC K D) (X : K.In s.heap) (I : PySem.W.InstAt s.heap x ox D od) {Q : Option Value → Shared → Prop} (h : Q (some (.ref D)) { s with toks := s.toks + 1 }) : wpAny (model prog w) A (getAttr? (.ref x) "__class__") Q E s := by
  have ff := isd_find (od := od) F
  rcases s with ⟨hp, g, dr, tk, os⟩
  have aT := I.type (M := model prog w)
  have aA := PySem.W.looks_findIn (M := model prog w) X F.hg
  have aG := PySem.W.looks_findIn (M := model prog w) X F.hk
  have aF := PySem.W.looks_find (M := model prog w) X I ff
  have aS : PySem.W.Looks (model prog w) hp (isInstance (.ref x) (.type "BaseException")) true := aT.andThen (PySem.W.looks_subIn X F.hs)
  have z0 : (false && onTheHeap (Value.builtin "BaseException.__getattribute__")) = false := rfl
  have z1 : (Value.builtin "BaseException.__getattribute__" == Value.builtin "object.__getattribute__") = false := by decide +kernel
  have z2 : (onTheHeap (Value.ref D) && Value.builtin "BaseException.__getattribute__" == Value.builtin "object.__getattribute__") = false := by rw [z1] <;> rfl
  unfold getAttr?
  unfold getAttrBy?
  unfold getAttrBy
  refine wpAny_bind (wpAny_mkText (wpAny_bind (wpAny_attempt (wpAny_holding (wpAny_bind (aT.at (wpAny_bind (aA.at ?_))))))))
  show wpAny _ _ (if (onTheHeap (Value.ref D) && Value.builtin "BaseException.__getattribute__" == Value.builtin "object.__getattribute__") = true then _ else _) _ _ _
  rw [z2, if_neg (by decide)]
  unfold getAttrByItsOwn
  unfold hookBefore
  refine wpAny_bind ?_
  rw [if_pos (show onTheHeap (Value.ref D) = true from rfl)]
  refine aG.at (wpAny_bind (wpAny_attempt (wpAny_holding ?_)))
  unfold callGetattribute
  rw [z0, if_neg (by decide)]
  unfold boundAndCalled
  rw [PySem.F.excAttr_ValueError.ga.bind (.ref x)]
  refine wpAny_bind (wpAny_pure ?_)
  show wpAny _ _ (call (.builtin "BaseException.__getattribute__") [.ref x, .str "__class__" tk]) _ _ _
  refine wpAny_call (codeAny_call_builtin PySem.F.excAttr_ValueError.ga.plain PySem.F.entry_bexc_ga ?_)
  refine @PySem.W.check_slot (model prog w) _ _ ⟨hp, g, dr, tk + 1, os⟩ "BaseException.__getattribute__" "BaseException" "__getattribute__" (.ref x) [.str "__class__" tk] [] _ (by decide +kernel) (by decide +kernel) aS (PySem.F.args_bexc_ga (.ref x) (.str "__class__" tk)) ?_
  unfold Builtin.«object.__getattribute__»
  refine wpAny_bind (wpAny_of_eq (a := ((Value.ref x : Value), [Value.str "__class__" tk])) (by first | rfl | (simp only [slotArgs]; rfl)) ?_)
  refine wpAny_bind (wpAny_pure (wpAny_bind (aT.at (wpAny_bind (aF.at ?_)))))
  show wpAny _ _ (holding [Value.builtin "object.__class__"] (call (.builtin "getset_descriptor.__get__") [.builtin "object.__class__", .ref x, .ref D]) >>= ret) _ _ _
  refine wpAny_bind (wpAny_holding (wpAny_call (PySem.W.class_get (s := ⟨hp, g, dr, tk + 1, os⟩) (ox := ox) (od := od) X I F.hm (wpAny_pure ?_))))
  show wpAny _ _ (handedOut (.ref D)) _ _ _
  rw [PySem.W.handedOut_of (v := .ref D) rfl]
  first
    | exact wpAny_pure (wpAny_pure h)
    | exact wpAny_pure h
    | exact wpAny_pure (wpAny_bind (wpAny_pure (wpAny_pure h)))
theorem isd_kit (F : ExcC K D) : PySem.W.KitX K (.ref x) (.ref D) fun h => PySem.W.InstAt h x ox D od where
  ty := fun _ _ _ I => I.type
  it := fun M h X _ => by
    obtain ⟨cd, hc, _⟩ := PySem.W.any_some F.hd
    unfold PySem.W.clsIn at hc
    split at hc
    · rename_i ho
      intro A' Q' E' s' k q
      unfold isType
      unfold loadHead
      exact wpAny_bind (wpAny_loadPart (k _ _ (X _ _ ho)) (wpAny_pure q))
    · cases hc
  ne := fun h tp dd its n sl X htp => by
    obtain ⟨cd, hc, _⟩ := PySem.W.any_some F.hd
    cases q : (Value.ref D == Value.ref tp) with
    | false => rfl
    | true =>
      obtain rfl : D = tp := Value.ref.inj (beq_iff_eq.mp q)
      unfold PySem.W.clsIn at hc
      split at hc
      · rename_i ho
        have := (X _ _ ho).symm.trans htp
        cases this
      · cases hc
  ca := fun X I k => isd_class F X I k
end
def rIsx (a : Addr) (d : Option Addr) (cv : V) (b : Bool) : List V → Hp → VK → Prop := fun xs H Q => xs = [.ref a, cv] ∧ (∀ dd, d = some dd → ∃ fs, H dd = some (.xd fs)) ∧ Q (.bl b) H
theorem call_isx {X : Cx} {a D : Addr} {cls cu : Value} {d : Option Addr} {oe : Obj} {vs : Array Value} {b : Bool} {cv : V} (hp : (a, oe) ∈ X.pn) (hz : Zc cls d oe) (hd : oe.data = .fields vs) (ec : cls = .ref D) (F : ExcC X.K D) (r2 : ∀ u, RelV cv u → u = cu)
    (kit : PySem.W.kitOne X.K (.ref D) cu = some b) : CallR X (.builtin "isinstance") (rIsx a d cv b) := by
  intro pins s σ H xs us Q I r h
  obtain ⟨rfl, hx, q⟩ := h
  cases r with
  | cons ra rr =>
    cases rr with
    | cons rc rr =>
      cases rr
      cases ra
      obtain rfl := r2 _ rc
      obtain ⟨ha, _⟩ := I.pin (a, oe) (List.mem_append_left _ hp)
      have hI : ∃ od : Option Obj, PySem.W.InstAt s.heap a oe D od := by
        cases d with
        | none => exact ⟨none, ha, by rw [hz.1]; exact ec, by unfold PySem.W.notCls; rw [hd] <;> rfl, by rw [hz.2]; trivial⟩
        | some dd =>
          obtain ⟨fs, e1⟩ := hx dd rfl
          have hO : ObjOk X.prog X.w H s.heap dd (.xd fs) := I.hok dd _ e1
          obtain ⟨mA, hns, _⟩ := hO
          obtain ⟨od, ho, _⟩ := lookIn_ns hns
          exact ⟨some od, ha, by rw [hz.1]; exact ec, by unfold PySem.W.notCls; rw [hd] <;> rfl, by rw [hz.2]; exact ho⟩
      obtain ⟨od, hI⟩ := hI
      exact PySem.W.kia_one (isd_kit F) I.kIn hI kit (fun z => nomatch z) fun tk => ⟨.bl b, H, I.kept (t' := tk) fun _ _ z => z, rfl, q⟩
section
variable {cg : Cfg} {cf : Cf} {G : AM}
theorem se_isx {i k : Nat} : SE cg cf G (.isx i k) := by
  intro st e h X T W S tk
  unfold chkE at h
  split at h <;> first | cases h | skip
  rename_i f pf x px y py pos
  simp only [Bool.and_eq_true] at h
  obtain ⟨⟨⟨⟨⟨⟨⟨h1, h2⟩, h3⟩, h4⟩, h5⟩, h6⟩, h7⟩, h8⟩ := h
  obtain rfl := eq_of_beq h1
  obtain ⟨g1, g2, g3⟩ := glo_of S h2
  obtain ⟨y1, y2, y3⟩ := glo_of S h8
  have hm := S.free _ (contains_mem h3)
  obtain ⟨d1, d2⟩ := okN_of h6
  refine ⟨fun pins s σ H Q I q => ?_⟩
  obtain ⟨ρ, env, o⟩ := q
  unfold semE at o
  split at o
  · rename_i C fs g
    obtain ⟨z, ez, hz⟩ := o.lift
    cases eI : cf.exi C k with
    | none => rw [eI] at ez; cases ez
    | some b =>
      rw [eI] at ez
      cases ez
      obtain ⟨DD, cv, eC, F, r1, r2, kit⟩ := S.exI C k b eI
      obtain ⟨v, hv, rv⟩ := env.get g
      have pn : PE X (.Name y py) (tC cv) := by
        rcases S.exN k y (by simpa using h7) with e1 | ⟨e1, e2, e3⟩
        · exact pe_glob y1 e1 r1 y2
        · exact pe_bltn y1 e1 e2 r1 e3 y2
      have pv : PE X (.Name x px) (tVar i) := pe_var (i := i) (by rw [S.N]; exact at_of h4) (vis_of S h5) d1 d2
      have fin := hz H (Post.refl env) (.bl b) (.d (.bl b)) (Fresh.no rfl)
      cases rv with
      | exc m e1 r1 =>
        obtain ⟨oe, vs, hm1, hz1, hd⟩ := S.exT _ m
        exact (pe_callB (call_isx hm1 hz1 hd eC F r2 kit) g1 hm (by decide +kernel) (pa_cons pv (pa_cons pn pa_nil)) g3 g2 (by rfl) (by rfl)).run pins s σ H Q I ⟨_, hv, rfl, fun dd ed => ⟨_, by cases ed; exact e1⟩, fin⟩
      | exc0 m =>
        obtain ⟨oe, vs, hm1, hz1, hd⟩ := S.exT _ m
        exact (pe_callB (call_isx hm1 hz1 hd eC F r2 kit) g1 hm (by decide +kernel) (pa_cons pv (pa_cons pn pa_nil)) g3 g2 (by rfl) (by rfl)).run pins s σ H Q I ⟨_, hv, rfl, fun dd ed => (nomatch ed), fin⟩
  · exact o.elim
theorem st_isx {i k : Nat} : STs cg cf G (.isx i k) := st_val se_isx fun st e _ h => by
  unfold chkE at h
  split at h <;> first | cases h | skip
  exact ⟨fun _ _ => rfl, fun ⟨_, _, _, z⟩ => nomatch z⟩
/-! ### made by keywords -/
def tKw : List PyData → TA
  | [] => tNil
  | .int i :: cs => tCons (tC (.int i)) (tKw cs)
  | .str z :: cs => tCons (tC (.str z)) (tKw cs)
  | _ :: cs => tNil
theorem kw_pk {X : Cx} : ∀ (ks : List Str) (cs : List PyData) (kws : List Keyword), kwB ks cs kws = true → PK X kws (tKw cs) ∧ kws.map (·.arg) = ks.map some ∧ ∃ vs : List V, vs.length = ks.length ∧ (∀ K H, Reps K H vs cs) ∧ ∀ σ H Q, Q vs H → tKw cs σ H Q
  | [], [], [], _ => ⟨pk_nil, rfl, [], rfl, fun _ _ => .nil, fun _ _ _ h => h⟩
  | k :: ks, c :: cs, kw :: kws, h => by
    unfold kwB at h
    split at h <;> first | cases h | skip
    · rename_i e1 e2 e3; cases e1
    · rename_i k2 ks2 i cs2 n j q1 q2 pp r e1 e2 e3
      cases e1
      cases e2
      cases e3
      simp only [Bool.and_eq_true] at h
      obtain ⟨⟨h1, h2⟩, h3⟩ := h
      obtain rfl := eq_of_beq h1
      obtain rfl := eq_of_beq h2
      obtain ⟨a1, a2, vs, a5, a3, a4⟩ := kw_pk ks cs kws h3
      exact ⟨pk_cons pe_int a1, by rw [List.map_cons, List.map_cons, a2], .int i :: vs, congrArg Nat.succ a5, fun K H => .cons (.int i) (a3 K H), fun σ H Q q => a4 _ _ (fun xs H2 => Q (.int i :: xs) H2) q⟩
    · rename_i k2 ks2 i cs2 n j q1 q2 pp r e1 e2 e3
      cases e1
      cases e2
      cases e3
      simp only [Bool.and_eq_true] at h
      obtain ⟨⟨⟨h1, h2⟩, h4⟩, h3⟩ := h
      obtain rfl := eq_of_beq h1
      obtain rfl := eq_of_beq h2
      obtain ⟨a1, a2, vs, a5, a3, a4⟩ := kw_pk ks cs kws h3
      exact ⟨pk_cons pe_str a1, by rw [List.map_cons, List.map_cons, a2], .str i :: vs, congrArg Nat.succ a5, fun K H => .cons (.str i h4) (a3 K H), fun σ H Q q => a4 _ _ (fun xs H2 => Q (.str i :: xs) H2) q⟩
  | [], _ :: _, _, h => by unfold kwB at h; cases h
  | [], [], _ :: _, h => by unfold kwB at h; cases h
  | _ :: _, [], _, h => by unfold kwB at h; cases h
  | _ :: _, _ :: _, [], h => by simp [kwB] at h
theorem se_mkf {k : Nat} {ks : List Str} {perm : List Nat} {cs : List PyData} {f : Str} : SE cg cf G (.mkf k ks perm cs f) := by
  intro st e h X T W S tk
  unfold chkE at h
  split at h <;> first | cases h | skip
  rename_i x px kws pos g pg
  simp only [Bool.and_eq_true] at h
  obtain ⟨⟨⟨⟨⟨h1, h2⟩, h3⟩, h4⟩, h5⟩, h6⟩ := h
  obtain rfl := eq_of_beq h1
  obtain ⟨g1, g2, g3⟩ := glo_of S h3
  obtain ⟨hc, hr, hT⟩ := S.calm h4
  obtain ⟨y, n, fl, eN, eF, mk⟩ := S.kws _ (List.contains_iff_mem.mp h5)
  dsimp only at eN eF mk
  obtain rfl : y = x := by
    have e2 : cg.excN k = some x := by simpa using h2
    exact Option.some.inj (eN.symm.trans e2)
  obtain ⟨p1, p2, vs, p5, p3, p4⟩ := kw_pk (X := X) ks cs kws h6
  refine ⟨fun pins s σ H Q I q => ?_⟩
  obtain ⟨ρ, env, o⟩ := q
  unfold semE at o
  obtain ⟨z, ez, hz⟩ := o.lift
  unfold mkfD at ez
  rw [eF] at ez
  dsimp only at ez
  cases e1 : fl.lookup g with
  | none => rw [e1] at ez; cases ez
  | some j =>
    rw [e1, Option.bind_some] at ez
    cases e2 : perm[j]? with
    | none => rw [e2] at ez; cases ez
    | some i =>
      rw [e2, Option.bind_some] at ez
      cases e3 : cs[i]? with
      | none => rw [e3] at ez; cases ez
      | some dv =>
        rw [e3] at ez
        cases ez
        obtain ⟨v, l1, l2⟩ := (p3 X.K H).get e3
        exact (mk X rfl rfl rfl rfl rfl hc hr S.gd kws (tKw cs) px pos pg g j i g1 g2 p1 p2 e1 e2).run pins s σ H Q I (p4 _ _ _ ⟨v, p5, l1, hz H (Post.refl env) v (.d l2) (Fresh.no rfl)⟩)
end
end EV

/-! Statements held against the small language. -/
namespace EV
open PySem PySem.Spec PyProof.Rows L2
def isTup : Expr → Bool
  | .Tuple _ _ _ => true
  | _ => false
def isComp : C → Bool
  | .comp _ _ _ _ _ _ => true
  | _ => false
/-- does a comprehension's value go to its name without a rest -/
def swOne (sc : Scope) (t v : Expr) : Bool := match v with
  | .ListComp _ _ s p => (match t with
    | .Name y py => sc.names.lookup y == some .local && py.line == p.line && !(s.names.any fun q => q.1 == y && (q.2 == .local || q.2 == .cell))
    | _ => false)
  | _ => false
/-- the names of stores that are swapped; none: not told -/
def swapN (sc : Scope) (ts vs : List Expr) : Option (Option (List Str)) :=
  if !(ts.length == 2 || ts.length == 3) || vs.length != ts.length then some none
  else if vs.any fun | .Starred .. => true | _ => false then some none
  else
    let line := (ts.head?.map (·.pos.line)).getD 0
    let names := ts.filterMap fun
      | .Name id pos => if sc.names.lookup id == some .local && pos.line == line then some id else none
      | _ => none
    if names.length != ts.length || names.eraseDups.length != names.length then some none
    else if vs.all (foldedForSure 8) then some none
    else if vs.all (constantsAlone 8) then none
    else some (some names)
/-- how a pair's stores go: false: by a tuple; true: swapped -/
def parB (sc : Scope) (ts vs : List Expr) : Option Bool := match swapN sc ts vs with
  | some none => some false
  | some (some ns) => (match ts, vs with
    | [.Name x _, .Name y _], [_, _] => if ns = [x, y] ∧ sc.names.lookup x = some .local ∧ sc.names.lookup y = some .local then some true else none
    | [.Name x _, .Name y _, .Name z _], [_, _, _] => if ns = [x, y, z] ∧ sc.names.lookup x = some .local ∧ sc.names.lookup y = some .local ∧ sc.names.lookup z = some .local then some true else none
    | _, _ => none)
  | none => none
def kindFn (sc : Scope) : Bool := match sc.kind with
  | .function => true
  | _ => false
def slotB (st : Sc) (N : List Str) (slot : Option Nat) (n : Option Str) : Bool := match slot, n with
  | none, none => true
  | some i, some x => N[i]? == some x && kindB st x == some .local
  | _, _ => false
def hot (st : Sc) : Sc := { st with calm := false }
/-- x.m(e, ..) of a name -/
def mcall (st : Sc) (N : List Str) (i : Nat) (m : Str) (e : Expr) : Option (List Expr) := match e with
  | .Call (.Attribute (.Name x _) g apos) es [] cpos => if g == m && (apos.endLine == cpos.line) && N[i]? == some x && visB st x && okN x then some es else none
  | _ => none
mutual
def chkS (cg : Cfg) (st : Sc) : C → Stmt → Bool
  | .skip, s => (match s with
    | .Pass _ => true
    | .Expr (.Constant (.str _) _ _) _ => true
    | _ => false)
  | .asg tg e, s => (match s with
    | .Assign [t] v _ => tgB st cg.N tg t && chkE cg st e v && !(isTup t && isTup v) && (!isTup t || st.calm) && (!swOne st.sc t v || (isComp e && !isTup t))
    | _ => false)
  | .par is es, s => (match s with
    | .Assign [.Tuple ts _ _] (.Tuple vs _ _) _ => nmsB st cg.N is ts && chkL cg st es vs && st.calm && decide (vs.length ≤ 1000) && decide (is.length ≤ 1000) && decide is.Nodup && (match parB st.sc ts vs with
      | some _ => true
      | none => false)
    | _ => false)
  | .asgI i ix e, s => (match s with
    | .Assign [.Subscript (.Name x _) k _] v _ => cg.N[i]? == some x && visB st x && okN x && chkE cg st ix k && chkE cg st e v
    | _ => false)
  | .aug i o e, s => (match s with
    | .AugAssign (.Name x _) p v _ => opB o p && (match o with | .add => true | .sub => true | _ => false) && cg.N[i]? == some x && stoB st x && chkE cg st e v
    | _ => false)
  | .app i e, s => (match s with
    | .Expr v _ => (match mcall st cg.N i "append" v with
      | some [w] => chkE cg st e w
      | _ => false)
    | _ => false)
  | .ext i e, s => (match s with
    | .Expr v _ => (match mcall st cg.N i "extend" v with
      | some [w] => chkE cg st e w
      | _ => false)
    | _ => false)
  | .ins i ix e, s => (match s with
    | .Expr v _ => (match mcall st cg.N i "insert" v with
      | some [k, w] => chkE cg st ix k && chkE cg st e w
      | _ => false)
    | _ => false)
  | .ex e, s => (match s with
    | .Expr (.Call f as ks p) _ => chkE cg st e (.Call f as ks p)
    | _ => false)
  | .ret e, s => (match s with
    | .Return (some v) _ => chkE cg st e v
    | .Return none _ => (match e with | .none => true | _ => false)
    | _ => false)
  | .ifs c a b, s => (match s with
    | .If t x y _ => okT c && chkE cg st c t && chkB cg st a x && chkB cg st b y
    | _ => false)
  | .fors tg ik it body, s => (match s with
    | .For t iter x [] _ => st.calm && tgB st cg.N tg t && (match iterArgs cg st ik iter with | some es => chkL cg st it es | none => false) && chkB cg st body x
    | _ => false)
  | .whl _ c body, s => (match s with
    | .While t x [] _ => okT c && chkE cg st c t && chkB cg st body x
    | _ => false)
  | .raise X es, s => (match s with
    | .Raise (some (.Call (.Name x _) (l :: r) [] _)) none _ => st.calm && cg.excN X == some x && cg.excR X && gloB st x && chkL cg st es (l :: r)
    | .Raise (some (.Call (.Name x _) [] [] _)) none _ => (match es with
      | .nil => st.calm && cg.excN X == some x && cg.ex0 X && gloB st x
      | _ => false)
    | _ => false)
  | .tryx body hs, s => (match s with
    | .Try x (h :: r) [] [] _ => st.calm && chkB cg st body x && chkH cg st hs (h :: r)
    | _ => false)
  | _, _ => false
def chkB (cg : Cfg) (st : Sc) : C → List Stmt → Bool
  | .skip, s => s.isEmpty
  | .seq a b, s => (match s with
    | x :: r => chkS cg st a x && chkB cg st b r
    | [] => false)
  | _, _ => false
def chkH (cg : Cfg) (st : Sc) : C → List ExceptHandler → Bool
  | .nil, s => s.isEmpty
  | .hnd X slot suite rest, s => (match s with
    | .ExceptHandler (some (.Name x _)) n (y :: r) _ :: hs => cg.excN X == some x && gloB st x && slotB st cg.N slot n && chkB cg (hot st) suite (y :: r) && chkH cg st rest hs
    | _ => false)
  | _, _ => false
end
section
variable {cg : Cfg} {cf : Cf} {G : AM} {T : XT} {st : Sc} {X : Cx} {W : WX}
theorem chk_setc : ∀ (c : C) (e : Expr) (g : List Comprehension) (s : Scope) (p : Pos), chkE cg st c (.SetComp e g s p) = false := by
  intro c
  induction c with
  | frz a ih => intro e g s p; unfold chkE; exact ih e g s p
  | _ => intro e g s p; first | rfl | (unfold chkE; rfl)
theorem chk_dictc : ∀ (c : C) (k e : Expr) (g : List Comprehension) (s : Scope) (p : Pos), chkE cg st c (.DictComp k e g s p) = false := by
  intro c
  induction c with
  | frz a ih => intro k e g s p; unfold chkE; exact ih k e g s p
  | _ => intro k e g s p; first | rfl | (unfold chkE; rfl)
theorem blk_fn {sc : Scope} {env : PySem.Env} (h : env.scope = sc) (k : sc.kind = .function) : env.blockKind = .function := by unfold Env.blockKind; rw [h, k]; rfl
theorem pureB {α : Type} (b : Bool) (x : α) (f g : Sem α) (h1 : b = true → f = pure x) (h2 : b = false → g = pure x) : (if b = true then f else g) = pure x := by cases b <;> simp [h1, h2]
theorem swN_of {ts vs : List Expr} {r : Option (List Str)} {kt k2 : Nat} {pt p2 : Pos} {env : PySem.Env} (he : env.scope = st.sc) (k : st.sc.kind = .function) (h : swapN st.sc ts vs = some r) : swappedStores [.Tuple ts kt pt] (.Tuple vs k2 p2) env = pure r := by
  have hb := blk_fn he k
  have hk : ∀ x, env.kindOf x = st.sc.names.lookup x := fun x => by unfold Env.kindOf; rw [he]
  unfold swapN at h
  unfold swappedStores
  simp only [hb, hk]
  dsimp only at h
  split at h
  · rename_i c1
    cases h
    refine if_pos ?_
    rw [c1]; rfl
  · rename_i c1
    rw [Bool.not_eq_true] at c1
    refine (if_neg ?_).trans ?_
    · rw [c1]; intro z; cases z
    split at h
    · rename_i c2
      cases h
      exact if_pos c2
    · rename_i c2
      refine (if_neg c2).trans ?_
      split at h
      · rename_i c3
        cases h
        exact if_pos c3
      · rename_i c3
        refine (if_neg c3).trans ?_
        split at h
        · rename_i c4
          cases h
          exact if_pos c4
        · rename_i c4
          refine (if_neg c4).trans ?_
          split at h
          · cases h
          · rename_i c5
            cases h
            refine (if_neg c5).trans ?_
            rfl
theorem sw_of {c : C} {t v : Expr} {l : Nat} {env : PySem.Env} (h : chkE cg st c v = true) (he : env.scope = st.sc) (k : st.sc.kind = .function) : swapsWith v (some t) l env = pure (swOne st.sc t v) := by
  have hb := blk_fn he k
  have hk : ∀ x, env.kindOf x = st.sc.names.lookup x := fun x => by unfold Env.kindOf; rw [he]
  cases v with
  | ListComp e g s p =>
    cases t with
    | Name y py =>
      unfold swapsWith
      simp only [hb, hk]
      rfl
    | _ => rfl
  | SetComp e g s p => rw [chk_setc] at h; cases h
  | DictComp x e g s p => rw [chk_dictc] at h; cases h
  | _ => rfl
end
end EV

/-! Statements: each construct. -/
namespace EV
open PySem PySem.Spec PyProof.Rows L2
section
variable (cg : Cfg) (cf : Cf) (G : AM)
def SS (c : C) : Prop := ∀ (st : Sc) (s : Stmt), chkS cg st c s = true → ∀ (X : Cx) (T : XT) (W : WX), SX cg cf G T st X → SY X st → Takes X W → PS X s (tS X.K G T W cf.pin (semS cf c))
def SK (c : C) : Prop := ∀ (st : Sc) (s : List Stmt), chkB cg st c s = true → ∀ (X : Cx) (T : XT) (W : WX), SX cg cf G T st X → SY X st → Takes X W → PSs X s (tS X.K G T W cf.pin (semS cf c))
/-- clauses: what they wish is what the run asks -/
def SH (c : C) : Prop := ∀ (st : Sc) (hs : List ExceptHandler), chkH cg st c hs = true → ∀ (X : Cx), SX cg cf G [] st X → st.sc.kind = .function → ∃ l, ClOk X hs l ∧
  ∀ (W : WX) (D : Ends) (σ : St) (H : Hp) (ρ : Env) (e : Err) (cls : Value) (d : Option Addr), EnvR X.K G [] σ H ρ → ErrR X.K G H cls d e → OutS X.K G [] W cf.pin σ H ρ (semH cf c e ρ) D → wCl X.K W D l cls d σ H
end
section
variable {cg : Cfg} {cf : Cf} {G : AM} {a b c e ix es it body cond elt suite rest hs : C}
theorem ss_skip : SS cg cf G .skip := by
  intro st s h X T W S Y tk
  unfold chkS at h
  split at h
  · exact PS.imp ps_pass fun D σ H q => skip_read q
  · exact PS.imp ps_doc fun D σ H q => skip_read q
  · cases h
theorem isTup_no {t : Expr} (h : isTup t = false) {st : Sc} {N : List Str} {tg : Tg} (g : tgB st N tg t = true) : ∃ i x p, tg = .one i ∧ t = .Name x p ∧ nmB st N i t = true := by
  cases tg with
  | one i =>
    have g' : nmB st N i t = true := g
    unfold nmB at g'
    split at g'
    · exact ⟨i, _, _, rfl, rfl, g⟩
    · cases g'
  | many is =>
    unfold tgB at g
    dsimp only at g
    split at g
    · cases h
    · cases g
theorem each_tg {t : Expr} {st : Sc} {N : List Str} {tg : Tg} (g : tgB st N tg t = true) (env : PySem.Env) : (assignEach [t] env).map (·.2) = [assign t env] := by
  cases tg with
  | one i =>
    have g' : nmB st N i t = true := g
    rw [nm_each g']
    rfl
  | many is =>
    unfold tgB at g
    dsimp only at g
    split at g
    · rfl
    · cases g
theorem noSw {t v : Expr} (h : (isTup t && isTup v) = false) {st : Sc} {N : List Str} {tg : Tg} (g : tgB st N tg t = true) (env : PySem.Env) : swappedStores [t] v env = pure none := by
  cases tg with
  | one i =>
    have g' : nmB st N i t = true := g
    unfold nmB at g'
    split at g'
    · rfl
    · cases g'
  | many is =>
    unfold tgB at g
    dsimp only at g
    split at g
    · cases v <;> first | rfl | cases h
    · cases g
theorem ss_asg {tg : Tg} (ie : SE cg cf G e) (ic : ∀ own tg' ik it cond elt, e = .comp own tg' ik it cond elt → SE1 cg cf G it ∧ SLs cg cf G it ∧ STs cg cf G cond ∧ SE cg cf G elt) : SS cg cf G (.asg tg e) := by
  intro st s h X T W S Y tk
  unfold chkS at h
  split at h <;> first | cases h | skip
  rename_i t v pos
  simp only [Bool.and_eq_true, Bool.not_eq_true', Bool.or_eq_true] at h
  obtain ⟨⟨⟨⟨h1, h2⟩, h3⟩, h4⟩, h5⟩ := h
  have hsw := sw_of (t := t) (l := pos.line) h2 S.sc Y.kind
  cases hs : swOne st.sc t v with
  | false =>
    rw [hs] at hsw
    cases ht : isTup t with
    | false =>
      obtain ⟨i, x, p, rfl, rfl, g⟩ := isTup_no ht h1
      have pg := pg_nm S g
      refine PS.imp (ps_asg (ie st v h2 X T W S tk) pg hsw (noSw h3 h1 _) (each_tg h1 _)) fun D σ H q => asg1_read q
    | true =>
      have hc : st.calm = true := h4.resolve_left (by rw [ht]; intro z; cases z)
      have pg := pg_tg S h1 hc
      refine PS.imp (ps_asg (ie st v h2 X T W S tk) pg hsw (noSw h3 h1 _) (each_tg h1 _)) fun D σ H q => ?_
      cases tg with
      | one i => exact asg1_read q
      | many is => exact asgM_read q
  | true =>
    rw [hs] at hsw
    obtain ⟨k1, k2⟩ := h5.resolve_left (by rw [hs]; intro z; cases z)
    obtain ⟨i, x, p, rfl, rfl, g⟩ := isTup_no k2 h1
    cases e <;> first | cases k1 | skip
    rename_i own tg' ik it cond elt
    obtain ⟨c1, c2, c3, c4⟩ := ic _ _ _ _ _ _ rfl
    obtain ⟨el, tgt, iter, ifs, scope, vpos, yes, rfl, hc, q1, ok, pg, pt, pe, q2, rd⟩ := comp_parts c1 c2 c3 c4 h2 S tk
    unfold nmB at g
    simp only [Bool.and_eq_true] at g
    have hl : X.env.scope.names.lookup x = some .local := by
      rw [S.sc]
      unfold swOne at hs
      simp only [Bool.and_eq_true] at hs
      simpa using hs.1.1
    exact PS.imp (ps_setLc hc (by rw [S.N]; exact S.nd) (by rw [S.N]; exact at_of g.1.1) hl hsw q1 ok pg pt pe q2) fun D σ H q => rd _ _ _ (asg1_read q)
theorem ss_par {is : List Nat} (ie : SLs cg cf G es) : SS cg cf G (.par is es) := by
  intro st s h X T W S Y tk
  unfold chkS at h
  split at h <;> first | cases h | skip
  rename_i ts kt pt vs k2 p2 pos
  simp only [Bool.and_eq_true, decide_eq_true_eq] at h
  obtain ⟨⟨⟨⟨⟨⟨h1, h2⟩, h3⟩, h4⟩, h5⟩, h6⟩, h7⟩ := h
  have pa := ie st vs h2 X T W S tk
  cases hp : parB st.sc ts vs with
  | none => rw [hp] at h7; cases h7
  | some sw =>
    unfold parB at hp
    split at hp
    · rename_i hw
      have sw0 := swN_of (kt := kt) (k2 := k2) (pt := pt) (p2 := p2) S.sc Y.kind hw
      obtain ⟨q1, q2, q3⟩ := pgs_nms S h1
      exact PS.imp (ps_asg (pe_tup pa) (pg_tup (S.calm h3).1 q1 q2 q3) rfl sw0 rfl) fun D σ H q => parT_read (fun ρ ss ρ' e => by rw [semL_len _ _ h2 _ _ _ e]; exact h4) h5 q
    · rename_i ns hw
      have sw0 := swN_of (kt := kt) (k2 := k2) (pt := pt) (p2 := p2) S.sc Y.kind hw
      split at hp
      · rename_i x px y py a b
        split at hp <;> first | cases hp | skip
        rename_i hh
        obtain ⟨rfl, lx, ly⟩ := hh
        have hl := nms_len h1
        obtain ⟨i, j, rfl⟩ : ∃ i j, is = [i, j] := by
          match is, hl with
          | [i, j], _ => exact ⟨i, j, rfl⟩
        · simp only [nmsB, nmB, Bool.and_eq_true] at h1
          have hij : i ≠ j := fun z => by rw [z] at h6; simp at h6
          refine PS.imp (ps_par (S.calm h3).1 (by rw [S.N]; exact S.nd) (by rw [S.N]; exact at_of h1.1.1.1) (by rw [S.N]; exact at_of h1.2.1.1.1) hij (by rw [S.sc]; exact lx) (by rw [S.sc]; exact ly) pa sw0) fun D σ H q => par2_read q
      · rename_i x px y py z pz a b c
        split at hp <;> first | cases hp | skip
        rename_i hh
        obtain ⟨rfl, lx, ly, lz⟩ := hh
        have hl := nms_len h1
        obtain ⟨i, j, k, rfl⟩ : ∃ i j k, is = [i, j, k] := by
          match is, hl with
          | [i, j, k], _ => exact ⟨i, j, k, rfl⟩
        · simp only [nmsB, nmB, Bool.and_eq_true] at h1
          have hij : i ≠ j := fun z => by rw [z] at h6; simp at h6
          have hik : i ≠ k := fun z => by rw [z] at h6; simp at h6
          have hjk : j ≠ k := fun z => by rw [z] at h6; simp at h6
          refine PS.imp (ps_par3 (S.calm h3).1 (by rw [S.N]; exact S.nd) (by rw [S.N]; exact at_of h1.1.1.1) (by rw [S.N]; exact at_of h1.2.1.1.1) (by rw [S.N]; exact at_of h1.2.2.1.1.1) hij hik hjk (by rw [S.sc]; exact lx) (by rw [S.sc]; exact ly) (by rw [S.sc]; exact lz) pa sw0) fun D σ H q => par3_read q
      · cases hp
    · cases hp
theorem chk_slice {st : Sc} : ∀ (c : C) (l u t : Option Expr) (p : Pos), chkE cg st c (.Slice l u t p) = false := by
  intro c
  induction c with
  | frz a ih => intro l u t p; unfold chkE; exact ih l u t p
  | _ => intro l u t p; first | rfl | (unfold chkE; rfl)
theorem ss_asgI {i : Nat} (ii : SE cg cf G ix) (ie : SE cg cf G e) : SS cg cf G (.asgI i ix e) := by
  intro st s h X T W S Y tk
  unfold chkS at h
  split at h <;> first | cases h | skip
  rename_i x px k spos v pos
  simp only [Bool.and_eq_true] at h
  obtain ⟨⟨⟨⟨h1, h2⟩, h3⟩, h4⟩, h5⟩ := h
  obtain ⟨d1, d2⟩ := okN_of h3
  have hsw := sw_of (t := .Subscript (.Name x px) k spos) (l := pos.line) h5 S.sc Y.kind
  have e1 : swOne st.sc (.Subscript (.Name x px) k spos) v = false := by unfold swOne; cases v <;> rfl
  rw [e1] at hsw
  refine PS.imp (ps_asg (ie st v h5 X T W S tk) (pg_sub (pe_var (i := i) (by rw [S.N]; exact at_of h1) (vis_of S h2) d1 d2) (ii st k h4 X T W S tk) set_list ?_) hsw rfl rfl) fun D σ H q => asgI_read q
  intro w
  cases k <;> first | rfl | (rw [chk_slice] at h4; cases h4)
theorem ss_aug {i : Nat} {o : BOp} (ie : SE cg cf G e) : SS cg cf G (.aug i o e) := by
  intro st s h X T W S Y tk
  unfold chkS at h
  split at h <;> first | cases h | skip
  rename_i x px p v pos
  simp only [Bool.and_eq_true] at h
  obtain ⟨⟨⟨⟨h1, h2⟩, h3⟩, h4⟩, h5⟩ := h
  obtain rfl := opB_eq h1
  obtain ⟨l1, l2⟩ := loc_of S h4
  have ho : o = .add ∨ o = .sub := by cases o <;> first | exact .inl rfl | exact .inr rfl | cases h2
  have hip : PIp X (opOf o) (ipI fun a b => if o = .add then a + b else a - b) := by
    rcases ho with rfl | rfl
    · exact ip_add
    · exact ip_sub
  exact PS.imp (ps_aug (by rw [S.N]; exact S.nd) (by rw [S.N]; exact at_of h3) l1 (ie st v h5 X T W S tk) hip l2) fun D σ H q => aug_read ho q
theorem mcall_of {st : Sc} {N : List Str} {i : Nat} {m : Str} {e : Expr} {es : List Expr} (h : mcall st N i m e = some es) : ∃ x px apos cpos, e = .Call (.Attribute (.Name x px) m apos) es [] cpos ∧ (apos.endLine == cpos.line) = true ∧ N[i]? = some x ∧ visB st x = true ∧ okN x = true := by
  unfold mcall at h
  split at h
  · split at h
    · rename_i hc
      simp only [Bool.and_eq_true] at hc
      obtain ⟨⟨⟨⟨c1, c2⟩, c3⟩, c4⟩, c5⟩ := hc
      cases h
      obtain rfl := eq_of_beq c1
      exact ⟨_, _, _, _, rfl, c2, at_of c3, c4, c5⟩
    · cases h
  · cases h
theorem few1 {st : Sc} {c : C} {e : Expr} {cpos : Pos} {env : PySem.Env} (h : chkE cg st c e = true) : ((backTo cpos (starEach [e] env)).all (fun x => !x.1) && (backToKw cpos (keywordEach [] env)).all (fun x => x.1.isSome) && decide ([e].length + ([] : List Keyword).length + (if ([] : List Keyword).isEmpty then 0 else 1) < 30)) = true := by
  rw [noStar h]
  rfl
theorem few2 {st : Sc} {c c' : C} {e e' : Expr} {cpos : Pos} {env : PySem.Env} (h : chkE cg st c e = true) (h' : chkE cg st c' e' = true) : ((backTo cpos (starEach [e, e'] env)).all (fun x => !x.1) && (backToKw cpos (keywordEach [] env)).all (fun x => x.1.isSome) && decide ([e, e'].length + ([] : List Keyword).length + (if ([] : List Keyword).isEmpty then 0 else 1) < 30)) = true := by
  rw [noStar h, noStar h']
  rfl
theorem ss_app {i : Nat} (ie : SE cg cf G e) : SS cg cf G (.app i e) := by
  intro st s h X T W S Y tk
  unfold chkS at h
  split at h <;> first | cases h | skip
  split at h <;> first | cases h | skip
  rename_i v pos w hm
  obtain ⟨x, px, apos, cpos, rfl, hl, h1, h2, h3⟩ := mcall_of hm
  obtain ⟨d1, d2⟩ := okN_of h3
  exact PS.imp (ps_expr (pe_bm PySem.F.plainAttrs_list PySem.F.slot_list_append PySem.F.type_list_append mt_append (pe_var (i := i) (by rw [S.N]; exact h1) (vis_of S h2) d1 d2) (pa_cons (ie st w h X T W S tk) pa_nil (noStar h _ _)) rfl (few1 h) hl (noStar h _ _) rfl)) fun D σ H q => app_read q
theorem ss_ext {i : Nat} (ie : SE cg cf G e) : SS cg cf G (.ext i e) := by
  intro st s h X T W S Y tk
  unfold chkS at h
  split at h <;> first | cases h | skip
  split at h <;> first | cases h | skip
  rename_i v pos w hm
  obtain ⟨x, px, apos, cpos, rfl, hl, h1, h2, h3⟩ := mcall_of hm
  obtain ⟨d1, d2⟩ := okN_of h3
  exact PS.imp (ps_expr (pe_bm PySem.F.plainAttrs_list PySem.F.slot_list_extend PySem.F.type_list_extend mt_ext (pe_var (i := i) (by rw [S.N]; exact h1) (vis_of S h2) d1 d2) (pa_cons (ie st w h X T W S tk) pa_nil (noStar h _ _)) rfl (few1 h) hl (noStar h _ _) rfl)) fun D σ H q => ext_read q
theorem ss_ins {i : Nat} (ii : SE cg cf G ix) (ie : SE cg cf G e) : SS cg cf G (.ins i ix e) := by
  intro st s h X T W S Y tk
  unfold chkS at h
  split at h <;> first | cases h | skip
  split at h <;> first | cases h | skip
  rename_i v pos k w hm
  rw [Bool.and_eq_true] at h
  obtain ⟨x, px, apos, cpos, rfl, hl, h1, h2, h3⟩ := mcall_of hm
  obtain ⟨d1, d2⟩ := okN_of h3
  have n2 := noStar h.2 [] X.env
  exact PS.imp (ps_expr (pe_bm PySem.F.plainAttrs_list PySem.F.slot_list_insert PySem.F.type_list_insert mt_insert (pe_var (i := i) (by rw [S.N]; exact h1) (vis_of S h2) d1 d2) (pa_cons (ii st k h.1 X T W S tk) (pa_cons (ie st w h.2 X T W S tk) pa_nil n2) (noStar h.1 _ _)) rfl (few2 h.1 h.2) hl (noStar h.1 _ _) (by rw [n2]; rfl))) fun D σ H q => ins_read q
theorem ss_ex (ie : SE cg cf G e) : SS cg cf G (.ex e) := by
  intro st s h X T W S Y tk
  unfold chkS at h
  split at h <;> first | cases h | skip
  exact PS.imp (ps_expr (ie st _ h X T W S tk)) fun D σ H q => ex_read q
theorem ss_ret (ie : SE cg cf G e) : SS cg cf G (.ret e) := by
  intro st s h X T W S Y tk
  unfold chkS at h
  split at h <;> first | cases h | skip
  · exact PS.imp (ps_ret (ie st _ h X T W S tk)) fun D σ H q => ret_read q
  · split at h <;> first | cases h | skip
    refine PS.imp ps_retN fun D σ H q => ?_
    obtain ⟨ρ, env, o⟩ := q
    exact (o : OutS X.K G T W cf.pin σ H ρ (.ok (.ret (.d .none)) ρ) D) σ H .non (Post.refl env) (.d .non) (Fresh.no rfl)
theorem ss_ifs (ic : STs cg cf G c) (ia : SK cg cf G a) (ib : SK cg cf G b) : SS cg cf G (.ifs c a b) := by
  intro st s h X T W S Y tk
  unfold chkS at h
  split at h <;> first | cases h | skip
  simp only [Bool.and_eq_true] at h
  obtain ⟨⟨⟨h1, h2⟩, h3⟩, h4⟩ := h
  exact PS.imp (ps_if (ic st _ h1 h2 X T W S tk).1 (ia st _ h3 X T W S Y tk) (ib st _ h4 X T W S Y tk)) fun D σ H q => ifs_read q
theorem ss_fors {tg : Tg} {ik : IK} (i1 : SE1 cg cf G it) (ia : SLs cg cf G it) (ib : SK cg cf G body) : SS cg cf G (.fors tg ik it body) := by
  intro st s h X T W S Y tk
  unfold chkS at h
  split at h <;> first | cases h | skip
  simp only [Bool.and_eq_true] at h
  obtain ⟨⟨⟨h1, h2⟩, h3⟩, h4⟩ := h
  split at h3 <;> first | cases h3 | skip
  rename_i he
  obtain ⟨q1, q2⟩ := pi_it i1 ia he h3 S tk
  have e1 : semI cf ik it = fun ρ => (semL cf it ρ).bind fun xs ρ => R.lift ((iterD ik xs).map fun z => (z, [])) ρ := by
    cases ik <;> first | rfl | cases he
  rw [e1] at q1
  exact PS.imp (ps_for Y.po (S.calm h1).1 q1 (pg_tg S h2 h1) (ib st _ h4 X T W S Y tk) q2) fun D σ H q => fors_read q
theorem ss_whl {n : Nat} (ic : STs cg cf G c) (ib : SK cg cf G body) : SS cg cf G (.whl n c body) := by
  intro st s h X T W S Y tk
  unfold chkS at h
  split at h <;> first | cases h | skip
  simp only [Bool.and_eq_true] at h
  obtain ⟨⟨h1, h2⟩, h3⟩ := h
  exact PS.imp (ps_while Y.po (ic st _ h1 h2 X T W S tk).1 (ib st _ h3 X T W S Y tk)) fun D σ H q => whl_read q
theorem ss_raise {k : Nat} (ie : SLs cg cf G es) : SS cg cf G (.raise k es) := by
  intro st s h X T W S Y tk
  unfold chkS at h
  split at h <;> first | cases h | skip
  rotate_left
  · split at h <;> first | cases h | skip
    simp only [Bool.and_eq_true] at h
    obtain ⟨⟨⟨h1, h2⟩, h3⟩, h4⟩ := h
    obtain ⟨g1, g2, g3⟩ := glo_of S h4
    obtain ⟨hc, hr, hT⟩ := S.calm h1
    obtain ⟨eF, mk⟩ := S.mk0 k _ (by simpa using h2) h3
    exact PS.imp (ps_raise hc tk (mk X rfl rfl rfl rfl rfl hc hr S.gd _ _ g1 g2)) fun D σ H q => raise0_read eF q
  simp only [Bool.and_eq_true] at h
  obtain ⟨⟨⟨⟨h1, h2⟩, h3⟩, h4⟩, h5⟩ := h
  obtain ⟨g1, g2, g3⟩ := glo_of S h4
  obtain ⟨hc, hr, hT⟩ := S.calm h1
  obtain ⟨n, fl, eF, mk⟩ := S.mks k _ (by simpa using h2) h3
  have mk := mk X rfl rfl rfl rfl rfl hc hr S.gd
  cases es with
  | cons a b =>
    have h6 := h5
    unfold chkL at h6
    rw [Bool.and_eq_true] at h6
    exact PS.imp (ps_raise hc tk (mk _ _ _ _ _ g1 g2 (ie st _ h5 X T W S tk) (noStar h6.1 _ _) (noStarL b h6.2))) fun D σ H q => raise_read eF q
  | _ => cases h5
/-! ### blocks -/
theorem sk_skip : SK cg cf G .skip := by
  intro st s h X T W S Y tk
  unfold chkB at h
  cases s with
  | nil => exact PSs.imp pss_nil fun D σ H q => skip_read q
  | cons _ _ => cases h
theorem sk_seq (ia : SS cg cf G a) (ib : SK cg cf G b) : SK cg cf G (.seq a b) := by
  intro st s h X T W S Y tk
  unfold chkB at h
  split at h <;> first | cases h | skip
  rw [Bool.and_eq_true] at h
  exact PSs.imp (pss_cons (ia st _ h.1 X T W S Y tk) (ib st _ h.2 X T W S Y tk)) fun D σ H q => seq_read q
/-! ### try -/
theorem sx_tr {T : XT} {st : Sc} {X : Cx} (S : SX cg cf G T st X) (hT : T = []) (pn : List (Addr × Obj)) (xe : Value → Shared → Prop) : SX cg cf G T st (X.tr pn xe) where
  N := S.N
  nd := S.nd
  sc := S.sc
  fn := S.fn
  calm := S.calm
  gd := S.gd
  un := S.un
  free := S.free
  gls := S.gls
  gfn := S.gfn
  fns := S.fns
  exT := fun t ht => by rw [hT] at ht; cases ht
  exN := S.exN
  exM := S.exM
  exF := S.exF
  exI := S.exI
  kws := S.kws
  mk0 := S.mk0
  mks := S.mks
theorem sx_suite {st : Sc} {X : Cx} (S : SX cg cf G [] st X) {a : Addr} {oe : Obj} {cls : Value} {d : Option Addr} {pn : List (Addr × Obj)} (hz : Zc cls d oe) (hf : ∃ vs, oe.data = .fields vs) (T : XT) (hT : T = [] ∨ T = [(a, cls, d)]) : SX cg cf G T (hot st) (X.suite a ((a, oe) :: pn)) where
  N := S.N
  nd := S.nd
  sc := S.sc
  fn := S.fn
  calm := fun z => by cases z
  gd := S.gd
  un := S.un
  free := S.free
  gls := S.gls
  gfn := S.gfn
  fns := S.fns
  exT := fun t ht => by
    rcases hT with rfl | rfl
    · cases ht
    · obtain ⟨vs, hd⟩ := hf
      have : t = (a, cls, d) := by simpa using ht
      subst this
      exact ⟨oe, vs, List.mem_cons_self, hz, hd⟩
  exN := S.exN
  exM := S.exM
  exF := S.exF
  exI := S.exI
  kws := S.kws
  mk0 := S.mk0
  mks := S.mks
theorem takesS {X : Cx} : Takes X W0 := fun u s' ⟨a, B, sI, pins, σ, H, cls, d, e, I, nb, up, sky, na, os, ag, w⟩ => w.elim
theorem sh_nil : SH cg cf G .nil := by
  intro st hs h X S k
  unfold chkH at h
  cases hs with
  | cons _ _ => cases h
  | nil => exact ⟨[], .nil, fun W D σ H ρ e cls d env er o => (o : OutS X.K G [] W cf.pin σ H ρ (.err e ρ) D) σ cls d H (Post.refl env) er⟩
theorem sh_hnd {k : Nat} {slot : Option Nat} (is : SK cg cf G suite) (ir : SH cg cf G rest) : SH cg cf G (.hnd k slot suite rest) := by
  intro st hs h X S kk
  unfold chkH at h
  split at h <;> first | cases h | skip
  rename_i x px n y r hpos hs2
  simp only [Bool.and_eq_true] at h
  obtain ⟨⟨⟨⟨h1, h2⟩, h3⟩, h4⟩, h5⟩ := h
  obtain ⟨l, cl, rd⟩ := ir st _ h5 X S kk
  obtain ⟨g1, g2, g3⟩ := glo_of S h2
  have nm : Names X x (G.exc k) := ⟨g1, g2, S.exN k x (by simpa using h1)⟩
  have su : SuiteOk X (y :: r) (tCl X.K G cf slot suite) := fun a oe cls d pn hz hf => by
    cases slot with
    | none => exact is _ _ h4 _ [] W0 (sx_suite S hz hf [] (.inl rfl)) ⟨kk, PassesOwn.never, fun z => by cases z⟩ takesS
    | some i => exact is _ _ h4 _ [(a, cls, d)] W0 (sx_suite S hz hf _ (.inr rfl)) ⟨kk, PassesOwn.never, fun z => by cases z⟩ takesS
  refine ⟨(G.exc k, slot, tCl X.K G cf slot suite) :: l, ?_, fun W D σ H ρ e cls d env er o => ?_⟩
  · cases slot with
    | none =>
      cases n with
      | none => exact .plain nm su cl
      | some _ => cases h3
    | some i =>
      cases n with
      | none => cases h3
      | some nn =>
        unfold slotB at h3
        simp only [Bool.and_eq_true] at h3
        refine .named nm (by rw [S.N]; exact at_of h3.1) ?_ su cl
        unfold Env.kindOf
        rw [S.sc]
        have := h3.2
        unfold kindB at this
        simpa using this
  · unfold semH at o
    split at o
    · rename_i hm
      refine ⟨true, ?_, ?_⟩
      · rw [er.1]; exact S.exM _ _ _ hm
      · rw [if_pos rfl]
        intro a ha
        exact suite_read env er o
    · rename_i hm
      refine ⟨false, ?_, ?_⟩
      · rw [er.1]; exact S.exM _ _ _ hm
      · rw [if_neg Bool.false_ne_true]
        exact rd W D σ H ρ e cls d env er o
    · exact o.elim
theorem ss_tryx (ib : SK cg cf G body) (ih : SH cg cf G hs) : SS cg cf G (.tryx body hs) := by
  intro st s h X T W S Y tk
  unfold chkS at h
  split at h <;> first | cases h | skip
  simp only [Bool.and_eq_true] at h
  obtain ⟨⟨h1, h2⟩, h3⟩ := h
  obtain ⟨hc, hr, rfl⟩ := S.calm h1
  obtain ⟨l, cl, rd⟩ := ih st _ h3 X S Y.kind
  obtain ⟨k1, k2⟩ := Y.stk h1
  refine PS.imp (ps_tryN (tb := fun W2 => tS X.K G [] W2 cf.pin (semS cf body)) k1 k2 (by rw [S.N]; exact S.nd) tk (fun W' pn xe tk' po' => ib st _ h2 (X.tr pn xe) [] W' (sx_tr S rfl pn xe) ⟨Y.kind, po', fun z => Y.stk z⟩ tk') cl) fun D σ H q => ?_
  exact tryx_read q fun σ' H' ρ' e cls d env er o => rd W D σ' H' ρ' e cls d env er o
end
end EV

/-! The induction over the small language. -/
namespace EV
open PySem PySem.Spec PyProof.Rows L2
structure Holds (cg : Cfg) (cf : Cf) (G : AM) (c : C) : Prop where
  se : SE cg cf G c
  st : STs cg cf G c
  sl : SLs cg cf G c
  sa : SAs cg cf G c
  s1 : SE1 cg cf G c
  ss : SS cg cf G c
  sk : SK cg cf G c
  sh : SH cg cf G c
  cp : ∀ own tg' ik it cond elt, c = .comp own tg' ik it cond elt → SE1 cg cf G it ∧ SLs cg cf G it ∧ STs cg cf G cond ∧ SE cg cf G elt
theorem holds (cg : Cfg) (cf : Cf) (G : AM) : ∀ c : C, Holds cg cf G c
  | .none => by
    exact ⟨(by exact se_none), (by (intro st e h; exact absurd h (by first | exact Bool.false_ne_true | (unfold okT; exact Bool.false_ne_true)))), (by (intro st e h; exact absurd h (by first | exact Bool.false_ne_true | (unfold chkL; exact Bool.false_ne_true)))), (by (intro st e h; exact absurd h (by first | exact Bool.false_ne_true | (unfold chkA; exact Bool.false_ne_true)))), (by exact fun _ _ e => C.noConfusion e), (by (intro st e h; exact absurd h (by first | exact Bool.false_ne_true | (unfold chkS; exact Bool.false_ne_true)))), (by (intro st e h; exact absurd h (by first | exact Bool.false_ne_true | (unfold chkB; exact Bool.false_ne_true)))), (by (intro st e h; exact absurd h (by first | exact Bool.false_ne_true | (unfold chkH; exact Bool.false_ne_true)))), (by exact fun _ _ _ _ _ _ e => C.noConfusion e)⟩
  | .bl b => by
    exact ⟨(by exact se_bl), (by exact st_bl), (by (intro st e h; exact absurd h (by first | exact Bool.false_ne_true | (unfold chkL; exact Bool.false_ne_true)))), (by (intro st e h; exact absurd h (by first | exact Bool.false_ne_true | (unfold chkA; exact Bool.false_ne_true)))), (by exact fun _ _ e => C.noConfusion e), (by (intro st e h; exact absurd h (by first | exact Bool.false_ne_true | (unfold chkS; exact Bool.false_ne_true)))), (by (intro st e h; exact absurd h (by first | exact Bool.false_ne_true | (unfold chkB; exact Bool.false_ne_true)))), (by (intro st e h; exact absurd h (by first | exact Bool.false_ne_true | (unfold chkH; exact Bool.false_ne_true)))), (by exact fun _ _ _ _ _ _ e => C.noConfusion e)⟩
  | .int i => by
    exact ⟨(by exact se_int), (by (intro st e h; exact absurd h (by first | exact Bool.false_ne_true | (unfold okT; exact Bool.false_ne_true)))), (by (intro st e h; exact absurd h (by first | exact Bool.false_ne_true | (unfold chkL; exact Bool.false_ne_true)))), (by (intro st e h; exact absurd h (by first | exact Bool.false_ne_true | (unfold chkA; exact Bool.false_ne_true)))), (by exact fun _ _ e => C.noConfusion e), (by (intro st e h; exact absurd h (by first | exact Bool.false_ne_true | (unfold chkS; exact Bool.false_ne_true)))), (by (intro st e h; exact absurd h (by first | exact Bool.false_ne_true | (unfold chkB; exact Bool.false_ne_true)))), (by (intro st e h; exact absurd h (by first | exact Bool.false_ne_true | (unfold chkH; exact Bool.false_ne_true)))), (by exact fun _ _ _ _ _ _ e => C.noConfusion e)⟩
  | .str s => by
    exact ⟨(by exact se_str), (by (intro st e h; exact absurd h (by first | exact Bool.false_ne_true | (unfold okT; exact Bool.false_ne_true)))), (by (intro st e h; exact absurd h (by first | exact Bool.false_ne_true | (unfold chkL; exact Bool.false_ne_true)))), (by (intro st e h; exact absurd h (by first | exact Bool.false_ne_true | (unfold chkA; exact Bool.false_ne_true)))), (by exact fun _ _ e => C.noConfusion e), (by (intro st e h; exact absurd h (by first | exact Bool.false_ne_true | (unfold chkS; exact Bool.false_ne_true)))), (by (intro st e h; exact absurd h (by first | exact Bool.false_ne_true | (unfold chkB; exact Bool.false_ne_true)))), (by (intro st e h; exact absurd h (by first | exact Bool.false_ne_true | (unfold chkH; exact Bool.false_ne_true)))), (by exact fun _ _ _ _ _ _ e => C.noConfusion e)⟩
  | .var i => by
    exact ⟨(by exact se_var), (by exact st_var), (by (intro st e h; exact absurd h (by first | exact Bool.false_ne_true | (unfold chkL; exact Bool.false_ne_true)))), (by (intro st e h; exact absurd h (by first | exact Bool.false_ne_true | (unfold chkA; exact Bool.false_ne_true)))), (by exact fun _ _ e => C.noConfusion e), (by (intro st e h; exact absurd h (by first | exact Bool.false_ne_true | (unfold chkS; exact Bool.false_ne_true)))), (by (intro st e h; exact absurd h (by first | exact Bool.false_ne_true | (unfold chkB; exact Bool.false_ne_true)))), (by (intro st e h; exact absurd h (by first | exact Bool.false_ne_true | (unfold chkH; exact Bool.false_ne_true)))), (by exact fun _ _ _ _ _ _ e => C.noConfusion e)⟩
  | .gl k => by
    exact ⟨(by exact se_gl), (by (intro st e h; exact absurd h (by first | exact Bool.false_ne_true | (unfold okT; exact Bool.false_ne_true)))), (by (intro st e h; exact absurd h (by first | exact Bool.false_ne_true | (unfold chkL; exact Bool.false_ne_true)))), (by (intro st e h; exact absurd h (by first | exact Bool.false_ne_true | (unfold chkA; exact Bool.false_ne_true)))), (by exact fun _ _ e => C.noConfusion e), (by (intro st e h; exact absurd h (by first | exact Bool.false_ne_true | (unfold chkS; exact Bool.false_ne_true)))), (by (intro st e h; exact absurd h (by first | exact Bool.false_ne_true | (unfold chkB; exact Bool.false_ne_true)))), (by (intro st e h; exact absurd h (by first | exact Bool.false_ne_true | (unfold chkH; exact Bool.false_ne_true)))), (by exact fun _ _ _ _ _ _ e => C.noConfusion e)⟩
  | .gfn k => by
    exact ⟨(by exact se_gfn), (by (intro st e h; exact absurd h (by first | exact Bool.false_ne_true | (unfold okT; exact Bool.false_ne_true)))), (by (intro st e h; exact absurd h (by first | exact Bool.false_ne_true | (unfold chkL; exact Bool.false_ne_true)))), (by (intro st e h; exact absurd h (by first | exact Bool.false_ne_true | (unfold chkA; exact Bool.false_ne_true)))), (by exact fun _ _ e => C.noConfusion e), (by (intro st e h; exact absurd h (by first | exact Bool.false_ne_true | (unfold chkS; exact Bool.false_ne_true)))), (by (intro st e h; exact absurd h (by first | exact Bool.false_ne_true | (unfold chkB; exact Bool.false_ne_true)))), (by (intro st e h; exact absurd h (by first | exact Bool.false_ne_true | (unfold chkH; exact Bool.false_ne_true)))), (by exact fun _ _ _ _ _ _ e => C.noConfusion e)⟩
  | .bin o a b => by
    have Ha := holds cg cf G a
    have Hb := holds cg cf G b
    exact ⟨(by exact se_bin Ha.se Hb.se), (by (intro st e h; exact absurd h (by first | exact Bool.false_ne_true | (unfold okT; exact Bool.false_ne_true)))), (by (intro st e h; exact absurd h (by first | exact Bool.false_ne_true | (unfold chkL; exact Bool.false_ne_true)))), (by (intro st e h; exact absurd h (by first | exact Bool.false_ne_true | (unfold chkA; exact Bool.false_ne_true)))), (by exact fun _ _ e => C.noConfusion e), (by (intro st e h; exact absurd h (by first | exact Bool.false_ne_true | (unfold chkS; exact Bool.false_ne_true)))), (by (intro st e h; exact absurd h (by first | exact Bool.false_ne_true | (unfold chkB; exact Bool.false_ne_true)))), (by (intro st e h; exact absurd h (by first | exact Bool.false_ne_true | (unfold chkH; exact Bool.false_ne_true)))), (by exact fun _ _ _ _ _ _ e => C.noConfusion e)⟩
  | .neg a => by
    have Ha := holds cg cf G a
    exact ⟨(by exact se_neg Ha.se), (by (intro st e h; exact absurd h (by first | exact Bool.false_ne_true | (unfold okT; exact Bool.false_ne_true)))), (by (intro st e h; exact absurd h (by first | exact Bool.false_ne_true | (unfold chkL; exact Bool.false_ne_true)))), (by (intro st e h; exact absurd h (by first | exact Bool.false_ne_true | (unfold chkA; exact Bool.false_ne_true)))), (by exact fun _ _ e => C.noConfusion e), (by (intro st e h; exact absurd h (by first | exact Bool.false_ne_true | (unfold chkS; exact Bool.false_ne_true)))), (by (intro st e h; exact absurd h (by first | exact Bool.false_ne_true | (unfold chkB; exact Bool.false_ne_true)))), (by (intro st e h; exact absurd h (by first | exact Bool.false_ne_true | (unfold chkH; exact Bool.false_ne_true)))), (by exact fun _ _ _ _ _ _ e => C.noConfusion e)⟩
  | .cmp o a b => by
    have Ha := holds cg cf G a
    have Hb := holds cg cf G b
    exact ⟨(by exact se_cmp Ha.se Hb.se), (by exact st_cmp Ha.se Hb.se), (by (intro st e h; exact absurd h (by first | exact Bool.false_ne_true | (unfold chkL; exact Bool.false_ne_true)))), (by (intro st e h; exact absurd h (by first | exact Bool.false_ne_true | (unfold chkA; exact Bool.false_ne_true)))), (by exact fun _ _ e => C.noConfusion e), (by (intro st e h; exact absurd h (by first | exact Bool.false_ne_true | (unfold chkS; exact Bool.false_ne_true)))), (by (intro st e h; exact absurd h (by first | exact Bool.false_ne_true | (unfold chkB; exact Bool.false_ne_true)))), (by (intro st e h; exact absurd h (by first | exact Bool.false_ne_true | (unfold chkH; exact Bool.false_ne_true)))), (by exact fun _ _ _ _ _ _ e => C.noConfusion e)⟩
  | .cmp2 o p a b c => by
    have Ha := holds cg cf G a
    have Hb := holds cg cf G b
    have Hc := holds cg cf G c
    exact ⟨(by exact se_cmp2 Ha.se Hb.se Hc.se), (by exact st_cmp2 Ha.se Hb.se Hc.se), (by (intro st e h; exact absurd h (by first | exact Bool.false_ne_true | (unfold chkL; exact Bool.false_ne_true)))), (by (intro st e h; exact absurd h (by first | exact Bool.false_ne_true | (unfold chkA; exact Bool.false_ne_true)))), (by exact fun _ _ e => C.noConfusion e), (by (intro st e h; exact absurd h (by first | exact Bool.false_ne_true | (unfold chkS; exact Bool.false_ne_true)))), (by (intro st e h; exact absurd h (by first | exact Bool.false_ne_true | (unfold chkB; exact Bool.false_ne_true)))), (by (intro st e h; exact absurd h (by first | exact Bool.false_ne_true | (unfold chkH; exact Bool.false_ne_true)))), (by exact fun _ _ _ _ _ _ e => C.noConfusion e)⟩
  | .cmpO o a i => by
    have Ha := holds cg cf G a
    exact ⟨(by exact se_cmpO Ha.se), (by exact st_cmpO Ha.se), (by (intro st e h; exact absurd h (by first | exact Bool.false_ne_true | (unfold chkL; exact Bool.false_ne_true)))), (by (intro st e h; exact absurd h (by first | exact Bool.false_ne_true | (unfold chkA; exact Bool.false_ne_true)))), (by exact fun _ _ e => C.noConfusion e), (by (intro st e h; exact absurd h (by first | exact Bool.false_ne_true | (unfold chkS; exact Bool.false_ne_true)))), (by (intro st e h; exact absurd h (by first | exact Bool.false_ne_true | (unfold chkB; exact Bool.false_ne_true)))), (by (intro st e h; exact absurd h (by first | exact Bool.false_ne_true | (unfold chkH; exact Bool.false_ne_true)))), (by exact fun _ _ _ _ _ _ e => C.noConfusion e)⟩
  | .not a => by
    have Ha := holds cg cf G a
    exact ⟨(by exact se_not Ha.se), (by exact st_not Ha.st), (by (intro st e h; exact absurd h (by first | exact Bool.false_ne_true | (unfold chkL; exact Bool.false_ne_true)))), (by (intro st e h; exact absurd h (by first | exact Bool.false_ne_true | (unfold chkA; exact Bool.false_ne_true)))), (by exact fun _ _ e => C.noConfusion e), (by (intro st e h; exact absurd h (by first | exact Bool.false_ne_true | (unfold chkS; exact Bool.false_ne_true)))), (by (intro st e h; exact absurd h (by first | exact Bool.false_ne_true | (unfold chkB; exact Bool.false_ne_true)))), (by (intro st e h; exact absurd h (by first | exact Bool.false_ne_true | (unfold chkH; exact Bool.false_ne_true)))), (by exact fun _ _ _ _ _ _ e => C.noConfusion e)⟩
  | .and a b => by
    have Ha := holds cg cf G a
    have Hb := holds cg cf G b
    exact ⟨(by exact se_and Ha.se Hb.se), (by exact st_and Ha.st Hb.st), (by (intro st e h; exact absurd h (by first | exact Bool.false_ne_true | (unfold chkL; exact Bool.false_ne_true)))), (by (intro st e h; exact absurd h (by first | exact Bool.false_ne_true | (unfold chkA; exact Bool.false_ne_true)))), (by exact fun _ _ e => C.noConfusion e), (by (intro st e h; exact absurd h (by first | exact Bool.false_ne_true | (unfold chkS; exact Bool.false_ne_true)))), (by (intro st e h; exact absurd h (by first | exact Bool.false_ne_true | (unfold chkB; exact Bool.false_ne_true)))), (by (intro st e h; exact absurd h (by first | exact Bool.false_ne_true | (unfold chkH; exact Bool.false_ne_true)))), (by exact fun _ _ _ _ _ _ e => C.noConfusion e)⟩
  | .or a b => by
    have Ha := holds cg cf G a
    have Hb := holds cg cf G b
    exact ⟨(by exact se_or Ha.se Hb.se), (by exact st_or Ha.st Hb.st), (by (intro st e h; exact absurd h (by first | exact Bool.false_ne_true | (unfold chkL; exact Bool.false_ne_true)))), (by (intro st e h; exact absurd h (by first | exact Bool.false_ne_true | (unfold chkA; exact Bool.false_ne_true)))), (by exact fun _ _ e => C.noConfusion e), (by (intro st e h; exact absurd h (by first | exact Bool.false_ne_true | (unfold chkS; exact Bool.false_ne_true)))), (by (intro st e h; exact absurd h (by first | exact Bool.false_ne_true | (unfold chkB; exact Bool.false_ne_true)))), (by (intro st e h; exact absurd h (by first | exact Bool.false_ne_true | (unfold chkH; exact Bool.false_ne_true)))), (by exact fun _ _ _ _ _ _ e => C.noConfusion e)⟩
  | .ife c a b => by
    have Hc := holds cg cf G c
    have Ha := holds cg cf G a
    have Hb := holds cg cf G b
    exact ⟨(by exact se_ife Hc.st Ha.se Hb.se), (by (intro st e h; exact absurd h (by first | exact Bool.false_ne_true | (unfold okT; exact Bool.false_ne_true)))), (by (intro st e h; exact absurd h (by first | exact Bool.false_ne_true | (unfold chkL; exact Bool.false_ne_true)))), (by (intro st e h; exact absurd h (by first | exact Bool.false_ne_true | (unfold chkA; exact Bool.false_ne_true)))), (by exact fun _ _ e => C.noConfusion e), (by (intro st e h; exact absurd h (by first | exact Bool.false_ne_true | (unfold chkS; exact Bool.false_ne_true)))), (by (intro st e h; exact absurd h (by first | exact Bool.false_ne_true | (unfold chkB; exact Bool.false_ne_true)))), (by (intro st e h; exact absurd h (by first | exact Bool.false_ne_true | (unfold chkH; exact Bool.false_ne_true)))), (by exact fun _ _ _ _ _ _ e => C.noConfusion e)⟩
  | .idx a i => by
    have Ha := holds cg cf G a
    have Hi := holds cg cf G i
    exact ⟨(by exact se_idx Ha.se Hi.se), (by exact st_idx Ha.se Hi.se), (by (intro st e h; exact absurd h (by first | exact Bool.false_ne_true | (unfold chkL; exact Bool.false_ne_true)))), (by (intro st e h; exact absurd h (by first | exact Bool.false_ne_true | (unfold chkA; exact Bool.false_ne_true)))), (by exact fun _ _ e => C.noConfusion e), (by (intro st e h; exact absurd h (by first | exact Bool.false_ne_true | (unfold chkS; exact Bool.false_ne_true)))), (by (intro st e h; exact absurd h (by first | exact Bool.false_ne_true | (unfold chkB; exact Bool.false_ne_true)))), (by (intro st e h; exact absurd h (by first | exact Bool.false_ne_true | (unfold chkH; exact Bool.false_ne_true)))), (by exact fun _ _ _ _ _ _ e => C.noConfusion e)⟩
  | .idxO i a => by
    have Ha := holds cg cf G a
    exact ⟨(by exact se_idxO Ha.se), (by exact st_idxO Ha.se), (by (intro st e h; exact absurd h (by first | exact Bool.false_ne_true | (unfold chkL; exact Bool.false_ne_true)))), (by (intro st e h; exact absurd h (by first | exact Bool.false_ne_true | (unfold chkA; exact Bool.false_ne_true)))), (by exact fun _ _ e => C.noConfusion e), (by (intro st e h; exact absurd h (by first | exact Bool.false_ne_true | (unfold chkS; exact Bool.false_ne_true)))), (by (intro st e h; exact absurd h (by first | exact Bool.false_ne_true | (unfold chkB; exact Bool.false_ne_true)))), (by (intro st e h; exact absurd h (by first | exact Bool.false_ne_true | (unfold chkH; exact Bool.false_ne_true)))), (by exact fun _ _ _ _ _ _ e => C.noConfusion e)⟩
  | .slc a lo hi => by
    have Ha := holds cg cf G a
    have Hlo := holds cg cf G lo
    have Hhi := holds cg cf G hi
    exact ⟨(by exact se_slc Ha.se Hlo.se Hhi.se), (by (intro st e h; exact absurd h (by first | exact Bool.false_ne_true | (unfold okT; exact Bool.false_ne_true)))), (by (intro st e h; exact absurd h (by first | exact Bool.false_ne_true | (unfold chkL; exact Bool.false_ne_true)))), (by (intro st e h; exact absurd h (by first | exact Bool.false_ne_true | (unfold chkA; exact Bool.false_ne_true)))), (by exact fun _ _ e => C.noConfusion e), (by (intro st e h; exact absurd h (by first | exact Bool.false_ne_true | (unfold chkS; exact Bool.false_ne_true)))), (by (intro st e h; exact absurd h (by first | exact Bool.false_ne_true | (unfold chkB; exact Bool.false_ne_true)))), (by (intro st e h; exact absurd h (by first | exact Bool.false_ne_true | (unfold chkH; exact Bool.false_ne_true)))), (by exact fun _ _ _ _ _ _ e => C.noConfusion e)⟩
  | .fld a f => by
    have Ha := holds cg cf G a
    exact ⟨(by (intro st e h; exact absurd h (by first | exact Bool.false_ne_true | (unfold chkE; exact Bool.false_ne_true)))), (by (intro st e h; exact absurd h (by first | exact Bool.false_ne_true | (unfold okT; exact Bool.false_ne_true)))), (by (intro st e h; exact absurd h (by first | exact Bool.false_ne_true | (unfold chkL; exact Bool.false_ne_true)))), (by (intro st e h; exact absurd h (by first | exact Bool.false_ne_true | (unfold chkA; exact Bool.false_ne_true)))), (by exact fun _ _ e => C.noConfusion e), (by (intro st e h; exact absurd h (by first | exact Bool.false_ne_true | (unfold chkS; exact Bool.false_ne_true)))), (by (intro st e h; exact absurd h (by first | exact Bool.false_ne_true | (unfold chkB; exact Bool.false_ne_true)))), (by (intro st e h; exact absurd h (by first | exact Bool.false_ne_true | (unfold chkH; exact Bool.false_ne_true)))), (by exact fun _ _ _ _ _ _ e => C.noConfusion e)⟩
  | .efld i f => by
    exact ⟨(by exact se_efld), (by (intro st e h; exact absurd h (by first | exact Bool.false_ne_true | (unfold okT; exact Bool.false_ne_true)))), (by (intro st e h; exact absurd h (by first | exact Bool.false_ne_true | (unfold chkL; exact Bool.false_ne_true)))), (by (intro st e h; exact absurd h (by first | exact Bool.false_ne_true | (unfold chkA; exact Bool.false_ne_true)))), (by exact fun _ _ e => C.noConfusion e), (by (intro st e h; exact absurd h (by first | exact Bool.false_ne_true | (unfold chkS; exact Bool.false_ne_true)))), (by (intro st e h; exact absurd h (by first | exact Bool.false_ne_true | (unfold chkB; exact Bool.false_ne_true)))), (by (intro st e h; exact absurd h (by first | exact Bool.false_ne_true | (unfold chkH; exact Bool.false_ne_true)))), (by exact fun _ _ _ _ _ _ e => C.noConfusion e)⟩
  | .isx i k => by
    exact ⟨(by exact se_isx), (by exact st_isx), (by (intro st e h; exact absurd h (by first | exact Bool.false_ne_true | (unfold chkL; exact Bool.false_ne_true)))), (by (intro st e h; exact absurd h (by first | exact Bool.false_ne_true | (unfold chkA; exact Bool.false_ne_true)))), (by exact fun _ _ e => C.noConfusion e), (by (intro st e h; exact absurd h (by first | exact Bool.false_ne_true | (unfold chkS; exact Bool.false_ne_true)))), (by (intro st e h; exact absurd h (by first | exact Bool.false_ne_true | (unfold chkB; exact Bool.false_ne_true)))), (by (intro st e h; exact absurd h (by first | exact Bool.false_ne_true | (unfold chkH; exact Bool.false_ne_true)))), (by exact fun _ _ _ _ _ _ e => C.noConfusion e)⟩
  | .mkf X ks perm cs f => by
    exact ⟨(by exact se_mkf), (by (intro st e h; exact absurd h (by first | exact Bool.false_ne_true | (unfold okT; exact Bool.false_ne_true)))), (by (intro st e h; exact absurd h (by first | exact Bool.false_ne_true | (unfold chkL; exact Bool.false_ne_true)))), (by (intro st e h; exact absurd h (by first | exact Bool.false_ne_true | (unfold chkA; exact Bool.false_ne_true)))), (by exact fun _ _ e => C.noConfusion e), (by (intro st e h; exact absurd h (by first | exact Bool.false_ne_true | (unfold chkS; exact Bool.false_ne_true)))), (by (intro st e h; exact absurd h (by first | exact Bool.false_ne_true | (unfold chkB; exact Bool.false_ne_true)))), (by (intro st e h; exact absurd h (by first | exact Bool.false_ne_true | (unfold chkH; exact Bool.false_ne_true)))), (by exact fun _ _ _ _ _ _ e => C.noConfusion e)⟩
  | .tup es => by
    have Hes := holds cg cf G es
    exact ⟨(by exact se_tup Hes.sl), (by (intro st e h; exact absurd h (by first | exact Bool.false_ne_true | (unfold okT; exact Bool.false_ne_true)))), (by (intro st e h; exact absurd h (by first | exact Bool.false_ne_true | (unfold chkL; exact Bool.false_ne_true)))), (by (intro st e h; exact absurd h (by first | exact Bool.false_ne_true | (unfold chkA; exact Bool.false_ne_true)))), (by exact fun _ _ e => C.noConfusion e), (by (intro st e h; exact absurd h (by first | exact Bool.false_ne_true | (unfold chkS; exact Bool.false_ne_true)))), (by (intro st e h; exact absurd h (by first | exact Bool.false_ne_true | (unfold chkB; exact Bool.false_ne_true)))), (by (intro st e h; exact absurd h (by first | exact Bool.false_ne_true | (unfold chkH; exact Bool.false_ne_true)))), (by exact fun _ _ _ _ _ _ e => C.noConfusion e)⟩
  | .lst es => by
    have Hes := holds cg cf G es
    exact ⟨(by exact se_lst Hes.sl), (by (intro st e h; exact absurd h (by first | exact Bool.false_ne_true | (unfold okT; exact Bool.false_ne_true)))), (by (intro st e h; exact absurd h (by first | exact Bool.false_ne_true | (unfold chkL; exact Bool.false_ne_true)))), (by (intro st e h; exact absurd h (by first | exact Bool.false_ne_true | (unfold chkA; exact Bool.false_ne_true)))), (by exact fun _ _ e => C.noConfusion e), (by (intro st e h; exact absurd h (by first | exact Bool.false_ne_true | (unfold chkS; exact Bool.false_ne_true)))), (by (intro st e h; exact absurd h (by first | exact Bool.false_ne_true | (unfold chkB; exact Bool.false_ne_true)))), (by (intro st e h; exact absurd h (by first | exact Bool.false_ne_true | (unfold chkH; exact Bool.false_ne_true)))), (by exact fun _ _ _ _ _ _ e => C.noConfusion e)⟩
  | .nil => by
    exact ⟨(by (intro st e h; exact absurd h (by first | exact Bool.false_ne_true | (unfold chkE; exact Bool.false_ne_true)))), (by (intro st e h; exact absurd h (by first | exact Bool.false_ne_true | (unfold okT; exact Bool.false_ne_true)))), (by exact sl_nil), (by exact sa_nil), (by exact fun _ _ e => C.noConfusion e), (by (intro st e h; exact absurd h (by first | exact Bool.false_ne_true | (unfold chkS; exact Bool.false_ne_true)))), (by (intro st e h; exact absurd h (by first | exact Bool.false_ne_true | (unfold chkB; exact Bool.false_ne_true)))), (by exact sh_nil), (by exact fun _ _ _ _ _ _ e => C.noConfusion e)⟩
  | .cons a b => by
    have Ha := holds cg cf G a
    have Hb := holds cg cf G b
    exact ⟨(by (intro st e h; exact absurd h (by first | exact Bool.false_ne_true | (unfold chkE; exact Bool.false_ne_true)))), (by (intro st e h; exact absurd h (by first | exact Bool.false_ne_true | (unfold okT; exact Bool.false_ne_true)))), (by exact sl_cons Ha.se Hb.sl), (by exact sa_cons Ha.se Hb.sa), (by exact (fun _ _ e => by cases e; exact Ha.se)), (by (intro st e h; exact absurd h (by first | exact Bool.false_ne_true | (unfold chkS; exact Bool.false_ne_true)))), (by (intro st e h; exact absurd h (by first | exact Bool.false_ne_true | (unfold chkB; exact Bool.false_ne_true)))), (by (intro st e h; exact absurd h (by first | exact Bool.false_ne_true | (unfold chkH; exact Bool.false_ne_true)))), (by exact fun _ _ _ _ _ _ e => C.noConfusion e)⟩
  | .frz a => by
    have Ha := holds cg cf G a
    exact ⟨(by exact se_frz Ha.se), (by (intro st e h; exact absurd h (by first | exact Bool.false_ne_true | (unfold okT; exact Bool.false_ne_true)))), (by (intro st e h; exact absurd h (by first | exact Bool.false_ne_true | (unfold chkL; exact Bool.false_ne_true)))), (by (intro st e h; exact absurd h (by first | exact Bool.false_ne_true | (unfold chkA; exact Bool.false_ne_true)))), (by exact fun _ _ e => C.noConfusion e), (by (intro st e h; exact absurd h (by first | exact Bool.false_ne_true | (unfold chkS; exact Bool.false_ne_true)))), (by (intro st e h; exact absurd h (by first | exact Bool.false_ne_true | (unfold chkB; exact Bool.false_ne_true)))), (by (intro st e h; exact absurd h (by first | exact Bool.false_ne_true | (unfold chkH; exact Bool.false_ne_true)))), (by exact fun _ _ _ _ _ _ e => C.noConfusion e)⟩
  | .lrg a b => by
    have Ha := holds cg cf G a
    have Hb := holds cg cf G b
    exact ⟨(by exact se_lrg Ha.se Hb.se), (by (intro st e h; exact absurd h (by first | exact Bool.false_ne_true | (unfold okT; exact Bool.false_ne_true)))), (by (intro st e h; exact absurd h (by first | exact Bool.false_ne_true | (unfold chkL; exact Bool.false_ne_true)))), (by (intro st e h; exact absurd h (by first | exact Bool.false_ne_true | (unfold chkA; exact Bool.false_ne_true)))), (by exact fun _ _ e => C.noConfusion e), (by (intro st e h; exact absurd h (by first | exact Bool.false_ne_true | (unfold chkS; exact Bool.false_ne_true)))), (by (intro st e h; exact absurd h (by first | exact Bool.false_ne_true | (unfold chkB; exact Bool.false_ne_true)))), (by (intro st e h; exact absurd h (by first | exact Bool.false_ne_true | (unfold chkH; exact Bool.false_ne_true)))), (by exact fun _ _ _ _ _ _ e => C.noConfusion e)⟩
  | .bf f es => by
    have Hes := holds cg cf G es
    exact ⟨(by exact se_bf Hes.sl), (by exact st_bf Hes.sl), (by (intro st e h; exact absurd h (by first | exact Bool.false_ne_true | (unfold chkL; exact Bool.false_ne_true)))), (by (intro st e h; exact absurd h (by first | exact Bool.false_ne_true | (unfold chkA; exact Bool.false_ne_true)))), (by exact fun _ _ e => C.noConfusion e), (by (intro st e h; exact absurd h (by first | exact Bool.false_ne_true | (unfold chkS; exact Bool.false_ne_true)))), (by (intro st e h; exact absurd h (by first | exact Bool.false_ne_true | (unfold chkB; exact Bool.false_ne_true)))), (by (intro st e h; exact absurd h (by first | exact Bool.false_ne_true | (unfold chkH; exact Bool.false_ne_true)))), (by exact fun _ _ _ _ _ _ e => C.noConfusion e)⟩
  | .lenO i => by
    exact ⟨(by exact se_lenO), (by (intro st e h; exact absurd h (by first | exact Bool.false_ne_true | (unfold okT; exact Bool.false_ne_true)))), (by (intro st e h; exact absurd h (by first | exact Bool.false_ne_true | (unfold chkL; exact Bool.false_ne_true)))), (by (intro st e h; exact absurd h (by first | exact Bool.false_ne_true | (unfold chkA; exact Bool.false_ne_true)))), (by exact fun _ _ e => C.noConfusion e), (by (intro st e h; exact absurd h (by first | exact Bool.false_ne_true | (unfold chkS; exact Bool.false_ne_true)))), (by (intro st e h; exact absurd h (by first | exact Bool.false_ne_true | (unfold chkB; exact Bool.false_ne_true)))), (by (intro st e h; exact absurd h (by first | exact Bool.false_ne_true | (unfold chkH; exact Bool.false_ne_true)))), (by exact fun _ _ _ _ _ _ e => C.noConfusion e)⟩
  | .isi a ts => by
    have Ha := holds cg cf G a
    exact ⟨(by exact se_isi Ha.se), (by exact st_isi Ha.se), (by (intro st e h; exact absurd h (by first | exact Bool.false_ne_true | (unfold chkL; exact Bool.false_ne_true)))), (by (intro st e h; exact absurd h (by first | exact Bool.false_ne_true | (unfold chkA; exact Bool.false_ne_true)))), (by exact fun _ _ e => C.noConfusion e), (by (intro st e h; exact absurd h (by first | exact Bool.false_ne_true | (unfold chkS; exact Bool.false_ne_true)))), (by (intro st e h; exact absurd h (by first | exact Bool.false_ne_true | (unfold chkB; exact Bool.false_ne_true)))), (by (intro st e h; exact absurd h (by first | exact Bool.false_ne_true | (unfold chkH; exact Bool.false_ne_true)))), (by exact fun _ _ _ _ _ _ e => C.noConfusion e)⟩
  | .call k as => by
    have Has := holds cg cf G as
    exact ⟨(by exact se_call Has.sa), (by exact st_call Has.sa), (by (intro st e h; exact absurd h (by first | exact Bool.false_ne_true | (unfold chkL; exact Bool.false_ne_true)))), (by (intro st e h; exact absurd h (by first | exact Bool.false_ne_true | (unfold chkA; exact Bool.false_ne_true)))), (by exact fun _ _ e => C.noConfusion e), (by (intro st e h; exact absurd h (by first | exact Bool.false_ne_true | (unfold chkS; exact Bool.false_ne_true)))), (by (intro st e h; exact absurd h (by first | exact Bool.false_ne_true | (unfold chkB; exact Bool.false_ne_true)))), (by (intro st e h; exact absurd h (by first | exact Bool.false_ne_true | (unfold chkH; exact Bool.false_ne_true)))), (by exact fun _ _ _ _ _ _ e => C.noConfusion e)⟩
  | .refv i => by
    exact ⟨(by (intro st e h; exact absurd h (by first | exact Bool.false_ne_true | (unfold chkE; exact Bool.false_ne_true)))), (by (intro st e h; exact absurd h (by first | exact Bool.false_ne_true | (unfold okT; exact Bool.false_ne_true)))), (by (intro st e h; exact absurd h (by first | exact Bool.false_ne_true | (unfold chkL; exact Bool.false_ne_true)))), (by (intro st e h; exact absurd h (by first | exact Bool.false_ne_true | (unfold chkA; exact Bool.false_ne_true)))), (by exact fun _ _ e => C.noConfusion e), (by (intro st e h; exact absurd h (by first | exact Bool.false_ne_true | (unfold chkS; exact Bool.false_ne_true)))), (by (intro st e h; exact absurd h (by first | exact Bool.false_ne_true | (unfold chkB; exact Bool.false_ne_true)))), (by (intro st e h; exact absurd h (by first | exact Bool.false_ne_true | (unfold chkH; exact Bool.false_ne_true)))), (by exact fun _ _ _ _ _ _ e => C.noConfusion e)⟩
  | .comp own tg ik it cond elt => by
    have Hit := holds cg cf G it
    have Hcond := holds cg cf G cond
    have Helt := holds cg cf G elt
    exact ⟨(by exact se_comp Hit.s1 Hit.sl Hcond.st Helt.se), (by (intro st e h; exact absurd h (by first | exact Bool.false_ne_true | (unfold okT; exact Bool.false_ne_true)))), (by (intro st e h; exact absurd h (by first | exact Bool.false_ne_true | (unfold chkL; exact Bool.false_ne_true)))), (by (intro st e h; exact absurd h (by first | exact Bool.false_ne_true | (unfold chkA; exact Bool.false_ne_true)))), (by exact fun _ _ e => C.noConfusion e), (by (intro st e h; exact absurd h (by first | exact Bool.false_ne_true | (unfold chkS; exact Bool.false_ne_true)))), (by (intro st e h; exact absurd h (by first | exact Bool.false_ne_true | (unfold chkB; exact Bool.false_ne_true)))), (by (intro st e h; exact absurd h (by first | exact Bool.false_ne_true | (unfold chkH; exact Bool.false_ne_true)))), (by exact (fun _ _ _ _ _ _ e => by cases e; exact ⟨Hit.s1, Hit.sl, Hcond.st, Helt.se⟩))⟩
  | .skip => by
    exact ⟨(by (intro st e h; exact absurd h (by first | exact Bool.false_ne_true | (unfold chkE; exact Bool.false_ne_true)))), (by (intro st e h; exact absurd h (by first | exact Bool.false_ne_true | (unfold okT; exact Bool.false_ne_true)))), (by (intro st e h; exact absurd h (by first | exact Bool.false_ne_true | (unfold chkL; exact Bool.false_ne_true)))), (by (intro st e h; exact absurd h (by first | exact Bool.false_ne_true | (unfold chkA; exact Bool.false_ne_true)))), (by exact fun _ _ e => C.noConfusion e), (by exact ss_skip), (by exact sk_skip), (by (intro st e h; exact absurd h (by first | exact Bool.false_ne_true | (unfold chkH; exact Bool.false_ne_true)))), (by exact fun _ _ _ _ _ _ e => C.noConfusion e)⟩
  | .seq a b => by
    have Ha := holds cg cf G a
    have Hb := holds cg cf G b
    exact ⟨(by (intro st e h; exact absurd h (by first | exact Bool.false_ne_true | (unfold chkE; exact Bool.false_ne_true)))), (by (intro st e h; exact absurd h (by first | exact Bool.false_ne_true | (unfold okT; exact Bool.false_ne_true)))), (by (intro st e h; exact absurd h (by first | exact Bool.false_ne_true | (unfold chkL; exact Bool.false_ne_true)))), (by (intro st e h; exact absurd h (by first | exact Bool.false_ne_true | (unfold chkA; exact Bool.false_ne_true)))), (by exact fun _ _ e => C.noConfusion e), (by (intro st e h; exact absurd h (by first | exact Bool.false_ne_true | (unfold chkS; exact Bool.false_ne_true)))), (by exact sk_seq Ha.ss Hb.sk), (by (intro st e h; exact absurd h (by first | exact Bool.false_ne_true | (unfold chkH; exact Bool.false_ne_true)))), (by exact fun _ _ _ _ _ _ e => C.noConfusion e)⟩
  | .asg tg e => by
    have He := holds cg cf G e
    exact ⟨(by (intro st e h; exact absurd h (by first | exact Bool.false_ne_true | (unfold chkE; exact Bool.false_ne_true)))), (by (intro st e h; exact absurd h (by first | exact Bool.false_ne_true | (unfold okT; exact Bool.false_ne_true)))), (by (intro st e h; exact absurd h (by first | exact Bool.false_ne_true | (unfold chkL; exact Bool.false_ne_true)))), (by (intro st e h; exact absurd h (by first | exact Bool.false_ne_true | (unfold chkA; exact Bool.false_ne_true)))), (by exact fun _ _ e => C.noConfusion e), (by exact ss_asg He.se He.cp), (by (intro st e h; exact absurd h (by first | exact Bool.false_ne_true | (unfold chkB; exact Bool.false_ne_true)))), (by (intro st e h; exact absurd h (by first | exact Bool.false_ne_true | (unfold chkH; exact Bool.false_ne_true)))), (by exact fun _ _ _ _ _ _ e => C.noConfusion e)⟩
  | .par is es => by
    have Hes := holds cg cf G es
    exact ⟨(by (intro st e h; exact absurd h (by first | exact Bool.false_ne_true | (unfold chkE; exact Bool.false_ne_true)))), (by (intro st e h; exact absurd h (by first | exact Bool.false_ne_true | (unfold okT; exact Bool.false_ne_true)))), (by (intro st e h; exact absurd h (by first | exact Bool.false_ne_true | (unfold chkL; exact Bool.false_ne_true)))), (by (intro st e h; exact absurd h (by first | exact Bool.false_ne_true | (unfold chkA; exact Bool.false_ne_true)))), (by exact fun _ _ e => C.noConfusion e), (by exact ss_par Hes.sl), (by (intro st e h; exact absurd h (by first | exact Bool.false_ne_true | (unfold chkB; exact Bool.false_ne_true)))), (by (intro st e h; exact absurd h (by first | exact Bool.false_ne_true | (unfold chkH; exact Bool.false_ne_true)))), (by exact fun _ _ _ _ _ _ e => C.noConfusion e)⟩
  | .asgI i ix e => by
    have Hix := holds cg cf G ix
    have He := holds cg cf G e
    exact ⟨(by (intro st e h; exact absurd h (by first | exact Bool.false_ne_true | (unfold chkE; exact Bool.false_ne_true)))), (by (intro st e h; exact absurd h (by first | exact Bool.false_ne_true | (unfold okT; exact Bool.false_ne_true)))), (by (intro st e h; exact absurd h (by first | exact Bool.false_ne_true | (unfold chkL; exact Bool.false_ne_true)))), (by (intro st e h; exact absurd h (by first | exact Bool.false_ne_true | (unfold chkA; exact Bool.false_ne_true)))), (by exact fun _ _ e => C.noConfusion e), (by exact ss_asgI Hix.se He.se), (by (intro st e h; exact absurd h (by first | exact Bool.false_ne_true | (unfold chkB; exact Bool.false_ne_true)))), (by (intro st e h; exact absurd h (by first | exact Bool.false_ne_true | (unfold chkH; exact Bool.false_ne_true)))), (by exact fun _ _ _ _ _ _ e => C.noConfusion e)⟩
  | .aug i o e => by
    have He := holds cg cf G e
    exact ⟨(by (intro st e h; exact absurd h (by first | exact Bool.false_ne_true | (unfold chkE; exact Bool.false_ne_true)))), (by (intro st e h; exact absurd h (by first | exact Bool.false_ne_true | (unfold okT; exact Bool.false_ne_true)))), (by (intro st e h; exact absurd h (by first | exact Bool.false_ne_true | (unfold chkL; exact Bool.false_ne_true)))), (by (intro st e h; exact absurd h (by first | exact Bool.false_ne_true | (unfold chkA; exact Bool.false_ne_true)))), (by exact fun _ _ e => C.noConfusion e), (by exact ss_aug He.se), (by (intro st e h; exact absurd h (by first | exact Bool.false_ne_true | (unfold chkB; exact Bool.false_ne_true)))), (by (intro st e h; exact absurd h (by first | exact Bool.false_ne_true | (unfold chkH; exact Bool.false_ne_true)))), (by exact fun _ _ _ _ _ _ e => C.noConfusion e)⟩
  | .app i e => by
    have He := holds cg cf G e
    exact ⟨(by (intro st e h; exact absurd h (by first | exact Bool.false_ne_true | (unfold chkE; exact Bool.false_ne_true)))), (by (intro st e h; exact absurd h (by first | exact Bool.false_ne_true | (unfold okT; exact Bool.false_ne_true)))), (by (intro st e h; exact absurd h (by first | exact Bool.false_ne_true | (unfold chkL; exact Bool.false_ne_true)))), (by (intro st e h; exact absurd h (by first | exact Bool.false_ne_true | (unfold chkA; exact Bool.false_ne_true)))), (by exact fun _ _ e => C.noConfusion e), (by exact ss_app He.se), (by (intro st e h; exact absurd h (by first | exact Bool.false_ne_true | (unfold chkB; exact Bool.false_ne_true)))), (by (intro st e h; exact absurd h (by first | exact Bool.false_ne_true | (unfold chkH; exact Bool.false_ne_true)))), (by exact fun _ _ _ _ _ _ e => C.noConfusion e)⟩
  | .ext i e => by
    have He := holds cg cf G e
    exact ⟨(by (intro st e h; exact absurd h (by first | exact Bool.false_ne_true | (unfold chkE; exact Bool.false_ne_true)))), (by (intro st e h; exact absurd h (by first | exact Bool.false_ne_true | (unfold okT; exact Bool.false_ne_true)))), (by (intro st e h; exact absurd h (by first | exact Bool.false_ne_true | (unfold chkL; exact Bool.false_ne_true)))), (by (intro st e h; exact absurd h (by first | exact Bool.false_ne_true | (unfold chkA; exact Bool.false_ne_true)))), (by exact fun _ _ e => C.noConfusion e), (by exact ss_ext He.se), (by (intro st e h; exact absurd h (by first | exact Bool.false_ne_true | (unfold chkB; exact Bool.false_ne_true)))), (by (intro st e h; exact absurd h (by first | exact Bool.false_ne_true | (unfold chkH; exact Bool.false_ne_true)))), (by exact fun _ _ _ _ _ _ e => C.noConfusion e)⟩
  | .ins i ix e => by
    have Hix := holds cg cf G ix
    have He := holds cg cf G e
    exact ⟨(by (intro st e h; exact absurd h (by first | exact Bool.false_ne_true | (unfold chkE; exact Bool.false_ne_true)))), (by (intro st e h; exact absurd h (by first | exact Bool.false_ne_true | (unfold okT; exact Bool.false_ne_true)))), (by (intro st e h; exact absurd h (by first | exact Bool.false_ne_true | (unfold chkL; exact Bool.false_ne_true)))), (by (intro st e h; exact absurd h (by first | exact Bool.false_ne_true | (unfold chkA; exact Bool.false_ne_true)))), (by exact fun _ _ e => C.noConfusion e), (by exact ss_ins Hix.se He.se), (by (intro st e h; exact absurd h (by first | exact Bool.false_ne_true | (unfold chkB; exact Bool.false_ne_true)))), (by (intro st e h; exact absurd h (by first | exact Bool.false_ne_true | (unfold chkH; exact Bool.false_ne_true)))), (by exact fun _ _ _ _ _ _ e => C.noConfusion e)⟩
  | .ex e => by
    have He := holds cg cf G e
    exact ⟨(by (intro st e h; exact absurd h (by first | exact Bool.false_ne_true | (unfold chkE; exact Bool.false_ne_true)))), (by (intro st e h; exact absurd h (by first | exact Bool.false_ne_true | (unfold okT; exact Bool.false_ne_true)))), (by (intro st e h; exact absurd h (by first | exact Bool.false_ne_true | (unfold chkL; exact Bool.false_ne_true)))), (by (intro st e h; exact absurd h (by first | exact Bool.false_ne_true | (unfold chkA; exact Bool.false_ne_true)))), (by exact fun _ _ e => C.noConfusion e), (by exact ss_ex He.se), (by (intro st e h; exact absurd h (by first | exact Bool.false_ne_true | (unfold chkB; exact Bool.false_ne_true)))), (by (intro st e h; exact absurd h (by first | exact Bool.false_ne_true | (unfold chkH; exact Bool.false_ne_true)))), (by exact fun _ _ _ _ _ _ e => C.noConfusion e)⟩
  | .ret e => by
    have He := holds cg cf G e
    exact ⟨(by (intro st e h; exact absurd h (by first | exact Bool.false_ne_true | (unfold chkE; exact Bool.false_ne_true)))), (by (intro st e h; exact absurd h (by first | exact Bool.false_ne_true | (unfold okT; exact Bool.false_ne_true)))), (by (intro st e h; exact absurd h (by first | exact Bool.false_ne_true | (unfold chkL; exact Bool.false_ne_true)))), (by (intro st e h; exact absurd h (by first | exact Bool.false_ne_true | (unfold chkA; exact Bool.false_ne_true)))), (by exact fun _ _ e => C.noConfusion e), (by exact ss_ret He.se), (by (intro st e h; exact absurd h (by first | exact Bool.false_ne_true | (unfold chkB; exact Bool.false_ne_true)))), (by (intro st e h; exact absurd h (by first | exact Bool.false_ne_true | (unfold chkH; exact Bool.false_ne_true)))), (by exact fun _ _ _ _ _ _ e => C.noConfusion e)⟩
  | .ifs c a b => by
    have Hc := holds cg cf G c
    have Ha := holds cg cf G a
    have Hb := holds cg cf G b
    exact ⟨(by (intro st e h; exact absurd h (by first | exact Bool.false_ne_true | (unfold chkE; exact Bool.false_ne_true)))), (by (intro st e h; exact absurd h (by first | exact Bool.false_ne_true | (unfold okT; exact Bool.false_ne_true)))), (by (intro st e h; exact absurd h (by first | exact Bool.false_ne_true | (unfold chkL; exact Bool.false_ne_true)))), (by (intro st e h; exact absurd h (by first | exact Bool.false_ne_true | (unfold chkA; exact Bool.false_ne_true)))), (by exact fun _ _ e => C.noConfusion e), (by exact ss_ifs Hc.st Ha.sk Hb.sk), (by (intro st e h; exact absurd h (by first | exact Bool.false_ne_true | (unfold chkB; exact Bool.false_ne_true)))), (by (intro st e h; exact absurd h (by first | exact Bool.false_ne_true | (unfold chkH; exact Bool.false_ne_true)))), (by exact fun _ _ _ _ _ _ e => C.noConfusion e)⟩
  | .fors tg ik it body => by
    have Hit := holds cg cf G it
    have Hbody := holds cg cf G body
    exact ⟨(by (intro st e h; exact absurd h (by first | exact Bool.false_ne_true | (unfold chkE; exact Bool.false_ne_true)))), (by (intro st e h; exact absurd h (by first | exact Bool.false_ne_true | (unfold okT; exact Bool.false_ne_true)))), (by (intro st e h; exact absurd h (by first | exact Bool.false_ne_true | (unfold chkL; exact Bool.false_ne_true)))), (by (intro st e h; exact absurd h (by first | exact Bool.false_ne_true | (unfold chkA; exact Bool.false_ne_true)))), (by exact fun _ _ e => C.noConfusion e), (by exact ss_fors Hit.s1 Hit.sl Hbody.sk), (by (intro st e h; exact absurd h (by first | exact Bool.false_ne_true | (unfold chkB; exact Bool.false_ne_true)))), (by (intro st e h; exact absurd h (by first | exact Bool.false_ne_true | (unfold chkH; exact Bool.false_ne_true)))), (by exact fun _ _ _ _ _ _ e => C.noConfusion e)⟩
  | .whl fuel c body => by
    have Hc := holds cg cf G c
    have Hbody := holds cg cf G body
    exact ⟨(by (intro st e h; exact absurd h (by first | exact Bool.false_ne_true | (unfold chkE; exact Bool.false_ne_true)))), (by (intro st e h; exact absurd h (by first | exact Bool.false_ne_true | (unfold okT; exact Bool.false_ne_true)))), (by (intro st e h; exact absurd h (by first | exact Bool.false_ne_true | (unfold chkL; exact Bool.false_ne_true)))), (by (intro st e h; exact absurd h (by first | exact Bool.false_ne_true | (unfold chkA; exact Bool.false_ne_true)))), (by exact fun _ _ e => C.noConfusion e), (by exact ss_whl Hc.st Hbody.sk), (by (intro st e h; exact absurd h (by first | exact Bool.false_ne_true | (unfold chkB; exact Bool.false_ne_true)))), (by (intro st e h; exact absurd h (by first | exact Bool.false_ne_true | (unfold chkH; exact Bool.false_ne_true)))), (by exact fun _ _ _ _ _ _ e => C.noConfusion e)⟩
  | .raise X es => by
    have Hes := holds cg cf G es
    exact ⟨(by (intro st e h; exact absurd h (by first | exact Bool.false_ne_true | (unfold chkE; exact Bool.false_ne_true)))), (by (intro st e h; exact absurd h (by first | exact Bool.false_ne_true | (unfold okT; exact Bool.false_ne_true)))), (by (intro st e h; exact absurd h (by first | exact Bool.false_ne_true | (unfold chkL; exact Bool.false_ne_true)))), (by (intro st e h; exact absurd h (by first | exact Bool.false_ne_true | (unfold chkA; exact Bool.false_ne_true)))), (by exact fun _ _ e => C.noConfusion e), (by exact ss_raise Hes.sl), (by (intro st e h; exact absurd h (by first | exact Bool.false_ne_true | (unfold chkB; exact Bool.false_ne_true)))), (by (intro st e h; exact absurd h (by first | exact Bool.false_ne_true | (unfold chkH; exact Bool.false_ne_true)))), (by exact fun _ _ _ _ _ _ e => C.noConfusion e)⟩
  | .tryx body hs => by
    have Hbody := holds cg cf G body
    have Hhs := holds cg cf G hs
    exact ⟨(by (intro st e h; exact absurd h (by first | exact Bool.false_ne_true | (unfold chkE; exact Bool.false_ne_true)))), (by (intro st e h; exact absurd h (by first | exact Bool.false_ne_true | (unfold okT; exact Bool.false_ne_true)))), (by (intro st e h; exact absurd h (by first | exact Bool.false_ne_true | (unfold chkL; exact Bool.false_ne_true)))), (by (intro st e h; exact absurd h (by first | exact Bool.false_ne_true | (unfold chkA; exact Bool.false_ne_true)))), (by exact fun _ _ e => C.noConfusion e), (by exact ss_tryx Hbody.sk Hhs.sh), (by (intro st e h; exact absurd h (by first | exact Bool.false_ne_true | (unfold chkB; exact Bool.false_ne_true)))), (by (intro st e h; exact absurd h (by first | exact Bool.false_ne_true | (unfold chkH; exact Bool.false_ne_true)))), (by exact fun _ _ _ _ _ _ e => C.noConfusion e)⟩
  | .hnd X slot suite rest => by
    have Hsuite := holds cg cf G suite
    have Hrest := holds cg cf G rest
    exact ⟨(by (intro st e h; exact absurd h (by first | exact Bool.false_ne_true | (unfold chkE; exact Bool.false_ne_true)))), (by (intro st e h; exact absurd h (by first | exact Bool.false_ne_true | (unfold okT; exact Bool.false_ne_true)))), (by (intro st e h; exact absurd h (by first | exact Bool.false_ne_true | (unfold chkL; exact Bool.false_ne_true)))), (by (intro st e h; exact absurd h (by first | exact Bool.false_ne_true | (unfold chkA; exact Bool.false_ne_true)))), (by exact fun _ _ e => C.noConfusion e), (by (intro st e h; exact absurd h (by first | exact Bool.false_ne_true | (unfold chkS; exact Bool.false_ne_true)))), (by (intro st e h; exact absurd h (by first | exact Bool.false_ne_true | (unfold chkB; exact Bool.false_ne_true)))), (by exact sh_hnd Hsuite.sk Hrest.sh), (by exact fun _ _ _ _ _ _ e => C.noConfusion e)⟩
end EV

/-! A def by its mirror. -/
namespace EV
open PySem PySem.Spec PyProof.Rows L2
/-- what the written part says, for a def's body -/
structure FX (cg : Cfg) (cf : Cf) (G : AM) (P : Program) (w : World) (K : PySem.W.Frag) (mg : Str → Option Value) (base : Heap) : Prop where
  free : ∀ x ∈ cg.free, mg x = none
  gls : ∀ (k : Nat) (x : Str) (d : PyData), cg.glN[k]? = some x → cf.gls[k]? = some d → ∃ u v, mg x = some u ∧ RelV v u ∧ ∀ H, Rep K H v d
  gfn : ∀ (k : Nat) (x : Str), cg.gfN k = some x → mg x = some (.ref (G.fn k))
  fns : ∀ (k : Nat) (x : Str), cg.fnN k = some x → ∃ m, cf.fns[k]? = some m ∧ ∀ X : Cx, X.prog = P → X.w = w → X.K = K → X.mg = mg → X.base = base → CalleeOk X G cg.lvl x m
  exN : ∀ (k : Nat) (x : Str), cg.excN k = some x → mg x = some (G.exc k) ∨ (mg x = none ∧ bootBuiltins x = some (G.exc k) ∧ x ≠ "__name__")
  exM : ∀ (j k : Nat) (b : Bool), cf.exm j k = some b → PySem.W.exmOne K (G.exc j) (G.exc k) = some b
  exF : ∀ (k n : Nat) (fl : List (Str × Nat)), cf.excF k = some (n, fl) → ∃ C, G.exc k = .ref C ∧ XfC K C ∧ ∀ p ∈ fl, PySem.W.findIn K (.ref C) p.1 = some none
  mks : ∀ (k : Nat) (x : Str), cg.excN k = some x → cg.excR k = true → ∃ (n : Nat) (fl : List (Str × Nat)), cf.excF k = some (n, fl) ∧
    ∀ X' : Cx, X'.prog = P → X'.w = w → X'.K = K → X'.mg = mg → X'.base = base → X'.calm = true → Room cg.lvl X'.A → X'.A.guards = some [] → MkOk X' (G.exc k) x n fl
  exI : ∀ (j k : Nat) (b : Bool), cf.exi j k = some b → ∃ (D : Addr) (cv : V), G.exc j = .ref D ∧ ExcC K D ∧ RelV cv (G.exc k) ∧ (∀ u, RelV cv u → u = G.exc k) ∧ PySem.W.kitOne K (.ref D) (G.exc k) = some b
  kws : ∀ p ∈ cg.kw, ∃ (x : Str) (n : Nat) (fl : List (Str × Nat)), cg.excN p.1 = some x ∧ cf.excF p.1 = some (n, fl) ∧ ∀ X' : Cx, X'.prog = P → X'.w = w → X'.K = K → X'.mg = mg → X'.base = base → X'.calm = true → Room cg.lvl X'.A → X'.A.guards = some [] → MkkOk X' x p.2.1 p.2.2 fl
  mk0 : ∀ (k : Nat) (x : Str), cg.excN k = some x → cg.ex0 k = true → cf.excF k = some (0, []) ∧ ∀ X' : Cx, X'.prog = P → X'.w = w → X'.K = K → X'.mg = mg → X'.base = base → X'.calm = true → Room cg.lvl X'.A → X'.A.guards = some [] → Mk0Ok X' (G.exc k) x
section
variable {cg : Cfg} {cf : Cf} {G : AM} {P : Program} {w : World} {K : PySem.W.Frag} {mg : Str → Option Value} {base : Heap}
theorem start_at {N : List Str} {vs : List V} {i : Nat} {v : V} : (L2.start N vs)[i]? = some (some v) ↔ vs[i]? = some v := by
  unfold L2.start
  by_cases h : i < vs.length
  · rw [List.getElem?_append_left (by rw [List.length_map]; exact h), List.getElem?_map]
    cases vs[i]? <;> simp
  · rw [List.getElem?_append_right (by rw [List.length_map]; omega), List.getElem?_replicate, List.getElem?_eq_none (by omega)]
    split <;> simp
def env0 (n : Nat) (svs : List SV) : Env := svs.map some ++ List.replicate (n - svs.length) Option.none
theorem env0_at {n : Nat} {svs : List SV} {i : Nat} {sv : SV} : (env0 n svs)[i]? = some (some sv) ↔ svs[i]? = some sv := by
  unfold env0
  by_cases h : i < svs.length
  · rw [List.getElem?_append_left (by rw [List.length_map]; exact h), List.getElem?_map]
    cases svs[i]? <;> simp
  · rw [List.getElem?_append_right (by rw [List.length_map]; omega), List.getElem?_replicate, List.getElem?_eq_none (by omega)]
    split <;> simp
theorem pair_at {α β : Type} {F : α → β → Prop} {l : List α} {m : List β} (h : Paired F l m) : l.length = m.length ∧ ∀ (i : Nat) (b : β), m[i]? = some b → ∃ a, l[i]? = some a ∧ F a b := by
  induction h with
  | nil => exact ⟨rfl, fun i b e => by simp at e⟩
  | cons r _ ih =>
    refine ⟨by rw [List.length_cons, List.length_cons, ih.1], fun i b e => ?_⟩
    cases i with
    | zero => simp at e; subst e; exact ⟨_, rfl, r⟩
    | succ i => exact ih.2 i b (by simpa using e)
theorem start_env {N : List Str} {H : Hp} {vs : List V} {svs : List SV} (a : ArgsR K G H vs svs) : EnvR K G [] (L2.start N vs) H (env0 N.length svs) ∧ ∀ b, Ow (L2.start N vs) (env0 N.length svs) b ↔ OwA vs svs b := by
  obtain ⟨l, at_⟩ := pair_at a.rep
  refine ⟨⟨?_, fun i sv h => ?_, fun i j s s' v h1 h2 o1 o2 h3 h4 => ?_⟩, fun b => ⟨fun ⟨i, sv, h1, h2, h3⟩ => ⟨i, sv, env0_at.mp h1, h2, start_at.mp h3⟩, fun ⟨i, sv, h1, h2, h3⟩ => ⟨i, sv, env0_at.mpr h1, h2, start_at.mpr h3⟩⟩⟩
  · unfold L2.start env0
    rw [List.length_append, List.length_append, List.length_map, List.length_map, List.length_replicate, List.length_replicate, l]
  · obtain ⟨v, h1, h2⟩ := at_ i sv (env0_at.mp h)
    exact ⟨v, start_at.mpr h1, h2⟩
  · exact a.sep i j s s' v (env0_at.mp h1) (env0_at.mp h2) o1 o2 (start_at.mp h3) (start_at.mp h4)
def fine (svs : List SV) (ρ : Env) : Bool := svs.zipIdx.all fun p => !p.1.isOwn || (match getS ρ p.2 with | some sv => sv.isOwn | Option.none => false)
def outs (svs : List SV) (ρ : Env) : List SV := svs.zipIdx.map fun p => if p.1.isOwn then (getS ρ p.2).getD (.d .none) else p.1
theorem outs_at {svs : List SV} {ρ : Env} {i : Nat} {sv : SV} (h : svs[i]? = some sv) (o : sv.isOwn = true) : (outs svs ρ)[i]? = some ((getS ρ i).getD (.d .none)) := by
  unfold outs
  rw [List.getElem?_map, List.getElem?_zipIdx, h]
  simp [o]
theorem fine_at {svs : List SV} {ρ : Env} {i : Nat} {sv : SV} (f : fine svs ρ = true) (h : svs[i]? = some sv) (o : sv.isOwn = true) : ∃ s', getS ρ i = some s' ∧ s'.isOwn = true := by
  have hm : (sv, i) ∈ svs.zipIdx := List.mem_of_getElem? (i := i) (by rw [List.getElem?_zipIdx, h]; simp)
  have := List.all_eq_true.mp f _ hm
  simp only [o, Bool.not_true, Bool.false_or] at this
  cases g : getS ρ i with
  | none => rw [g] at this; cases this
  | some s' => rw [g] at this; exact ⟨s', rfl, this⟩
/-- what a def leaves -/
theorem aft_of {N : List Str} {pin : List Nat} {H H' : Hp} {σ' : St} {vs : List V} {svs : List SV} {ρ' : Env} (a : ArgsR K G H vs svs) (hp : (svs.zipIdx.all fun p => isPinned pin p.2 p.1) = true) (p : Post K G [] pin (L2.start N vs) σ' H H' (env0 N.length svs) ρ') (f : fine svs ρ' = true) :
    Aft K G H H' vs svs (outs svs ρ') := by
  obtain ⟨e0, ow⟩ := start_env (N := N) a
  refine ⟨fun b o h n => p.keep b o h fun w => n ((ow b).mp w), p.dom, by unfold outs; simp, fun i v sv o hv hs own ho => ?_⟩
  obtain ⟨s', g, o'⟩ := fine_at f hs own
  rw [outs_at hs own, g] at ho
  cases ho
  refine ⟨o', ?_⟩
  obtain ⟨u, hu, r⟩ := p.env.get g
  have hm : (sv, i) ∈ svs.zipIdx := List.mem_of_getElem? (i := i) (by rw [List.getElem?_zipIdx, hs]; simp)
  have hi := List.all_eq_true.mp hp _ hm
  unfold isPinned at hi
  simp only [own, Bool.not_true, Bool.false_or] at hi
  rw [p.pins i (by simpa using hi), start_at.mpr hv] at hu
  cases hu
  exact r
theorem runF_eq (cf : Cf) (np n : Nat) (body : C) (svs : List SV) : runF cf np n body svs = if svs.length = np ∧ (svs.zipIdx.all fun p => isPinned cf.pin p.2 p.1) = true then
    (match semS cf body (env0 n svs) with
    | .ok .nx ρ => if fine svs ρ then .ok (.d .none) (outs svs ρ) else .stuck
    | .ok (.ret v) ρ => if fine svs ρ then .ok v (outs svs ρ) else .stuck
    | .err e ρ => if fine svs ρ then .err e (outs svs ρ) else .stuck
    | .stuck => .stuck) else .stuck := rfl
theorem fn_of {k : Nat} {f : Addr} {name qual : Str} {params : Arguments} {stmts : List Stmt} {scope : Scope} {dV kV doc pm cdv ct oc : Value} {an od : Option Addr} {osl : Array (Option Value)} {ps : List Str} {body : C} (F : FX cg cf G P w K mg base)
    (lk : K.lookup f = some ⟨oc, od, .func (PySem.W.fnOf name qual params stmts scope dV kV doc pm an cdv ct), osl⟩) (hcd : PySem.W.codeIn K cdv qual = true) (S : FnScope cg.N ps scope) (hch : chkB cg ⟨scope, fun _ => true, true⟩ body stmts = true) (hk : cg.lvl ≤ k) :
    FnG P w K mg base (k + 1) f (PySem.W.fnOf name qual params stmts scope dV kV doc pm an cdv ct) ps fun vs H Q E => vs.length = ps.length ∧ spM K G (runF cf ps.length cg.N.length body) vs H Q E := by
  refine fnG_of lk hcd S (fun vs H Q E h => h.1) fun A outer s H vs Q E hr hg ⟨hl, svs, ar, hm⟩ => ?_
  rw [runF_eq] at hm
  generalize hX : cxOf (L2.CX P w) P w K mg base cg.N qual scope f cdv A outer s H E = X at *
  have eA : X.A = A.deeper (envOfC qual scope s.heap.objs.size f cdv) := by rw [← hX]; rfl
  have SXx : SX cg cf G [] ⟨scope, fun _ => true, true⟩ X := by
    subst hX
    exact {
      N := rfl
      nd := S.nd
      sc := rfl
      fn := fun _ _ => rfl
      calm := fun _ => ⟨rfl, hr.mono hk, rfl⟩
      gd := hg
      un := by have := hr.un; show (A.deeper (envOfC qual scope s.heap.objs.size f cdv)).units + 70 < cLine; omega
      free := F.free
      gls := F.gls
      gfn := F.gfn
      fns := fun k x h => let ⟨m, h1, h2⟩ := F.fns k x h; ⟨m, h1, h2 _ rfl rfl rfl rfl rfl⟩
      exT := fun t ht => by cases ht
      exN := F.exN
      exM := F.exM
      exF := F.exF
      exI := F.exI
      kws := F.kws
      mk0 := F.mk0
      mks := F.mks }
  have tk : Takes X fun cls d _ H => E cls d H := by subst hX; exact takes_of rfl rfl rfl rfl
  have SYx : SY X ⟨scope, fun _ => true, true⟩ := by
    subst hX
    exact ⟨S.kind, passes_of rfl, fun _ => ⟨rfl, rfl⟩⟩
  refine ⟨_, (holds cg cf G body).sk _ _ hch X [] _ SXx SYx tk, ?_⟩
  have eK : X.K = K := by rw [← hX]; rfl
  obtain ⟨e0, ow⟩ := start_env (N := cg.N) ar
  rw [eK]
  refine ⟨env0 cg.N.length svs, e0, ?_⟩
  by_cases hc : svs.length = ps.length ∧ (svs.zipIdx.all fun p => isPinned cf.pin p.2 p.1) = true
  · rw [if_pos hc] at hm
    cases es : semS cf body (env0 cg.N.length svs) with
    | stuck => rw [es] at hm; exact hm.elim
    | err e ρ' =>
      rw [es] at hm
      dsimp only at hm
      by_cases hfi : fine svs ρ' = true
      · rw [if_pos hfi] at hm
        exact fun σ' cls d H' p er => hm cls d H' (aft_of ar hc.2 p hfi) er
      · rw [if_neg hfi] at hm
        exact hm.elim
    | ok fl ρ' =>
      rw [es] at hm
      cases fl with
      | nx =>
        dsimp only at hm
        by_cases hfi : fine svs ρ' = true
        · rw [if_pos hfi] at hm
          exact fun σ' H' p => hm .non H' (aft_of ar hc.2 p hfi) (.d .non) fun z => nomatch z
        · rw [if_neg hfi] at hm
          exact hm.elim
      | ret sv =>
        dsimp only at hm
        by_cases hfi : fine svs ρ' = true
        · rw [if_pos hfi] at hm
          exact fun σ' H' v p r f => hm v H' (aft_of ar hc.2 p hfi) r fun z => let ⟨a, h1, h2, _⟩ := f z; ⟨a, h1, h2⟩
        · rw [if_neg hfi] at hm
          exact hm.elim
  · rw [if_neg hc] at hm
    exact hm.elim
end
end EV

/-! A law by its mirror. -/
namespace EV
open PySem PySem.Spec PyProof.Rows L2
theorem reps_script {K : PySem.W.Frag} {H : Hp} (ns : List Int) : Reps K H (ns.map V.int) (ns.map PyData.int) := Reps.ints ns
section
variable {P : Program} {w : World} {K : PySem.W.Frag} {mg mb : Str → Option Value} {k : Nat} {fa a : Addr} {fd : FuncData} {x : Str} {sp : Sp} {s₁ : Shared} {vs : List Value} {ns : List Int}
/-- from a heap in which at most the script is tracked, frozen -/
theorem law_from (KX : K.In s₁.heap) (gN : s₁.heap.Ns mainGlobals mg) (bN : s₁.heap.Ns builtinsNs mb) (bB : ∀ x : Str, x ≠ "__name__" → mb x = bootBuiltins x) (lim : s₁.heap.NoLimit) (noGen : s₁.gens = #[])
    (ha : s₁.heap.get? a = some { cls := .type "list", data := .seq vs.toArray }) (hr : Room k callerA) (F : ∀ base : Heap, K.In base → base.Ns mainGlobals mg → FnG P w K mg base k fa fd [x] sp) (hb : ∀ (s : Shared) (u : Value), BindsTo s fd ⟨[u], []⟩ [(x, u)])
    (H : Hp) (only : ∀ b u, H b = some u → b = a ∧ K.lookup a = none ∧ ∃ o xs, u = .frz o (.lst xs)) (hok : HOk P w H s₁.heap) (hsp : sp [.ref a] H (fun v _ => v = .bl true) fun _ _ _ => False) :
    codeAny (model P w) callerA (.call (.ref fa) ⟨[.ref a], []⟩) (fun r s' => r = .ok (.ret (.bool true)) ∧ OldK s₁.heap s'.heap ∧ s'.os = s₁.os ∧ AllBare s'.gens) s₁ := by
  have keepK : ∀ {b : Addr} {o : Obj}, K.lookup b = some o → H b = none := fun {b o} e => by
    cases q : H b with
    | none => rfl
    | some u =>
      obtain ⟨e1, e2, _⟩ := only b u q
      rw [e1, e2] at e
      cases e
  have keepN : ∀ {b : Addr} {m : Str → Option Value}, s₁.heap.Ns b m → (hidT s₁.heap H).Ns b m := fun {b m} ⟨o, es, ep, e, d, r⟩ => ⟨o, es, ep, hidT_get e (by
    cases q : H b with
    | none => rfl
    | some u =>
      obtain ⟨e1, _⟩ := only b u q
      rw [e1, ha] at e
      cases e
      have d2 : Data.seq vs.toArray _ = Data.dict es ep := d
      cases d2), d, r⟩
  have KB : K.In (hidT s₁.heap H) := fun b o e => hidT_get (KX b o e) (keepK e)
  have gB := keepN gN
  have md : Mod K mg (hidT s₁.heap H) := ⟨KB, gB, ⟨mb, keepN bN, bB⟩, by obtain ⟨mc, h1, h2⟩ := lim; exact ⟨mc, keepN h1, h2⟩⟩
  have e0 : Env0 P w K mg (hidT s₁.heap H) callerA [] s₁ H :=
    ⟨rfl, md, fun b o e => of_hidT e, Nat.le_of_eq (hidT_size _ _), trivial, fun b hb => absurd (show b ∈ ([] : List Addr) from hb) (by simp), hok, .of_eq noGen⟩
  refine codeAny_mono ((F _ KB gB).run callerA [] s₁ H ⟨[.ref a], []⟩ [.ref a] [.ref a] _ _ hr rfl e0 (hb s₁ (.ref a)) (.cons rfl .nil) hsp) fun r s' h => ?_
  cases r with
  | error e =>
    obtain ⟨_, _, _, _, _, _, _, _, _, _, _, _, z⟩ := (h : L2.CX P w [] H s₁ (fun _ _ _ => False) e s')
    exact z.elim
  | ok fl =>
    cases fl with
    | ret u =>
      obtain ⟨v, H', os, bare, un, hok', rv, rfl⟩ := h
      obtain rfl : u = Value.bool true := rv
      refine ⟨rfl, OldK.of_keep fun b o e => ?_, os, bare⟩
      cases q : H b with
      | none => exact un.keep b o e q (by intro z; exact absurd (show b ∈ ([] : List Addr) from z) (by simp)) (by simp)
      | some u =>
        obtain ⟨_, _, ob, xs, rfl⟩ := only b u q
        obtain ⟨e1, _⟩ := hok b _ q
        obtain ⟨e2, _⟩ := hok' b _ (un.frzs b ob _ q)
        rw [e] at e1
        cases e1
        exact e2
    | _ => exact False.elim h
theorem law_at (KX : K.In s₁.heap) (gN : s₁.heap.Ns mainGlobals mg) (bN : s₁.heap.Ns builtinsNs mb) (bB : ∀ x : Str, x ≠ "__name__" → mb x = bootBuiltins x) (lim : s₁.heap.NoLimit) (noGen : s₁.gens = #[])
    (ha : s₁.heap.get? a = some { cls := .type "list", data := .seq vs.toArray }) (hi : IntsAre vs ns) (hl : ns.length ≤ sizeLine) (hr : Room k callerA) (F : ∀ base : Heap, K.In base → base.Ns mainGlobals mg → FnG P w K mg base k fa fd [x] sp)
    (hb : ∀ (s : Shared) (u : Value), BindsTo s fd ⟨[u], []⟩ [(x, u)]) (hsp : ∀ H : Hp, FzL K H a (ns.map V.int) → sp [.ref a] H (fun v _ => v = .bl true) fun _ _ _ => False) :
    codeAny (model P w) callerA (.call (.ref fa) ⟨[.ref a], []⟩) (fun r s' => r = .ok (.ret (.bool true)) ∧ OldK s₁.heap s'.heap ∧ s'.os = s₁.os ∧ AllBare s'.gens) s₁ := by
  have rv := vals_ints hi
  have ln := hi.length
  cases hk : K.lookup a with
  | some o =>
    have e := KX a o hk
    rw [ha] at e
    cases e
    exact law_from KX gN bN bB lim noGen ha hr F hb (fun _ => none) (fun b u z => nomatch z) (fun b u z => nomatch z) (hsp _ (.inr ⟨vs, _, hk, by omega, rv⟩))
  | none =>
    have atA : (fun b => if b = a then some (HO.frz { cls := .type "list", data := .seq vs.toArray } (.lst (ns.map V.int))) else none : Hp) a = some (.frz { cls := .type "list", data := .seq vs.toArray } (.lst (ns.map V.int))) := if_pos rfl
    refine law_from KX gN bN bB lim noGen ha hr F hb (fun b => if b = a then some (.frz { cls := .type "list", data := .seq vs.toArray } (.lst (ns.map V.int))) else none) (fun b u z => ?_) (fun b u z => ?_) (hsp _ (.inl ⟨_, atA⟩))
    · by_cases hb : b = a
      · have z2 := (if_pos hb).symm.trans z
        cases z2
        exact ⟨hb, hk, _, _, rfl⟩
      · have z2 := (if_neg hb).symm.trans z
        cases z2
    · by_cases hb : b = a
      · have z2 := (if_pos hb).symm.trans z
        cases z2
        subst hb
        exact ⟨ha, by rw [List.length_map]; exact hl, vs, _, rv, ha⟩
      · have z2 := (if_neg hb).symm.trans z
        cases z2
end
/-- the law's def answers True -/
theorem walk_ev {l : PySem.W.OpenLaw} {n k : Nat} {q : Program} {loose : List Str} {XP : (Str → Option Value) → Heap → Prop} {YP : World → Heap → Prop} {d : DefRec} {x : Str} {m : Fm}
    (hn : l.most = some n) (hn2 : n ≤ sizeLine) (hdf : d.params.defaults = []) (hr : Room k callerA) (law : ∀ ns : List Int, ns.length ≤ n → ∃ o, m [.d (.list (ns.map .int))] = .ok (.d (.bool true)) o)
    (F : ∀ (w : World) (mg : Str → Option Value) (fa : Addr) (h : Heap), YP w h → h.Ns mainGlobals mg → mg d.name = some (.ref fa) →
      ∃ (K : PySem.W.Frag) (G : AM) (fd : FuncData), K.In h ∧ (∀ (s : Shared) (u : Value), BindsTo s fd ⟨[u], []⟩ [(x, u)]) ∧
        ∀ base : Heap, K.In base → base.Ns mainGlobals mg → FnG l.prog w K mg base k fa fd [x] fun vs H Q E => vs.length = 1 ∧ spM K G m vs H Q E) :
    PySem.W.WalkO q loose XP YP l.row.toRowW d [] (fun f vs => PySem.call f vs) := by
  refine Att.attach_call hn hdf fun w s₀ s₁ mg mb fa o pm cd doc a vs ns G Y ho hd hcd hmg hobj hints hlen hg => ?_
  obtain ⟨K, G', fd, KX, hb, hF⟩ := F w mg fa _ Y G.T.g hmg
  refine law_at KX G.T.g G.T.b G.T.builtins G.T.nolimit hg hobj hints (Nat.le_trans hlen hn2) hr hF hb fun H fz => ⟨rfl, [.d (.list (ns.map .int))], ?_, ?_⟩
  · refine ⟨.cons (.d (.lst fz (reps_script ns))) .nil, fun sv h => ?_, fun i j s s' v h1 h2 o1 o2 _ _ => ?_⟩
    · obtain rfl := List.mem_singleton.mp h
      rfl
    · have : s = .d (.list (ns.map .int)) := List.mem_singleton.mp (List.mem_of_getElem? h1)
      subst this
      cases o1
  · obtain ⟨o, e⟩ := law ns hlen
    rw [e]
    intro v H' _ r _
    cases r.rep
    rfl
end EV

/-! Runs of the small language, by rewriting. -/
namespace EV
open PySem PySem.Spec PyProof.Rows L2
section
variable {cf : Cf} {ρ : Env} {α β : Type}
/-! Continuations have names, so that rewriting goes inwards only where a run stands. -/
def varM (o : Option SV) (ρ : Env) (i : Nat) : R SV := match o with
  | some (.olst xs) => .ok (.d (.list xs)) (ρ.set i (some (.d (.list xs))))
  | some (.oobj _ _) => .stuck
  | some sv => .ok sv ρ
  | none => .stuck
theorem varM_d {x : PyData} {i : Nat} : varM (some (.d x)) ρ i = .ok (.d x) ρ := rfl
theorem varM_o {xs : List PyData} {i : Nat} : varM (some (.olst xs)) ρ i = .ok (.d (.list xs)) (ρ.set i (some (.d (.list xs)))) := rfl
theorem varM_n {i : Nat} : varM none ρ i = .stuck := rfl
theorem getS_0 {o : Option SV} : getS (o :: ρ) 0 = o := by cases o <;> rfl
theorem getS_s {o : Option SV} {i : Nat} : getS (o :: ρ) (i + 1) = getS ρ i := rfl
theorem getS_set {i j : Nat} {o : Option SV} : getS (ρ.set i o) j = if i = j ∧ j < ρ.length then o else getS ρ j := by
  unfold getS
  by_cases h : i = j
  · subst h
    by_cases hl : i < ρ.length
    · rw [List.getElem?_set_self hl, if_pos ⟨rfl, hl⟩]; cases o <;> rfl
    · rw [if_neg (by rintro ⟨_, z⟩; exact hl z), List.getElem?_eq_none (by rw [List.length_set]; omega), List.getElem?_eq_none (by omega)]
  · rw [List.getElem?_set_ne h, if_neg (by rintro ⟨z, _⟩; exact h z)]
/-! ### expressions -/
theorem e_none : semE cf .none ρ = .ok (.d .none) ρ := rfl
theorem e_bl {b : Bool} : semE cf (.bl b) ρ = .ok (.d (.bool b)) ρ := rfl
theorem e_int {i : Int} : semE cf (.int i) ρ = .ok (.d (.int i)) ρ := rfl
theorem e_str {s : Str} : semE cf (.str s) ρ = .ok (.d (.str s)) ρ := rfl
theorem e_var {i : Nat} : semE cf (.var i) ρ = varM (getS ρ i) ρ i := rfl
theorem e_gl {k : Nat} : semE cf (.gl k) ρ = R.lift ((cf.gls[k]?).map .d) ρ := rfl
theorem e_gfn {k : Nat} : semE cf (.gfn k) ρ = .ok (.fn k) ρ := rfl
def kBin' (o : BOp) (x : SV) : SV → Env → R SV := fun y ρ => R.lift (binop o x y) ρ
def kBin (cf : Cf) (o : BOp) (b : C) : SV → Env → R SV := fun x ρ => (semE cf b ρ).bind (kBin' o x)
theorem e_bin {o : BOp} {a b : C} : semE cf (.bin o a b) ρ = (semE cf a ρ).bind (kBin cf o b) := rfl
theorem kBin_ {o : BOp} {b : C} {x : SV} : kBin cf o b x ρ = (semE cf b ρ).bind (kBin' o x) := rfl
theorem kBin'_ {o : BOp} {x y : SV} : kBin' o x y ρ = R.lift (binop o x y) ρ := rfl
def negD : SV → Option SV
  | .d (.int i) => some (.d (.int (-i)))
  | _ => none
theorem negD_i {i : Int} : negD (.d (.int i)) = some (.d (.int (-i))) := rfl
def kNeg : SV → Env → R SV := fun x ρ => R.lift (negD x) ρ
theorem kNeg_ {x : SV} : kNeg x ρ = R.lift (negD x) ρ := rfl
theorem e_neg {a : C} : semE cf (.neg a) ρ = (semE cf a ρ).bind kNeg := by
  show R.bind _ _ = _
  cases semE cf a ρ with
  | ok x ρ => cases x <;> first | rfl | (rename_i x; cases x <;> rfl)
  | _ => rfl
def kCmp' (o : COp) (x : SV) : SV → Env → R SV := fun y ρ => R.lift (cmpop o x y) ρ
def kCmp (cf : Cf) (o : COp) (b : C) : SV → Env → R SV := fun x ρ => (semE cf b ρ).bind (kCmp' o x)
theorem e_cmp {o : COp} {a b : C} : semE cf (.cmp o a b) ρ = (semE cf a ρ).bind (kCmp cf o b) := rfl
theorem kCmp_ {o : COp} {b : C} {x : SV} : kCmp cf o b x ρ = (semE cf b ρ).bind (kCmp' o x) := rfl
theorem kCmp'_ {o : COp} {x y : SV} : kCmp' o x y ρ = R.lift (cmpop o x y) ρ := rfl
def kC3 (cf : Cf) (p : COp) (c : C) (y : SV) (t : Option Bool) (ρ : Env) : R SV := match t with
  | some true => (semE cf c ρ).bind (kCmp' p y)
  | some false => .ok (.d (.bool false)) ρ
  | none => .stuck
theorem kC3_t {p : COp} {c : C} {y : SV} : kC3 cf p c y (some true) ρ = (semE cf c ρ).bind (kCmp' p y) := rfl
theorem kC3_f {p : COp} {c : C} {y : SV} : kC3 cf p c y (some false) ρ = .ok (.d (.bool false)) ρ := rfl
def kC2 (cf : Cf) (o p : COp) (c : C) (x : SV) : SV → Env → R SV := fun y ρ => kC3 cf p c y ((cmpop o x y).bind asB) ρ
theorem kC2_ {o p : COp} {c : C} {x y : SV} : kC2 cf o p c x y ρ = kC3 cf p c y ((cmpop o x y).bind asB) ρ := rfl
def kC1 (cf : Cf) (o p : COp) (b c : C) : SV → Env → R SV := fun x ρ => (semE cf b ρ).bind (kC2 cf o p c x)
theorem kC1_ {o p : COp} {b c : C} {x : SV} : kC1 cf o p b c x ρ = (semE cf b ρ).bind (kC2 cf o p c x) := rfl
theorem e_cmp2 {o p : COp} {a b c : C} : semE cf (.cmp2 o p a b c) ρ = (semE cf a ρ).bind (kC1 cf o p b c) := rfl
def kCO' (o : COp) (x : SV) (ρ : Env) (s : Option SV) : R SV := match s with
  | some sv => R.lift (cmpop o x sv) ρ
  | none => .stuck
theorem kCO'_ {o : COp} {x sv : SV} : kCO' o x ρ (some sv) = R.lift (cmpop o x sv) ρ := rfl
def kCO (o : COp) (i : Nat) : SV → Env → R SV := fun x ρ => kCO' o x ρ (getS ρ i)
theorem kCO_ {o : COp} {i : Nat} {x : SV} : kCO o i x ρ = kCO' o x ρ (getS ρ i) := rfl
theorem e_cmpO {o : COp} {a : C} {i : Nat} : semE cf (.cmpO o a i) ρ = (semE cf a ρ).bind (kCO o i) :=
  congrArg (R.bind (semE cf a ρ)) (funext fun x => funext fun ρ => by show _ = kCO' o x ρ (getS ρ i); cases getS ρ i <;> rfl)
def kNot' (ρ : Env) (t : Option Bool) : R SV := match t with
  | some b => .ok (.d (.bool !b)) ρ
  | none => .stuck
theorem kNot'_ {b : Bool} : kNot' ρ (some b) = .ok (.d (.bool !b)) ρ := rfl
def kNot : SV → Env → R SV := fun x ρ => kNot' ρ (asB x)
theorem kNot_ {x : SV} : kNot x ρ = kNot' ρ (asB x) := rfl
theorem e_not {a : C} : semE cf (.not a) ρ = (semE cf a ρ).bind kNot :=
  congrArg (R.bind (semE cf a ρ)) (funext fun x => funext fun ρ => by show _ = kNot' ρ (asB x); cases asB x <;> rfl)
/-- a way chosen -/
def ifE (cf : Cf) (a b : C) (ρ : Env) (t : Option Bool) : R SV := match t with
  | some true => semE cf a ρ
  | some false => semE cf b ρ
  | none => .stuck
theorem ifE_t {a b : C} : ifE cf a b ρ (some true) = semE cf a ρ := rfl
theorem ifE_f {a b : C} : ifE cf a b ρ (some false) = semE cf b ρ := rfl
theorem ifE_d {a b : C} {p : Prop} [Decidable p] : ifE cf a b ρ (some (decide p)) = if p then semE cf a ρ else semE cf b ρ := by by_cases h : p <;> simp [h, ifE]
def kIf (cf : Cf) (a b : C) : SV → Env → R SV := fun x ρ => ifE cf a b ρ (asB x)
theorem kIf_ {a b : C} {x : SV} : kIf cf a b x ρ = ifE cf a b ρ (asB x) := rfl
theorem e_and {a b : C} : semE cf (.and a b) ρ = (semE cf a ρ).bind (kIf cf b (.bl false)) := rfl
theorem e_or {a b : C} : semE cf (.or a b) ρ = (semE cf a ρ).bind (kIf cf (.bl true) b) := rfl
theorem e_ife {c a b : C} : semE cf (.ife c a b) ρ = (semE cf c ρ).bind (kIf cf a b) := rfl
def kIdx' (x : SV) : SV → Env → R SV := fun y ρ => R.lift (idxD x y) ρ
theorem kIdx'_ {x y : SV} : kIdx' x y ρ = R.lift (idxD x y) ρ := rfl
def kIdx (cf : Cf) (i : C) : SV → Env → R SV := fun x ρ => (semE cf i ρ).bind (kIdx' x)
theorem kIdx_ {i : C} {x : SV} : kIdx cf i x ρ = (semE cf i ρ).bind (kIdx' x) := rfl
theorem e_idx {a i : C} : semE cf (.idx a i) ρ = (semE cf a ρ).bind (kIdx cf i) := rfl
def kIO2 (y : SV) (ρ : Env) (s : Option SV) : R SV := match s with
  | some sv => R.lift (idxD sv y) ρ
  | none => .stuck
theorem kIO2_ {y sv : SV} : kIO2 y ρ (some sv) = R.lift (idxD sv y) ρ := rfl
def kIO' (i : Nat) : SV → Env → R SV := fun y ρ => kIO2 y ρ (getS ρ i)
theorem kIO'_ {i : Nat} {y : SV} : kIO' i y ρ = kIO2 y ρ (getS ρ i) := rfl
def kIO (cf : Cf) (i : Nat) (a : C) (ρ : Env) (s : Option SV) : R SV := match s with
  | some _ => (semE cf a ρ).bind (kIO' i)
  | none => .stuck
theorem kIO_ {i : Nat} {a : C} {sv : SV} : kIO cf i a ρ (some sv) = (semE cf a ρ).bind (kIO' i) := rfl
theorem e_idxO {i : Nat} {a : C} : semE cf (.idxO i a) ρ = kIO cf i a ρ (getS ρ i) := by
  show (match getS ρ i with | some _ => _ | Option.none => _) = _
  cases getS ρ i with
  | none => rfl
  | some z => exact congrArg (R.bind (semE cf a ρ)) (funext fun x => funext fun ρ => by show _ = kIO2 x ρ (getS ρ i); cases getS ρ i <;> rfl)
def kS5 (x : SV) (l : Option Int) (ρ : Env) (h : Option (Option Int)) : R SV := match h with
  | some h => R.lift (sliceD x l h) ρ
  | none => .stuck
theorem kS5_ {x : SV} {l h : Option Int} : kS5 x l ρ (some h) = R.lift (sliceD x l h) ρ := rfl
def kS4 (n : Bool) (x : SV) (l : Option Int) : SV → Env → R SV := fun h ρ => kS5 x l ρ (bound? n h)
theorem kS4_ {n : Bool} {x h : SV} {l : Option Int} : kS4 n x l h ρ = kS5 x l ρ (bound? n h) := rfl
def kS3 (cf : Cf) (hi : C) (x : SV) (ρ : Env) (l : Option (Option Int)) : R SV := match l with
  | some l => (semE cf hi ρ).bind (kS4 hi.isNone x l)
  | none => .stuck
theorem kS3_ {hi : C} {x : SV} {l : Option Int} : kS3 cf hi x ρ (some l) = (semE cf hi ρ).bind (kS4 hi.isNone x l) := rfl
def kS2 (cf : Cf) (n : Bool) (hi : C) (x : SV) : SV → Env → R SV := fun l ρ => kS3 cf hi x ρ (bound? n l)
theorem kS2_ {n : Bool} {hi : C} {x l : SV} : kS2 cf n hi x l ρ = kS3 cf hi x ρ (bound? n l) := rfl
def kS1 (cf : Cf) (lo hi : C) : SV → Env → R SV := fun x ρ => (semE cf lo ρ).bind (kS2 cf lo.isNone hi x)
theorem kS1_ {lo hi : C} {x : SV} : kS1 cf lo hi x ρ = (semE cf lo ρ).bind (kS2 cf lo.isNone hi x) := rfl
theorem e_slc {a lo hi : C} : semE cf (.slc a lo hi) ρ = (semE cf a ρ).bind (kS1 cf lo hi) := by
  refine congrArg (R.bind (semE cf a ρ)) (funext fun x => funext fun ρ => congrArg (R.bind (semE cf lo ρ)) (funext fun l => funext fun ρ => ?_))
  show (match bound? lo.isNone l with | Option.none => _ | some l => _) = kS3 cf hi x ρ (bound? lo.isNone l)
  cases bound? lo.isNone l with
  | none => rfl
  | some z => exact congrArg (R.bind (semE cf hi ρ)) (funext fun y => funext fun ρ => by show _ = kS5 x z ρ (bound? hi.isNone y); cases bound? hi.isNone y <;> rfl)
def efM (cf : Cf) (f : Str) (ρ : Env) (o : Option SV) : R SV := match o with
  | some (.exc C fs) => (match cf.excF C with
    | some (_, fl) => if fl.any fun p => p.1 == f then R.lift ((fs.lookup f).map .d) ρ else .stuck
    | Option.none => .stuck)
  | _ => .stuck
theorem e_efld {i : Nat} {f : Str} : semE cf (.efld i f) ρ = efM cf f ρ (getS ρ i) := rfl
def kTup' (ρ : Env) (o : Option (List PyData)) : R SV := match o with
  | some ds => .ok (.d (.tuple ds)) ρ
  | none => .stuck
theorem kTup'_ {ds : List PyData} : kTup' ρ (some ds) = .ok (.d (.tuple ds)) ρ := rfl
def kTup : List SV → Env → R SV := fun xs ρ => kTup' ρ (allD xs)
theorem kTup_ {xs : List SV} : kTup xs ρ = kTup' ρ (allD xs) := rfl
theorem e_tup {es : C} : semE cf (.tup es) ρ = (semL cf es ρ).bind kTup :=
  congrArg (R.bind (semL cf es ρ)) (funext fun x => funext fun ρ => by show _ = kTup' ρ (allD x); cases allD x <;> rfl)
def kLst' (ρ : Env) (o : Option (List PyData)) : R SV := match o with
  | some ds => .ok (.olst ds) ρ
  | none => .stuck
theorem kLst'_ {ds : List PyData} : kLst' ρ (some ds) = .ok (.olst ds) ρ := rfl
def kLst : List SV → Env → R SV := fun xs ρ => kLst' ρ (allD xs)
theorem kLst_ {xs : List SV} : kLst xs ρ = kLst' ρ (allD xs) := rfl
theorem e_lst {es : C} : semE cf (.lst es) ρ = (semL cf es ρ).bind kLst :=
  congrArg (R.bind (semL cf es ρ)) (funext fun x => funext fun ρ => by show _ = kLst' ρ (allD x); cases allD x <;> rfl)
def frzM (x : SV) (ρ : Env) : R SV := match x with
  | .olst xs => .ok (.d (.list xs)) ρ
  | .oobj _ _ => .stuck
  | sv => .ok sv ρ
theorem frzM_o {xs : List PyData} : frzM (.olst xs) ρ = .ok (.d (.list xs)) ρ := rfl
theorem frzM_d {x : PyData} : frzM (.d x) ρ = .ok (.d x) ρ := rfl
theorem e_frz {a : C} : semE cf (.frz a) ρ = (semE cf a ρ).bind frzM := rfl
def lrgD (x y : SV) : Option SV := ((asInt x).bind fun a => (asInt y).bind fun b => rangeD a b).map .olst
def kL2 (x : SV) : SV → Env → R SV := fun y ρ => R.lift (lrgD x y) ρ
theorem kL2_ {x y : SV} : kL2 x y ρ = R.lift (lrgD x y) ρ := rfl
def kL1 (cf : Cf) (b : C) : SV → Env → R SV := fun x ρ => (semE cf b ρ).bind (kL2 x)
theorem kL1_ {b : C} {x : SV} : kL1 cf b x ρ = (semE cf b ρ).bind (kL2 x) := rfl
theorem e_lrg {a b : C} : semE cf (.lrg a b) ρ = (semE cf a ρ).bind (kL1 cf b) := rfl
def kBf (f : BF) : List SV → Env → R SV := fun xs ρ => R.lift (bfun f xs) ρ
theorem kBf_ {f : BF} {xs : List SV} : kBf f xs ρ = R.lift (bfun f xs) ρ := rfl
theorem e_bf {f : BF} {es : C} : semE cf (.bf f es) ρ = (semL cf es ρ).bind (kBf f) := rfl
def kLen (ρ : Env) (s : Option SV) : R SV := match s with
  | some sv => R.lift (bLen sv) ρ
  | none => .stuck
theorem kLen_ {sv : SV} : kLen ρ (some sv) = R.lift (bLen sv) ρ := rfl
theorem e_lenO {i : Nat} : semE cf (.lenO i) ρ = kLen ρ (getS ρ i) := by
  show (match getS ρ i with | some sv => _ | Option.none => _) = _
  cases getS ρ i <;> rfl
def kIsi (ts : List Ty) (x : SV) (ρ : Env) : R SV := match x with
  | .d d => .ok (.d (.bool (ts.any (hasTy d)))) ρ
  | _ => .stuck
theorem kIsi_ {x : PyData} {ts : List Ty} : kIsi ts (.d x) ρ = .ok (.d (.bool (ts.any (hasTy x)))) ρ := rfl
theorem e_isi {a : C} {ts : List Ty} : semE cf (.isi a ts) ρ = (semE cf a ρ).bind (kIsi ts) := rfl
def outM (r : FR) (as : List Arg) (ρ : Env) : R SV := match r with
  | .ok r outs => .ok r (putOuts ρ as outs)
  | .err e outs => .err e (putOuts ρ as outs)
  | .stuck => .stuck
theorem outM_ok {r : SV} {o : List SV} {as : List Arg} : outM (.ok r o) as ρ = .ok r (putOuts ρ as o) := rfl
theorem outM_err {e : Err} {o : List SV} {as : List Arg} : outM (.err e o) as ρ = .err e (putOuts ρ as o) := rfl
def kCall' (f : Fm) (as : List Arg) (ρ : Env) (o : Option (List SV)) : R SV := match o with
  | some svs => if (refsOf as).Nodup then outM (f svs) as ρ else .stuck
  | none => .stuck
theorem kCall'_ {f : Fm} {as : List Arg} {svs : List SV} : kCall' f as ρ (some svs) = if (refsOf as).Nodup then outM (f svs) as ρ else .stuck := rfl
def kCall (o : Option Fm) : List Arg → Env → R SV := fun as ρ => match o with
  | some f => kCall' f as ρ (resolve ρ as)
  | none => .stuck
theorem kCall_ {f : Fm} {as : List Arg} : kCall (some f) as ρ = kCall' f as ρ (resolve ρ as) := rfl
theorem e_call {k : Nat} {as : C} : semE cf (.call k as) ρ = (semA cf as ρ).bind (kCall (cf.fns[k]?)) := by
  refine congrArg (R.bind (semA cf as ρ)) (funext fun x => funext fun ρ => ?_)
  cases cf.fns[k]? with
  | none => rfl
  | some f =>
    show callF f x ρ = kCall' f x ρ (resolve ρ x)
    unfold callF kCall'
    by_cases h : (refsOf x).Nodup
    · rw [if_pos h]
      cases resolve ρ x with
      | none => rfl
      | some svs => show (match f svs with | .ok r outs => _ | .err e outs => _ | .stuck => _) = (if _ then outM (f svs) x ρ else _); rw [if_pos h]; cases f svs <;> rfl
    · rw [if_neg h]
      cases resolve ρ x with
      | none => rfl
      | some svs => exact (if_neg h).symm
def kComp' (ρ0 : Env) (vs : List Nat) : List PyData → Env → R SV := fun ys ρ1 => .ok (.olst ys) (backE ρ0 ρ1 vs)
theorem kComp'_ {ρ0 : Env} {vs : List Nat} {ys : List PyData} : kComp' ρ0 vs ys ρ = .ok (.olst ys) (backE ρ0 ρ vs) := rfl
def kComp (cf : Cf) (own : List Nat) (tg : Tg) (cond elt : C) : List PyData × List Nat → Env → R SV := fun items ρ0 => (compM (stepC cf own tg cond elt) items.1 (wipeE ρ0 (own ++ items.2))).bind (kComp' ρ0 (own ++ items.2))
theorem kComp_ {own : List Nat} {tg : Tg} {cond elt : C} {xs : List PyData} {hid : List Nat} : kComp cf own tg cond elt (xs, hid) ρ = (compM (stepC cf own tg cond elt) xs (wipeE ρ (own ++ hid))).bind (kComp' ρ (own ++ hid)) := rfl
theorem e_comp {own : List Nat} {tg : Tg} {ik : IK} {it cond elt : C} : semE cf (.comp own tg ik it cond elt) ρ = (semI cf ik it ρ).bind (kComp cf own tg cond elt) := rfl
def kIt' (ρ : Env) (o : Option (List PyData)) : R (List PyData × List Nat) := match o with
  | some z => .ok (z, []) ρ
  | none => .stuck
theorem kIt'_ {z : List PyData} : kIt' ρ (some z) = .ok (z, []) ρ := rfl
def kIt (ik : IK) : List SV → Env → R (List PyData × List Nat) := fun xs ρ => kIt' ρ (iterD ik xs)
theorem kIt_ {ik : IK} {xs : List SV} : kIt ik xs ρ = kIt' ρ (iterD ik xs) := rfl
theorem e_it {ik : IK} {it : C} (h : ∀ i, ik ≠ .own i) : semI cf ik it ρ = (semL cf it ρ).bind (kIt ik) := by
  cases ik <;> first | (exact absurd rfl (h _)) | exact congrArg (R.bind (semL cf it ρ)) (funext fun x => funext fun ρ => by show _ = kIt' ρ (iterD _ x); cases iterD _ x <;> rfl)
theorem e_itV {it : C} : semI cf .val it ρ = (semL cf it ρ).bind (kIt .val) := e_it fun _ => nofun
theorem e_it1 {it : C} : semI cf .range1 it ρ = (semL cf it ρ).bind (kIt .range1) := e_it fun _ => nofun
theorem e_it2 {it : C} : semI cf .range2 it ρ = (semL cf it ρ).bind (kIt .range2) := e_it fun _ => nofun
theorem e_itE {it : C} : semI cf .enum it ρ = (semL cf it ρ).bind (kIt .enum) := e_it fun _ => nofun
def itoM (i : Nat) (ρ : Env) (o : Option SV) : R (List PyData × List Nat) := match o with
  | some (.olst xs) => .ok (xs, [i]) ρ
  | _ => .stuck
theorem itoM_ {i : Nat} {xs : List PyData} : itoM i ρ (some (.olst xs)) = .ok (xs, [i]) ρ := rfl
theorem e_itO {i : Nat} {it : C} : semI cf (.own i) it ρ = itoM i ρ (getS ρ i) := rfl
theorem l_nil : semL cf .nil ρ = .ok [] ρ := rfl
def kLc' (x : SV) : List SV → Env → R (List SV) := fun xs ρ => .ok (x :: xs) ρ
theorem kLc'_ {x : SV} {xs : List SV} : kLc' x xs ρ = .ok (x :: xs) ρ := rfl
def kLc (cf : Cf) (b : C) : SV → Env → R (List SV) := fun x ρ => (semL cf b ρ).bind (kLc' x)
theorem kLc_ {b : C} {x : SV} : kLc cf b x ρ = (semL cf b ρ).bind (kLc' x) := rfl
theorem l_cons {a b : C} : semL cf (.cons a b) ρ = (semE cf a ρ).bind (kLc cf b) := rfl
theorem a_nil : semA cf .nil ρ = .ok [] ρ := rfl
def kAc' (x : Arg) : List Arg → Env → R (List Arg) := fun xs ρ => .ok (x :: xs) ρ
theorem kAc'_ {x : Arg} {xs : List Arg} : kAc' x xs ρ = .ok (x :: xs) ρ := rfl
def kAc (cf : Cf) (b : C) : SV → Env → R (List Arg) := fun x ρ => (semA cf b ρ).bind (kAc' (.v x))
theorem kAc_ {b : C} {x : SV} : kAc cf b x ρ = (semA cf b ρ).bind (kAc' (.v x)) := rfl
def kAr (cf : Cf) (i : Nat) (b : C) (ρ : Env) (o : Option SV) : R (List Arg) := match o with
  | some _ => (semA cf b ρ).bind (kAc' (.r i))
  | none => .stuck
theorem kAr_ {i : Nat} {b : C} {sv : SV} : kAr cf i b ρ (some sv) = (semA cf b ρ).bind (kAc' (.r i)) := rfl
theorem a_ref {i : Nat} {b : C} : semA cf (.cons (.refv i) b) ρ = kAr cf i b ρ (getS ρ i) := by
  show (match getS ρ i with | some _ => _ | Option.none => _) = _
  cases getS ρ i <;> rfl
theorem a_cons {a b : C} (h : a.isRef = false) : semA cf (.cons a b) ρ = (semE cf a ρ).bind (kAc cf b) := semA_v h ρ
/-! ### statements -/
def seqM (r : R Fl) (cf : Cf) (b : C) : R Fl := match r with
  | .ok .nx ρ => semS cf b ρ
  | r => r
theorem seqM_n {b : C} : seqM (.ok .nx ρ) cf b = semS cf b ρ := rfl
theorem seqM_r {v : SV} {b : C} : seqM (.ok (.ret v) ρ) cf b = .ok (.ret v) ρ := rfl
theorem seqM_e {e : Err} {b : C} : seqM (.err e ρ) cf b = .err e ρ := rfl
theorem seqM_s {b : C} : seqM .stuck cf b = .stuck := rfl
theorem s_skip : semS cf .skip ρ = .ok .nx ρ := rfl
theorem s_seq {a b : C} : semS cf (.seq a b) ρ = seqM (semS cf a ρ) cf b := by
  show R.bind _ _ = _
  cases semS cf a ρ with
  | ok x ρ => cases x <;> rfl
  | _ => rfl
def kAsg (pin : List Nat) (i : Nat) : SV → Env → R Fl := fun x ρ => if pin.contains i then .stuck else .ok .nx (ρ.set i (some x))
theorem kAsg_ {pin : List Nat} {i : Nat} {x : SV} : kAsg pin i x ρ = if pin.contains i then .stuck else .ok .nx (ρ.set i (some x)) := rfl
theorem s_asg1 {i : Nat} {e : C} : semS cf (.asg (.one i) e) ρ = (semE cf e ρ).bind (kAsg cf.pin i) := by
  refine congrArg (R.bind (semE cf e ρ)) (funext fun x => funext fun ρ => ?_)
  simp only [kAsg, tgs, List.any_cons, List.any_nil, Bool.or_false]
def kAsgM2 (ρ : Env) (o : Option Env) : R Fl := match o with
  | some ρ => .ok .nx ρ
  | none => .stuck
theorem kAsgM2_ {ρ' : Env} : kAsgM2 ρ (some ρ') = .ok .nx ρ' := rfl
def kAsgM (pin : List Nat) (is : List Nat) (x : SV) (ρ : Env) : R Fl := if is.any (pin.contains ·) then .stuck else match x with
  | .d d => kAsgM2 ρ (setT (.many is) d ρ)
  | _ => .stuck
theorem kAsgM_ {pin is : List Nat} {d : PyData} : kAsgM pin is (.d d) ρ = if is.any (pin.contains ·) then .stuck else kAsgM2 ρ (setT (.many is) d ρ) := rfl
theorem s_asgM {is : List Nat} {e : C} : semS cf (.asg (.many is) e) ρ = (semE cf e ρ).bind (kAsgM cf.pin is) := by
  refine congrArg (R.bind (semE cf e ρ)) (funext fun x => funext fun ρ => ?_)
  show (if (is.any (cf.pin.contains ·)) = true then R.stuck else _) = _
  unfold kAsgM
  by_cases h : (is.any (cf.pin.contains ·)) = true
  · exact (if_pos h).trans (if_pos h).symm
  · refine (if_neg h).trans (Eq.trans ?_ (if_neg h).symm)
    cases x with
    | d x => show (match setT (.many is) x ρ with | some ρ => _ | Option.none => _) = kAsgM2 ρ (setT (.many is) x ρ); cases setT (.many is) x ρ <;> rfl
    | _ => rfl
def kPar (pin : List Nat) (is : List Nat) (xs : List SV) (ρ : Env) : R Fl := if is.any (pin.contains ·) || !decide is.Nodup || decide (xs.length ≠ is.length) then .stuck else .ok .nx (setAll ρ is xs)
theorem kPar_ {pin is : List Nat} {xs : List SV} : kPar pin is xs ρ = if is.any (pin.contains ·) || !decide is.Nodup || decide (xs.length ≠ is.length) then .stuck else .ok .nx (setAll ρ is xs) := rfl
theorem s_par {is : List Nat} {es : C} : semS cf (.par is es) ρ = (semL cf es ρ).bind (kPar cf.pin is) := rfl
def isOl : Option SV → Bool
  | some (.olst _) => true
  | _ => false
theorem isOl_o {xs : List PyData} : isOl (some (.olst xs)) = true := rfl
def setM (o : Option SV) (k x : SV) (ρ : Env) (i : Nat) : R Fl := match o, k, x with
  | some (.olst xs), .d (.int k), .d y => if 0 ≤ k ∧ k < xs.length then .ok .nx (ρ.set i (some (.olst (xs.set k.toNat y)))) else .stuck
  | _, _, _ => .stuck
theorem setM_i {xs : List PyData} {k : Int} {y : PyData} {i : Nat} : setM (some (.olst xs)) (.d (.int k)) (.d y) ρ i = if 0 ≤ k ∧ k < xs.length then .ok .nx (ρ.set i (some (.olst (xs.set k.toNat y)))) else .stuck := rfl
def kAI2 (i : Nat) (x : SV) : SV → Env → R Fl := fun k ρ => setM (getS ρ i) k x ρ i
theorem kAI2_ {i : Nat} {x k : SV} : kAI2 i x k ρ = setM (getS ρ i) k x ρ i := rfl
def kAI1 (cf : Cf) (i : Nat) (ix : C) (x : SV) (ρ : Env) (o : Option SV) : R Fl := match o with
  | some (.olst _) => (semE cf ix ρ).bind (kAI2 i x)
  | _ => .stuck
theorem kAI1_ {i : Nat} {ix : C} {x : SV} {xs : List PyData} : kAI1 cf i ix x ρ (some (.olst xs)) = (semE cf ix ρ).bind (kAI2 i x) := rfl
def kAI (cf : Cf) (i : Nat) (ix : C) : SV → Env → R Fl := fun x ρ => kAI1 cf i ix x ρ (getS ρ i)
theorem kAI_ {i : Nat} {ix : C} {x : SV} : kAI cf i ix x ρ = kAI1 cf i ix x ρ (getS ρ i) := rfl
theorem s_asgI {i : Nat} {ix e : C} : semS cf (.asgI i ix e) ρ = (semE cf e ρ).bind (kAI cf i ix) := by
  refine congrArg (R.bind (semE cf e ρ)) (funext fun x => funext fun ρ => ?_)
  show _ = kAI1 cf i ix x ρ (getS ρ i)
  cases getS ρ i with
  | none => rfl
  | some sv => cases sv <;> rfl
def appM (o : Option SV) (x : SV) (ρ : Env) (i : Nat) : R Fl := match o, x with
  | some (.olst xs), .d y => if xs.length < line then .ok .nx (ρ.set i (some (.olst (xs ++ [y])))) else .stuck
  | _, _ => .stuck
theorem appM_i {xs : List PyData} {y : PyData} {i : Nat} : appM (some (.olst xs)) (.d y) ρ i = if xs.length < line then .ok .nx (ρ.set i (some (.olst (xs ++ [y])))) else .stuck := rfl
def kApp (i : Nat) : SV → Env → R Fl := fun x ρ => appM (getS ρ i) x ρ i
theorem kApp_ {i : Nat} {x : SV} : kApp i x ρ = appM (getS ρ i) x ρ i := rfl
def appO (cf : Cf) (i : Nat) (e : C) (ρ : Env) (o : Option SV) : R Fl := match o with
  | some (.olst _) => (semE cf e ρ).bind (kApp i)
  | _ => .stuck
theorem appO_ {i : Nat} {e : C} {xs : List PyData} : appO cf i e ρ (some (.olst xs)) = (semE cf e ρ).bind (kApp i) := rfl
theorem s_app {i : Nat} {e : C} : semS cf (.app i e) ρ = appO cf i e ρ (getS ρ i) := by
  show (match getS ρ i with | some (.olst _) => _ | _ => _) = _
  cases getS ρ i with
  | none => rfl
  | some sv => cases sv <;> rfl
def extM (o : Option SV) (x : Option (List PyData)) (ρ : Env) (i : Nat) : R Fl := match o, x with
  | some (.olst xs), some ys => if xs.length + ys.length ≤ line then .ok .nx (ρ.set i (some (.olst (xs ++ ys)))) else .stuck
  | _, _ => .stuck
theorem extM_i {xs ys : List PyData} {i : Nat} : extM (some (.olst xs)) (some ys) ρ i = if xs.length + ys.length ≤ line then .ok .nx (ρ.set i (some (.olst (xs ++ ys)))) else .stuck := rfl
def kExt (i : Nat) : SV → Env → R Fl := fun x ρ => extM (getS ρ i) (lstOf x) ρ i
theorem kExt_ {i : Nat} {x : SV} : kExt i x ρ = extM (getS ρ i) (lstOf x) ρ i := rfl
def extO (cf : Cf) (i : Nat) (e : C) (ρ : Env) (o : Option SV) : R Fl := match o with
  | some (.olst _) => (semE cf e ρ).bind (kExt i)
  | _ => .stuck
theorem extO_ {i : Nat} {e : C} {xs : List PyData} : extO cf i e ρ (some (.olst xs)) = (semE cf e ρ).bind (kExt i) := rfl
theorem s_ext {i : Nat} {e : C} : semS cf (.ext i e) ρ = extO cf i e ρ (getS ρ i) := by
  show (match getS ρ i with | some (.olst _) => _ | _ => _) = _
  cases getS ρ i with
  | none => rfl
  | some sv => cases sv <;> rfl
def insM (o : Option SV) (k x : SV) (ρ : Env) (i : Nat) : R Fl := match o, k, x with
  | some (.olst xs), .d (.int k), .d y => if 0 ≤ k ∧ k ≤ xs.length ∧ xs.length < line then .ok .nx (ρ.set i (some (.olst (xs.take k.toNat ++ y :: xs.drop k.toNat)))) else .stuck
  | _, _, _ => .stuck
theorem insM_i {xs : List PyData} {k : Int} {y : PyData} {i : Nat} : insM (some (.olst xs)) (.d (.int k)) (.d y) ρ i = if 0 ≤ k ∧ k ≤ xs.length ∧ xs.length < line then .ok .nx (ρ.set i (some (.olst (xs.take k.toNat ++ y :: xs.drop k.toNat)))) else .stuck := rfl
def kIns2 (i : Nat) (k : SV) : SV → Env → R Fl := fun x ρ => insM (getS ρ i) k x ρ i
theorem kIns2_ {i : Nat} {k x : SV} : kIns2 i k x ρ = insM (getS ρ i) k x ρ i := rfl
def kIns (cf : Cf) (i : Nat) (e : C) : SV → Env → R Fl := fun k ρ => (semE cf e ρ).bind (kIns2 i k)
theorem kIns_ {i : Nat} {e : C} {k : SV} : kIns cf i e k ρ = (semE cf e ρ).bind (kIns2 i k) := rfl
def insO (cf : Cf) (i : Nat) (ix e : C) (ρ : Env) (o : Option SV) : R Fl := match o with
  | some (.olst _) => (semE cf ix ρ).bind (kIns cf i e)
  | _ => .stuck
theorem insO_ {i : Nat} {ix e : C} {xs : List PyData} : insO cf i ix e ρ (some (.olst xs)) = (semE cf ix ρ).bind (kIns cf i e) := rfl
theorem s_ins {i : Nat} {ix e : C} : semS cf (.ins i ix e) ρ = insO cf i ix e ρ (getS ρ i) := by
  show (match getS ρ i with | some (.olst _) => _ | _ => _) = _
  cases getS ρ i with
  | none => rfl
  | some sv => cases sv <;> rfl
def kEx : SV → Env → R Fl := fun _ ρ => .ok .nx ρ
theorem kEx_ {x : SV} : kEx x ρ = .ok .nx ρ := rfl
theorem s_ex {e : C} : semS cf (.ex e) ρ = (semE cf e ρ).bind kEx := rfl
def kRet : SV → Env → R Fl := fun x ρ => .ok (.ret x) ρ
theorem kRet_ {x : SV} : kRet x ρ = .ok (.ret x) ρ := rfl
theorem s_ret {e : C} : semS cf (.ret e) ρ = (semE cf e ρ).bind kRet := rfl
def ifS (cf : Cf) (a b : C) (ρ : Env) (t : Option Bool) : R Fl := match t with
  | some true => semS cf a ρ
  | some false => semS cf b ρ
  | none => .stuck
theorem ifS_t {a b : C} : ifS cf a b ρ (some true) = semS cf a ρ := rfl
theorem ifS_f {a b : C} : ifS cf a b ρ (some false) = semS cf b ρ := rfl
def kIfS (cf : Cf) (a b : C) : SV → Env → R Fl := fun x ρ => ifS cf a b ρ (asB x)
theorem kIfS_ {a b : C} {x : SV} : kIfS cf a b x ρ = ifS cf a b ρ (asB x) := rfl
theorem s_ifs {c a b : C} : semS cf (.ifs c a b) ρ = (semE cf c ρ).bind (kIfS cf a b) := rfl
def kFor' (cf : Cf) (tg : Tg) (body : C) (ρ : Env) (o : Option (List PyData)) : R Fl := match o with
  | some z => forM (stepF cf tg body) z ρ
  | none => .stuck
theorem kFor'_ {tg : Tg} {body : C} {z : List PyData} : kFor' cf tg body ρ (some z) = forM (stepF cf tg body) z ρ := rfl
def kFor (cf : Cf) (tg : Tg) (ik : IK) (body : C) : List SV → Env → R Fl := fun xs ρ => kFor' cf tg body ρ (iterD ik xs)
theorem kFor_ {tg : Tg} {ik : IK} {body : C} {xs : List SV} : kFor cf tg ik body xs ρ = kFor' cf tg body ρ (iterD ik xs) := rfl
theorem s_fors {tg : Tg} {ik : IK} {it body : C} : semS cf (.fors tg ik it body) ρ = if (tgs tg).any (cf.pin.contains ·) then .stuck else (semL cf it ρ).bind (kFor cf tg ik body) := by
  show (if _ then _ else R.bind (R.bind _ _) _) = _
  cases semL cf it ρ with
  | ok x ρ =>
    simp only [R.bind_ok]
    have : kFor cf tg ik body x ρ = (R.lift (Option.map (fun z => (z, ([] : List Nat))) (iterD ik x)) ρ).bind fun (items : List PyData × List Nat) ρ => forM (stepF cf tg body) items.1 ρ := by
      show kFor' cf tg body ρ (iterD ik x) = _
      cases iterD ik x <;> rfl
    rw [this]
    rfl
  | _ => rfl
theorem s_whl {n : Nat} {c body : C} : semS cf (.whl n c body) ρ = whileM (semE cf c) (semS cf body) n ρ := rfl
def raiM (ρ : Env) (o : Option Err) : R Fl := match o with
  | some e => .err e ρ
  | none => .stuck
theorem raiM_ {e : Err} : raiM ρ (some e) = .err e ρ := rfl
def kRai (cf : Cf) (X : Nat) : List SV → Env → R Fl := fun xs ρ => raiM ρ ((allD xs).bind (errOf cf X))
theorem kRai_ {X : Nat} {xs : List SV} : kRai cf X xs ρ = raiM ρ ((allD xs).bind (errOf cf X)) := rfl
theorem s_raise {X : Nat} {es : C} : semS cf (.raise X es) ρ = (semL cf es ρ).bind (kRai cf X) :=
  congrArg (R.bind (semL cf es ρ)) (funext fun x => funext fun ρ => by show _ = raiM ρ ((allD x).bind (errOf cf X)); cases (allD x).bind (errOf cf X) <;> rfl)
def tryM (r : R Fl) (cf : Cf) (hs : C) : R Fl := match r with
  | .err e ρ => semH cf hs e ρ
  | r => r
theorem tryM_e {e : Err} {hs : C} : tryM (.err e ρ) cf hs = semH cf hs e ρ := rfl
theorem tryM_o {f : Fl} {hs : C} : tryM (.ok f ρ) cf hs = .ok f ρ := rfl
theorem s_tryx {body hs : C} : semS cf (.tryx body hs) ρ = tryM (semS cf body ρ) cf hs := by
  show (match semS cf body ρ with | .err e ρ => _ | r => r) = _
  cases semS cf body ρ <;> rfl
def hn (cf : Cf) (X : Nat) (slot : Option Nat) (suite rest : C) (e : Err) (ρ : Env) (t : Option Bool) : R Fl := match t with
  | some true => (match slot with
    | some i => if cf.pin.contains i then .stuck else (match semS cf suite (ρ.set i (some (.exc e.C e.fs))) with
      | .ok fl ρ => if noExc (ρ.set i Option.none) && fl.plain then .ok fl (ρ.set i Option.none) else .stuck
      | _ => .stuck)
    | Option.none => (match semS cf suite ρ with
      | .ok fl ρ => .ok fl ρ
      | _ => .stuck))
  | some false => semH cf rest e ρ
  | none => .stuck
theorem h_hnd {X : Nat} {slot : Option Nat} {suite rest : C} {e : Err} : semH cf (.hnd X slot suite rest) e ρ = hn cf X slot suite rest e ρ (cf.exm e.C X) := by
  unfold semH hn
  cases cf.exm e.C X with
  | none => rfl
  | some b => cases b <;> cases slot <;> rfl
theorem h_nil {e : Err} : semH cf .nil e ρ = .err e ρ := rfl
theorem hn_f {X : Nat} {slot : Option Nat} {suite rest : C} {e : Err} : hn cf X slot suite rest e ρ (some false) = semH cf rest e ρ := rfl
def offS (i : Nat) (r : R Fl) : R Fl := match r with
  | .ok fl ρ => if noExc (ρ.set i none) && fl.plain then .ok fl (ρ.set i none) else .stuck
  | _ => .stuck
theorem offS_ {i : Nat} {fl : Fl} : offS i (.ok fl ρ) = if noExc (ρ.set i none) && fl.plain then .ok fl (ρ.set i none) else .stuck := rfl
theorem hn_t {X i : Nat} {suite rest : C} {e : Err} : hn cf X (some i) suite rest e ρ (some true) = if cf.pin.contains i then .stuck else offS i (semS cf suite (ρ.set i (some (.exc e.C e.fs)))) := by
  show (if _ then _ else _) = _
  cases semS cf suite (ρ.set i (some (.exc e.C e.fs))) <;> rfl
/-! ### a def -/
def retM (svs : List SV) (r : R Fl) : FR := match r with
  | .ok .nx ρ => if fine svs ρ then .ok (.d .none) (outs svs ρ) else .stuck
  | .ok (.ret v) ρ => if fine svs ρ then .ok v (outs svs ρ) else .stuck
  | .err e ρ => if fine svs ρ then .err e (outs svs ρ) else .stuck
  | .stuck => .stuck
theorem run_eq (cf : Cf) (np n : Nat) (body : C) (svs : List SV) : runF cf np n body svs = if svs.length = np ∧ (svs.zipIdx.all fun p => isPinned cf.pin p.2 p.1) = true then retM svs (semS cf body (env0 n svs)) else .stuck := by
  rw [runF_eq]
  split
  · cases semS cf body (env0 n svs) with
    | ok f ρ => cases f <;> rfl
    | _ => rfl
  · rfl
theorem fine_none {svs : List SV} (h : ∀ s ∈ svs, s.isOwn = false) (ρ : Env) : fine svs ρ = true ∧ outs svs ρ = svs := by
  constructor
  · unfold fine
    rw [List.all_eq_true]
    rintro ⟨s, i⟩ hm
    have := h s (by rw [(List.mem_zipIdx' hm).2]; exact List.getElem_mem _)
    simp_all
  · unfold outs
    have key : ∀ (l : List SV) (k : Nat), (∀ s ∈ l, s.isOwn = false) → (l.zipIdx k).map (fun p => if p.1.isOwn = true then (getS ρ p.2).getD (.d .none) else p.1) = l := by
      intro l
      induction l with
      | nil => intros; rfl
      | cons a l ih =>
        intro k hl
        rw [List.zipIdx_cons, List.map_cons, ih (k + 1) (fun s hs => hl s (List.mem_cons_of_mem _ hs))]
        have := hl a List.mem_cons_self
        simp [this]
    exact key svs 0 h
/-- a run's end, where all parameters are data -/
def datM (xs : List SV) (r : R Fl) : FR := match r with
  | .ok .nx _ => .ok (.d .none) xs
  | .ok (.ret v) _ => .ok v xs
  | .err e _ => .err e xs
  | .stuck => .stuck
theorem datM_n {xs : List SV} : datM xs (.ok .nx ρ) = .ok (.d .none) xs := rfl
theorem datM_r {xs : List SV} {v : SV} : datM xs (.ok (.ret v) ρ) = .ok v xs := rfl
theorem datM_e {xs : List SV} {e : Err} : datM xs (.err e ρ) = .err e xs := rfl
theorem run_data {cf : Cf} {np n : Nat} {body : C} (svs : List SV) (hn : ∀ s ∈ svs, s.isOwn = false) (hl : svs.length = np) : runF cf np n body svs = datM svs (semS cf body (env0 n svs)) := by
  rw [run_eq, if_pos]
  · cases semS cf body (env0 n svs) with
    | ok f ρ =>
      obtain ⟨h1, h2⟩ := fine_none hn ρ
      cases f <;> simp only [retM, datM, h1, h2, ↓reduceIte]
    | err e ρ =>
      obtain ⟨h1, h2⟩ := fine_none hn ρ
      simp only [retM, datM, h1, h2, ↓reduceIte]
    | stuck => rfl
  · refine ⟨hl, ?_⟩
    rw [List.all_eq_true]
    rintro ⟨s, i⟩ hm
    have := hn s (by rw [(List.mem_zipIdx' hm).2]; exact List.getElem_mem _)
    unfold isPinned
    simp [this]
/-! ### values -/
theorem o_add {a b : Int} : binop .add (.d (.int a)) (.d (.int b)) = some (.d (.int (a + b))) := rfl
theorem o_sub {a b : Int} : binop .sub (.d (.int a)) (.d (.int b)) = some (.d (.int (a - b))) := rfl
theorem o_mul {a b : Int} (h : small64 a = true ∨ small64 b = true) : binop .mul (.d (.int a)) (.d (.int b)) = some (.d (.int (a * b))) := by
  show (if (small64 a || small64 b) = true then _ else _) = _
  rw [if_pos (by rcases h with h | h <;> simp [h])]
theorem o_fdiv {a b : Int} (h0 : 0 < b) (h1 : b < 2 ^ 64) : binop .fdiv (.d (.int a)) (.d (.int b)) = some (.d (.int (a / b))) := by
  show (if (decide (0 < b) && decide (b < 2 ^ 64)) = true then _ else _) = _
  rw [if_pos (by simp only [h0, h1, decide_true, Bool.and_self])]
theorem o_mod {a b : Int} (h0 : 0 < b) : binop .mod (.d (.int a)) (.d (.int b)) = some (.d (.int (a % b))) := by
  show (if decide (0 < b) = true then _ else _) = _
  rw [if_pos (by simp only [h0, decide_true])]
theorem c_lt {a b : Int} : cmpop .lt (.d (.int a)) (.d (.int b)) = some (.d (.bool (decide (a < b)))) := rfl
theorem c_le {a b : Int} : cmpop .le (.d (.int a)) (.d (.int b)) = some (.d (.bool (decide (a ≤ b)))) := rfl
theorem c_gt {a b : Int} : cmpop .gt (.d (.int a)) (.d (.int b)) = some (.d (.bool (decide (b < a)))) := rfl
theorem c_ge {a b : Int} : cmpop .ge (.d (.int a)) (.d (.int b)) = some (.d (.bool (decide (b ≤ a)))) := rfl
theorem c_eq {x y : PyData} : cmpop .eq (.d x) (.d y) = (eqD x y).map fun t => .d (.bool t) := rfl
theorem c_ne {x y : PyData} : cmpop .ne (.d x) (.d y) = (eqD x y).map fun t => .d (.bool !t) := rfl
theorem eqD_l {x y : PyData} (h : x.depth ≤ 60) : eqD x y = some (PyData.eqv x y) := if_pos (Nat.le_trans (Nat.min_le_left _ _) h)
theorem eqD_r {x y : PyData} (h : y.depth ≤ 60) : eqD x y = some (PyData.eqv x y) := if_pos (Nat.le_trans (Nat.min_le_right _ _) h)
theorem depth_int {a : Int} : (PyData.int a).depth = 0 := by simp [PyData.depth]
theorem eqD_int {a : Int} {y : PyData} : eqD (.int a) y = some (PyData.eqv (.int a) y) := eqD_l (by rw [depth_int]; decide)
theorem eqv_int {a b : Int} : PyData.eqv (.int a) (.int b) = decide (a = b) := by
  simp only [PyData.eqv]
  by_cases h : a = b <;> simp [h]
theorem c_eqi {a b : Int} : cmpop .eq (.d (.int a)) (.d (.int b)) = some (.d (.bool (decide (a = b)))) := by
  rw [c_eq, eqD_int, eqv_int]
  rfl
theorem c_nei {a b : Int} : cmpop .ne (.d (.int a)) (.d (.int b)) = some (.d (.bool (decide (a ≠ b)))) := by
  rw [c_ne, eqD_int, eqv_int]
  by_cases h : a = b <;> simp [h]
theorem asB_b {b : Bool} : asB (.d (.bool b)) = some b := rfl
theorem isRef_none : C.isRef .none = false := rfl
theorem isRef_bl {b : Bool} : C.isRef (.bl b) = false := rfl
theorem isRef_int {i : Int} : C.isRef (.int i) = false := rfl
theorem isRef_str {s : Str} : C.isRef (.str s) = false := rfl
theorem isRef_var {i : Nat} : C.isRef (.var i) = false := rfl
theorem isRef_gl {i : Nat} : C.isRef (.gl i) = false := rfl
theorem isRef_gfn {i : Nat} : C.isRef (.gfn i) = false := rfl
theorem isRef_bin {o : BOp} {a b : C} : C.isRef (.bin o a b) = false := rfl
theorem isRef_neg {a : C} : C.isRef (.neg a) = false := rfl
theorem isRef_cmp {o : COp} {a b : C} : C.isRef (.cmp o a b) = false := rfl
theorem isRef_cmp2 {o p : COp} {a b c : C} : C.isRef (.cmp2 o p a b c) = false := rfl
theorem isRef_cmpO {o : COp} {a : C} {i : Nat} : C.isRef (.cmpO o a i) = false := rfl
theorem isRef_not {a : C} : C.isRef (.not a) = false := rfl
theorem isRef_and {a b : C} : C.isRef (.and a b) = false := rfl
theorem isRef_or {a b : C} : C.isRef (.or a b) = false := rfl
theorem isRef_ife {a b c : C} : C.isRef (.ife c a b) = false := rfl
theorem isRef_idx {a b : C} : C.isRef (.idx a b) = false := rfl
theorem isRef_idxO {i : Nat} {a : C} : C.isRef (.idxO i a) = false := rfl
theorem isRef_slc {a b c : C} : C.isRef (.slc a b c) = false := rfl
theorem isRef_fld {a : C} {f : Str} : C.isRef (.fld a f) = false := rfl
theorem isRef_efld {i : Nat} {f : Str} : C.isRef (.efld i f) = false := rfl
theorem isRef_tup {a : C} : C.isRef (.tup a) = false := rfl
theorem isRef_lst {a : C} : C.isRef (.lst a) = false := rfl
theorem isRef_frz {a : C} : C.isRef (.frz a) = false := rfl
theorem isRef_lrg {a b : C} : C.isRef (.lrg a b) = false := rfl
theorem isRef_bf {f : BF} {a : C} : C.isRef (.bf f a) = false := rfl
theorem isRef_lenO {i : Nat} : C.isRef (.lenO i) = false := rfl
theorem isRef_isi {a : C} {ts : List Ty} : C.isRef (.isi a ts) = false := rfl
theorem isRef_call {k : Nat} {a : C} : C.isRef (.call k a) = false := rfl
theorem isRef_comp {own : List Nat} {tg : Tg} {ik : IK} {it cond elt : C} : C.isRef (.comp own tg ik it cond elt) = false := rfl
theorem ac_none {q : C} : semA cf (.cons .none q) ρ = (semE cf .none ρ).bind (kAc cf q) := semA_v rfl ρ
theorem ac_bl {b : Bool} {q : C} : semA cf (.cons (.bl b) q) ρ = (semE cf (.bl b) ρ).bind (kAc cf q) := semA_v rfl ρ
theorem ac_int {i : Int} {q : C} : semA cf (.cons (.int i) q) ρ = (semE cf (.int i) ρ).bind (kAc cf q) := semA_v rfl ρ
theorem ac_str {s : Str} {q : C} : semA cf (.cons (.str s) q) ρ = (semE cf (.str s) ρ).bind (kAc cf q) := semA_v rfl ρ
theorem ac_var {i : Nat} {q : C} : semA cf (.cons (.var i) q) ρ = (semE cf (.var i) ρ).bind (kAc cf q) := semA_v rfl ρ
theorem ac_gl {i : Nat} {q : C} : semA cf (.cons (.gl i) q) ρ = (semE cf (.gl i) ρ).bind (kAc cf q) := semA_v rfl ρ
theorem ac_gfn {i : Nat} {q : C} : semA cf (.cons (.gfn i) q) ρ = (semE cf (.gfn i) ρ).bind (kAc cf q) := semA_v rfl ρ
theorem ac_bin {o : BOp} {a b : C} {q : C} : semA cf (.cons (.bin o a b) q) ρ = (semE cf (.bin o a b) ρ).bind (kAc cf q) := semA_v rfl ρ
theorem ac_neg {a : C} {q : C} : semA cf (.cons (.neg a) q) ρ = (semE cf (.neg a) ρ).bind (kAc cf q) := semA_v rfl ρ
theorem ac_cmp {o : COp} {a b : C} {q : C} : semA cf (.cons (.cmp o a b) q) ρ = (semE cf (.cmp o a b) ρ).bind (kAc cf q) := semA_v rfl ρ
theorem ac_cmp2 {o p : COp} {a b c : C} {q : C} : semA cf (.cons (.cmp2 o p a b c) q) ρ = (semE cf (.cmp2 o p a b c) ρ).bind (kAc cf q) := semA_v rfl ρ
theorem ac_cmpO {o : COp} {a : C} {i : Nat} {q : C} : semA cf (.cons (.cmpO o a i) q) ρ = (semE cf (.cmpO o a i) ρ).bind (kAc cf q) := semA_v rfl ρ
theorem ac_not {a : C} {q : C} : semA cf (.cons (.not a) q) ρ = (semE cf (.not a) ρ).bind (kAc cf q) := semA_v rfl ρ
theorem ac_and {a b : C} {q : C} : semA cf (.cons (.and a b) q) ρ = (semE cf (.and a b) ρ).bind (kAc cf q) := semA_v rfl ρ
theorem ac_or {a b : C} {q : C} : semA cf (.cons (.or a b) q) ρ = (semE cf (.or a b) ρ).bind (kAc cf q) := semA_v rfl ρ
theorem ac_ife {a b c : C} {q : C} : semA cf (.cons (.ife c a b) q) ρ = (semE cf (.ife c a b) ρ).bind (kAc cf q) := semA_v rfl ρ
theorem ac_idx {a b : C} {q : C} : semA cf (.cons (.idx a b) q) ρ = (semE cf (.idx a b) ρ).bind (kAc cf q) := semA_v rfl ρ
theorem ac_idxO {i : Nat} {a : C} {q : C} : semA cf (.cons (.idxO i a) q) ρ = (semE cf (.idxO i a) ρ).bind (kAc cf q) := semA_v rfl ρ
theorem ac_slc {a b c : C} {q : C} : semA cf (.cons (.slc a b c) q) ρ = (semE cf (.slc a b c) ρ).bind (kAc cf q) := semA_v rfl ρ
theorem ac_fld {a : C} {f : Str} {q : C} : semA cf (.cons (.fld a f) q) ρ = (semE cf (.fld a f) ρ).bind (kAc cf q) := semA_v rfl ρ
theorem ac_efld {i : Nat} {f : Str} {q : C} : semA cf (.cons (.efld i f) q) ρ = (semE cf (.efld i f) ρ).bind (kAc cf q) := semA_v rfl ρ
theorem ac_tup {a : C} {q : C} : semA cf (.cons (.tup a) q) ρ = (semE cf (.tup a) ρ).bind (kAc cf q) := semA_v rfl ρ
theorem ac_lst {a : C} {q : C} : semA cf (.cons (.lst a) q) ρ = (semE cf (.lst a) ρ).bind (kAc cf q) := semA_v rfl ρ
theorem ac_frz {a : C} {q : C} : semA cf (.cons (.frz a) q) ρ = (semE cf (.frz a) ρ).bind (kAc cf q) := semA_v rfl ρ
theorem ac_lrg {a b : C} {q : C} : semA cf (.cons (.lrg a b) q) ρ = (semE cf (.lrg a b) ρ).bind (kAc cf q) := semA_v rfl ρ
theorem ac_bf {f : BF} {a : C} {q : C} : semA cf (.cons (.bf f a) q) ρ = (semE cf (.bf f a) ρ).bind (kAc cf q) := semA_v rfl ρ
theorem ac_lenO {i : Nat} {q : C} : semA cf (.cons (.lenO i) q) ρ = (semE cf (.lenO i) ρ).bind (kAc cf q) := semA_v rfl ρ
theorem ac_isi {a : C} {ts : List Ty} {q : C} : semA cf (.cons (.isi a ts) q) ρ = (semE cf (.isi a ts) ρ).bind (kAc cf q) := semA_v rfl ρ
theorem ac_call {k : Nat} {a : C} {q : C} : semA cf (.cons (.call k a) q) ρ = (semE cf (.call k a) ρ).bind (kAc cf q) := semA_v rfl ρ
theorem ac_comp {own : List Nat} {tg : Tg} {ik : IK} {it cond elt : C} {q : C} : semA cf (.cons (.comp own tg ik it cond elt) q) ρ = (semE cf (.comp own tg ik it cond elt) ρ).bind (kAc cf q) := semA_v rfl ρ
theorem isN_none : C.isNone .none = true := rfl
theorem isN_int {i : Int} : C.isNone (.int i) = false := rfl
theorem isN_var {i : Nat} : C.isNone (.var i) = false := rfl
theorem isN_bin {o : BOp} {a b : C} : C.isNone (.bin o a b) = false := rfl
theorem isN_neg {a : C} : C.isNone (.neg a) = false := rfl
theorem isN_idxO {i : Nat} {a : C} : C.isNone (.idxO i a) = false := rfl
theorem isN_idx {a b : C} : C.isNone (.idx a b) = false := rfl
theorem isN_call {k : Nat} {a : C} : C.isNone (.call k a) = false := rfl
theorem isN_lenO {i : Nat} : C.isNone (.lenO i) = false := rfl
theorem bound_n {x : SV} : bound? true x = some none := rfl
theorem bound_i {k : Int} : bound? false (.d (.int k)) = some (some k) := rfl
/-! ### places, lengths, walks -/
theorem atI_lit {α : Type} {xs : List α} (n : Nat) : atI xs (no_index (@OfNat.ofNat Int n _)) = xs[n]? := by
  show atI xs ((n : Nat) : Int) = xs[n]?
  unfold atI ixN
  by_cases h : n < xs.length
  · rw [if_pos (by omega), if_pos (by omega)]
    simp
  · rw [if_pos (by omega), if_neg (by omega)]
    rw [List.getElem?_eq_none (by omega)]
    rfl
theorem atI_nat {α : Type} {xs : List α} {k : Int} (h : 0 ≤ k) : atI xs k = xs[k.toNat]? := by
  have e := atI_lit (xs := xs) k.toNat
  rw [← e]
  show atI xs k = atI xs ((k.toNat : Nat) : Int)
  rw [Int.toNat_of_nonneg h]
theorem i_t {xs : List PyData} {k : Int} : idxD (.d (.tuple xs)) (.d (.int k)) = (atI xs k).map .d := rfl
theorem i_l {xs : List PyData} {k : Int} : idxD (.d (.list xs)) (.d (.int k)) = (atI xs k).map .d := rfl
theorem i_o {xs : List PyData} {k : Int} : idxD (.olst xs) (.d (.int k)) = (atI xs k).map .d := rfl
theorem n_t {xs : List PyData} : bLen (.d (.tuple xs)) = some (.d (.int xs.length)) := rfl
theorem n_l {xs : List PyData} : bLen (.d (.list xs)) = some (.d (.int xs.length)) := rfl
theorem n_o {xs : List PyData} : bLen (.olst xs) = some (.d (.int xs.length)) := rfl
theorem bf_len {x : SV} : bfun .len [x] = bLen x := rfl
theorem bf_int {i : Int} : bfun .int [.d (.int i)] = some (.d (.int i)) := rfl
theorem bf_abs {i : Int} : bfun .abs [.d (.int i)] = some (.d (.int (if i < 0 then -i else i))) := rfl
theorem bf_tupL {xs : List PyData} : bfun .tuple [.d (.list xs)] = some (.d (.tuple xs)) := rfl
theorem bf_tupT {xs : List PyData} : bfun .tuple [.d (.tuple xs)] = some (.d (.tuple xs)) := rfl
theorem bf_tupO {xs : List PyData} : bfun .tuple [.olst xs] = some (.d (.tuple xs)) := rfl
theorem bf_lstL {xs : List PyData} : bfun .list [.d (.list xs)] = some (.olst xs) := rfl
theorem bf_lstT {xs : List PyData} : bfun .list [.d (.tuple xs)] = some (.olst xs) := rfl
theorem bf_lstO {xs : List PyData} : bfun .list [.olst xs] = some (.olst xs) := rfl
theorem bf_max2 {a b : Int} : bfun .max2 [.d (.int a), .d (.int b)] = some (.d (.int (if b > a then b else a))) := rfl
theorem bf_min2 {a b : Int} : bfun .min2 [.d (.int a), .d (.int b)] = some (.d (.int (if b < a then b else a))) := rfl
theorem bf_max1 {x : SV} : bfun .max1 [x] = bFold (fun m b => if b > m then b else m) x := rfl
theorem bf_min1 {x : SV} : bfun .min1 [x] = bFold (fun m b => if b < m then b else m) x := rfl
theorem bf_all {x : SV} : bfun .all [x] = bBools (fun bs => bs.all id) x := rfl
theorem bf_any {x : SV} : bfun .any [x] = bBools (fun bs => bs.any id) x := rfl
theorem bf_repr {x : SV} : bfun .repr [x] = bRepr x := rfl
theorem t_one {i : Nat} {x : PyData} {ρ : Env} : setT (.one i) x ρ = some (ρ.set i (some (.d x))) := rfl
theorem t_many {is : List Nat} {xs : List PyData} {ρ : Env} : setT (.many is) (.tuple xs) ρ = setMany ρ is xs := rfl
theorem t_nil {ρ : Env} : setMany ρ [] [] = some ρ := rfl
theorem t_cons {i : Nat} {is : List Nat} {x : PyData} {xs : List PyData} {ρ : Env} : setMany ρ (i :: is) (x :: xs) = setMany (ρ.set i (some (.d x))) is xs := rfl
theorem it_l {xs : List PyData} : iterD .val [.d (.list xs)] = some xs := rfl
theorem it_t {xs : List PyData} : iterD .val [.d (.tuple xs)] = some xs := rfl
theorem it_r1 {b : Int} : iterD .range1 [.d (.int b)] = rangeD 0 b := rfl
theorem it_r2 {a b : Int} : iterD .range2 [.d (.int a), .d (.int b)] = rangeD a b := rfl
theorem it_el {xs : List PyData} : iterD .enum [.d (.list xs)] = some (enumD xs) := rfl
theorem it_et {xs : List PyData} : iterD .enum [.d (.tuple xs)] = some (enumD xs) := rfl
theorem range_ok {a b : Int} (h1 : -(2 ^ 62) ≤ a) (h2 : a < 2 ^ 62) (h3 : -(2 ^ 62) ≤ b) (h4 : b < 2 ^ 62) (h5 : b - a ≤ 16777216) : rangeD a b = some ((List.range (b - a).toNat).map fun k => .int (a + (k : Nat))) := by
  unfold rangeD
  have : line = 16777216 := rfl
  rw [if_pos]
  simp only [Bool.and_eq_true, decide_eq_true_eq]
  exact ⟨⟨⟨⟨h1, h2⟩, h3⟩, h4⟩, by rw [this]; exact h5⟩
theorem w_nil {ρ : Env} : wipeE ρ [] = ρ := rfl
theorem w_cons {ρ : Env} {v : Nat} {vs : List Nat} : wipeE ρ (v :: vs) = (wipeE ρ vs).set v none := rfl
theorem b_nil {ρ0 ρ : Env} : backE ρ0 ρ [] = ρ := rfl
theorem b_cons {ρ0 ρ : Env} {v : Nat} {vs : List Nat} : backE ρ0 ρ (v :: vs) = (backE ρ0 ρ vs).set v (getS ρ0 v) := rfl
/-! ### loops -/
theorem comp_all {step : PyData → Env → R (Option PyData)} {ρ : Env} {g : PyData → Option PyData} : ∀ {xs : List PyData}, (∀ x ∈ xs, step x ρ = .ok (g x) ρ) → compM step xs ρ = .ok (xs.filterMap g) ρ
  | [], _ => rfl
  | x :: xs, h => by
    unfold compM
    rw [h x List.mem_cons_self]
    have ih := comp_all (xs := xs) fun y hy => h y (List.mem_cons_of_mem _ hy)
    cases e : g x with
    | none =>
      dsimp only
      rw [ih, List.filterMap_cons_none e]
    | some y =>
      dsimp only
      rw [ih, List.filterMap_cons_some e]
      rfl
theorem comp_map {step : PyData → Env → R (Option PyData)} {ρ : Env} {g : PyData → PyData} {xs : List PyData} (h : ∀ x ∈ xs, step x ρ = .ok (some (g x)) ρ) : compM step xs ρ = .ok (xs.map g) ρ := by
  rw [comp_all (g := fun x => some (g x)) h, List.filterMap_eq_map']
/-- a comprehension whose environment goes with the items -/
theorem comp_go {step : PyData → Env → R (Option PyData)} (E : Nat → Env) {g : Nat → PyData → Option PyData} : ∀ {xs : List PyData} {k : Nat}, (∀ i x, xs[i]? = some x → step x (E (k + i)) = .ok (g (k + i) x) (E (k + i + 1))) →
    compM step xs (E k) = .ok ((xs.zipIdx k).filterMap fun p => g p.2 p.1) (E (k + xs.length))
  | [], k, _ => rfl
  | x :: xs, k, h => by
    unfold compM
    have h0 := h 0 x rfl
    rw [Nat.add_zero] at h0
    rw [h0]
    have ih := comp_go E (g := g) (xs := xs) (k := k + 1) fun i y hy => by
      have := h (i + 1) y (by simpa using hy)
      have e : k + 1 + i = k + (i + 1) := by omega
      rw [e]
      exact this
    have e2 : k + (x :: xs).length = k + 1 + xs.length := by rw [List.length_cons]; omega
    rw [e2, List.zipIdx_cons]
    cases e : g k x with
    | none =>
      dsimp only
      rw [ih, List.filterMap_cons_none (f := fun p => g p.2 p.1) (a := (x, k)) e]
    | some y =>
      dsimp only
      rw [ih, List.filterMap_cons_some (f := fun p => g p.2 p.1) (a := (x, k)) e]
      rfl
theorem step_eq {own : List Nat} {tg : Tg} {cond elt : C} {cf : Cf} {x : PyData} {ρ : Env} : stepC cf own tg cond elt x ρ = match setT tg x ρ with
    | none => .stuck
    | some ρ => (semE cf cond ρ).bind fun t ρ => match asB t with
      | some true => (semE cf elt ρ).bind fun y ρ => (match asD y with
        | some d => .ok (some d) (wipeE ρ own)
        | none => .stuck)
      | some false => .ok none (wipeE ρ own)
      | none => .stuck := rfl
/-- one turn, by what it finds -/
theorem step_yes {own : List Nat} {tg : Tg} {cond elt : C} {cf : Cf} {x d : PyData} {ρ ρ1 ρ2 ρ3 : Env} (h1 : setT tg x ρ = some ρ1) (h2 : semE cf cond ρ1 = .ok (.d (.bool true)) ρ2) (h3 : semE cf elt ρ2 = .ok (.d d) ρ3) : stepC cf own tg cond elt x ρ = .ok (some d) (wipeE ρ3 own) := by
  rw [step_eq, h1]
  dsimp only
  rw [h2]
  dsimp only [R.bind_ok, asB]
  rw [h3]
  rfl
theorem step_no {own : List Nat} {tg : Tg} {cond elt : C} {cf : Cf} {x : PyData} {ρ ρ1 ρ2 : Env} (h1 : setT tg x ρ = some ρ1) (h2 : semE cf cond ρ1 = .ok (.d (.bool false)) ρ2) : stepC cf own tg cond elt x ρ = .ok none (wipeE ρ2 own) := by
  rw [step_eq, h1]
  dsimp only
  rw [h2]
  rfl
theorem for_go {step : PyData → Env → R Fl} (E : Nat → Env) : ∀ {xs : List PyData} {k : Nat}, (∀ i x, xs[i]? = some x → step x (E (k + i)) = .ok .nx (E (k + i + 1))) → forM step xs (E k) = .ok .nx (E (k + xs.length))
  | [], k, _ => rfl
  | x :: xs, k, h => by
    unfold forM
    have h0 := h 0 x rfl
    rw [Nat.add_zero] at h0
    rw [h0]
    have ih := for_go E (xs := xs) (k := k + 1) fun i y hy => by
      have := h (i + 1) y (by simpa using hy)
      have e : k + 1 + i = k + (i + 1) := by omega
      rw [e]
      exact this
    have e2 : k + (x :: xs).length = k + 1 + xs.length := by rw [List.length_cons]; omega
    rw [e2]
    exact ih
/-- a loop by an invariant of environments: it goes on, or returns what is asked -/
theorem for_inv {step : PyData → Env → R Fl} (I : List PyData → Env → Prop) {Q : R Fl → Prop} (hn : ∀ ρ, I [] ρ → Q (.ok .nx ρ)) (hs : ∀ x xs ρ, I (x :: xs) ρ → (∃ ρ1, step x ρ = .ok .nx ρ1 ∧ I xs ρ1) ∨ (∃ v ρ1, step x ρ = .ok (.ret v) ρ1 ∧ Q (.ok (.ret v) ρ1)) ∨ ∃ e ρ1, step x ρ = .err e ρ1 ∧ Q (.err e ρ1)) :
    ∀ (xs : List PyData) (ρ : Env), I xs ρ → Q (forM step xs ρ)
  | [], ρ, h => hn ρ h
  | x :: xs, ρ, h => by
    unfold forM
    rcases hs x xs ρ h with ⟨ρ1, e, h1⟩ | ⟨v, ρ1, e, h1⟩ | ⟨e2, ρ1, e, h1⟩
    · rw [e]
      exact for_inv I hn hs xs ρ1 h1
    · rw [e]
      exact h1
    · rw [e]
      exact h1
theorem while_inv {c : Env → R SV} {b : Env → R Fl} (I : Env → Prop) (μ : Env → Nat) {Q : R Fl → Prop}
    (hs : ∀ ρ, I ρ → (∃ ρ1, c ρ = .ok (.d (.bool false)) ρ1 ∧ Q (.ok .nx ρ1)) ∨ ∃ ρ1, c ρ = .ok (.d (.bool true)) ρ1 ∧ ((∃ ρ2, b ρ1 = .ok .nx ρ2 ∧ I ρ2 ∧ μ ρ2 < μ ρ) ∨ (∃ v ρ2, b ρ1 = .ok (.ret v) ρ2 ∧ Q (.ok (.ret v) ρ2)) ∨ ∃ e ρ2, b ρ1 = .err e ρ2 ∧ Q (.err e ρ2))) :
    ∀ (n : Nat) (ρ : Env), I ρ → μ ρ < n → Q (whileM c b n ρ)
  | 0, ρ, _, h => absurd h (Nat.not_lt_zero _)
  | n + 1, ρ, hi, h => by
    unfold whileM
    rcases hs ρ hi with ⟨ρ1, e, q⟩ | ⟨ρ1, e, ⟨ρ2, e2, i2, m2⟩ | ⟨v, ρ2, e2, q⟩ | ⟨er, ρ2, e2, q⟩⟩
    · rw [e]
      exact q
    · rw [e]
      dsimp only [R.bind_ok, asB]
      rw [e2]
      exact while_inv I μ hs n ρ2 i2 (by omega)
    · rw [e]
      dsimp only [R.bind_ok, asB]
      rw [e2]
      exact q
    · rw [e]
      dsimp only [R.bind_ok, asB]
      rw [e2]
      exact q
end
end EV

/-! Runs of the small language: the tactic. -/
namespace EV
open PySem
end EV

/-! An error of a class of the package is made: its __init__ (super().__init__(..), then the fields). -/
namespace EV
open PySem PySem.Spec PyProof.Rows L2
/-- the exception's record -/
abbrev exR (C t : Addr) (d : Option Addr) : Obj := { cls := .ref C, dict := d, data := .fields #[.ref t, .none, .none, .none, .bool false, .none] }
/-- while __init__ runs: h0 the heap ahead of the call, e the exception, L the frame's dict -/
structure Ini (h0 : Heap) (e C L : Addr) (m : Str → Option Value) (d : Option Addr) (mA : Str → Option Value) (nl : List Str) (h : Heap) : Prop where
  keep : ∀ b o, h0.get? b = some o → h.get? b = some o
  ns : h.Ns L m
  nL : h0.get? L = none
  ne : h0.get? e = none
  ez : h0.objs.size ≤ e
  Le : L ≠ e
  obj : ∃ t, h.get? e = some (exR C t d)
  dic : ∀ dx, d = some dx → h0.objs.size ≤ dx ∧ dx ≠ e ∧ dx ≠ L ∧ h.Ns1 dx mA
  emp : d = none → mA = fun _ => none
  wi : Within mA nl
section
variable {prog : Program} {w : World} {A : Around} {E : Value → Shared → Prop} {h0 : Heap} {e C L : Addr} {m : Str → Option Value} {d : Option Addr} {mA : Str → Option Value} {nl : List Str} {K : PySem.W.Frag}
theorem Ini.old {h h' : Heap} {b : Addr} (I : Ini h0 e C L m d mA nl h) (k : ∀ b o, h.get? b = some o → h'.get? b = some o) : Ini h0 e C L m d mA nl h' :=
  ⟨fun b o q => k b o (I.keep b o q), I.ns.keeps k, I.nL, I.ne, I.ez, I.Le, let ⟨t, q⟩ := I.obj; ⟨t, k _ _ q⟩, fun dx hd => let ⟨a, b, c, n⟩ := I.dic dx hd; ⟨a, b, c, n.at fun o q => k _ _ q⟩, I.emp, I.wi⟩
/-- the args are laid anew -/
theorem Ini.args {h h' : Heap} {t : Addr} (I : Ini h0 e C L m d mA nl h) (k : ∀ b o, b ≠ e → h.get? b = some o → h'.get? b = some o) (he : h'.get? e = some (exR C t d)) : Ini h0 e C L m d mA nl h' :=
  ⟨fun b o q => k b o (fun z => by rw [z, I.ne] at q; cases q) (I.keep b o q), I.ns.at fun o q => k _ _ I.Le q, I.nL, I.ne, I.ez, I.Le, ⟨t, he⟩, fun dx hd => let ⟨a, b, c, n⟩ := I.dic dx hd; ⟨a, b, c, n.at fun o q => k _ _ b q⟩, I.emp, I.wi⟩
/-- self.f = v -/
theorem Ini.store {s : Shared} {f : Str} {v : Value} {Q : Unit → Shared → Prop} (T : OexC K C) (X0 : K.In h0) (hno : PySem.W.findIn K (.ref C) f = some none) (I : Ini h0 e C L m d mA nl s.heap) (hz : nl.length ≤ 900)
    (hq : ∀ s' dx, Ini h0 e C L m (some dx) (fun y => if y = f then some v else mA y) (f :: nl) s'.heap → s'.gens = s.gens → s'.os = s.os → Q () s') : wpAny (model prog w) A (setAttr (.ref e) f v) Q E s := by
  obtain ⟨nm, q, N, bs, bm, sn, sub, ab, col, dd, k0, k1, k2, k3, k5, hC, hbm⟩ := T.cls
  have hcl : PySem.W.clsIn K C = some { name := nm, bases := bs, mro := .ref C :: bm, ns := N, qualname := q, hasDict := true, slotNames := sn, subclasses := sub, abstract := ab, collection := col, hasDel := false } := by unfold PySem.W.clsIn; rw [hC] <;> rfl
  have X : K.In s.heap := fun b o z => I.keep b o (X0 b o z)
  obtain ⟨t1, ho⟩ := I.obj
  obtain ⟨hp, g, dr, t, os⟩ := s
  cases d with
  | none =>
    refine PySem.W.set_plain X (ox := exR C t1 none) (od := none) ⟨ho, rfl, rfl, trivial⟩ T.sa ?_
    refine PySem.HandSPX.exc_osa X ho hcl (show PySem.HandSPX.refsVE (.ref C :: bm) = true from hbm) rfl hno (fun h' tk' dx k dn dne hx hn => ?_)
    have nd : ∀ {b : Addr} {o : Obj}, hp.get? b = some o → b ≠ dx := fun {b o} q => Nat.ne_of_lt (Nat.lt_of_lt_of_le (Heap.lt_size q) dn)
    refine hq ⟨h', g, dr, tk', os⟩ dx ⟨fun b o z => k b o (fun y => by rw [y, I.ne] at z; cases z) (I.keep b o z), I.ns.at fun o z => k _ _ I.Le z, I.nL, I.ne, I.ez, I.Le, ⟨t1, hx⟩, fun dy hy => ?_, (fun z => by cases z), Within.cons f v I.wi⟩ rfl rfl
    cases hy
    refine ⟨Nat.le_trans I.ez (Nat.le_trans (Nat.le_of_lt (Heap.lt_size ho)) dn), dne, fun z => ?_, ?_⟩
    · obtain ⟨oL, _, _, y, _⟩ := I.ns
      exact nd y z.symm
    · rw [I.emp rfl]
      exact hn
  | some dx =>
    obtain ⟨d1, d2, d3, hns⟩ := I.dic dx rfl
    obtain ⟨oD, _, _, hoD, _, _⟩ := hns.count I.wi
    refine PySem.W.set_plain X (ox := exR C t1 (some dx)) (od := some oD) ⟨ho, rfl, rfl, hoD⟩ T.sa ?_
    refine PySem.OEX.osa_old X ho hns I.wi (by omega) hcl (show PySem.HandSPX.refsVE (.ref C :: bm) = true from hbm) rfl hno (fun h' tk' k hn => ?_)
    refine hq ⟨h', g, dr, tk', os⟩ dx ⟨fun b o z => k b o (fun y => by rw [y] at z; exact absurd (Heap.lt_size z) (Nat.not_lt_of_le d1)) (I.keep b o z), I.ns.at fun o z => k _ _ d3.symm z, I.nL, I.ne, I.ez, I.Le, ⟨t1, k _ _ d2.symm ho⟩, fun dy hy => ?_, (fun z => by cases z), Within.cons f v I.wi⟩ rfl rfl
    cases hy
    exact ⟨d1, d2, d3, hn⟩
/-- one statement self.f = p, its places -/
abbrev FP := Str × Str × Pos × Pos × Pos × Pos
def fst (self : Str) (q : FP) : Stmt := .Assign [.Attribute (.Name self q.2.2.1) q.1 q.2.2.2.1] (.Name q.2.1 q.2.2.2.2.1) q.2.2.2.2.2
/-- the dict behind the fields -/
def afterF (m : Str → Option Value) : List FP → (Str → Option Value) → Str → Option Value
  | [], mA => mA
  | q :: r, mA => afterF m r fun y => if y = q.1 then m q.2.1 else mA y
theorem fields_run {env : PySem.Env} {self : Str} (T : OexC K C) (X0 : K.In h0) (hk : env.scope.kind = .function) (hL : env.locals = L) (hs : env.kindOf self = some .local) (hsd : (self == ("__debug__" : Str)) = false) (hms : m self = some (.ref e)) :
    ∀ (qs : List FP) (d : Option Addr) (mA : Str → Option Value) (nl : List Str) (s : Shared) (Q : Flow → Shared → Prop), nl.length + qs.length ≤ 900 →
      (∀ q ∈ qs, PySem.W.findIn K (.ref C) q.1 = some none ∧ env.kindOf q.2.1 = some .local ∧ (q.2.1 == ("__debug__" : Str)) = false ∧ ∃ u, m q.2.1 = some u) → Ini h0 e C L m d mA nl s.heap →
      (∀ s' d' nl', Ini h0 e C L m d' (afterF m qs mA) nl' s'.heap → (qs = [] → d' = d) → (qs ≠ [] → ∃ dx, d' = some dx) → s'.gens = s.gens → s'.os = s.os → Q .next s') → wpAny (model prog w) A (execs (qs.map (fst self)) env) Q E s
  | [], d, mA, nl, s, Q, _, _, I, h => wpAny_execs_nil (h s d nl I (fun _ => rfl) (fun z => absurd rfl z) rfl rfl)
  | q :: r, d, mA, nl, s, Q, hz, hq, I, h => by
    obtain ⟨h1, h2, h3, u, hu⟩ := hq q List.mem_cons_self
    rw [List.length_cons] at hz
    refine wpAny_execs_cons (plainObj_wpAny_Assign_Attribute (wpAny_Name (wpAny_loadName_local hk h2 (by rw [hL]; exact I.ns) hu ?_) h3))
    refine wpAny_Name (wpAny_loadName_local hk hs (by rw [hL]; exact I.ns) hms ?_) hsd
    refine I.store T X0 h1 (by omega) fun s' dx I' g' o' => ?_
    have key := fields_run T X0 hk hL hs hsd hms r (some dx) _ (q.1 :: nl) s' Q (by rw [List.length_cons]; omega) (fun p hp => hq p (List.mem_cons_of_mem _ hp)) I' fun s2 d2 nl2 I2 e2 n2 g2 o2 => ?_
    · exact key
    · refine h s2 d2 nl2 ?_ (fun z => by cases z) (fun _ => ?_) (g2.trans g') (o2.trans o')
      · have : afterF m (q :: r) mA = afterF m r fun y => if y = q.1 then some u else mA y := by
          show afterF m r (fun y => if y = q.1 then m q.2.1 else mA y) = _
          rw [hu]
        rw [this]
        exact I2
      · cases r with
        | nil => exact ⟨dx, e2 rfl⟩
        | cons _ _ => exact n2 (by intro z; cases z)
end
end EV

/-! An error is made (2): super().__init__(..), then the whole __init__. -/
namespace EV
open PySem PySem.Spec PyProof.Rows L2
open PySem.W (kxs_mw KxsAt)
/-- the base's __init__, bound, is called -/
theorem call_mw {prog : Program} {w : World} {A : Around} {E : Value → Shared → Prop} {h : Heap} {g : Array GenState} {dr : Drawn} {t : Nat} {os : OsState} {u e C t0 : Addr} {d : Option Addr} {us : List Value} {Q : Value → Shared → Prop} {K : PySem.W.Frag}
    (T : OexC K C) (X : K.In h) (he : h.get? e = some (exR C t0 d)) (hu : h.get? u = some (kxs_mw "ValueError.__init__" e)) (hz : us.length ≤ sizeLine)
    (hq : ∀ h' t1, (∀ b o, b ≠ e → h.get? b = some o → h'.get? b = some o) → h'.get? e = some (exR C t1 d) → Q .none ⟨h', g, dr, t, os⟩) : wpAny (model prog w) A (call (.ref u) us) Q E ⟨h, g, dr, t, os⟩ := by
  obtain ⟨nm, q, N, bs, bm, sn, sub, ab, col, dd, k0, k1, k2, k3, k5, hC, hbm⟩ := T.cls
  refine wpAny_call (codeAny_of_tree ?_)
  show wpAny _ A.in1 (callAny (.ref u) ⟨us, []⟩) _ _ _
  simp only [callAny]
  refine wpAny_bind (wpAny_load hu ?_)
  simp only [kxs_mw, show (Value.type "method-wrapper" == Value.type "method" || Value.type "method-wrapper" == Value.type "builtin_function_or_method" || Value.type "method-wrapper" == Value.type "method-wrapper") = true by decide, if_true]
  refine PySem.W.KFB.if_so (by decide) ?_
  refine wpAny_bind (PySem.W.check_bound_init F.excBase_ValueError.toExcCallFacts (X _ _ hC) he rfl (wpAny_bind (wpAny_pure (wpAny_pure ?_))))
  refine ⟨plainId_quiet F.excBase_ValueError.init.plain _, codeAny_builtin F.excBase_ValueError.initEntry ?_⟩
  exact PySem.W.exc_init_tree (cls := .ref C) (t0 := t0) (dv := d) (c2 := .none) (c3 := .none) (b4 := .bool false) he hz fun h' k a b => hq h' _ k a
theorem back_cons {pos : Pos} {x : Sem Value} {l : List (Bool × Sem Value)} : backTo pos ((false, x) :: l) = (false, x) :: backTo pos l := rfl
theorem star_name {n : Str × Pos} {l : List Expr} {env : PySem.Env} : starEach (Expr.Name n.1 n.2 :: l) env = (false, eval (Expr.Name n.1 n.2) env) :: starEach l env := rfl
/-- names, one after the other -/
theorem names_run {M : Model} {A : Around} {E : Value → Shared → Prop} {env : PySem.Env} {m : Str → Option Value} {pos : Pos} (hk : env.scope.kind = .function) : ∀ (ns : List (Str × Pos)) (us : List Value) (s : Shared) (Q : List Value → Shared → Prop), s.heap.Ns env.locals m →
    (∀ q ∈ ns, env.kindOf q.1 = some .local ∧ (q.1 == ("__debug__" : Str)) = false) → ns.map (fun q => m q.1) = us.map some → Q us s →
    wpAny M A (spliced (backTo pos (starEach (ns.map fun q => Expr.Name q.1 q.2) env))) Q E s
  | [], us, s, Q, _, _, hu, h => by
    cases us with
    | nil => exact Calls.spliced_nil h
    | cons _ _ => cases hu
  | n :: ns, us, s, Q, hn, hl, hu, h => by
    cases us with
    | nil => cases hu
    | cons u us =>
      rw [List.map_cons, List.map_cons] at hu
      have e1 := (List.cons.inj hu).1
      have e2 := (List.cons.inj hu).2
      obtain ⟨l1, l2⟩ := hl n List.mem_cons_self
      rw [List.map_cons, star_name, back_cons]
      refine Calls.spliced_cons (wpAny_Name (wpAny_loadName_local hk l1 hn e1 ?_) l2)
      exact names_run hk ns us s _ hn (fun q hq => hl q (List.mem_cons_of_mem _ hq)) e2 h
theorem names_star {env : PySem.Env} {pos : Pos} : ∀ ns : List (Str × Pos), (backTo pos (starEach (ns.map fun q => Expr.Name q.1 q.2) env)).any (·.1) = false
  | [] => rfl
  | n :: ns => by
    rw [List.map_cons, star_name, back_cons, List.any_cons, names_star ns]
    rfl
/-- such an __init__: its text, its function object's parts -/
structure InitD where
  name : Str
  qual : Str
  params : Arguments
  scope : Scope
  slf : Str
  ps : List Str
  an : List (Str × Pos)
  qs : List FP
  p0 : Pos
  p1 : Pos
  p2 : Pos
  p3 : Pos
  p4 : Pos
def InitD.stmts (D : InitD) : List Stmt := .Expr (.Call (.Attribute (.Call (.Name "super" D.p0) [] [] D.p1) "__init__" D.p2) (D.an.map fun q => Expr.Name q.1 q.2) [] D.p3) D.p4 :: D.qs.map (fst D.slf)
/-- where its function's parts stand -/
structure InitW where
  dV : Value
  kV : Value
  doc : Value
  pm : Value
  ano : Option Addr
  cda : Addr
  cc : Addr
  ct : Value
  oc : Value
  od : Option Addr
  osl : Array (Option Value)
  vs : Array Value
  file : Str
  tf : Tok
  o1 : Obj
  o2 : Obj
  ar : PySem.Arg
abbrev initFn (D : InitD) (W : InitW) : FuncData := PySem.W.fnX D.name D.qual D.params D.stmts D.scope [("__class__", W.cc)] W.dV W.kV W.doc W.pm W.ano (.ref W.cda) W.ct
/-- what the written part and the text say of it -/
structure InitF (K : PySem.W.Frag) (prog : Program) (C fI : Addr) (D : InitD) (W : InitW) : Prop where
  lk : K.lookup fI = some ⟨W.oc, W.od, .func (initFn D W), W.osl⟩
  cod : PySem.W.codeIn K (.ref W.cda) D.qual = true
  co1 : K.lookup W.cda = some W.o1
  co2 : W.o1.data = .fields W.vs
  co3 : W.vs[2]? = some (.str W.file W.tf)
  fil : ((prog.main.file : Str) == W.file) = true
  ce1 : K.lookup W.cc = some W.o2
  ce2 : W.o2.data = .cell (some (.ref C))
  ar1 : (D.params.posonlyargs ++ D.params.args).head? = some W.ar
  ar2 : W.ar.arg = D.slf
  kind : D.scope.kind = .function
  co : D.scope.isCoroutine = false
  gen : D.scope.isGenerator = false
  cel : ∀ x ∈ D.scope.names, x.2 ≠ .cell
  loc : ∀ x ∈ D.ps, D.scope.names.lookup x = some .local
  sug : D.scope.names.lookup ("super" : Str) = some .globalImplicit
  cls : D.scope.names.lookup ("__class__" : Str) = some .free
  binds : ∀ (s : Shared) (us : List Value), us.length = D.ps.length → BindsTo s (initFn D W) ⟨us, []⟩ (D.ps.zip us)
  pre : D.ps = D.slf :: D.ps.tail
  nd : D.ps.Nodup
  an1 : D.an ≠ []
  evE : ∀ env : PySem.Env, ∃ pl : Sem Bool, eval (.Call (.Attribute (.Call (.Name "super" D.p0) [] [] D.p1) "__init__" D.p2) (D.an.map fun q => Expr.Name q.1 q.2) [] D.p3) env = (do
      let ov ← attributeBase (.Call (.Name "super" D.p0) [] [] D.p1) "__init__" env (eval (.Call (.Name "super" D.p0) [] [] D.p1) env)
      standAt D.p2.atName
      let (f, first) ← holding [ov] (getMethod ov "__init__" pl)
      callWith D.p3 f first (backTo D.p3 (starEach (D.an.map fun q => Expr.Name q.1 q.2) env)) [])
  an2 : D.an.map (·.1) = D.ps.tail
  an3 : ∀ q ∈ D.an, (q.1 == ("__debug__" : Str)) = false
  sd : (D.slf == ("__debug__" : Str)) = false
  qsP : ∀ q ∈ D.qs, PySem.W.findIn K (.ref C) q.1 = some none ∧ q.2.1 ∈ D.ps.tail ∧ (q.2.1 == ("__debug__" : Str)) = false
  qs1 : D.qs ≠ []
  qs2 : D.qs.length ≤ 800
  few : D.ps.length ≤ 800
  sup : PySem.W.nsIn K mainGlobals "super" = some none
  top : (prog.main.scope.names.lookup ("super" : Str)).isSome = false
  opq : PySem.W.nsIn K cStatics "thirdparty.any" = some none
  ini : PySem.W.ks_superIn K C C "__init__" = some (some (.builtin "ValueError.__init__"))
  subV : PySem.W.subIn K (.ref C) (.type "ValueError") = some true
  subC : PySem.W.mroIn K C (.ref C) = some true
theorem lookup_rev {β : Type} {x : Str} : ∀ {l : List (Str × β)} {v : β}, (l.map (·.1)).Nodup → (x, v) ∈ l → l.reverse.lookup x = some v := by
  intro l v nd hm
  have key : ∀ (l : List (Str × β)), (l.map (·.1)).Nodup → (x, v) ∈ l → l.lookup x = some v := by
    intro l
    induction l with
    | nil => intro _ h; cases h
    | cons p l ih =>
      intro nd h
      rw [List.map_cons, List.nodup_cons] at nd
      rw [List.lookup_cons]
      rcases List.mem_cons.mp h with e | h
      · subst e
        simp
      · have : (x == p.1) = false := by
          apply beq_eq_false_iff_ne.mpr
          rintro rfl
          exact nd.1 (List.mem_map.mpr ⟨_, h, rfl⟩)
        rw [this]
        exact ih nd.2 h
  refine key _ ?_ (List.mem_reverse.mpr hm)
  rw [List.map_reverse]
  exact (List.pairwise_reverse).mpr (nd.imp Ne.symm)
theorem zip_map {ps : List Str} {us : List Value} (nd : ps.Nodup) (hl : us.length = ps.length) : ps.map (fun x => (ps.zip us).reverse.lookup x) = us.map some := by
  apply List.ext_getElem?
  intro i
  rw [List.getElem?_map, List.getElem?_map]
  by_cases hi : i < ps.length
  · have e1 : ps[i]? = some ps[i] := by simp [hi]
    have e2 : us[i]? = some us[i] := by simp [hl, hi]
    rw [e1, e2, Option.map_some, Option.map_some]
    congr 1
    refine lookup_rev ?_ ?_
    · rw [List.map_fst_zip (by omega)]
      exact nd
    · exact List.mem_of_getElem? (i := i) (by rw [List.getElem?_zip_eq_some]; exact ⟨e1, e2⟩)
  · rw [List.getElem?_eq_none (by omega), List.getElem?_eq_none (by omega)]
    rfl
section
variable {prog : Program} {w : World} {A : Around} {K : PySem.W.Frag} {C fI e : Addr} {D : InitD} {W : InitW} {h0 : Heap} {mg mb : Str → Option Value} {s : Shared} {us : List Value} {t0 : Addr}
/-- the __init__, called on a new exception -/
theorem init_run (IF : InitF K prog C fI D W) (T : OexC K C) (X0 : K.In h0) (gN : h0.Ns mainGlobals mg) (bN : h0.Ns builtinsNs mb) (bB : ∀ x : Str, x ≠ "__name__" → mb x = bootBuiltins x) (lim : h0.NoLimit) (k0 : ∀ b o, h0.get? b = some o → s.heap.get? b = some o) (en : h0.get? e = none) (ez : h0.objs.size ≤ e)
    (he : s.heap.get? e = some (exR C t0 none)) (hl : us.length + 1 = D.ps.length) (room : A.depth < recursionLimit) {args : Args} (hbind : BindsTo s (initFn D W) args (D.ps.zip (.ref e :: us))) :
    codeAny (model prog w) A (.call (.ref fI) args) (fun r s' => r = .ok (.ret .none) ∧ s'.gens = s.gens ∧ s'.os = s.os ∧ ∃ (L dx : Addr) (m : Str → Option Value) (nl : List Str), s.heap.get? L = none ∧ Ini h0 e C L m (some dx) (afterF m D.qs fun _ => none) nl s'.heap ∧ D.ps.map m = (.ref e :: us).map some) s := by
  have X : K.In s.heap := fun b o z => k0 b o (X0 b o z)
  have hlen : (Value.ref e :: us).length = D.ps.length := by rw [List.length_cons]; exact hl
  refine PySem.ks_codeAny_call_defAt (fd := initFn D W) (body := D.stmts) (binds := D.ps.zip (.ref e :: us)) room (X _ _ IF.lk) rfl (lim.keeps k0) (PySem.W.codeRec_of X IF.cod) rfl hbind IF.cel
    (fun x hx => IF.loc x.1 (List.of_mem_zip hx).1) (fun h₁ hns hk₁ => ?_) IF.co IF.gen IF.kind
  have IK : D.scope.kind = .function := IF.kind
  generalize hE : callEnv (initFn D W) s.heap.objs.size fI = env
  have e1 : env.scope = D.scope := by rw [← hE]; rfl
  have e2 : env.locals = s.heap.objs.size := by rw [← hE]; rfl
  have e3 : env.globals = mainGlobals := by rw [← hE]; rfl
  have e4 : env.builtins = builtinsNs := by rw [← hE]; rfl
  have e5 : env.func = some fI := by rw [← hE]; rfl
  have e6 : env.code = .ref W.cda := by rw [← hE]; rfl
  have e7 : env.cells = [(("__class__" : Str), W.cc)] := by rw [← hE]; rfl
  have kf : env.scope.kind = .function := by rw [e1]; exact IF.kind
  have kd : ∀ x, env.kindOf x = D.scope.names.lookup x := fun x => by unfold Env.kindOf; rw [e1]
  obtain ⟨nm, q, N, bs, bm, sn, sub, ab, col, dd, k0', k1, k2, k3, k5, hC, hbm⟩ := T.cls
  have hcl : PySem.W.clsIn K C = some { name := nm, bases := bs, mro := .ref C :: bm, ns := N, qualname := q, hasDict := true, slotNames := sn, subclasses := sub, abstract := ab, collection := col, hasDel := false } := by unfold PySem.W.clsIn; rw [hC] <;> rfl
  have hmap := zip_map (us := .ref e :: us) IF.nd hlen
  have hslf : (D.ps.zip (Value.ref e :: us)).reverse.lookup D.slf = some (.ref e) := by
    have hp := hmap
    rw [IF.pre] at hp
    rw [List.map_cons, List.map_cons] at hp
    rw [IF.pre]
    exact (List.cons.inj hp).1
  have htl : D.ps.tail.map (fun x => (D.ps.zip (Value.ref e :: us)).reverse.lookup x) = us.map some := by
    have hp := congrArg List.tail hmap
    rw [← List.map_tail, List.map_cons, List.tail_cons] at hp
    exact hp
  have X1 : K.In h₁ := fun b o z => hk₁ b o (X b o z)
  have nLs : s.heap.get? s.heap.objs.size = none := by
    cases z : s.heap.get? s.heap.objs.size with
    | none => rfl
    | some o => exact absurd (Heap.lt_size z) (Nat.lt_irrefl _)
  have nL0 : h0.get? s.heap.objs.size = none := by
    cases z : h0.get? s.heap.objs.size with
    | none => rfl
    | some o =>
      rw [k0 _ _ z] at nLs
      cases nLs
  have nLe : s.heap.objs.size ≠ e := fun z => by
    rw [z, he] at nLs
    cases nLs
  have I0 : Ini h0 e C s.heap.objs.size (fun x => (D.ps.zip (Value.ref e :: us)).reverse.lookup x) none (fun _ => none) [] h₁ :=
    ⟨fun b o z => hk₁ b o (k0 b o z), hns, nL0, en, ez, nLe, ⟨t0, hk₁ _ _ he⟩, (fun dx z => by cases z), fun _ => rfl, Within.nil⟩
  have hi : interactive env = false := by simp [interactive, kf]
  have kk1 : ∀ b o, h0.get? b = some o → h₁.get? b = some o := I0.keep
  have hst : D.stmts = .Expr (.Call (.Attribute (.Call (.Name "super" D.p0) [] [] D.p1) "__init__" D.p2) (D.an.map fun q => Expr.Name q.1 q.2) [] D.p3) D.p4 :: D.qs.map (fst D.slf) := rfl
  have hlk := X1 _ _ IF.lk
  generalize hbody : D.stmts = body at hst ⊢
  have hx : execs body env = execs (.Expr (.Call (.Attribute (.Call (.Name "super" D.p0) [] [] D.p1) "__init__" D.p2) (D.an.map fun q => Expr.Name q.1 q.2) [] D.p3) D.p4 :: D.qs.map (fst D.slf)) env := by rw [hst]
  rw [hx]
  refine PySem.ks_wpAt_execs_cons (PySem.ks_wpAt_Expr_any ?_ hi rfl)
  obtain ⟨pl, hev⟩ := IF.evE env
  refine PySem.ks_wpAt_MethodCall ?_ hev
  refine PySem.ks_wpAt_super_base (by rw [kd]; exact IF.sug) (by rw [kd]; exact IF.cls) (by decide +kernel) e5 hlk rfl IF.ar1 e6 (X1 _ _ IF.co1) IF.co2 IF.co3 IF.fil IF.top ?_
  refine PySem.W.ks_loadName_global kf (by rw [kd]; exact IF.sug) (Calls.loadGlobal_builtin (mg := mg) (mb := mb) (by rw [e3]; exact gN.keeps kk1) (PySem.W.mg_none_of X0 gN IF.sup) (by rw [e4]; exact bN.keeps kk1) ((bB _ (by decide +kernel)).trans (by decide +kernel)) ⟨rfl, ?_⟩)
  refine wpAny_loadName_free kf (by rw [kd]; exact IF.cls) (by rw [e7]; rfl) ⟨_, X1 _ _ IF.ce1, IF.ce2⟩ ?_
  refine wpAny_loadName_local kf (by rw [kd, IF.ar2]; exact IF.loc _ (by rw [IF.pre]; exact List.mem_cons_self)) (by rw [e2]; exact hns) (by rw [IF.ar2]; exact hslf) ?_
  refine PySem.ks_wpAny_isType_cls (X1 _ _ hC) rfl ⟨rfl, ?_⟩
  refine PySem.ks_wpAny_call_super (X1 _ _ hC) rfl (hk₁ _ _ he) rfl (fun c z => by cases z) (PySem.W.looks_mroIn X1 IF.subC) fun h2 so2 k2' => ?_
  have I1 := I0.old (b := 0) k2'
  have X2 : K.In h2 := fun b o z => k2' b o (X1 b o z)
  obtain ⟨t1, he2⟩ := I1.obj
  have J : PySem.W.InstAt h2 e (exR C t1 none) C none := ⟨he2, rfl, rfl, trivial⟩
  have hini := IF.ini
  unfold PySem.W.ks_superIn at hini
  rw [hcl] at hini
  refine PySem.W.kxs_getMethod PySem.W.kxs_ValueError so2 (PySem.W.looks_opaque X2 IF.opq) (l₀ := .ref C :: bm) (fun A Q E s k q => wpAny_bind ((PySem.W.looks_clsIn X2 hcl) A _ E s k (wpAny_pure q))) rfl X2 hini (J.type.andThen (PySem.W.looks_subIn X2 IF.subV)) (PySem.W.ks_ne X2 J hcl) (by decide +kernel) ?_
  -- the wrapper is called
  have k3' : ∀ b o, h2.get? b = some o → (h2.push (kxs_mw "ValueError.__init__" e)).get? b = some o := fun b o z => Heap.get?_push_of_some _ z
  have I2 := I1.old (b := 0) k3'
  have hu : (h2.push (kxs_mw "ValueError.__init__" e)).get? h2.objs.size = some (kxs_mw "ValueError.__init__" e) := Heap.get?_push_size _ rfl
  have names : D.an.map (fun q => (D.ps.zip (Value.ref e :: us)).reverse.lookup q.1) = us.map some := by
    rw [← htl, ← IF.an2, List.map_map]
    rfl
  have locs : ∀ q ∈ D.an, env.kindOf q.1 = some .local ∧ (q.1 == ("__debug__" : Str)) = false := fun q hq => by
    refine ⟨?_, IF.an3 q hq⟩
    rw [kd]
    refine IF.loc _ ?_
    rw [IF.pre]
    refine List.mem_cons_of_mem _ ?_
    rw [← IF.an2]
    exact List.mem_map.mpr ⟨q, hq, rfl⟩
  refine PySem.W.kxs_callWith (i := "ValueError.__init__") (x := e) (names_star D.an) ?_
  have hne := IF.an1
  generalize hgan : D.an = an at names locs hne ⊢
  cases an with
  | nil => exact absurd rfl hne
  | cons a0 ar0 =>
    rw [List.map_cons, star_name, back_cons]
    refine Calls.evalArgs_plain ?_
    rw [← back_cons, ← star_name, ← List.map_cons (f := fun q : Str × Pos => Expr.Name q.1 q.2)]
    refine names_run (m := fun x => (D.ps.zip (Value.ref e :: us)).reverse.lookup x) kf (a0 :: ar0) us _ _ (by rw [e2]; exact I2.ns) locs names ⟨hu, ?_⟩
    obtain ⟨t2, he3⟩ := I2.obj
    refine call_mw T (fun b o z => k3' b o (X2 b o z)) he3 hu (by show us.length ≤ sizeLine; rw [sizeLine_eq]; have := IF.few; omega) fun h3 t3 k4 he4 => ?_
    have I3 := I2.args k4 he4
    refine wpAt_of_wpAny (fields_run T X0 kf e2 (by rw [kd]; exact IF.loc _ (by rw [IF.pre]; exact List.mem_cons_self)) IF.sd hslf D.qs none _ [] _ _ (by have := IF.qs2; simp; omega) (fun q hq => ?_) I3 fun s' d' nl' I4 n1 n2 g' o' => ?_)
    · obtain ⟨q1, q2, q3⟩ := IF.qsP q hq
      refine ⟨q1, ?_, q3, ?_⟩
      · rw [kd]
        exact IF.loc _ (by rw [IF.pre]; exact List.mem_cons_of_mem _ q2)
      · have : (D.ps.zip (Value.ref e :: us)).reverse.lookup q.2.1 ∈ D.ps.tail.map (fun x => (D.ps.zip (Value.ref e :: us)).reverse.lookup x) := List.mem_map.mpr ⟨_, q2, rfl⟩
        rw [htl] at this
        obtain ⟨u, _, hu⟩ := List.mem_map.mp this
        exact ⟨u, hu.symm⟩
    · obtain ⟨dx, rfl⟩ := n2 IF.qs1
      exact ⟨rfl, g', o', _, dx, _, nl', nLs, I4, hmap⟩
end
end EV

/-! An error is made (3): MkOk. -/
namespace EV
open PySem PySem.Spec PyProof.Rows L2
/-- the fields, newest first, by the parameters behind self -/
def fldsOf (ps : List Str) (qs : List FP) : List (Str × Nat) := (qs.map fun q => (q.1, ps.tail.idxOf q.2.1)).reverse
theorem afterF_at {m : Str → Option Value} : ∀ {qs : List FP} {mA : Str → Option Value} {l : List (Str × V)} {fv : FP → V}, (∀ q ∈ qs, RelO (some (fv q)) (m q.2.1)) → (∀ y, RelO (l.lookup y) (mA y)) → ∀ y, RelO (((qs.map fun q => (q.1, fv q)).reverse ++ l).lookup y) (afterF m qs mA y)
  | [], mA, l, fv, _, h, y => h y
  | q :: qs, mA, l, fv, hq, h, y => by
    have ih := afterF_at (qs := qs) (mA := fun y => if y = q.1 then m q.2.1 else mA y) (l := (q.1, fv q) :: l) (fv := fv) (fun p hp => hq p (List.mem_cons_of_mem _ hp)) (fun z => ?_) y
    · rw [List.map_cons, List.reverse_cons, List.append_assoc]
      exact ih
    · rw [lookup_put]
      by_cases e : z = q.1
      · rw [if_pos e, if_pos e]
        exact hq q List.mem_cons_self
      · rw [if_neg e, if_neg e]
        exact h z
theorem mk_ok {X : Cx} {prog : Program} {C fI : Addr} {D : InitD} {W : InitW} {x : Str} (IF : InitF X.K X.prog C fI D W) (T : OexC X.K C) (iC : PySem.W.findIn X.K (.ref C) "__init__" = some (some (.ref fI))) (tI : PySem.W.typeIn X.K (.ref fI) = some (.type "function")) (hm : X.mg x = some (.ref C))
    (hr : Room 1 X.A) : MkOk X (.ref C) x (D.ps.length - 1) (fldsOf D.ps D.qs) := by
  intro e es ta p pos hg hdb ha he hpl pins s σ H Q I h
  obtain ⟨nm, q, N, bs, bm, sn, sub, ab, col, dd, k0, k1, k2, k3, k5, hC, hbm⟩ := T.cls
  refine wpAny_Call_Name_kw (ld_glob I hg hm ?_ hdb)
  refine PySem.W.callWith_K (h₀ := X.base) I.ok.mod.kin T.kC (thn (ha.run pos pins s σ H _ I h) fun us s1 ⟨vs, H1, I1, r1, hz, q1⟩ => ⟨I1.kIn, ?_⟩) he hpl
  show wpAny _ _ (call (.ref C) us) _ _ _
  obtain ⟨hp, g, dr, tk, os⟩ := s1
  have hl := r1.length
  have hps : D.ps.length ≠ 0 := by rw [IF.pre]; simp
  have hfew := IF.few
  have hus : us.length ≤ sizeLine := by
    rw [sizeLine_eq]
    omega
  have kk : ∀ b o, hp.get? b = some o → ((hp.push (PySem.W.kdv_tup us)).push (PySem.HandSPX.excO C hp.objs.size)).get? b = some o := fun b o e => Heap.get?_push_of_some _ (Heap.get?_push_of_some _ e)
  have hget : ((hp.push (PySem.W.kdv_tup us)).push (PySem.HandSPX.excO C hp.objs.size)).get? (hp.objs.size + 1) = some (PySem.HandSPX.excO C hp.objs.size) := by heap_get
  have en : hp.get? (hp.objs.size + 1) = none := by
    cases z : hp.get? (hp.objs.size + 1) with
    | none => rfl
    | some o => exact absurd (Heap.lt_size z) (Nat.not_lt_of_le (Nat.le_succ _))
  have md := I1.ok.mod
  obtain ⟨mb, hb1, hb2⟩ := md.blt
  have bk : ∀ b o, X.base.get? b = some o → hp.get? b = some o := I1.bk
  refine wpAny_call (PySem.HandSPX.call_own F.excBase_ValueError (fun Y => PySem.HandSPX.refsVE_contains Y bm hbm) (I1.kIn _ _ hC) (PySem.W.looks_findIn I1.kIn iC) (fun self => PySem.W.bind_fn I1.kIn self tI) hus
    (codeAny_mono (init_run (h0 := hp) (mg := X.mg) (mb := mb) (e := hp.objs.size + 1) (t0 := hp.objs.size) (s := ⟨(hp.push (PySem.W.kdv_tup us)).push (PySem.HandSPX.excO C hp.objs.size), g, dr, tk, os⟩) IF T I1.kIn (md.glob.keeps bk) (hb1.keeps bk) hb2 (md.nolimit.keeps bk) kk en (Nat.le_succ _) hget (by omega) (Room.depth (hr.make C us [])) (IF.binds _ _ (by rw [List.length_cons]; omega)))
      fun r s' hq => ?_))
  obtain ⟨rfl, hg', ho', L, dx, m, nl, hL, J, hmm⟩ := hq
  refine ⟨rfl, ?_⟩
  obtain ⟨t1, ho⟩ := J.obj
  obtain ⟨d1, d2, d3, hns⟩ := J.dic dx rfl
  obtain ⟨G, gk, ge⟩ := restrict s'.heap fun b => decide (b ≠ hp.objs.size + 1)
  have hG : ∀ b, b ≠ hp.objs.size + 1 → G.get? b = s'.heap.get? b := fun b hb => gk b (decide_eq_true hb)
  have hGe : G.get? (hp.objs.size + 1) = none := ge _ (by simp)
  have nd : H1 dx = none := I1.hok.fresh d1
  have tl : D.ps.tail.map m = us.map some := by
    have hp := congrArg List.tail hmm
    rw [← List.map_tail, List.map_cons, List.tail_cons] at hp
    exact hp
  have rel : ∀ f, RelO ((pickF (fldsOf D.ps D.qs) vs).lookup f) (afterF m D.qs (fun _ => none) f) := by
    have e1 : pickF (fldsOf D.ps D.qs) vs = (D.qs.map fun q => (q.1, (vs[D.ps.tail.idxOf q.2.1]?).getD .non)).reverse ++ [] := by
      unfold pickF fldsOf
      rw [List.map_reverse, List.map_map, List.append_nil]
      rfl
    rw [e1]
    refine afterF_at (fun q hq => ?_) (fun y => trivial)
    obtain ⟨_, q2, _⟩ := IF.qsP q hq
    have hi : D.ps.tail.idxOf q.2.1 < D.ps.tail.length := List.idxOf_lt_length_iff.mpr q2
    have ht : D.ps.tail[D.ps.tail.idxOf q.2.1]? = some q.2.1 := by
      rw [List.getElem?_eq_getElem hi]
      exact congrArg some (List.getElem_idxOf hi)
    have hu : (us.map some)[D.ps.tail.idxOf q.2.1]? = some (m q.2.1) := by
      rw [← tl, List.getElem?_map, ht]
      rfl
    rw [List.getElem?_map] at hu
    cases hus : us[D.ps.tail.idxOf q.2.1]? with
    | none => rw [hus] at hu; cases hu
    | some u =>
      rw [hus] at hu
      have hm' : m q.2.1 = some u := (Option.some.inj hu).symm
      obtain ⟨v, hv, rv⟩ := (pair_at r1).2 _ u hus
      rw [hm', hv]
      exact rv
  have new : ObjOk X.prog X.w (upd H1 dx (.xd (pickF (fldsOf D.ps D.qs) vs))) G dx (.xd (pickF (fldsOf D.ps D.qs) vs)) := ⟨_, hns.at fun o z => (hG dx d2).trans z, rel⟩
  have IG := I1.laid (t' := s'.toks) (a := dx) (h' := G) (fun b u z => (hG b fun y => by rw [y, en] at z; cases z).trans (J.keep b u z)) d1 new
  refine ⟨hp.objs.size + 1, exR C t1 (some dx), _, _, _, .ref C, some dx, rfl, IG, fun b o z => ?_, hGe, ho, ⟨rfl, rfl⟩, rfl, rfl, ?_, ho', by rw [hg']; exact I1.bare, raises_own T.exC T.tyC, q1 dx _ (Ext.upd nd) nd upd_same⟩
  · have hb : b ≠ hp.objs.size + 1 := fun y => by
      have z2 : G.get? b = some o := z
      rw [y, hGe] at z2
      cases z2
    exact (hG b hb).symm.trans z
  · rw [upd_ne d2.symm]
    exact I1.hok.fresh (Nat.le_succ _)
end EV

/-! What a head tells: defs, error classes, names. -/
namespace EV
open PySem PySem.Spec PyProof.Rows L2
open He (DefD Fa AlD obsD valD SaysD ga ma fAd frT frT_in)
/-- closures' cells, and the statics -/
def cellsG (g : Addr → Option Obj) (as : List Addr) : List Addr := as.flatMap fun a => match g a with
  | some ⟨_, _, .func fd, _⟩ => fd.closure.map (·.2)
  | _ => []
def asV (g : Addr → Option Obj) (n : Nat) : List Addr := He.asD g n ++ cellsG g (He.asD g n) ++ [cStatics]
/-- an __init__ in a class of the module, as the heap has it -/
abbrev InO : Type := Option (Str × Str × Arguments × FuncBody × Scope × Addr × List Str × Addr)
def inO (K : PySem.W.Frag) (x : Str) : InO := match K.lookup (ma K (ga K x) "__init__") with
  | some ⟨_, _, .func fd, _⟩ => some (fd.name, fd.qualname, fd.params, fd.body, fd.scope, fd.globals, fd.closure.map (·.1), fd.builtins)
  | _ => none
def inV (D : InitD) : InO := some (D.name, D.qual, D.params, .stmts D.stmts, D.scope, mainGlobals, ["__class__"], builtinsNs)
def oexB (K : PySem.W.Frag) (C : Addr) : Bool := (match K.lookup C with
  | some ⟨.type t, _, .cls cd, sl⟩ => (match cd.mro, sl.toList with
    | .ref C' :: bm, [_, _, _, _, some (.builtin n), _] => decide (t = "type") && (decide (C' = C) && (decide (n = "ValueError.__new__") && (!cd.hasDel && (cd.hasDict && PySem.HandSPX.refsVE bm))))
    | _, _ => false)
  | _ => false) && (decide (PySem.W.findIn K (.ref C) "__setattr__" = some (some (.builtin "object.__setattr__"))) && (decide (PySem.W.subIn K (.ref C) (.type "BaseException") = some true) && (decide (PySem.W.typeIn K (.ref C) = some (.type "type")) && PySem.W.keepIn K (.ref C))))
theorem oexB_ok {K : PySem.W.Frag} {C : Addr} (h : oexB K C = true) : OexC K C := by
  unfold oexB at h
  simp only [Bool.and_eq_true, decide_eq_true_eq] at h
  obtain ⟨h1, h2, h3, h4, h5⟩ := h
  refine ⟨?_, h2, h3, h4, h5⟩
  split at h1
  · rename_i t dd cd sl hK
    split at h1
    · rename_i C' bm k0 k1 k2 k3 n k5 e1 e2
      simp only [Bool.and_eq_true, decide_eq_true_eq, Bool.not_eq_true'] at h1
      obtain ⟨rfl, rfl, rfl, c1, c2, c3⟩ := h1
      obtain ⟨nm, bs, mro, ns, qn, hd, sn, sb, ab, col, del⟩ := cd
      dsimp only at e1 c1 c2
      subst e1 c1 c2
      have : sl = #[k0, k1, k2, k3, some (.builtin "ValueError.__new__"), k5] := by
        apply Array.toList_inj.mp
        rw [e2]
      subst this
      exact ⟨_, _, _, _, _, _, _, _, _, _, _, _, _, _, _, hK, c3⟩
    · cases h1
  · cases h1
/-- its code object's file; its closure's class -/
def filB (K : PySem.W.Frag) (file : Str) (cd : Value) : Bool := match cd with
  | .ref c => (match K.lookup c with
    | some ⟨_, _, .fields vs, _⟩ => (match (vs[2]? : Option Value) with
      | some (.str f _) => file == f
      | _ => false)
    | _ => false)
  | _ => false
theorem filB_ok {K : PySem.W.Frag} {file : Str} {cd : Value} (h : filB K file cd = true) : ∃ cda o1 vs f tf, cd = .ref cda ∧ K.lookup cda = some o1 ∧ o1.data = .fields vs ∧ vs[2]? = some (.str f tf) ∧ (file == f) = true := by
  unfold filB at h
  split at h
  · split at h
    · rename_i hl
      split at h
      · exact ⟨_, _, _, _, _, rfl, hl, rfl, by assumption, h⟩
      · cases h
    · cases h
  · cases h
def cloB (K : PySem.W.Frag) (C : Addr) (cl : List (Str × Addr)) : Bool := match cl with
  | [(_, cc)] => (match K.lookup cc with
    | some ⟨_, _, .cell (some (.ref C')), _⟩ => decide (C' = C)
    | _ => false)
  | _ => false
theorem cloB_ok {K : PySem.W.Frag} {C : Addr} {cl : List (Str × Addr)} (h : cloB K C cl = true) (hn : cl.map (·.1) = ([("__class__" : Str)] : List Str)) : ∃ (cc : Addr) (o2 : Obj), cl = [(("__class__" : Str), cc)] ∧ K.lookup cc = some o2 ∧ o2.data = .cell (some (.ref C)) := by
  unfold cloB at h
  split at h
  · rename_i x cc
    split at h
    · rename_i hl
      obtain rfl : x = ("__class__" : Str) := by simpa using hn
      obtain rfl := of_decide_eq_true h
      exact ⟨_, _, rfl, hl, rfl⟩
    · cases h
  · cases h
/-- one error class: its name, its __init__ -/
abbrev ErrD := Str × InitD
def errB (file : Str) (K : PySem.W.Frag) (p : ErrD) : Bool :=
  let C := ga K p.1
  let fI := ma K C "__init__"
  He.eqO (PySem.W.nsIn K mainGlobals p.1) (some (some (.ref C))) && (He.eqO (PySem.W.findIn K (.ref C) "__init__") (some (some (.ref fI))) && (decide (PySem.W.typeIn K (.ref fI) = some (.type "function")) && (oexB K C && (xfB K C && (
  (match K.lookup fI with
    | some ⟨_, _, .func fd, _⟩ => PySem.W.codeIn K fd.code p.2.qual && (filB K file fd.code && (cloB K C fd.closure && decide (fd.defaults = .none)))
    | _ => false) && ((p.2.qs.all fun q => He.eqO (PySem.W.findIn K (.ref C) q.1) (some none)) && (He.eqO (PySem.W.nsIn K mainGlobals "super") (some none) && (He.eqO (PySem.W.nsIn K cStatics "thirdparty.any") (some none) && (
  He.eqO (PySem.W.ks_superIn K C C "__init__") (some (some (.builtin "ValueError.__init__"))) && (decide (PySem.W.subIn K (.ref C) (.type "ValueError") = some true) && decide (PySem.W.mroIn K C (.ref C) = some true)))))))))))
/-- what its text says -/
structure InitS (prog : Program) (D : InitD) : Prop where
  ar : ∃ a : PySem.Arg, (D.params.posonlyargs ++ D.params.args).head? = some a ∧ a.arg = D.slf
  kind : D.scope.kind = .function
  co : D.scope.isCoroutine = false
  gen : D.scope.isGenerator = false
  cel : ∀ x ∈ D.scope.names, x.2 ≠ .cell
  loc : ∀ x ∈ D.ps, D.scope.names.lookup x = some .local
  sug : D.scope.names.lookup ("super" : Str) = some .globalImplicit
  cls : D.scope.names.lookup ("__class__" : Str) = some .free
  binds : ∀ (W : InitW) (us : List Value), W.dV = .none → us.length = D.ps.length → bindArgs (initFn D W) ⟨us, []⟩ = pure (D.ps.zip us)
  pre : D.ps = D.slf :: D.ps.tail
  nd : D.ps.Nodup
  an1 : D.an ≠ []
  evE : ∀ env : PySem.Env, ∃ pl : Sem Bool, eval (.Call (.Attribute (.Call (.Name "super" D.p0) [] [] D.p1) "__init__" D.p2) (D.an.map fun q => Expr.Name q.1 q.2) [] D.p3) env = (do
      let ov ← attributeBase (.Call (.Name "super" D.p0) [] [] D.p1) "__init__" env (eval (.Call (.Name "super" D.p0) [] [] D.p1) env)
      standAt D.p2.atName
      let (f, first) ← holding [ov] (getMethod ov "__init__" pl)
      callWith D.p3 f first (backTo D.p3 (starEach (D.an.map fun q => Expr.Name q.1 q.2) env)) [])
  an2 : D.an.map (·.1) = D.ps.tail
  an3 : ∀ q ∈ D.an, (q.1 == ("__debug__" : Str)) = false
  sd : (D.slf == ("__debug__" : Str)) = false
  qsP : ∀ q ∈ D.qs, q.2.1 ∈ D.ps.tail ∧ (q.2.1 == ("__debug__" : Str)) = false
  qs1 : D.qs ≠ []
  qs2 : D.qs.length ≤ 800
  few : D.ps.length ≤ 800
  top : (prog.main.scope.names.lookup ("super" : Str)).isSome = false
theorem initF_of {K : PySem.W.Frag} {prog : Program} {p : ErrD} (S : InitS prog p.2) (ho : inO K p.1 = inV p.2) (h : errB prog.main.file K p = true) :
    ∃ W : InitW, W.dV = .none ∧ InitF K prog (ga K p.1) (ma K (ga K p.1) "__init__") p.2 W ∧ OexC K (ga K p.1) ∧ XfC K (ga K p.1) ∧ PySem.W.findIn K (.ref (ga K p.1)) "__init__" = some (some (.ref (ma K (ga K p.1) "__init__"))) ∧ PySem.W.typeIn K (.ref (ma K (ga K p.1) "__init__")) = some (.type "function") ∧
      PySem.W.nsIn K mainGlobals p.1 = some (some (.ref (ga K p.1))) := by
  obtain ⟨x, D⟩ := p
  dsimp only at S ho h ⊢
  unfold errB at h
  dsimp only at h
  simp only [Bool.and_eq_true] at h
  obtain ⟨h1, h2, h3, h4, h5, h6, h7, h8, h9, h10, h11, h12⟩ := h
  unfold inO at ho
  cases lk : K.lookup (ma K (ga K x) "__init__") with
  | none => rw [lk] at h6; cases h6
  | some o =>
    obtain ⟨oc, od, dt, osl⟩ := o
    rw [lk] at h6 ho
    cases dt with
    | func fd =>
      dsimp only at h6 ho
      obtain ⟨n1, n2, n3, n4, n5, n6, n7, n8, n9, n10, n11, n12, n13, n14, n15⟩ := fd
      unfold inV at ho
      dsimp only at h6 ho
      simp only [Option.some.injEq, Prod.mk.injEq] at ho
      obtain ⟨g1, g2, g3, g4, g5, g6, g7, g8⟩ := ho
      simp only [Bool.and_eq_true] at h6
      obtain ⟨k1, k2, k3, k4⟩ := h6
      obtain rfl := of_decide_eq_true k4
      obtain ⟨cda, o1, vs, f, tf, ec, l1, d1, v2, ef⟩ := filB_ok k2
      obtain ⟨cc, o2, el, l2, d2⟩ := cloB_ok k3 g7
      obtain ⟨a, a1, a2⟩ := S.ar
      subst g1 g2 g3 g4 g5 g6 g8 ec el
      refine ⟨⟨.none, n9, n10, n11, n12, cda, cc, n14, oc, od, osl, vs, f, tf, o1, o2, a⟩, rfl, ?_, oexB_ok h4, xfB_ok h5, He.eqO_ok h2, of_decide_eq_true h3, He.eqO_ok h1⟩
      exact {
        lk := lk
        cod := k1
        co1 := l1
        co2 := d1
        co3 := v2
        fil := ef
        ce1 := l2
        ce2 := d2
        ar1 := a1
        ar2 := a2
        kind := S.kind
        co := S.co
        gen := S.gen
        cel := S.cel
        loc := S.loc
        sug := S.sug
        cls := S.cls
        binds := fun s us hl => BindsTo.of_eq (S.binds _ us rfl hl)
        pre := S.pre
        nd := S.nd
        an1 := S.an1
        evE := S.evE
        an2 := S.an2
        an3 := S.an3
        sd := S.sd
        qsP := fun q hq => ⟨He.eqO_ok (List.all_eq_true.mp h7 q hq), S.qsP q hq⟩
        qs1 := S.qs1
        qs2 := S.qs2
        few := S.few
        sup := He.eqO_ok h8
        top := S.top
        opq := He.eqO_ok h9
        ini := He.eqO_ok h10
        subV := of_decide_eq_true h11
        subC := of_decide_eq_true h12 }
    | _ => cases h6
/-! ### the hook -/
abbrev AlV : Type := AlD × List InO × Bool
def obsV' (file : Str) (fa : List Fa) (fn : List DefD) (es : List ErrD) (ex : PySem.W.Frag → Bool) (K : PySem.W.Frag) : AlV := (obsD fa fn K, es.map (fun p => inO K p.1), (es.all fun p => errB file K p) && ex K)
def valV (fn : List DefD) (es : List ErrD) : AlV := (valD fn, es.map (fun p => inV p.2), true)
def obsV (file : Str) (n : Nat) (fa : List Fa) (fn : List DefD) (es : List ErrD) (ex : PySem.W.Frag → Bool) (g : Addr → Option Obj) : AlV := obsV' file fa fn es ex (frT g (asV g n))
def SaysV (file : Str) (fa : List Fa) (fn : List DefD) (es : List ErrD) (ex : PySem.W.Frag → Bool) (K : PySem.W.Frag) : Prop := obsV' file fa fn es ex K = valV fn es
def hookV (file : Str) (n : Nat) (fa : List Fa) (fn : List DefD) (es : List ErrD) (ex : PySem.W.Frag → Bool) : PySem.W.Hook where
  α := AlV
  obs := fun s => obsV file n fa fn es ex s.heap.get?
  val := fun _ => valV fn es
  says := fun _ h => ∃ K : PySem.W.Frag, K.In h ∧ SaysV file fa fn es ex K
  of := fun _ _ e => ⟨_, frT_in, e⟩
  keeps := fun _ _ _ ⟨K, hK, c⟩ k => ⟨K, PySem.W.Frag.In.keeps hK k, c⟩
theorem obsV_eq {file : Str} {n : Nat} {fa : List Fa} {fn : List DefD} {es : List ErrD} {ex : PySem.W.Frag → Bool} {g : Addr → Option Obj} {s : Shared} (h : ∀ a, g a = s.heap.get? a) : obsV file n fa fn es ex g = (hookV file n fa fn es ex).obs s := by
  have e : g = s.heap.get? := funext h
  rw [e] <;> rfl
section
variable {file : Str} {fa : List Fa} {fn : List DefD} {es : List ErrD} {ex : PySem.W.Frag → Bool} {K : PySem.W.Frag}
theorem SaysV.d (c : SaysV file fa fn es ex K) : SaysD fa fn K := congrArg (fun z : AlV => z.1) c
theorem SaysV.more (c : SaysV file fa fn es ex K) : ex K = true := (He.ba (show ((es.all fun p => errB file K p) && ex K) = true from congrArg (fun z : AlV => z.2.2) c)).2
theorem SaysV.err {prog : Program} (c : SaysV prog.main.file fa fn es ex K) {p : ErrD} (h : p ∈ es) (S : InitS prog p.2) :
    ∃ W : InitW, W.dV = .none ∧ InitF K prog (ga K p.1) (ma K (ga K p.1) "__init__") p.2 W ∧ OexC K (ga K p.1) ∧ XfC K (ga K p.1) ∧ PySem.W.findIn K (.ref (ga K p.1)) "__init__" = some (some (.ref (ma K (ga K p.1) "__init__"))) ∧ PySem.W.typeIn K (.ref (ma K (ga K p.1) "__init__")) = some (.type "function") ∧
      PySem.W.nsIn K mainGlobals p.1 = some (some (.ref (ga K p.1))) := by
  have h1 := List.all_eq_true.mp (He.ba (show ((es.all fun p => errB prog.main.file K p) && ex K) = true from congrArg (fun z : AlV => z.2.2) c)).1 p h
  have h2 : es.map (fun p => inO K p.1) = es.map fun p => inV p.2 := congrArg (fun z : AlV => z.2.1) c
  exact initF_of S (List.map_inj_left.mp h2 p h) h1
end
end EV

/-! An __init__ from its text. -/
namespace EV
open PySem PySem.Spec PyProof.Rows L2
def pz : Pos := ⟨0, 0, 0, 0⟩
def supAt : Stmt → (Pos × Pos × Pos × Pos × Pos) × List Expr
  | .Expr (.Call (.Attribute (.Call (.Name _ p0) _ _ p1) _ p2) as _ p3) p4 => ((p0, p1, p2, p3, p4), as)
  | _ => ((pz, pz, pz, pz, pz), [])
def nameAt : Expr → Str × Pos
  | .Name x p => (x, p)
  | _ => ("", pz)
def fpAt : Stmt → FP
  | .Assign [.Attribute (.Name _ p1) f p2] (.Name x p3) p4 => (f, x, p1, p2, p3, p4)
  | _ => ("", "", pz, pz, pz, pz)
def initD (st : Stmt) (qual slf : Str) (ps : List Str) : InitD :=
  let b := L2.defBody st
  let s := supAt (b.getD 0 (.Pass pz))
  { name := "__init__", qual, params := L2.defArgs st, scope := L2.defScope st, slf, ps, an := s.2.map nameAt, qs := b.tail.map fpAt, p0 := s.1.1, p1 := s.1.2.1, p2 := s.1.2.2.1, p3 := s.1.2.2.2.1, p4 := s.1.2.2.2.2 }
theorem len1 {D : InitD} {W : InitW} (e : W.dV = .none) (h : ∀ (V : InitW) (a : Value), bindArgs (initFn D { V with dV := .none }) ⟨[a], []⟩ = pure (D.ps.zip [a])) : ∀ us : List Value, us.length = 1 → bindArgs (initFn D W) ⟨us, []⟩ = pure (D.ps.zip us)
  | [a], _ => by have z := h W a; obtain ⟨w1, w2, w3, w4, w5, w6, w7, w8, w9, w10, w11, w12, w13, w14, w15, w16, w17⟩ := W; dsimp only at e; subst e; exact z
theorem len2 {D : InitD} {W : InitW} (e : W.dV = .none) (h : ∀ (V : InitW) (a b : Value), bindArgs (initFn D { V with dV := .none }) ⟨[a, b], []⟩ = pure (D.ps.zip [a, b])) : ∀ us : List Value, us.length = 2 → bindArgs (initFn D W) ⟨us, []⟩ = pure (D.ps.zip us)
  | [a, b], _ => by have z := h W a b; obtain ⟨w1, w2, w3, w4, w5, w6, w7, w8, w9, w10, w11, w12, w13, w14, w15, w16, w17⟩ := W; dsimp only at e; subst e; exact z
theorem len3 {D : InitD} {W : InitW} (e : W.dV = .none) (h : ∀ (V : InitW) (a b c : Value), bindArgs (initFn D { V with dV := .none }) ⟨[a, b, c], []⟩ = pure (D.ps.zip [a, b, c])) : ∀ us : List Value, us.length = 3 → bindArgs (initFn D W) ⟨us, []⟩ = pure (D.ps.zip us)
  | [a, b, c], _ => by have z := h W a b c; obtain ⟨w1, w2, w3, w4, w5, w6, w7, w8, w9, w10, w11, w12, w13, w14, w15, w16, w17⟩ := W; dsimp only at e; subst e; exact z
theorem len4 {D : InitD} {W : InitW} (e : W.dV = .none) (h : ∀ (V : InitW) (a b c d : Value), bindArgs (initFn D { V with dV := .none }) ⟨[a, b, c, d], []⟩ = pure (D.ps.zip [a, b, c, d])) : ∀ us : List Value, us.length = 4 → bindArgs (initFn D W) ⟨us, []⟩ = pure (D.ps.zip us)
  | [a, b, c, d], _ => by have z := h W a b c d; obtain ⟨w1, w2, w3, w4, w5, w6, w7, w8, w9, w10, w11, w12, w13, w14, w15, w16, w17⟩ := W; dsimp only at e; subst e; exact z
theorem len5 {D : InitD} {W : InitW} (e : W.dV = .none) (h : ∀ (V : InitW) (a b c d e : Value), bindArgs (initFn D { V with dV := .none }) ⟨[a, b, c, d, e], []⟩ = pure (D.ps.zip [a, b, c, d, e])) : ∀ us : List Value, us.length = 5 → bindArgs (initFn D W) ⟨us, []⟩ = pure (D.ps.zip us)
  | [a, b, c, d, e], _ => by have z := h W a b c d e; obtain ⟨w1, w2, w3, w4, w5, w6, w7, w8, w9, w10, w11, w12, w13, w14, w15, w16, w17⟩ := W; dsimp only at e; subst e; exact z
end EV

namespace EV
open PySem PySem.Spec PyProof.Rows L2
open PySem.HandSPX
section
variable {M : Model} {A : Around} {E : Value → Shared → Prop} {h : Heap} {g : Array GenState} {d : Drawn} {t : Nat} {os : OsState}
variable {nm q : Str} {C N : Addr} {bs bm bmB : List Value} {hdct : Bool} {sn : List Str} {sub : List Value} {ab : Bool} {col : Option Bool} {dd : Option Addr} {k0 k1 k2 k3 k5 : Option Value} {B newId initId : String}
theorem kn_check (F : ExcBaseFacts B newId initId bmB) (hT : ∀ X : String, bm.contains (.type X) = bmB.contains (.type X)) {kw : List (Str × Value)} {Q : Unit → Shared → Prop}
    (hC : h.get? C = some (excClassObj nm q C N bs bm hdct sn sub ab col dd k0 k1 k2 k3 k5 newId)) (hq : Q () ⟨h, g, d, t, os⟩) : wpAny M A (checkBuiltinCall newId ⟨[.ref C], kw⟩) Q E ⟨h, g, d, t, os⟩ := by
  have hB : (Value.ref C :: bm).contains (.type B) = true := by
    rw [List.contains_cons, hT]
    rw [F.hasB]
    exact Bool.or_true _
  have ns := F.noStar
  simp only [checkBuiltinCall, F.newKind, F.newSplit, F.newRow]
  repeat (first | refine wpAny_loadPart_at hC ?_ | (refine wpAny_isSubtype_exc hC ?_; rw [hB]) | refine wpAny_staticBase_exc hC ?_ | refine wpAny_madeBy_exc hC ?_ | simp only [bne_self_eq_false, Bool.false_eq_true, if_false] | wp_step)
  exact hq
end
section
variable {prog : Program} {w : World} {A : Around} {E : Value → Shared → Prop} {R : Result → Shared → Prop} {h : Heap} {g : Array GenState} {d : Drawn} {t : Nat} {os : OsState}
variable {nm q : Str} {C N : Addr} {bs bm bmB : List Value} {hdct : Bool} {sn : List Str} {sub : List Value} {ab : Bool} {col : Option Bool} {dd : Option Addr} {k0 k1 k2 k3 k5 : Option Value} {B newId initId : String}
theorem kn_new (F : ExcBaseFacts B newId initId bmB) (hT : ∀ X : String, bm.contains (.type X) = bmB.contains (.type X)) {kw : List (Str × Value)}
    (hC : h.get? C = some (excClassObj nm q C N bs bm hdct sn sub ab col dd k0 k1 k2 k3 k5 newId))
    (hq : R (.ok (.ret (.ref (h.objs.size + 1)))) ⟨(h.push (PySem.W.kdv_tup [])).push (excO C h.objs.size), g, d, t, os⟩) : codeAny (model prog w) A (.builtin newId ⟨[.ref C], kw⟩) R ⟨h, g, d, t, os⟩ := by
  have ends := F.ends
  have q1 : (Value.ref C :: bm).contains (.type B) = true := by
    rw [List.contains_cons, hT]
    rw [F.hasB]
    exact Bool.or_true _
  have q2 : (Value.ref C :: bm).contains (.type "AttributeError") = false := by
    rw [List.contains_cons, hT]
    rw [F.noAttr] <;> rfl
  have q3 : (Value.ref C :: bm).contains (.type "NameError") = false := by
    rw [List.contains_cons, hT]
    rw [F.noName] <;> rfl
  refine codeAny_builtinAt F.entry ?_
  unfold Builtin.«BaseException.__new__»
  refine PySem.wpAt_bind ?_
  show PySem.wpAt _ _ _ (stack >>= _) _ _ _
  refine PySem.wpAt_bind (PySem.wpAt_stack fun p below => PySem.wpAt_of_wpAny ?_)
  wp_walk
  refine PySem.wpAt_of_wpAny ?_
  rw [F.owner]
  repeat (first | with_reducible refine wpAny_madeHere_exc F.canon hC ?_ | with_reducible refine wpAny_loadPart_at hC ?_ | (with_reducible refine wpAny_isSubtype_exc hC ?_; first | rw [q1] | rw [q2] | rw [q3]) | wp_step)
  show R _ _
  rw [Heap.size_push]
  exact hq
theorem kn_type (F : ExcBaseFacts B newId initId bmB) (hT : ∀ X : String, bm.contains (.type X) = bmB.contains (.type X)) {kw : List (Str × Value)} {fI : Addr} {Q : Fin → Shared → Prop}
    (hC : h.get? C = some (excClassObj nm q C N bs bm hdct sn sub ab col dd k0 k1 k2 k3 k5 newId))
    (hi : W.Looks (model prog w) h (typeLookup (.ref C) "__init__") (some (.ref fI))) (hb : ∀ self, W.Looks (model prog w) h (bindSpecial (.ref fI) self) (.ref fI, [self]))
    (hq : codeAny (model prog w) A (.call (.ref fI) ⟨[.ref (h.objs.size + 1)], kw⟩)
      (fun r s' => match r with | .ok (.ret v) => v = .none ∧ Q (.done (.ret (.ref (h.objs.size + 1)))) s' | .ok _ => False | .error e => E e s')
      ⟨(h.push (W.kdv_tup [])).push (excO C h.objs.size), g, d, t, os⟩) :
    wpAny (model prog w) A (Builtin.«type.__call__» ⟨[.ref C], kw⟩) Q E ⟨h, g, d, t, os⟩ := by
  repeat (first | with_reducible refine wpAny_loadPart_at hC ?_ | with_reducible refine wpAny_madeBy_exc hC ?_ | wp_step)
  refine codeAny_call_builtin_code (Code.quiet_builtin _ F.quiet) (kn_check F hT hC ?_)
  refine kn_new F hT hC ?_
  show wpAny _ _ _ _ _ _
  have kk : ∀ b o, h.get? b = some o → ((h.push (W.kdv_tup [])).push (excO C h.objs.size)).get? b = some o := fun b o e => Heap.get?_push_of_some _ (Heap.get?_push_of_some _ e)
  have hC2 := kk _ _ hC
  have hg2 : ((h.push (W.kdv_tup [])).push (excO C h.objs.size)).get? (h.objs.size + 1) = some (excO C h.objs.size) := by heap_get
  have hs : (Value.ref C :: bm).contains (.ref C) = true := by simp
  have j1 := hi.keeps kk
  have j2 := (hb (.ref (h.objs.size + 1))).keeps kk
  unfold isInstance
  repeat (first | with_reducible refine wpAny_loadPart_at hg2 ?_ | (with_reducible refine wpAny_isSubtype_exc hC2 ?_; rw [hs]) | wp_step)
  show wpAny _ _ (typeLookup (.ref C) _) _ _ _
  refine j1.at (wpAny_holding (wpAny_bind (j2.at (wpAny_bind (wpAny_call (codeAny_mono hq fun r s' z => ?_))))))
  rcases r with e | (v | _ | _ | _) <;> first | exact z | exact z.elim | skip
  obtain ⟨rfl, z⟩ := z
  first
    | exact wpAny_pure (wpAny_pure z)
    | (wp_walk; exact z)
theorem kn_call (F : ExcBaseFacts B newId initId bmB) (hT : ∀ X : String, bm.contains (.type X) = bmB.contains (.type X)) {kw : List (Str × Value)} {fI : Addr}
    (hC : h.get? C = some (excClassObj nm q C N bs bm hdct sn sub ab col dd k0 k1 k2 k3 k5 newId))
    (hi : W.Looks (model prog w) h (typeLookup (.ref C) "__init__") (some (.ref fI))) (hb : ∀ self, W.Looks (model prog w) h (bindSpecial (.ref fI) self) (.ref fI, [self]))
    (hq : codeAny (model prog w) (A.under (.builtin "type.__call__" ⟨[.ref C], kw⟩)) (.call (.ref fI) ⟨[.ref (h.objs.size + 1)], kw⟩) (W.InitBack (h.objs.size + 1) R)
      ⟨(h.push (W.kdv_tup [])).push (excO C h.objs.size), g, d, t, os⟩) :
    codeAny (model prog w) A (.call (.ref C) ⟨[], kw⟩) R ⟨h, g, d, t, os⟩ := by
  have f1 := tc_lookup
  have f2 := tc_bind (.ref C)
  have hTy : (⟨h, g, d, t, os⟩ : Shared).TypeIs (.ref C) "type" := ⟨_, hC, rfl⟩
  refine codeAny_of_tree ?_
  show wpAny _ _ (callAny (.ref C) _) _ _ _
  repeat (any_goals (first | assumption | with_reducible refine wpAny_loadPart_at hC ?_ | wp_step))
  refine ⟨rfl, ?_⟩
  refine codeAny_call_builtin_at (Code.quiet_builtin _ (by decide +kernel)) entry_typeCall (wpAny_check_type_call_sub hC (kn_type F hT hC hi hb ?_))
  refine codeAny_mono hq fun r s' z => ?_
  rcases r with e | (v | _ | _ | _) <;> exact z
end
theorem lookup_mem {α β : Type} [BEq α] [LawfulBEq α] {a : α} {b : β} : ∀ {l : List (α × β)}, l.lookup a = some b → (a, b) ∈ l
  | [], h => by cases h
  | (c, d) :: l, h => by
    rw [List.lookup_cons] at h
    cases q : (a == c) with
    | true =>
      rw [q] at h
      cases h
      rw [beq_iff_eq.mp q]
      exact List.mem_cons_self
    | false =>
      rw [q] at h
      exact List.mem_cons_of_mem _ (lookup_mem h)
theorem pick_at {fl : List (Str × Nat)} {vs : List V} {f : Str} : (pickF fl vs).lookup f = (fl.lookup f).map fun j => (vs[j]?).getD .non := by
  unfold pickF
  induction fl with
  | nil => rfl
  | cons p fl ih =>
    rw [List.map_cons, List.lookup_cons, List.lookup_cons]
    cases f == p.1 <;> first | exact ih | rfl
/-- keywords' values in the parameters' order -/
def permV {α : Type} (d : α) (perm : List Nat) (ws : List α) : List α := perm.map fun i => ws.getD i d
theorem mkk_ok {X : Cx} {prog : Program} {C fI : Addr} {D : InitD} {W : InitW} {x : Str} {ks : List Str} {perm : List Nat} (IF : InitF X.K X.prog C fI D W) (T : OexC X.K C) (xf : XfC X.K C) (iC : PySem.W.findIn X.K (.ref C) "__init__" = some (some (.ref fI)))
    (tI : PySem.W.typeIn X.K (.ref fI) = some (.type "function")) (hm : X.mg x = some (.ref C)) (hr : Room 1 X.A) (kb : ∀ (s : Shared) (e : Value) (ws : List Value), ws.length = ks.length → BindsTo s (initFn D W) ⟨[e], ks.zip ws⟩ (D.ps.zip (e :: permV .none perm ws)))
    (pl : perm.length + 1 = D.ps.length) (pok : (perm.all fun i => decide (i < ks.length)) = true) : MkkOk X x ks perm (fldsOf D.ps D.qs) := by
  intro kws tk p pos q f j i hg hdb hk hks hf hp
  refine ⟨fun pins s σ H Q I h => ?_⟩
  obtain ⟨nm, qn, N, bs, bm, sn, sub, ab, col, dd, k0, k1, k2, k3, k5, hC, hbm⟩ := T.cls
  have kwe : ∀ (l : List Keyword), (backToKw pos (keywordEach l X.env)).map (·.1) = l.map (·.arg) := by
    intro l
    induction l with
    | nil => rfl
    | cons a l ih => cases a with | mk a1 a2 a3 => exact congrArg (a1 :: ·) ih
  have hnm : (backToKw pos (keywordEach kws X.env)).map (·.1) = ks.map some := (kwe kws).trans hks
  have hall : (backToKw pos (keywordEach kws X.env)).all (·.1.isSome) = true := by
    rw [List.all_eq_true]
    intro y hy
    have : y.1 ∈ ks.map some := by rw [← hnm]; exact List.mem_map_of_mem hy
    obtain ⟨z, _, e⟩ := List.mem_map.mp this
    rw [← e]
    rfl
  have hfm : (backToKw pos (keywordEach kws X.env)).filterMap (·.1) = ks := by
    have : (backToKw pos (keywordEach kws X.env)).filterMap (·.1) = ((backToKw pos (keywordEach kws X.env)).map (·.1)).filterMap id := by rw [List.filterMap_map] <;> rfl
    rw [this, hnm, List.filterMap_map]
    show ks.filterMap some = ks
    exact List.filterMap_some
  have hnone : ((backTo pos (starEach [] X.env)).any (·.1) || (backToKw pos (keywordEach kws X.env)).any (·.1.isNone)) = false := by
    show (false || _) = false
    rw [Bool.false_or, List.any_eq_false]
    intro y hy
    have := List.all_eq_true.mp hall y hy
    cases e : y.1 with
    | none => rw [e] at this; cases this
    | some z => simp
  have ilt : i < ks.length := of_decide_eq_true (List.all_eq_true.mp pok i (List.mem_of_getElem? hp))
  have hbase : attributeBase (.Call (.Name x p) [] kws pos) f X.env (eval (.Call (.Name x p) [] kws pos) X.env) = eval (.Call (.Name x p) [] kws pos) X.env := by
    cases kws with
    | nil =>
      cases ks with
      | nil => exact absurd ilt (Nat.not_lt_zero _)
      | cons _ _ => cases hks
    | cons _ _ => rfl
  refine attr_of hbase ?_
  refine wpAny_Call_Name_kw (ld_glob I hg hm ?_ hdb)
  refine PySem.W.callWith_KW0 (h₀ := X.base) I.ok.mod.kin T.kC hall ?_ hnone
  refine thn (hk.run pos pins s σ H _ I h) fun ws s1 ⟨vs, H1, I1, r1, v, lz, hv, q1⟩ => ⟨I1.kIn, ?_⟩
  rw [hfm]
  show wpAny _ _ (call (.ref C) [] (ks.zip ws)) _ _ _
  have lv : ws.length = ks.length := r1.length.symm.trans lz
  obtain ⟨hp0, g, dr, tkk, os⟩ := s1
  have hps : D.ps.length ≠ 0 := by rw [IF.pre]; simp
  have hfew := IF.few
  have kk : ∀ b o, hp0.get? b = some o → ((hp0.push (PySem.W.kdv_tup [])).push (PySem.HandSPX.excO C hp0.objs.size)).get? b = some o := fun b o e => Heap.get?_push_of_some _ (Heap.get?_push_of_some _ e)
  have hget : ((hp0.push (PySem.W.kdv_tup [])).push (PySem.HandSPX.excO C hp0.objs.size)).get? (hp0.objs.size + 1) = some (PySem.HandSPX.excO C hp0.objs.size) := by heap_get
  have en : hp0.get? (hp0.objs.size + 1) = none := by
    cases z : hp0.get? (hp0.objs.size + 1) with
    | none => rfl
    | some o => exact absurd (Heap.lt_size z) (Nat.not_lt_of_le (Nat.le_succ _))
  have md := I1.ok.mod
  obtain ⟨mb, hb1, hb2⟩ := md.blt
  have bk : ∀ b o, X.base.get? b = some o → hp0.get? b = some o := I1.bk
  have hul : (permV .none perm ws).length = perm.length := List.length_map _
  refine wpAny_call (kn_call F.excBase_ValueError (fun Y => PySem.HandSPX.refsVE_contains Y bm hbm) (I1.kIn _ _ hC) (PySem.W.looks_findIn I1.kIn iC) (fun self => PySem.W.bind_fn I1.kIn self tI)
    (codeAny_mono (init_run (h0 := hp0) (mg := X.mg) (mb := mb) (e := hp0.objs.size + 1) (t0 := hp0.objs.size) (us := permV .none perm ws) (s := ⟨(hp0.push (PySem.W.kdv_tup [])).push (PySem.HandSPX.excO C hp0.objs.size), g, dr, tkk, os⟩) IF T I1.kIn (md.glob.keeps bk) (hb1.keeps bk) hb2 (md.nolimit.keeps bk) kk en (Nat.le_succ _) hget (by rw [hul]; exact pl) (Room.depth (hr.make C [] (ks.zip ws))) (kb _ _ _ lv))
      fun r s' hq => ?_))
  obtain ⟨rfl, hg', ho', L, dx, m, nl, hL, J, hmm⟩ := hq
  refine ⟨rfl, ?_⟩
  obtain ⟨t1, ho⟩ := J.obj
  obtain ⟨d1, d2, d3, hns⟩ := J.dic dx rfl
  have tl : D.ps.tail.map m = (permV .none perm ws).map some := by
    have hp := congrArg List.tail hmm
    rw [← List.map_tail, List.map_cons, List.tail_cons] at hp
    exact hp
  have ga : ∀ {α : Type} {d : α} {l : List α} {k : Nat}, l.getD k d = (l[k]?).getD d := fun {α d l k} => List.getD_eq_getElem?_getD
  have vv : Vals (permV .non perm vs) (permV .none perm ws) := by
    clear tl hmm hul pl kb hp
    induction perm with
    | nil => exact .nil
    | cons a perm ih =>
      rw [List.all_cons, Bool.and_eq_true, decide_eq_true_eq] at pok
      refine .cons ?_ (ih pok.2)
      have ha : vs[a]? = some (vs[a]'(by omega)) := List.getElem?_eq_getElem (by omega)
      obtain ⟨u, h1, h2⟩ := r1.get ha
      dsimp only
      rw [ga, ga, ha, h1]
      exact h2
  have hlv : (permV .non perm vs).length = perm.length := List.length_map _
  have rel : ∀ y, RelO ((pickF (fldsOf D.ps D.qs) (permV .non perm vs)).lookup y) (afterF m D.qs (fun _ => none) y) := by
    have e1 : pickF (fldsOf D.ps D.qs) (permV .non perm vs) = (D.qs.map fun q => (q.1, ((permV .non perm vs)[D.ps.tail.idxOf q.2.1]?).getD .non)).reverse ++ [] := by
      unfold pickF
      unfold fldsOf
      rw [List.map_reverse, List.map_map]
      rw [List.append_nil] <;> rfl
    rw [e1]
    refine afterF_at (fun q hq => ?_) (fun y => trivial)
    obtain ⟨_, q2, _⟩ := IF.qsP q hq
    have hi : D.ps.tail.idxOf q.2.1 < D.ps.tail.length := List.idxOf_lt_length_iff.mpr q2
    have ht : D.ps.tail[D.ps.tail.idxOf q.2.1]? = some q.2.1 := by
      rw [List.getElem?_eq_getElem hi]
      exact congrArg some (List.getElem_idxOf hi)
    have hu : ((permV .none perm ws).map some)[D.ps.tail.idxOf q.2.1]? = some (m q.2.1) := by
      rw [← tl, List.getElem?_map, ht] <;> rfl
    rw [List.getElem?_map] at hu
    cases hus : (permV .none perm ws)[D.ps.tail.idxOf q.2.1]? with
    | none => rw [hus] at hu; cases hu
    | some u =>
      rw [hus] at hu
      have hm' : m q.2.1 = some u := (Option.some.inj hu).symm
      obtain ⟨v', hv', rv'⟩ := (pair_at vv).2 _ u hus
      rw [hm', hv']
      exact rv'
  have hj : (permV .non perm vs)[j]? = some v := by
    unfold permV
    rw [List.getElem?_map, hp, Option.map_some, ga, hv] <;> rfl
  obtain ⟨u, hfm2, ru⟩ := RelO.some_of (v := v) (o := afterF m D.qs (fun _ => none) f) (by
    have := rel f
    rw [pick_at, hf, Option.map_some, hj] at this
    exact this)
  have IG : L2.Inv X pins σ H1 s' := by
    have I2 : L2.Inv X pins σ H1 ⟨s'.heap, g, dr, s'.toks, os⟩ := I1.kept (t' := s'.toks) J.keep
    obtain ⟨h', g', dr', t', os'⟩ := s'
    dsimp only at hg' ho'
    subst hg' ho'
    exact ⟨I2.ok, I2.os, I2.bare, I2.base, I2.loc, I2.cell, I2.free, I2.freeC, I2.pin, I2.hok, I2.len⟩
  obtain ⟨od, hod, hl⟩ := lookIn_ns hns
  have hno : PySem.W.findIn X.K (.ref C) f = some none := by
    have hmem := lookup_mem hf
    unfold fldsOf at hmem
    rw [← List.map_reverse] at hmem
    obtain ⟨r, hr2, e⟩ := List.mem_map.mp hmem
    cases e
    exact (IF.qsP r (List.mem_reverse.mp hr2)).1
  have JI : PySem.W.InstAt s'.heap (hp0.objs.size + 1) (exR C t1 (some dx)) C (some od) := ⟨ho, rfl, rfl, hod⟩
  exact HandSPX.exc_get IG.kIn JI xf.ga xf.gg xf.exC (PySem.W.findObj_own xf.hdC hno rfl (by rw [hl, hfm2])) (handed_of ru) ⟨v, H1, IG.tok _, ru, q1⟩
/-- an own class without __init__, called with nothing -/
theorem mk0_ok {X : Cx} {C : Addr} {x : Str} (q : PySem.W.excIn X.K C He.veBase "ValueError.__new__" = true) (gC : X.mg x = some (.ref C)) (kC : PySem.W.keepIn X.K (.ref C) = true) (r1 : PySem.W.subIn X.K (.ref C) (.type "BaseException") = some true) (r2 : PySem.W.typeIn X.K (.ref C) = some (.type "type")) :
    Mk0Ok X (.ref C) x := by
  intro p pos hg hdb pins s σ H Q I h
  refine wpAny_Call_Name_kw (ld_glob I hg gC ?_ hdb)
  refine PySem.W.callWith_K0 I.kIn kC ?_
  show wpAny _ _ (call (.ref C) []) _ _ _
  obtain ⟨bm, N, nm, qn, bs, hdct, sn, sub, ab, col, dd, k0, k1, k2, k3, k5, mN, hC, hN, hni, T⟩ := exc_obj I.kIn q
  exact wpAny_call_exc_subT F.excBase_ValueError T hC hN hni (fun h' e hm => mk_of I hm (raises_own r1 r2) h (I.hok.gone hm.new)) (by rw [sizeLine_eq]; decide)
end EV

/-! Defs tied to their mirrors, one behind another. -/
namespace EV
open PySem PySem.Spec PyProof.Rows L2
section
variable {P : Program} {w : World} {K : PySem.W.Frag} {mg : Str → Option Value} {base : Heap} {G : AM}
/-- a def that stands behind the top and runs as its mirror -/
structure DefOk (P : Program) (w : World) (K : PySem.W.Frag) (mg : Str → Option Value) (base : Heap) (G : AM) (lvl : Nat) (x : Str) (m : Fm) : Prop where
  ex : ∃ (fa : Addr) (fd : FuncData) (ps : List Str), mg x = some (.ref fa) ∧ PySem.W.keepIn K (.ref fa) = true ∧ Binds K fd ps [] ∧ (∀ svs, m svs ≠ .stuck → svs.length = ps.length) ∧
    FnG P w K mg base lvl fa fd ps fun vs H Q E => vs.length = ps.length ∧ spM K G m vs H Q E
theorem DefOk.callee {k lvl : Nat} {x : Str} {m : Fm} (D : DefOk P w K mg base G k x m) (h : k ≤ lvl) (X : Cx) (h1 : X.prog = P) (h2 : X.w = w) (h3 : X.K = K) (h4 : X.mg = mg) (h5 : X.base = base) : CalleeOk X G lvl x m := by
  obtain ⟨fa, fd, ps, a, b, c, d, e⟩ := D.ex
  subst h1 h2 h3 h4 h5
  exact ⟨fa, fd, ps, k, h, a, b, c, d, e⟩
theorem runF_len {cf : Cf} {np n : Nat} {body : C} {svs : List SV} (h : runF cf np n body svs ≠ .stuck) : svs.length = np := by
  rw [runF_eq] at h
  by_cases c : svs.length = np ∧ (svs.zipIdx.all fun p => isPinned cf.pin p.2 p.1) = true
  · exact c.1
  · rw [if_neg c] at h
    exact absurd rfl h
theorem def_ok {cg : Cfg} {cf : Cf} {x : Str} {ps : List Str} {params : Arguments} {body : List Stmt} {scope : Scope} {f : Addr} {fd : FuncData} {b : C} {k np n : Nat} (F : FX cg cf G P w K mg base) (D : FunD K x x params body scope [] [] f fd) (hm : mg x = some (.ref f))
    (S : FnScope cg.N ps scope) (hch : chkB cg ⟨scope, fun _ => true, true⟩ b body = true)
    (hb : ∀ (kV doc pm : Value) (an : Option Addr) (cdv ct : Value) (us : List Value), us.length = ps.length → bindArgs (PySem.W.fnOf x x params body scope .none kV doc pm an cdv ct) ⟨us, []⟩ = pure (ps.zip us)) (hk : cg.lvl ≤ k) (hp : ps.length = np) (hn : cg.N.length = n) :
    DefOk P w K mg base G (k + 1) x (runF cf np n b) := by
  have bn := FunD.bindsN D hb
  subst hp hn
  obtain ⟨oc, od, dV, kV, doc, pm, an, cdv, ct, osl, rfl, lk, hcd, hD, hK⟩ := D.ex
  exact ⟨f, _, ps, hm, D.kp, bn, fun svs h => runF_len h, fn_of F lk hcd S hch hk⟩
/-- the same, where the function itself is asked -/
theorem def_run {cg : Cfg} {cf : Cf} {x : Str} {ps : List Str} {params : Arguments} {body : List Stmt} {scope : Scope} {f : Addr} {fd : FuncData} {b : C} {k np n : Nat} (F : FX cg cf G P w K mg base) (D : FunD K x x params body scope [] [] f fd)
    (S : FnScope cg.N ps scope) (hch : chkB cg ⟨scope, fun _ => true, true⟩ b body = true) (hk : cg.lvl ≤ k) (hp : ps.length = np) (hn : cg.N.length = n) :
    FnG P w K mg base (k + 1) f fd ps fun vs H Q E => vs.length = np ∧ spM K G (runF cf np n b) vs H Q E := by
  subst hp hn
  obtain ⟨oc, od, dV, kV, doc, pm, an, cdv, ct, osl, rfl, lk, hcd, hD, hK⟩ := D.ex
  exact fn_of F lk hcd S hch hk
/-- no turn left: nothing is promised -/
theorem stuck_ok {x : Str} {ps : List Str} {params : Arguments} {body : List Stmt} {scope : Scope} {f : Addr} {fd : FuncData} (k : Nat) (D : FunD K x x params body scope [] [] f fd) (hm : mg x = some (.ref f))
    (hb : ∀ (kV doc pm : Value) (an : Option Addr) (cdv ct : Value) (us : List Value), us.length = ps.length → bindArgs (PySem.W.fnOf x x params body scope .none kV doc pm an cdv ct) ⟨us, []⟩ = pure (ps.zip us)) : DefOk P w K mg base G k x fun _ => .stuck :=
  ⟨f, fd, ps, hm, D.kp, FunD.bindsN D hb, fun svs h => absurd rfl h, ⟨fun vs H Q E h => h.1, fun A outer s H args us vs Q E _ _ _ _ _ ⟨_, svs, _, z⟩ => z.elim⟩⟩
/-! ### what a def may lean on -/
/-- an error class, by its number -/
structure ErrOk (P : Program) (w : World) (K : PySem.W.Frag) (mg : Str → Option Value) (base : Heap) (G : AM) (k : Nat) (x : Str) (n : Nat) (fl : List (Str × Nat)) : Prop where
  ex : ∃ C, G.exc k = .ref C ∧ XfC K C ∧ ∀ p ∈ fl, PySem.W.findIn K (.ref C) p.1 = some none
  made : ∀ X : Cx, X.prog = P → X.w = w → X.K = K → X.mg = mg → X.base = base → X.calm = true → Room 1 X.A → X.A.guards = some [] → MkOk X (G.exc k) x n fl
/-- what isinstance of an error in hand says -/
def XiOk (K : PySem.W.Frag) (G : AM) (tab : List ((Nat × Nat) × Bool)) : Prop := ∀ p ∈ tab, ∃ (D : Addr) (cv : V), G.exc p.1.1 = .ref D ∧ ExcC K D ∧ RelV cv (G.exc p.1.2) ∧ (∀ u, RelV cv u → u = G.exc p.1.2) ∧ PySem.W.kitOne K (.ref D) (G.exc p.1.2) = some p.2
/-- an error made by keywords -/
structure KwOk (P : Program) (w : World) (K : PySem.W.Frag) (mg : Str → Option Value) (base : Heap) (names : List Str) (exf : List (Nat × (Nat × List (Str × Nat)))) (p : Nat × List Str × List Nat) : Prop where
  ex : ∃ (x : Str) (n : Nat) (fl : List (Str × Nat)), names[p.1]? = some x ∧ exf.lookup p.1 = some (n, fl) ∧ ∀ X : Cx, X.prog = P → X.w = w → X.K = K → X.mg = mg → X.base = base → X.calm = true → Room 1 X.A → X.A.guards = some [] → MkkOk X x p.2.1 p.2.2 fl
/-- an error made of nothing -/
structure Er0Ok (P : Program) (w : World) (K : PySem.W.Frag) (mg : Str → Option Value) (base : Heap) (G : AM) (k : Nat) (x : Str) : Prop where
  made : ∀ X : Cx, X.prog = P → X.w = w → X.K = K → X.mg = mg → X.base = base → X.calm = true → Room 1 X.A → X.A.guards = some [] → Mk0Ok X (G.exc k) x
/-- the names of errors -/
structure NamesOk (K : PySem.W.Frag) (mg : Str → Option Value) (G : AM) (en : List Str) (exm : List ((Nat × Nat) × Bool)) : Prop where
  at_ : ∀ (k : Nat) (x : Str), en[k]? = some x → mg x = some (G.exc k) ∨ (mg x = none ∧ bootBuiltins x = some (G.exc k) ∧ x ≠ "__name__")
  exm : ∀ p ∈ exm, PySem.W.exmOne K (G.exc p.1.1) (G.exc p.1.2) = some p.2
/-- every number of L has its def -/
def CallsOk (P : Program) (w : World) (K : PySem.W.Frag) (mg : Str → Option Value) (base : Heap) (G : AM) (lvl : Nat) (names : List Str) (fns : List Fm) (L : List Nat) : Prop := ∀ k ∈ L, ∃ (x : Str) (m : Fm) (j : Nat), names[k]? = some x ∧ fns[k]? = some m ∧ j ≤ lvl ∧ DefOk P w K mg base G j x m
theorem calls_nil {lvl : Nat} {names : List Str} {fns : List Fm} : CallsOk P w K mg base G lvl names fns [] := fun k h => by cases h
theorem calls_cons {lvl j k : Nat} {x : Str} {m : Fm} {names : List Str} {fns : List Fm} {L : List Nat} (D : DefOk P w K mg base G j x m) (h1 : names[k]? = some x) (h2 : fns[k]? = some m) (hj : j ≤ lvl) (C : CallsOk P w K mg base G lvl names fns L) : CallsOk P w K mg base G lvl names fns (k :: L) := fun i h => by
  rcases List.mem_cons.mp h with rfl | h
  · exact ⟨x, m, j, h1, h2, hj, D⟩
  · exact C i h
theorem fx_of {cg : Cfg} {cf : Cf} {L R : List Nat} {names en : List Str} {exm : List ((Nat × Nat) × Bool)} {exf : List (Nat × (Nat × List (Str × Nat)))} (free : ∀ x ∈ cg.free, mg x = none) (hgl : cg.glN = []) (hgf : cg.gfN = fun _ => none)
    (hfn : cg.fnN = fun k => if L.contains k then names[k]? else none) (C : CallsOk P w K mg base G cg.lvl names cf.fns L) (hen : cg.excN = fun k => en[k]?) (hcm : cf.exm = fun j k => exm.lookup (j, k)) (N : NamesOk K mg G en exm)
    (hcf : cf.excF = fun k => exf.lookup k) (E : ∀ p ∈ exf, (∃ C, G.exc p.1 = .ref C ∧ XfC K C ∧ ∀ q ∈ p.2.2, PySem.W.findIn K (.ref C) q.1 = some none) ∧ (p.1 ∈ R → ∃ x, en[p.1]? = some x ∧ ErrOk P w K mg base G p.1 x p.2.1 p.2.2)) {exi : List ((Nat × Nat) × Bool)} {R0 : List Nat} (hxi : cf.exi = fun j k => exi.lookup (j, k)) (XI : XiOk K G exi) (KW : ∀ p ∈ cg.kw, 1 ≤ cg.lvl ∧ KwOk P w K mg base en exf p) (hR0 : cg.ex0 = fun k => R0.contains k) (E0 : ∀ k ∈ R0, 1 ≤ cg.lvl ∧ ∃ x, en[k]? = some x ∧ exf.lookup k = some (0, []) ∧ Er0Ok P w K mg base G k x)
    (hR : cg.excR = fun k => R.contains k) (hR2 : ∀ k ∈ R, 1 ≤ cg.lvl ∧ (exf.lookup k).isSome = true) : FX cg cf G P w K mg base where
  free := free
  gls := fun k x d h => by rw [hgl] at h; cases h
  gfn := fun k x h => by rw [hgf] at h; cases h
  fns := fun k x h => by
    rw [hfn] at h
    dsimp only at h
    by_cases c : L.contains k = true
    · rw [if_pos c] at h
      obtain ⟨y, m, j, h1, h2, h3, D⟩ := C k (List.contains_iff_mem.mp c)
      rw [h1] at h
      cases h
      exact ⟨m, h2, D.callee h3⟩
    · rw [if_neg c] at h
      cases h
  exN := fun k x h => N.at_ k x (by rw [hen] at h; exact h)
  exM := fun j k b h => N.exm ((j, k), b) (lookup_mem (by rw [hcm] at h; exact h))
  exF := fun k n fl h => by
    exact (E (k, (n, fl)) (lookup_mem (by rw [hcf] at h; exact h))).1
  exI := fun j k b h => XI ((j, k), b) (lookup_mem (by rw [hxi] at h; exact h))
  kws := fun p hp => by
    obtain ⟨h1, h2⟩ := KW p hp
    obtain ⟨x, n, fl, a, b, c⟩ := h2.ex
    exact ⟨x, n, fl, by rw [hen]; exact a, by rw [hcf]; exact b, fun X' a1 a2 a3 a4 a5 a6 a7 a8 => c X' a1 a2 a3 a4 a5 a6 (a7.mono h1) a8⟩
  mk0 := fun k x h h0 => by
    rw [hR0] at h0
    obtain ⟨h1, y, a, b, c⟩ := E0 k (List.contains_iff_mem.mp h0)
    rw [hen] at h
    obtain rfl : y = x := Option.some.inj (a.symm.trans h)
    exact ⟨by rw [hcf]; exact b, fun X' a1 a2 a3 a4 a5 a6 a7 a8 => c.made X' a1 a2 a3 a4 a5 a6 (a7.mono h1) a8⟩
  mks := fun k x h hr => by
    rw [hR] at hr
    obtain ⟨r1, r2⟩ := hR2 k (List.contains_iff_mem.mp hr)
    cases q : exf.lookup k with
    | none => rw [q] at r2; cases r2
    | some p =>
      obtain ⟨n, fl⟩ := p
      obtain ⟨y, hy, e⟩ := (E (k, (n, fl)) (lookup_mem q)).2 (List.contains_iff_mem.mp hr)
      rw [hen] at h
      obtain rfl : y = x := Option.some.inj (hy.symm.trans h)
      exact ⟨n, fl, by rw [hcf]; exact q, fun X' a1 a2 a3 a4 a5 a6 a7 a8 => e.made X' a1 a2 a3 a4 a5 a6 (a7.mono r1) a8⟩
end
open He in
/-- an error class of the module, from the head -/
theorem err_ok {prog : Program} {w : World} {K : PySem.W.Frag} {h base : Heap} {mg : Str → Option Value} {G : AM} {fa : List Fa} {fn : List DefD} {es : List ErrD} {ex : PySem.W.Frag → Bool} {p : ErrD} {k : Nat} (KX : K.In h) (g : h.Ns mainGlobals mg) (c : SaysV prog.main.file fa fn es ex K) (hp : p ∈ es)
    (S : InitS prog p.2) (hG : G.exc k = .ref (ga K p.1)) {n : Nat} {fl : List (Str × Nat)} (hn : p.2.ps.length - 1 = n) (hf : fldsOf p.2.ps p.2.qs = fl) : ErrOk prog w K mg base G k p.1 n fl := by
  obtain ⟨W, w0, IF, h1, h2, h3, h4, h5⟩ := c.err hp S
  refine ⟨⟨_, hG, h2, fun q hq => ?_⟩, fun X a1 a2 a3 a4 a5 a6 a7 a8 => ?_⟩
  · rw [← hf] at hq
    unfold fldsOf at hq
    rw [← List.map_reverse] at hq
    obtain ⟨r, hr, rfl⟩ := List.mem_map.mp hq
    exact (IF.qsP r (List.mem_reverse.mp hr)).1
  · subst a1 a3 a4 hn hf
    rw [hG]
    exact mk_ok (prog := X.prog) IF h1 h3 h4 (PySem.W.mg_of KX g h5) a7
open He in
/-- the same by keywords -/
theorem kw_ok {prog : Program} {w : World} {K : PySem.W.Frag} {h base : Heap} {mg : Str → Option Value} {fa : List Fa} {fn : List DefD} {es : List ErrD} {ex : PySem.W.Frag → Bool} {p : ErrD} {k : Nat} {names : List Str} {exf : List (Nat × (Nat × List (Str × Nat)))} {ks : List Str} {perm : List Nat} {n : Nat} {fl : List (Str × Nat)}
    (KX : K.In h) (g : h.Ns mainGlobals mg) (c : SaysV prog.main.file fa fn es ex K) (hp : p ∈ es) (S : InitS prog p.2) (hn : names[k]? = some p.1) (he : exf.lookup k = some (n, fl)) (hf : fldsOf p.2.ps p.2.qs = fl)
    (hb : ∀ (V : InitW) (e : Value) (ws : List Value), ws.length = ks.length → bindArgs (initFn p.2 { V with dV := .none }) ⟨[e], ks.zip ws⟩ = pure (p.2.ps.zip (e :: permV .none perm ws))) (pl : perm.length + 1 = p.2.ps.length) (pok : (perm.all fun i => decide (i < ks.length)) = true) :
    KwOk prog w K mg base names exf (k, ks, perm) := by
  obtain ⟨W, w0, IF, h1, h2, h3, h4, h5⟩ := c.err hp S
  refine ⟨p.1, n, fl, hn, he, fun X a1 a2 a3 a4 a5 a6 a7 a8 => ?_⟩
  subst a1 a3 a4 hf
  refine mkk_ok (prog := X.prog) IF h1 h2 h3 h4 (PySem.W.mg_of KX g h5) a7 (fun s e ws hl => BindsTo.of_eq ?_) pl pok
  have z := hb W e ws hl
  obtain ⟨w1, w2, w3, w4, w5, w6, w7, w8, w9, w10, w11, w12, w13, w14, w15, w16, w17⟩ := W
  dsimp only at w0
  subst w0
  exact z
open He
/-- the facts that a law's head tells: globals, names left free, errors and how they match -/
def faOf (glo free en : List Str) (tab : List ((Nat × Nat) × Bool)) : List Fa := glo.map Fa.glo ++ (free.map Fa.free ++ (en.map Fa.glo ++ tab.map fun p => Fa.exm (en.getD p.1.1 "") (en.getD p.1.2 "") p.2))
/-- own classes en, then built-in ones bn -/
def gmOf (K : PySem.W.Frag) (en : List Str) (bn : List String) : AM := { cls := fun _ => 0, exc := fun k => if k < en.length then .ref (ga K (en.getD k "")) else .type (bn.getD (k - en.length) ""), fn := fun _ => 0 }
theorem gm_own {K : PySem.W.Frag} {en : List Str} {bn : List String} {k : Nat} {x : Str} (h : en[k]? = some x) : (gmOf K en bn).exc k = .ref (ga K x) := by
  show (if k < en.length then Value.ref (ga K (en.getD k "")) else _) = _
  obtain ⟨h1, _⟩ := List.getElem?_eq_some_iff.mp h
  rw [if_pos h1, List.getD_eq_getElem?_getD, h] <;> rfl
/-- what isinstance of errors leans on -/
def excCB (K : PySem.W.Frag) (D : Addr) : Bool := decide (PySem.W.findIn K (.ref D) "__getattribute__" = some (some (.builtin "BaseException.__getattribute__"))) && (decide (PySem.W.findIn K (.ref D) "__getattr__" = some none) && (decide (PySem.W.subIn K (.ref D) (.type "BaseException") = some true) && (PySem.W.hasDictIn K D && (
  decide (PySem.W.findIn K (.ref D) "__class__" = some (some (.builtin "object.__class__"))) && (decide (PySem.W.specialIn K (.builtin "object.__class__") "__get__" = some (some (.builtin "getset_descriptor.__get__"))) && (decide (PySem.W.takesIn K (.builtin "object.__class__") = some true) && decide (PySem.W.mroIn K D (.type "object") = some true)))))))
theorem excCB_ok {K : PySem.W.Frag} {D : Addr} (h : excCB K D = true) : ExcC K D := by
  unfold excCB at h
  simp only [Bool.and_eq_true, decide_eq_true_eq] at h
  obtain ⟨h1, h2, h3, h4, h5, h6, h7, h8⟩ := h
  exact ⟨h1, h2, h3, h4, h5, h6, h7, h8⟩
/-- own classes without __init__ -/
def ex0B (l : List Str) (K : PySem.W.Frag) : Bool := l.all fun x => (Fa.exc x).ok K && xfB K (ga K x)
theorem ex0_ok {K : PySem.W.Frag} {l : List Str} {x : Str} (h : ex0B l K = true) (hx : x ∈ l) : XfC K (ga K x) ∧ PySem.W.excIn K (ga K x) veBase "ValueError.__new__" = true ∧ PySem.W.keepIn K (.ref (ga K x)) = true ∧ PySem.W.subIn K (.ref (ga K x)) (.type "BaseException") = some true ∧ PySem.W.typeIn K (.ref (ga K x)) = some (.type "type") := by
  have q := List.all_eq_true.mp h x hx
  rw [Bool.and_eq_true] at q
  exact ⟨xfB_ok q.2, exc_ok q.1⟩
def xiB (en : List Str) (bn : List String) (tab : List ((Nat × Nat) × Bool)) (K : PySem.W.Frag) : Bool := (en.all fun x => excCB K (ga K x)) && tab.all fun p => decide (p.1.1 < en.length) && decide (PySem.W.kitOne K (.ref (ga K (en.getD p.1.1 ""))) ((gmOf K en bn).exc p.1.2) = some p.2)
theorem xi_ok {K : PySem.W.Frag} {en : List Str} {bn : List String} {tab : List ((Nat × Nat) × Bool)} (h : xiB en bn tab K = true) : XiOk K (gmOf K en bn) tab := by
  intro p hp
  unfold xiB at h
  rw [Bool.and_eq_true] at h
  have h2 := List.all_eq_true.mp h.2 p hp
  simp only [Bool.and_eq_true, decide_eq_true_eq] at h2
  obtain ⟨l, k⟩ := h2
  have e : en[p.1.1]? = some (en[p.1.1]'l) := List.getElem?_eq_getElem l
  have eg : en.getD p.1.1 "" = en[p.1.1]'l := by rw [List.getD_eq_getElem?_getD, e] <;> rfl
  rw [eg] at k
  have g1 := gm_own (K := K) (bn := bn) e
  refine ⟨_, ?_, g1, excCB_ok (List.all_eq_true.mp h.1 _ (List.getElem_mem l)), ?_, ?_, k⟩
  · exact if p.1.2 < en.length then V.ref (ga K (en.getD p.1.2 "")) else V.ty (bn.getD (p.1.2 - en.length) "")
  · show RelV (if p.1.2 < en.length then _ else _) (if p.1.2 < en.length then _ else _)
    split <;> rfl
  · intro u hu
    show u = (if p.1.2 < en.length then _ else _)
    split <;> rename_i c
    · rw [if_pos c] at hu; exact hu
    · rw [if_neg c] at hu; exact hu
section
variable {file : Str} {glo free en : List Str} {tab : List ((Nat × Nat) × Bool)} {fn : List DefD} {es : List ErrD} {ex : PySem.W.Frag → Bool} {K : PySem.W.Frag} {h : Heap} {mg : Str → Option Value}
theorem fact_in {fa : List Fa} (c : SaysV file fa fn es ex K) {f : Fa} (hf : f ∈ fa) : f.ok K = true := by
  obtain ⟨i, hi⟩ := List.getElem?_of_mem hf
  exact c.d.fact i hi
theorem glo_in (KX : K.In h) (g : h.Ns mainGlobals mg) (c : SaysV file (faOf glo free en tab) fn es ex K) {x : Str} (hx : x ∈ glo) : mg x = some (.ref (ga K x)) :=
  glo_ok KX g (fact_in c (List.mem_append_left _ (List.mem_map_of_mem hx)))
theorem free_in (KX : K.In h) (g : h.Ns mainGlobals mg) (c : SaysV file (faOf glo free en tab) fn es ex K) {L : List Str} (hL : (L.all fun x => free.contains x) = true) : ∀ x ∈ L, mg x = none := fun x hx =>
  free_ok KX g (fact_in c (List.mem_append_right _ (List.mem_append_left _ (List.mem_map_of_mem (List.contains_iff_mem.mp (List.all_eq_true.mp hL x hx))))))
theorem names_in {bn : List String} {bs all : List Str} (KX : K.In h) (g : h.Ns mainGlobals mg) (c : SaysV file (faOf glo free en tab) fn es ex K) (ha : all = en ++ bs) (hb : (bs.zip bn).all (fun q => decide (bootBuiltins q.1 = some (.type q.2)) && (!(q.1 == ("__name__" : Str)) && free.contains q.1)) = true) (hl : bs.length = bn.length) (htab : (tab.all fun p => decide (p.1.1 < en.length) && decide (p.1.2 < en.length)) = true) : NamesOk K mg (gmOf K en bn) all tab where
  at_ := fun k x e => by
    subst ha
    by_cases c0 : k < en.length
    · rw [List.getElem?_append_left c0] at e
      refine .inl ?_
      rw [gm_own e]
      exact glo_ok KX g (fact_in c (List.mem_append_right _ (List.mem_append_right _ (List.mem_append_left _ (List.mem_map_of_mem (List.mem_of_getElem? e))))))
    · rw [List.getElem?_append_right (by omega)] at e
      obtain ⟨h1, h1'⟩ := List.getElem?_eq_some_iff.mp e
      have e2 : bn[k - en.length]? = some (bn[k - en.length]'(by omega)) := List.getElem?_eq_getElem (by omega)
      have m := List.mem_of_getElem? (l := bs.zip bn) (i := k - en.length) (a := (x, bn[k - en.length]'(by omega))) (by rw [List.getElem?_zip_eq_some]; exact ⟨e, e2⟩)
      have q := List.all_eq_true.mp hb _ m
      simp only [Bool.and_eq_true, decide_eq_true_eq, Bool.not_eq_true'] at q
      obtain ⟨q1, q2, q3⟩ := q
      refine .inr ⟨free_in KX g c (L := [x]) (by simpa using q3) x List.mem_cons_self, ?_, by simpa using q2⟩
      show _ = some (if k < en.length then _ else Value.type (bn.getD (k - en.length) ""))
      rw [q1, if_neg c0, List.getD_eq_getElem?_getD, e2] <;> rfl
  exm := fun p hp => by
    have q := List.all_eq_true.mp htab p hp
    simp only [Bool.and_eq_true, decide_eq_true_eq] at q
    have e1 : en[p.1.1]? = some (en.getD p.1.1 "") := by rw [List.getD_eq_getElem?_getD, List.getElem?_eq_getElem q.1] <;> rfl
    have e2 : en[p.1.2]? = some (en.getD p.1.2 "") := by rw [List.getD_eq_getElem?_getD, List.getElem?_eq_getElem q.2] <;> rfl
    rw [gm_own e1, gm_own e2]
    exact exm_ok (fact_in c (List.mem_append_right _ (List.mem_append_right _ (List.mem_append_right _ (List.mem_map_of_mem (f := fun p : (Nat × Nat) × Bool => Fa.exm (en.getD p.1.1 "") (en.getD p.1.2 "") p.2) hp)))))
theorem er0_ok {prog : Program} {w : World} {base : Heap} {bn : List String} {l : List Str} {k : Nat} {x : Str} (KX : K.In h) (g : h.Ns mainGlobals mg) (c : SaysV file (faOf glo free en tab) fn es ex K) (hE : ex0B l K = true) (hx : x ∈ l) (hk : en[k]? = some x) : Er0Ok prog w K mg base (gmOf K en bn) k x := by
  obtain ⟨_, q1, q2, q3, q4⟩ := ex0_ok hE hx
  refine ⟨fun X a1 a2 a3 a4 a5 a6 a7 a8 => ?_⟩
  subst a3 a4
  rw [gm_own hk]
  exact mk0_ok q1 (glo_ok KX g (fact_in c (List.mem_append_right _ (List.mem_append_right _ (List.mem_append_left _ (List.mem_map_of_mem (List.mem_of_getElem? hk))))))) q2 q3 q4
end
end EV

/-! Loops by states. -/
namespace EV
open PySem
/-- a while loop that goes from state to state -/
theorem while_run {σ : Type} {cf : Cf} {c b : C} (E : σ → EV.Env) (I : σ → Prop) (cond : σ → Bool) (next : σ → σ) (μ : σ → Nat) (hc : ∀ s, I s → semE cf c (E s) = .ok (.d (.bool (cond s))) (E s))
    (hb : ∀ s, I s → cond s = true → semS cf b (E s) = .ok .nx (E (next s)) ∧ I (next s) ∧ μ (next s) < μ s) : ∀ (n : Nat) (s : σ), I s → μ s < n → ∃ s', I s' ∧ cond s' = false ∧ semS cf (.whl n c b) (E s) = .ok .nx (E s')
  | 0, s, _, h => absurd h (Nat.not_lt_zero _)
  | n + 1, s, hi, h => by
    rw [s_whl]
    unfold whileM
    rw [hc s hi]
    cases q : cond s with
    | false => exact ⟨s, hi, q, rfl⟩
    | true =>
      obtain ⟨h1, h2, h3⟩ := hb s hi q
      obtain ⟨s', i', c', e'⟩ := while_run E I cond next μ hc hb n (next s) h2 (by omega)
      rw [s_whl] at e'
      refine ⟨s', i', c', ?_⟩
      dsimp only [R.bind_ok, asB]
      rw [h1]
      exact e'
/-- a for loop that goes from state to state -/
theorem for_run {σ : Type} {step : PyData → EV.Env → R Fl} (E : σ → EV.Env) (f : σ → PyData → σ) (I : σ → Prop) : ∀ (xs : List PyData) (s : σ), I s → (∀ x ∈ xs, ∀ s, I s → step x (E s) = .ok .nx (E (f s x)) ∧ I (f s x)) → forM step xs (E s) = .ok .nx (E (xs.foldl f s)) ∧ I (xs.foldl f s)
  | [], s, hi, _ => ⟨rfl, hi⟩
  | x :: xs, s, hi, h => by
    obtain ⟨h1, h2⟩ := h x List.mem_cons_self s hi
    obtain ⟨h3, h4⟩ := for_run E f I xs (f s x) h2 fun y hy => h y (List.mem_cons_of_mem _ hy)
    unfold forM
    rw [h1]
    exact ⟨h3, h4⟩
theorem stepF_1 {cf : Cf} {i : Nat} {body : C} {x : PyData} {ρ : EV.Env} : stepF cf (.one i) body x ρ = semS cf body (ρ.set i (some (.d x))) := rfl
theorem eqv_bool {a b : Bool} : PyData.eqv (.bool a) (.bool b) = decide (a = b) := by simp only [PyData.eqv]; cases a <;> cases b <;> rfl
theorem c_eqb {a b : Bool} : cmpop .eq (.d (.bool a)) (.d (.bool b)) = some (.d (.bool (decide (a = b)))) := by
  rw [c_eq, eqD_l (by simp [PyData.depth]), eqv_bool] <;> rfl
theorem c_neb {a b : Bool} : cmpop .ne (.d (.bool a)) (.d (.bool b)) = some (.d (.bool !(decide (a = b)))) := by
  rw [c_ne, eqD_l (by simp [PyData.depth]), eqv_bool] <;> rfl
theorem c_isN {x y : SV} : cmpop .isN x y = some (.d (.bool (isNn x))) := rfl
theorem c_notN {x y : SV} : cmpop .notN x y = some (.d (.bool !(isNn x))) := rfl
theorem np_ok (a b : Nat) : decide (a ≠ b) = !(a == b) := by by_cases h : a = b <;> simp [h]
end EV

set_option maxHeartbeats 4000000
/-! The text of k09 in the small language (printed by emit.py). -/
namespace K09
open PySem EV
abbrev top (i : Nat) : Stmt := PySem.Challenge.pw_nightclasses_k09_errors.main.body.getD i (.Pass ⟨0, 0, 0, 0⟩)
abbrev fnN : List Str := ["_law_taken", "_law_pick", "_law_alike", "_law_raised", "law"]
abbrev enN : List Str := ["SchoolError", "BadNumber", "BadName", "BadItem", "BadEvent", "BadNote", "TooMany", "Unknown", "Taken", "Refused", "NothingToUndo"]
abbrev bnN : List String := ["LookupError", "RuntimeError", "ValueError"]
abbrev exN : List Str := ["SchoolError", "BadNumber", "BadName", "BadItem", "BadEvent", "BadNote", "TooMany", "Unknown", "Taken", "Refused", "NothingToUndo", "LookupError", "RuntimeError", "ValueError"]
abbrev excN : Nat → Option Str := fun k => exN[k]?
/-! ### _law_taken -/
abbrev N_law_taken : List Str := ["row", "many", "cell", "found"]
def b_law_taken : C :=
  (.seq (.ifs (.cmp .gt (.idxO 0 (.int 3)) (.int 0)) (.seq (.asg (.one 3) (.bin .mod (.bf .int (.cons (.idxO 0 (.int 3)) .nil)) (.var 1)))
  (.seq (.asgI 0 (.int 3) (.bin .fdiv (.idxO 0 (.int 3)) (.var 1)))
  (.seq (.ret (.var 3))
  .skip))) .skip)
  (.seq (.asgI 0 (.int 1) (.frz (.bin .add (.idxO 0 (.int 1)) (.int 1))))
  (.seq (.ifs (.cmp .gt (.idxO 0 (.int 1)) (.bf .len (.cons (.idxO 0 (.int 0)) .nil))) (.seq (.asgI 0 (.int 2) (.bin .mod (.bf .int (.cons (.bin .add (.bin .mul (.idxO 0 (.int 2)) (.int 48271)) (.int 11)) .nil)) (.int 2147483647)))
  (.seq (.ret (.bin .mod (.bf .int (.cons (.bin .fdiv (.idxO 0 (.int 2)) (.int 7)) .nil)) (.var 1)))
  .skip)) .skip)
  (.seq (.asg (.one 2) (.idx (.idxO 0 (.int 0)) (.bin .sub (.idxO 0 (.int 1)) (.int 1))))
  (.seq (.asgI 0 (.int 2) (.bin .mod (.bf .int (.cons (.bin .add (.bin .add (.bin .mul (.idxO 0 (.int 2)) (.int 48271)) (.var 2)) (.int 11)) .nil)) (.int 2147483647)))
  (.seq (.ifs (.cmp .ge (.var 2) (.bin .pow (.int 10) (.int 18))) (.seq (.asgI 0 (.int 3) (.bin .fdiv (.var 2) (.var 1)))
  .skip) .skip)
  (.seq (.ret (.bin .mod (.bf .int (.cons (.var 2) .nil)) (.var 1)))
  .skip)))))))
abbrev cg_law_taken (lvl : Nat) : Cfg := { N := N_law_taken, fnN := fun k => if ([] : List Nat).contains k then fnN[k]? else none, glN := [], gfN := fun _ => none, free := ["int", "len"], lvl := lvl, excN := excN, excR := fun k => ([] : List Nat).contains k }
theorem chk_law_taken (lvl : Nat) : chkB (cg_law_taken lvl) ⟨L2.defScope (top 13), fun _ => true, true⟩ b_law_taken (L2.defBody (top 13)) = true := by kernel_rfl
theorem sc_law_taken : L2.FnScope N_law_taken ["row", "many"] (L2.defScope (top 13)) := ⟨rfl, rfl, rfl, by decide +kernel, rfl, by decide +kernel, by decide +kernel⟩
/-! ### _law_pick -/
abbrev N_law_pick : List Str := ["row", "kinds"]
def b_law_pick : C :=
  (.seq (.ret (.idxO 1 (.call 0 (.cons (.refv 0) (.cons (.lenO 1) .nil)))))
  .skip)
abbrev cg_law_pick (lvl : Nat) : Cfg := { N := N_law_pick, fnN := fun k => if ([0] : List Nat).contains k then fnN[k]? else none, glN := [], gfN := fun _ => none, free := ["len"], lvl := lvl, excN := excN, excR := fun k => ([] : List Nat).contains k }
theorem chk_law_pick (lvl : Nat) : chkB (cg_law_pick lvl) ⟨L2.defScope (top 14), fun _ => true, true⟩ b_law_pick (L2.defBody (top 14)) = true := by kernel_rfl
theorem sc_law_pick : L2.FnScope N_law_pick ["row", "kinds"] (L2.defScope (top 14)) := ⟨rfl, rfl, rfl, by decide +kernel, rfl, by decide +kernel, by decide +kernel⟩
/-! ### _law_alike -/
abbrev N_law_alike : List Str := ["found", "due", "k"]
def b_law_alike : C :=
  (.seq (.ifs (.isi (.var 1) [.tuple, .list]) (.seq (.ifs (.or (.not (.isi (.var 0) [.tuple, .list])) (.cmp .ne (.isi (.var 0) [.list]) (.isi (.var 1) [.list]))) (.seq (.ret (.bl false))
  .skip) .skip)
  (.seq (.ifs (.cmp .ne (.lenO 0) (.lenO 1)) (.seq (.ret (.bl false))
  .skip) .skip)
  (.seq (.ret (.cmp .eq (.comp [2] (.one 2) .range1 (.cons (.lenO 1) .nil) (.not (.call 2 (.cons (.idxO 0 (.var 2)) (.cons (.idxO 1 (.var 2)) .nil)))) (.var 2)) (.lst .nil)))
  .skip))) .skip)
  (.seq (.ifs (.or (.cmp .isN (.var 1) .none) (.isi (.var 1) [.str])) (.seq (.ret (.and (.cmpO .eq (.var 0) 1) (.cmp .eq (.isi (.var 0) [.str]) (.isi (.var 1) [.str]))))
  .skip) .skip)
  (.seq (.ret (.and (.isi (.var 0) [.int]) (.and (.cmp .eq (.isi (.var 0) [.bool]) (.isi (.var 1) [.bool])) (.cmpO .eq (.var 0) 1))))
  .skip)))
abbrev cg_law_alike (lvl : Nat) : Cfg := { N := N_law_alike, fnN := fun k => if ([2] : List Nat).contains k then fnN[k]? else none, glN := [], gfN := fun _ => none, free := ["bool", "int", "isinstance", "len", "list", "range", "str", "tuple"], lvl := lvl, excN := excN, excR := fun k => ([] : List Nat).contains k }
theorem chk_law_alike (lvl : Nat) : chkB (cg_law_alike lvl) ⟨L2.defScope (top 15), fun _ => true, true⟩ b_law_alike (L2.defBody (top 15)) = true := by kernel_rfl
theorem sc_law_alike : L2.FnScope N_law_alike ["found", "due"] (L2.defScope (top 15)) := ⟨rfl, rfl, rfl, by decide +kernel, rfl, by decide +kernel, by decide +kernel⟩
/-! ### _law_raised -/
abbrev N_law_raised : List Str := ["number", "value", "named", "e", "kinds", "field"]
def b_law_raised : C :=
  (.seq (.tryx (.seq (.ifs (.cmp .eq (.var 0) (.int 0)) (.seq (.raise 1 (.cons (.var 1) .nil))
  .skip) .skip)
  (.seq (.ifs (.cmp .eq (.var 0) (.int 1)) (.seq (.raise 2 (.cons (.var 1) .nil))
  .skip) .skip)
  (.seq (.ifs (.cmp .eq (.var 0) (.int 2)) (.seq (.raise 3 (.cons (.var 1) .nil))
  .skip) .skip)
  (.seq (.ifs (.cmp .eq (.var 0) (.int 3)) (.seq (.raise 4 (.cons (.var 1) .nil))
  .skip) .skip)
  (.seq (.ifs (.cmp .eq (.var 0) (.int 4)) (.seq (.raise 5 (.cons (.var 1) .nil))
  .skip) .skip)
  (.seq (.ifs (.cmp .eq (.var 0) (.int 5)) (.seq (.raise 6 (.cons (.var 1) .nil))
  .skip) .skip)
  (.seq (.ifs (.cmp .eq (.var 0) (.int 6)) (.seq (.raise 7 (.cons (.var 1) .nil))
  .skip) .skip)
  (.seq (.ifs (.cmp .eq (.var 0) (.int 7)) (.seq (.raise 8 (.cons (.var 1) .nil))
  .skip) .skip)
  (.seq (.ifs (.cmp .eq (.var 0) (.int 8)) (.seq (.raise 9 (.cons (.var 1) (.cons (.var 2) .nil)))
  .skip) .skip)
  (.seq (.raise 10 .nil)
  .skip)))))))))) (.hnd 0 (some 3) (.seq (.asg (.one 4) (.lst (.cons (.isx 3 1) (.cons (.isx 3 2) (.cons (.isx 3 3) (.cons (.isx 3 4) (.cons (.isx 3 5) .nil)))))))
  (.seq (.asg (.one 4) (.bin .add (.var 4) (.lst (.cons (.isx 3 6) (.cons (.isx 3 7) (.cons (.isx 3 8) (.cons (.isx 3 9) (.cons (.isx 3 10) .nil))))))))
  (.seq (.ifs (.or (.not (.isx 3 13)) (.or (.isx 3 11) (.isx 3 12))) (.seq (.ret .none)
  .skip) .skip)
  (.seq (.asg (.one 5) .none)
  (.seq (.ifs (.cmp .in_ (.var 0) (.lst (.cons (.int 0) (.cons (.int 1) (.cons (.int 3) (.cons (.int 6) (.cons (.int 7) .nil))))))) (.seq (.asg (.one 5) (.efld 3 "value"))
  .skip) .skip)
  (.seq (.ifs (.cmp .eq (.var 0) (.int 2)) (.seq (.asg (.one 5) (.efld 3 "index"))
  .skip) .skip)
  (.seq (.ifs (.cmp .eq (.var 0) (.int 4)) (.seq (.asg (.one 5) (.efld 3 "line"))
  .skip) .skip)
  (.seq (.ifs (.cmp .eq (.var 0) (.int 5)) (.seq (.asg (.one 5) (.efld 3 "limit"))
  .skip) .skip)
  (.seq (.ifs (.cmp .eq (.var 0) (.int 8)) (.seq (.asg (.one 5) (.tup (.cons (.efld 3 "reason") (.cons (.efld 3 "names") .nil))))
  .skip) .skip)
  (.seq (.ret (.tup (.cons (.var 4) (.cons (.var 5) .nil))))
  .skip)))))))))) .nil))
  .skip)
abbrev cg_law_raised (lvl : Nat) : Cfg := { N := N_law_raised, fnN := fun k => if ([] : List Nat).contains k then fnN[k]? else none, glN := [], gfN := fun _ => none, free := ["LookupError", "RuntimeError", "ValueError", "isinstance"], lvl := lvl, excN := excN, excR := fun k => ([1, 2, 3, 4, 5, 6, 7, 8, 9] : List Nat).contains k, ex0 := fun k => ([10] : List Nat).contains k }
theorem chk_law_raised (lvl : Nat) : chkB (cg_law_raised lvl) ⟨L2.defScope (top 16), fun _ => true, true⟩ b_law_raised (L2.defBody (top 16)) = true := by kernel_rfl
theorem sc_law_raised : L2.FnScope N_law_raised ["number", "value", "named"] (L2.defScope (top 16)) := ⟨rfl, rfl, rfl, by decide +kernel, rfl, by decide +kernel, by decide +kernel⟩
/-! ### law -/
abbrev N_law : List Str := ["script", "row", "number", "made", "value", "named", "told", "due", "k"]
def b_law : C :=
  (.seq (.asg (.one 1) (.lst (.cons (.var 0) (.cons (.int 0) (.cons (.int 53) (.cons (.int 0) .nil))))))
  (.seq (.fors (.one 2) .range1 (.cons (.int 10) .nil) (.seq (.asg (.one 4) (.call 1 (.cons (.refv 1) (.cons (.frz (.lst (.cons .none (.cons (.int 7) (.cons (.str "x") (.cons (.tup (.cons (.int 1) (.cons (.int 2) .nil))) (.cons (.bl true) (.cons (.frz (.call 0 (.cons (.refv 1) (.cons (.bin .pow (.int 10) (.int 9)) .nil)))) .nil)))))))) .nil))))
  (.seq (.asg (.one 5) (.call 1 (.cons (.refv 1) (.cons (.frz (.lst (.cons (.tup .nil) (.cons (.tup (.cons (.str "a") .nil)) .nil)))) .nil))))
  (.seq (.asg (.one 6) (.call 3 (.cons (.var 2) (.cons (.var 4) (.cons (.var 5) .nil)))))
  (.seq (.ifs (.or (.cmp .isN (.var 6) .none) (.cmp .ne (.idxO 6 (.int 0)) (.comp [8] (.one 8) .range1 (.cons (.int 10) .nil) (.bl true) (.cmpO .eq (.var 8) 2)))) (.seq (.ret (.bl false))
  .skip) .skip)
  (.seq (.asg (.one 7) (.var 4))
  (.seq (.ifs (.cmp .eq (.var 2) (.int 8)) (.seq (.asg (.one 7) (.tup (.cons (.var 4) (.cons (.var 5) .nil))))
  .skip) .skip)
  (.seq (.ifs (.and (.cmp .lt (.var 2) (.int 9)) (.or (.cmpO .ne (.idxO 6 (.int 1)) 7) (.cmp .ne (.isi (.idxO 6 (.int 1)) [.bool]) (.isi (.var 7) [.bool])))) (.seq (.ret (.bl false))
  .skip) .skip)
  .skip))))))))
  (.seq (.asg (.one 3) (.lst (.cons (.mkf 1 ["value"] [0] [.int 1] "value") (.cons (.mkf 2 ["value"] [0] [.str "a"] "value") (.cons (.mkf 3 ["index"] [0] [.int 4] "index") (.cons (.mkf 4 ["value"] [0] [.int 5] "value") (.cons (.mkf 5 ["line"] [0] [.int 6] "line") .nil)))))))
  (.seq (.asg (.one 3) (.bin .add (.var 3) (.lst (.cons (.mkf 6 ["limit"] [0] [.int 7] "limit") (.cons (.mkf 7 ["value"] [0] [.int 8] "value") (.cons (.mkf 8 ["value"] [0] [.int 9] "value") (.cons (.mkf 9 ["reason", "names"] [0, 1] [.str "r", .int 11] "names") (.cons (.mkf 9 ["names", "reason"] [1, 0] [.int 1, .str "s"] "reason") .nil))))))))
  (.seq (.ret (.call 2 (.cons (.var 3) (.cons (.frz (.lst (.cons (.int 1) (.cons (.str "a") (.cons (.int 4) (.cons (.int 5) (.cons (.int 6) (.cons (.int 7) (.cons (.int 8) (.cons (.int 9) (.cons (.int 11) (.cons (.str "s") .nil)))))))))))) .nil))))
  .skip)))))
abbrev cg_law (lvl : Nat) : Cfg := { N := N_law, fnN := fun k => if ([2, 1, 3, 0] : List Nat).contains k then fnN[k]? else none, glN := [], gfN := fun _ => none, free := ["bool", "isinstance", "range"], lvl := lvl, excN := excN, excR := fun k => ([] : List Nat).contains k, kw := [(5, ["line"], [0]), (4, ["value"], [0]), (3, ["index"], [0]), (2, ["value"], [0]), (1, ["value"], [0]), (9, ["names", "reason"], [1, 0]), (9, ["reason", "names"], [0, 1]), (8, ["value"], [0]), (7, ["value"], [0]), (6, ["limit"], [0])] }
theorem chk_law (lvl : Nat) : chkB (cg_law lvl) ⟨L2.defScope (top 17), fun _ => true, true⟩ b_law (L2.defBody (top 17)) = true := by kernel_rfl
theorem sc_law : L2.FnScope N_law ["script"] (L2.defScope (top 17)) := ⟨rfl, rfl, rfl, by decide +kernel, rfl, by decide +kernel, by decide +kernel⟩
/-! ### mirrors -/
abbrev exmT : List ((Nat × Nat) × Bool) := [((0, 0), true), ((0, 1), false), ((0, 2), false), ((0, 3), false), ((0, 4), false), ((0, 5), false), ((0, 6), false), ((0, 7), false), ((0, 8), false), ((0, 9), false), ((0, 10), false), ((1, 0), true), ((1, 1), true), ((1, 2), false), ((1, 3), false), ((1, 4), false), ((1, 5), false), ((1, 6), false), ((1, 7), false), ((1, 8), false), ((1, 9), false), ((1, 10), false), ((2, 0), true), ((2, 1), false), ((2, 2), true), ((2, 3), false), ((2, 4), false), ((2, 5), false), ((2, 6), false), ((2, 7), false), ((2, 8), false), ((2, 9), false), ((2, 10), false), ((3, 0), true), ((3, 1), false), ((3, 2), false), ((3, 3), true), ((3, 4), false), ((3, 5), false), ((3, 6), false), ((3, 7), false), ((3, 8), false), ((3, 9), false), ((3, 10), false), ((4, 0), true), ((4, 1), false), ((4, 2), false), ((4, 3), false), ((4, 4), true), ((4, 5), false), ((4, 6), false), ((4, 7), false), ((4, 8), false), ((4, 9), false), ((4, 10), false), ((5, 0), true), ((5, 1), false), ((5, 2), false), ((5, 3), false), ((5, 4), false), ((5, 5), true), ((5, 6), false), ((5, 7), false), ((5, 8), false), ((5, 9), false), ((5, 10), false), ((6, 0), true), ((6, 1), false), ((6, 2), false), ((6, 3), false), ((6, 4), false), ((6, 5), false), ((6, 6), true), ((6, 7), false), ((6, 8), false), ((6, 9), false), ((6, 10), false), ((7, 0), true), ((7, 1), false), ((7, 2), false), ((7, 3), false), ((7, 4), false), ((7, 5), false), ((7, 6), false), ((7, 7), true), ((7, 8), false), ((7, 9), false), ((7, 10), false), ((8, 0), true), ((8, 1), false), ((8, 2), false), ((8, 3), false), ((8, 4), false), ((8, 5), false), ((8, 6), false), ((8, 7), false), ((8, 8), true), ((8, 9), false), ((8, 10), false), ((9, 0), true), ((9, 1), false), ((9, 2), false), ((9, 3), false), ((9, 4), false), ((9, 5), false), ((9, 6), false), ((9, 7), false), ((9, 8), false), ((9, 9), true), ((9, 10), false), ((10, 0), true), ((10, 1), false), ((10, 2), false), ((10, 3), false), ((10, 4), false), ((10, 5), false), ((10, 6), false), ((10, 7), false), ((10, 8), false), ((10, 9), false), ((10, 10), true)]
def exm (j k : Nat) : Option Bool := exmT.lookup (j, k)
abbrev exiT : List ((Nat × Nat) × Bool) := [((0, 0), true), ((0, 1), false), ((0, 2), false), ((0, 3), false), ((0, 4), false), ((0, 5), false), ((0, 6), false), ((0, 7), false), ((0, 8), false), ((0, 9), false), ((0, 10), false), ((0, 11), false), ((0, 12), false), ((0, 13), true), ((1, 0), true), ((1, 1), true), ((1, 2), false), ((1, 3), false), ((1, 4), false), ((1, 5), false), ((1, 6), false), ((1, 7), false), ((1, 8), false), ((1, 9), false), ((1, 10), false), ((1, 11), false), ((1, 12), false), ((1, 13), true), ((2, 0), true), ((2, 1), false), ((2, 2), true), ((2, 3), false), ((2, 4), false), ((2, 5), false), ((2, 6), false), ((2, 7), false), ((2, 8), false), ((2, 9), false), ((2, 10), false), ((2, 11), false), ((2, 12), false), ((2, 13), true), ((3, 0), true), ((3, 1), false), ((3, 2), false), ((3, 3), true), ((3, 4), false), ((3, 5), false), ((3, 6), false), ((3, 7), false), ((3, 8), false), ((3, 9), false), ((3, 10), false), ((3, 11), false), ((3, 12), false), ((3, 13), true), ((4, 0), true), ((4, 1), false), ((4, 2), false), ((4, 3), false), ((4, 4), true), ((4, 5), false), ((4, 6), false), ((4, 7), false), ((4, 8), false), ((4, 9), false), ((4, 10), false), ((4, 11), false), ((4, 12), false), ((4, 13), true), ((5, 0), true), ((5, 1), false), ((5, 2), false), ((5, 3), false), ((5, 4), false), ((5, 5), true), ((5, 6), false), ((5, 7), false), ((5, 8), false), ((5, 9), false), ((5, 10), false), ((5, 11), false), ((5, 12), false), ((5, 13), true), ((6, 0), true), ((6, 1), false), ((6, 2), false), ((6, 3), false), ((6, 4), false), ((6, 5), false), ((6, 6), true), ((6, 7), false), ((6, 8), false), ((6, 9), false), ((6, 10), false), ((6, 11), false), ((6, 12), false), ((6, 13), true), ((7, 0), true), ((7, 1), false), ((7, 2), false), ((7, 3), false), ((7, 4), false), ((7, 5), false), ((7, 6), false), ((7, 7), true), ((7, 8), false), ((7, 9), false), ((7, 10), false), ((7, 11), false), ((7, 12), false), ((7, 13), true), ((8, 0), true), ((8, 1), false), ((8, 2), false), ((8, 3), false), ((8, 4), false), ((8, 5), false), ((8, 6), false), ((8, 7), false), ((8, 8), true), ((8, 9), false), ((8, 10), false), ((8, 11), false), ((8, 12), false), ((8, 13), true), ((9, 0), true), ((9, 1), false), ((9, 2), false), ((9, 3), false), ((9, 4), false), ((9, 5), false), ((9, 6), false), ((9, 7), false), ((9, 8), false), ((9, 9), true), ((9, 10), false), ((9, 11), false), ((9, 12), false), ((9, 13), true), ((10, 0), true), ((10, 1), false), ((10, 2), false), ((10, 3), false), ((10, 4), false), ((10, 5), false), ((10, 6), false), ((10, 7), false), ((10, 8), false), ((10, 9), false), ((10, 10), true), ((10, 11), false), ((10, 12), false), ((10, 13), true)]
abbrev excT : List (Nat × (Nat × List (Str × Nat))) := [(1, (1, [("value", 0)])), (2, (1, [("value", 0)])), (3, (1, [("index", 0)])), (4, (1, [("value", 0)])), (5, (1, [("line", 0)])), (6, (1, [("limit", 0)])), (7, (1, [("value", 0)])), (8, (1, [("value", 0)])), (9, (2, [("names", 1), ("reason", 0)])), (10, (0, []))]
def excF (k : Nat) : Option (Nat × List (Str × Nat)) := excT.lookup k
def cfK (pin : List Nat) (fns : List Fm) : Cf := { fns := fns, gls := [], pin := pin, exm := exm, excF := excF, exi := fun j k => exiT.lookup (j, k) }
def S : Fm := fun _ => .stuck
def m_law_taken : Fm := runF (cfK [0] []) 2 4 b_law_taken
def m_law_pick : Fm := runF (cfK [0] [m_law_taken]) 2 2 b_law_pick
def m_law_alike : Nat → Fm
  | 0 => S
  | d + 1 => runF (cfK [] [S, S, m_law_alike d]) 2 3 b_law_alike
def m_law_raised : Fm := runF (cfK [] []) 3 6 b_law_raised
def m_law (d : Nat) : Fm := runF (cfK [] [m_law_taken, m_law_pick, (m_law_alike d), m_law_raised]) 1 9 b_law
end K09

set_option maxHeartbeats 0
/-! What the top of k09 leaves (printed by emit_head.py). -/
namespace K09
open PySem EV
abbrev law_ : PySem.W.OpenLaw := PySem.Challenge.rw_nightclasses_k09_errors
abbrev ROW : PySem.W.OpenRow := PySem.W.OpenLaw.row law_
def names : List Str := (["__name__", "SchoolError", "BadNumber", "BadName", "BadItem", "BadEvent", "BadNote", "TooMany", "Unknown", "Taken", "Refused", "NothingToUndo", "_law_taken", "_law_pick", "_law_alike", "_law_raised"] : List Str)
def dd (x : Str) (i : Nat) : He.DefD := ⟨(x, none), x, x, L2.defArgs (top i), L2.defBody (top i), L2.defScope (top i), [], []⟩
def fnD : List He.DefD := [dd "_law_taken" 13, dd "_law_pick" 14, dd "_law_alike" 15, dd "_law_raised" 16, dd "law" 17]
abbrev freeN : List Str := ["LookupError", "RuntimeError", "ValueError", "bool", "int", "isinstance", "len", "list", "range", "str", "tuple"]
def faD : List He.Fa := faOf fnN freeN enN exmT
def E_BadNumber : ErrD := ("BadNumber", initD (L2.inClass (top 2) 0) "BadNumber.__init__" "self" ["self", "value"])
theorem S_BadNumber : InitS law_.prog E_BadNumber.2 := by
  exact {
  ar := ⟨_, rfl, rfl⟩
  kind := rfl
  co := rfl
  gen := rfl
  cel := by decide +kernel
  loc := by decide +kernel
  sug := rfl
  cls := rfl
  binds := fun W us e hl => by first | exact len1 e (fun _ _ => rfl) us hl | exact len2 e (fun _ _ _ => rfl) us hl | exact len3 e (fun _ _ _ _ => rfl) us hl | exact len4 e (fun _ _ _ _ _ => rfl) us hl | exact len5 e (fun _ _ _ _ _ _ => rfl) us hl
  pre := rfl
  nd := by decide +kernel
  an1 := by intro h; exact absurd (congrArg List.isEmpty h) (by decide +kernel)
  evE := fun env => ⟨_, rfl⟩
  an2 := by decide +kernel
  an3 := by decide +kernel
  sd := rfl
  qsP := by decide +kernel
  qs1 := by intro h; exact absurd (congrArg List.isEmpty h) (by decide +kernel)
  qs2 := by decide +kernel
  few := by decide +kernel
  top := by decide +kernel }
def E_BadName : ErrD := ("BadName", initD (L2.inClass (top 3) 0) "BadName.__init__" "self" ["self", "value"])
theorem S_BadName : InitS law_.prog E_BadName.2 := by
  exact {
  ar := ⟨_, rfl, rfl⟩
  kind := rfl
  co := rfl
  gen := rfl
  cel := by decide +kernel
  loc := by decide +kernel
  sug := rfl
  cls := rfl
  binds := fun W us e hl => by first | exact len1 e (fun _ _ => rfl) us hl | exact len2 e (fun _ _ _ => rfl) us hl | exact len3 e (fun _ _ _ _ => rfl) us hl | exact len4 e (fun _ _ _ _ _ => rfl) us hl | exact len5 e (fun _ _ _ _ _ _ => rfl) us hl
  pre := rfl
  nd := by decide +kernel
  an1 := by intro h; exact absurd (congrArg List.isEmpty h) (by decide +kernel)
  evE := fun env => ⟨_, rfl⟩
  an2 := by decide +kernel
  an3 := by decide +kernel
  sd := rfl
  qsP := by decide +kernel
  qs1 := by intro h; exact absurd (congrArg List.isEmpty h) (by decide +kernel)
  qs2 := by decide +kernel
  few := by decide +kernel
  top := by decide +kernel }
def E_BadItem : ErrD := ("BadItem", initD (L2.inClass (top 4) 0) "BadItem.__init__" "self" ["self", "index"])
theorem S_BadItem : InitS law_.prog E_BadItem.2 := by
  exact {
  ar := ⟨_, rfl, rfl⟩
  kind := rfl
  co := rfl
  gen := rfl
  cel := by decide +kernel
  loc := by decide +kernel
  sug := rfl
  cls := rfl
  binds := fun W us e hl => by first | exact len1 e (fun _ _ => rfl) us hl | exact len2 e (fun _ _ _ => rfl) us hl | exact len3 e (fun _ _ _ _ => rfl) us hl | exact len4 e (fun _ _ _ _ _ => rfl) us hl | exact len5 e (fun _ _ _ _ _ _ => rfl) us hl
  pre := rfl
  nd := by decide +kernel
  an1 := by intro h; exact absurd (congrArg List.isEmpty h) (by decide +kernel)
  evE := fun env => ⟨_, rfl⟩
  an2 := by decide +kernel
  an3 := by decide +kernel
  sd := rfl
  qsP := by decide +kernel
  qs1 := by intro h; exact absurd (congrArg List.isEmpty h) (by decide +kernel)
  qs2 := by decide +kernel
  few := by decide +kernel
  top := by decide +kernel }
def E_BadEvent : ErrD := ("BadEvent", initD (L2.inClass (top 5) 0) "BadEvent.__init__" "self" ["self", "value"])
theorem S_BadEvent : InitS law_.prog E_BadEvent.2 := by
  exact {
  ar := ⟨_, rfl, rfl⟩
  kind := rfl
  co := rfl
  gen := rfl
  cel := by decide +kernel
  loc := by decide +kernel
  sug := rfl
  cls := rfl
  binds := fun W us e hl => by first | exact len1 e (fun _ _ => rfl) us hl | exact len2 e (fun _ _ _ => rfl) us hl | exact len3 e (fun _ _ _ _ => rfl) us hl | exact len4 e (fun _ _ _ _ _ => rfl) us hl | exact len5 e (fun _ _ _ _ _ _ => rfl) us hl
  pre := rfl
  nd := by decide +kernel
  an1 := by intro h; exact absurd (congrArg List.isEmpty h) (by decide +kernel)
  evE := fun env => ⟨_, rfl⟩
  an2 := by decide +kernel
  an3 := by decide +kernel
  sd := rfl
  qsP := by decide +kernel
  qs1 := by intro h; exact absurd (congrArg List.isEmpty h) (by decide +kernel)
  qs2 := by decide +kernel
  few := by decide +kernel
  top := by decide +kernel }
def E_BadNote : ErrD := ("BadNote", initD (L2.inClass (top 6) 0) "BadNote.__init__" "self" ["self", "line"])
theorem S_BadNote : InitS law_.prog E_BadNote.2 := by
  exact {
  ar := ⟨_, rfl, rfl⟩
  kind := rfl
  co := rfl
  gen := rfl
  cel := by decide +kernel
  loc := by decide +kernel
  sug := rfl
  cls := rfl
  binds := fun W us e hl => by first | exact len1 e (fun _ _ => rfl) us hl | exact len2 e (fun _ _ _ => rfl) us hl | exact len3 e (fun _ _ _ _ => rfl) us hl | exact len4 e (fun _ _ _ _ _ => rfl) us hl | exact len5 e (fun _ _ _ _ _ _ => rfl) us hl
  pre := rfl
  nd := by decide +kernel
  an1 := by intro h; exact absurd (congrArg List.isEmpty h) (by decide +kernel)
  evE := fun env => ⟨_, rfl⟩
  an2 := by decide +kernel
  an3 := by decide +kernel
  sd := rfl
  qsP := by decide +kernel
  qs1 := by intro h; exact absurd (congrArg List.isEmpty h) (by decide +kernel)
  qs2 := by decide +kernel
  few := by decide +kernel
  top := by decide +kernel }
def E_TooMany : ErrD := ("TooMany", initD (L2.inClass (top 7) 0) "TooMany.__init__" "self" ["self", "limit"])
theorem S_TooMany : InitS law_.prog E_TooMany.2 := by
  exact {
  ar := ⟨_, rfl, rfl⟩
  kind := rfl
  co := rfl
  gen := rfl
  cel := by decide +kernel
  loc := by decide +kernel
  sug := rfl
  cls := rfl
  binds := fun W us e hl => by first | exact len1 e (fun _ _ => rfl) us hl | exact len2 e (fun _ _ _ => rfl) us hl | exact len3 e (fun _ _ _ _ => rfl) us hl | exact len4 e (fun _ _ _ _ _ => rfl) us hl | exact len5 e (fun _ _ _ _ _ _ => rfl) us hl
  pre := rfl
  nd := by decide +kernel
  an1 := by intro h; exact absurd (congrArg List.isEmpty h) (by decide +kernel)
  evE := fun env => ⟨_, rfl⟩
  an2 := by decide +kernel
  an3 := by decide +kernel
  sd := rfl
  qsP := by decide +kernel
  qs1 := by intro h; exact absurd (congrArg List.isEmpty h) (by decide +kernel)
  qs2 := by decide +kernel
  few := by decide +kernel
  top := by decide +kernel }
def E_Unknown : ErrD := ("Unknown", initD (L2.inClass (top 8) 0) "Unknown.__init__" "self" ["self", "value"])
theorem S_Unknown : InitS law_.prog E_Unknown.2 := by
  exact {
  ar := ⟨_, rfl, rfl⟩
  kind := rfl
  co := rfl
  gen := rfl
  cel := by decide +kernel
  loc := by decide +kernel
  sug := rfl
  cls := rfl
  binds := fun W us e hl => by first | exact len1 e (fun _ _ => rfl) us hl | exact len2 e (fun _ _ _ => rfl) us hl | exact len3 e (fun _ _ _ _ => rfl) us hl | exact len4 e (fun _ _ _ _ _ => rfl) us hl | exact len5 e (fun _ _ _ _ _ _ => rfl) us hl
  pre := rfl
  nd := by decide +kernel
  an1 := by intro h; exact absurd (congrArg List.isEmpty h) (by decide +kernel)
  evE := fun env => ⟨_, rfl⟩
  an2 := by decide +kernel
  an3 := by decide +kernel
  sd := rfl
  qsP := by decide +kernel
  qs1 := by intro h; exact absurd (congrArg List.isEmpty h) (by decide +kernel)
  qs2 := by decide +kernel
  few := by decide +kernel
  top := by decide +kernel }
def E_Taken : ErrD := ("Taken", initD (L2.inClass (top 9) 0) "Taken.__init__" "self" ["self", "value"])
theorem S_Taken : InitS law_.prog E_Taken.2 := by
  exact {
  ar := ⟨_, rfl, rfl⟩
  kind := rfl
  co := rfl
  gen := rfl
  cel := by decide +kernel
  loc := by decide +kernel
  sug := rfl
  cls := rfl
  binds := fun W us e hl => by first | exact len1 e (fun _ _ => rfl) us hl | exact len2 e (fun _ _ _ => rfl) us hl | exact len3 e (fun _ _ _ _ => rfl) us hl | exact len4 e (fun _ _ _ _ _ => rfl) us hl | exact len5 e (fun _ _ _ _ _ _ => rfl) us hl
  pre := rfl
  nd := by decide +kernel
  an1 := by intro h; exact absurd (congrArg List.isEmpty h) (by decide +kernel)
  evE := fun env => ⟨_, rfl⟩
  an2 := by decide +kernel
  an3 := by decide +kernel
  sd := rfl
  qsP := by decide +kernel
  qs1 := by intro h; exact absurd (congrArg List.isEmpty h) (by decide +kernel)
  qs2 := by decide +kernel
  few := by decide +kernel
  top := by decide +kernel }
def E_Refused : ErrD := ("Refused", initD (L2.inClass (top 10) 0) "Refused.__init__" "self" ["self", "reason", "names"])
theorem S_Refused : InitS law_.prog E_Refused.2 := by
  exact {
  ar := ⟨_, rfl, rfl⟩
  kind := rfl
  co := rfl
  gen := rfl
  cel := by decide +kernel
  loc := by decide +kernel
  sug := rfl
  cls := rfl
  binds := fun W us e hl => by first | exact len1 e (fun _ _ => rfl) us hl | exact len2 e (fun _ _ _ => rfl) us hl | exact len3 e (fun _ _ _ _ => rfl) us hl | exact len4 e (fun _ _ _ _ _ => rfl) us hl | exact len5 e (fun _ _ _ _ _ _ => rfl) us hl
  pre := rfl
  nd := by decide +kernel
  an1 := by intro h; exact absurd (congrArg List.isEmpty h) (by decide +kernel)
  evE := fun env => ⟨_, rfl⟩
  an2 := by decide +kernel
  an3 := by decide +kernel
  sd := rfl
  qsP := by decide +kernel
  qs1 := by intro h; exact absurd (congrArg List.isEmpty h) (by decide +kernel)
  qs2 := by decide +kernel
  few := by decide +kernel
  top := by decide +kernel }
def esD : List ErrD := [E_BadNumber, E_BadName, E_BadItem, E_BadEvent, E_BadNote, E_TooMany, E_Unknown, E_Taken, E_Refused]
abbrev file : Str := law_.prog.main.file
abbrev ex0N : List Str := ["NothingToUndo"]
abbrev ex : PySem.W.Frag → Bool := fun K => xiB enN bnN exiT K && ex0B ex0N K
abbrev hk : PySem.W.Hook := hookV file 4 faD fnD esD ex
def ob (s : PySem.W.SharedT) : AlV := obsV file 4 faD fnD esD ex (HandSHeadRun.getT s)
theorem ob_eq (s : PySem.W.SharedT) : ob s = hk.obs s.abs := obsV_eq (HandSHeadRun.getT_eq s)
theorem run (w : World) : HandSHeadRun.RunEq ROW (PySem.W.view ROW.prog [17]) hk ob 8000 names w := by
  intro os
  kernel_rfl
end K09

set_option maxHeartbeats 4000000
/-! K09: each def by its mirror (printed by emit_tie.py). -/
namespace K09
open PySem PySem.Spec PyProof.Rows L2 EV
section
variable {w : World} {K : PySem.W.Frag} {h base : Heap} {mg : Str → Option Value} (KX : K.In h) (g : h.Ns mainGlobals mg) (c : SaysV file faD fnD esD ex K)
include KX g c
abbrev initL : List Nat := [1, 2, 3, 4, 5, 6, 7, 8, 9]
theorem errs : ∀ p ∈ excT, (∃ C, (gmOf K enN bnN).exc p.1 = .ref C ∧ XfC K C ∧ ∀ q ∈ p.2.2, PySem.W.findIn K (.ref C) q.1 = some none) ∧ (p.1 ∈ initL → ∃ x, exN[p.1]? = some x ∧ ErrOk law_.prog w K mg base (gmOf K enN bnN) p.1 x p.2.1 p.2.2) := by
  intro p hp
  simp only [excT, List.mem_cons, List.not_mem_nil, or_false] at hp
  rcases hp with rfl | rfl | rfl | rfl | rfl | rfl | rfl | rfl | rfl | rfl
  · have e : ErrOk law_.prog w K mg base (gmOf K enN bnN) 1 "BadNumber" _ _ := err_ok (p := E_BadNumber) KX g c (by simp [esD]) S_BadNumber rfl rfl rfl
    exact ⟨e.ex, fun _ => ⟨_, rfl, e⟩⟩
  · have e : ErrOk law_.prog w K mg base (gmOf K enN bnN) 2 "BadName" _ _ := err_ok (p := E_BadName) KX g c (by simp [esD]) S_BadName rfl rfl rfl
    exact ⟨e.ex, fun _ => ⟨_, rfl, e⟩⟩
  · have e : ErrOk law_.prog w K mg base (gmOf K enN bnN) 3 "BadItem" _ _ := err_ok (p := E_BadItem) KX g c (by simp [esD]) S_BadItem rfl rfl rfl
    exact ⟨e.ex, fun _ => ⟨_, rfl, e⟩⟩
  · have e : ErrOk law_.prog w K mg base (gmOf K enN bnN) 4 "BadEvent" _ _ := err_ok (p := E_BadEvent) KX g c (by simp [esD]) S_BadEvent rfl rfl rfl
    exact ⟨e.ex, fun _ => ⟨_, rfl, e⟩⟩
  · have e : ErrOk law_.prog w K mg base (gmOf K enN bnN) 5 "BadNote" _ _ := err_ok (p := E_BadNote) KX g c (by simp [esD]) S_BadNote rfl rfl rfl
    exact ⟨e.ex, fun _ => ⟨_, rfl, e⟩⟩
  · have e : ErrOk law_.prog w K mg base (gmOf K enN bnN) 6 "TooMany" _ _ := err_ok (p := E_TooMany) KX g c (by simp [esD]) S_TooMany rfl rfl rfl
    exact ⟨e.ex, fun _ => ⟨_, rfl, e⟩⟩
  · have e : ErrOk law_.prog w K mg base (gmOf K enN bnN) 7 "Unknown" _ _ := err_ok (p := E_Unknown) KX g c (by simp [esD]) S_Unknown rfl rfl rfl
    exact ⟨e.ex, fun _ => ⟨_, rfl, e⟩⟩
  · have e : ErrOk law_.prog w K mg base (gmOf K enN bnN) 8 "Taken" _ _ := err_ok (p := E_Taken) KX g c (by simp [esD]) S_Taken rfl rfl rfl
    exact ⟨e.ex, fun _ => ⟨_, rfl, e⟩⟩
  · have e : ErrOk law_.prog w K mg base (gmOf K enN bnN) 9 "Refused" _ _ := err_ok (p := E_Refused) KX g c (by simp [esD]) S_Refused rfl rfl rfl
    exact ⟨e.ex, fun _ => ⟨_, rfl, e⟩⟩
  · exact ⟨⟨_, gm_own (x := "NothingToUndo") rfl, (ex0_ok (l := ex0N) (Bool.and_eq_true_iff.mp c.more).2 (by simp [ex0N])).1, fun q hq => by cases hq⟩, fun h => absurd h (by decide)⟩
theorem d_law_taken : DefOk law_.prog w K mg base (gmOf K enN bnN) (0 + 1) "_law_taken" (m_law_taken) := by
  obtain ⟨fd, D⟩ := c.d.def_ 0 (d := dd "_law_taken" 13) rfl
  exact def_ok (cg := cg_law_taken 0) (ps := ["row", "many"]) (fx_of (L := []) (R := []) (R0 := []) (names := fnN) (en := exN) (exm := exmT) (exf := excT) (exi := exiT) (free_in (L := (cg_law_taken 0).free) KX g c (by decide +kernel)) rfl rfl rfl calls_nil rfl rfl (names_in (bn := bnN) (bs := exN.drop enN.length) KX g c rfl (by decide +kernel) rfl (by decide +kernel)) rfl (fun p hp => ⟨(errs (w := w) (base := base) KX g c p hp).1, fun h => (errs (w := w) (base := base) KX g c p hp).2 ((by decide : ∀ k ∈ ([] : List Nat), k ∈ initL) _ h)⟩) rfl (xi_ok (Bool.and_eq_true_iff.mp c.more).1) (fun p hp => by cases hp) rfl (fun k hk => by cases hk) rfl (by intro k hk; cases hk)) D (glo_in KX g c (x := "_law_taken") (by decide +kernel)) sc_law_taken (chk_law_taken _) (fun _ _ _ _ _ _ us hl => match us, hl with | [_, _], _ => rfl) (Nat.le_refl _) rfl rfl
theorem d_law_pick : DefOk law_.prog w K mg base (gmOf K enN bnN) (1 + 1) "_law_pick" (m_law_pick) := by
  obtain ⟨fd, D⟩ := c.d.def_ 1 (d := dd "_law_pick" 14) rfl
  exact def_ok (cg := cg_law_pick 1) (ps := ["row", "kinds"]) (fx_of (L := [0]) (R := []) (R0 := []) (names := fnN) (en := exN) (exm := exmT) (exf := excT) (exi := exiT) (free_in (L := (cg_law_pick 0).free) KX g c (by decide +kernel)) rfl rfl rfl (calls_cons (d_law_taken KX g c) rfl rfl (by show _ ≤ 1; omega) calls_nil) rfl rfl (names_in (bn := bnN) (bs := exN.drop enN.length) KX g c rfl (by decide +kernel) rfl (by decide +kernel)) rfl (fun p hp => ⟨(errs (w := w) (base := base) KX g c p hp).1, fun h => (errs (w := w) (base := base) KX g c p hp).2 ((by decide : ∀ k ∈ ([] : List Nat), k ∈ initL) _ h)⟩) rfl (xi_ok (Bool.and_eq_true_iff.mp c.more).1) (fun p hp => by cases hp) rfl (fun k hk => by cases hk) rfl (by intro k hk; cases hk)) D (glo_in KX g c (x := "_law_pick") (by decide +kernel)) sc_law_pick (chk_law_pick _) (fun _ _ _ _ _ _ us hl => match us, hl with | [_, _], _ => rfl) (Nat.le_refl _) rfl rfl
theorem d_law_alike : ∀ d : Nat, DefOk law_.prog w K mg base (gmOf K enN bnN) (0 + d) "_law_alike" (m_law_alike d)
  | 0 => by
    obtain ⟨fd, D⟩ := c.d.def_ 2 (d := dd "_law_alike" 15) rfl
    exact stuck_ok (ps := ["found", "due"]) _ D (glo_in KX g c (x := "_law_alike") (by decide +kernel)) (fun _ _ _ _ _ _ us hl => match us, hl with | [_, _], _ => rfl)
  | d + 1 => by
    have ih := d_law_alike d
    obtain ⟨fd, D⟩ := c.d.def_ 2 (d := dd "_law_alike" 15) rfl
    exact def_ok (cg := cg_law_alike (0 + d)) (ps := ["found", "due"]) (fx_of (L := [2]) (R := []) (R0 := []) (names := fnN) (en := exN) (exm := exmT) (exf := excT) (exi := exiT) (free_in (L := (cg_law_alike 0).free) KX g c (by decide +kernel)) rfl rfl rfl (calls_cons ih rfl rfl (by show _ ≤ (0 + d); omega) calls_nil) rfl rfl (names_in (bn := bnN) (bs := exN.drop enN.length) KX g c rfl (by decide +kernel) rfl (by decide +kernel)) rfl (fun p hp => ⟨(errs (w := w) (base := base) KX g c p hp).1, fun h => (errs (w := w) (base := base) KX g c p hp).2 ((by decide : ∀ k ∈ ([] : List Nat), k ∈ initL) _ h)⟩) rfl (xi_ok (Bool.and_eq_true_iff.mp c.more).1) (fun p hp => by cases hp) rfl (fun k hk => by cases hk) rfl (by intro k hk; cases hk)) D (glo_in KX g c (x := "_law_alike") (by decide +kernel)) sc_law_alike (chk_law_alike _) (fun _ _ _ _ _ _ us hl => match us, hl with | [_, _], _ => rfl) (Nat.le_refl _) rfl rfl
theorem d_law_raised : DefOk law_.prog w K mg base (gmOf K enN bnN) (1 + 1) "_law_raised" (m_law_raised) := by
  obtain ⟨fd, D⟩ := c.d.def_ 3 (d := dd "_law_raised" 16) rfl
  exact def_ok (cg := cg_law_raised 1) (ps := ["number", "value", "named"]) (fx_of (L := []) (R := [1, 2, 3, 4, 5, 6, 7, 8, 9]) (R0 := [10]) (names := fnN) (en := exN) (exm := exmT) (exf := excT) (exi := exiT) (free_in (L := (cg_law_raised 0).free) KX g c (by decide +kernel)) rfl rfl rfl calls_nil rfl rfl (names_in (bn := bnN) (bs := exN.drop enN.length) KX g c rfl (by decide +kernel) rfl (by decide +kernel)) rfl (fun p hp => ⟨(errs (w := w) (base := base) KX g c p hp).1, fun h => (errs (w := w) (base := base) KX g c p hp).2 ((by decide : ∀ k ∈ ([1, 2, 3, 4, 5, 6, 7, 8, 9] : List Nat), k ∈ initL) _ h)⟩) rfl (xi_ok (Bool.and_eq_true_iff.mp c.more).1) (fun p hp => by cases hp) rfl (by intro k hk; refine ⟨by show 1 ≤ 1; omega, ?_⟩; simp only [List.mem_cons, List.not_mem_nil, or_false] at hk; rcases hk with rfl; exact ⟨"NothingToUndo", rfl, rfl, er0_ok (l := ex0N) KX g c (Bool.and_eq_true_iff.mp c.more).2 (by simp [ex0N]) rfl⟩) rfl (by intro k hk; refine ⟨by show 1 ≤ 1; omega, ?_⟩; revert k; decide +kernel)) D (glo_in KX g c (x := "_law_raised") (by decide +kernel)) sc_law_raised (chk_law_raised _) (fun _ _ _ _ _ _ us hl => match us, hl with | [_, _, _], _ => rfl) (Nat.le_refl _) rfl rfl
theorem r_law (d : Nat) : ∃ fd, (∀ (s : Shared) (u : Value), BindsTo s fd ⟨[u], []⟩ [("script", u)]) ∧ ∀ base : Heap, FnG law_.prog w K mg base ((2 + d) + 1) (He.ga K "law") fd ["script"] fun vs H Q E => vs.length = 1 ∧ spM K (gmOf K enN bnN) (m_law d) vs H Q E := by
  obtain ⟨fd, D⟩ := c.d.def_ 4 (d := dd "law" 17) rfl
  exact ⟨fd, fun s u => FunD.bindsA (ps := ["script"]) D (fun _ _ _ _ _ _ us hl => match us, hl with | [_], _ => rfl) s [u] rfl, fun base => def_run (cg := cg_law (2 + d)) (fx_of (L := [2, 1, 3, 0]) (R := []) (R0 := []) (names := fnN) (en := exN) (exm := exmT) (exf := excT) (exi := exiT) (free_in (L := (cg_law 0).free) KX g c (by decide +kernel)) rfl rfl rfl (calls_cons (d_law_alike KX g c d) rfl rfl (by show _ ≤ (2 + d); omega) (calls_cons (d_law_pick KX g c) rfl rfl (by show _ ≤ (2 + d); omega) (calls_cons (d_law_raised KX g c) rfl rfl (by show _ ≤ (2 + d); omega) (calls_cons (d_law_taken KX g c) rfl rfl (by show _ ≤ (2 + d); omega) calls_nil)))) rfl rfl (names_in (bn := bnN) (bs := exN.drop enN.length) KX g c rfl (by decide +kernel) rfl (by decide +kernel)) rfl (fun p hp => ⟨(errs (w := w) (base := base) KX g c p hp).1, fun h => (errs (w := w) (base := base) KX g c p hp).2 ((by decide : ∀ k ∈ ([] : List Nat), k ∈ initL) _ h)⟩) rfl (xi_ok (Bool.and_eq_true_iff.mp c.more).1) (by intro p hp; simp only [List.mem_cons, List.not_mem_nil, or_false] at hp; refine ⟨by show 1 ≤ (2 + d); omega, ?_⟩; rcases hp with rfl | rfl | rfl | rfl | rfl | rfl | rfl | rfl | rfl | rfl; exact kw_ok (p := E_BadNote) KX g c (by simp [esD]) S_BadNote rfl rfl rfl (fun V e ws hl => match ws, hl with | [_], _ => rfl) rfl (by decide); exact kw_ok (p := E_BadEvent) KX g c (by simp [esD]) S_BadEvent rfl rfl rfl (fun V e ws hl => match ws, hl with | [_], _ => rfl) rfl (by decide); exact kw_ok (p := E_BadItem) KX g c (by simp [esD]) S_BadItem rfl rfl rfl (fun V e ws hl => match ws, hl with | [_], _ => rfl) rfl (by decide); exact kw_ok (p := E_BadName) KX g c (by simp [esD]) S_BadName rfl rfl rfl (fun V e ws hl => match ws, hl with | [_], _ => rfl) rfl (by decide); exact kw_ok (p := E_BadNumber) KX g c (by simp [esD]) S_BadNumber rfl rfl rfl (fun V e ws hl => match ws, hl with | [_], _ => rfl) rfl (by decide); exact kw_ok (p := E_Refused) KX g c (by simp [esD]) S_Refused rfl rfl rfl (fun V e ws hl => match ws, hl with | [_, _], _ => rfl) rfl (by decide); exact kw_ok (p := E_Refused) KX g c (by simp [esD]) S_Refused rfl rfl rfl (fun V e ws hl => match ws, hl with | [_, _], _ => rfl) rfl (by decide); exact kw_ok (p := E_Taken) KX g c (by simp [esD]) S_Taken rfl rfl rfl (fun V e ws hl => match ws, hl with | [_], _ => rfl) rfl (by decide); exact kw_ok (p := E_Unknown) KX g c (by simp [esD]) S_Unknown rfl rfl rfl (fun V e ws hl => match ws, hl with | [_], _ => rfl) rfl (by decide); exact kw_ok (p := E_TooMany) KX g c (by simp [esD]) S_TooMany rfl rfl rfl (fun V e ws hl => match ws, hl with | [_], _ => rfl) rfl (by decide)) rfl (fun k hk => by cases hk) rfl (by intro k hk; cases hk)) D sc_law (chk_law _) (Nat.le_refl _) rfl rfl⟩
end
end K09
namespace PySem.Challenge
open PySem PySem.W PySem.Calls PyProof.Rows
theorem k09_of (main : ∀ ns : List Int, ns.length ≤ 63 → ∃ o, K09.m_law 5 [.d (.list (ns.map .int))] = .ok (.d (.bool true)) o) : PySem.Challenge.rw_nightclasses_k09_errors.Holds := by
  w_on; o_law
  refine HandSHeadRun.head_any (r := OpenLaw.row PySem.Challenge.rw_nightclasses_k09_errors) (q := view (OpenLaw.row PySem.Challenge.rw_nightclasses_k09_errors).prog [17]) (H := K09.hk) (ob := K09.ob) (M := 8000) (loose := K09.names) (d := HandSHeadRun.topDef (OpenLaw.row PySem.Challenge.rw_nightclasses_k09_errors).prog 17) (kwd := []) K09.ob_eq
    (by kernel_rfl) (fun s => by kernel_rfl) K09.run (by kernel_rfl) (by kernel_rfl) (by kernel_rfl) (by rfl) (by first | assumption | decide +kernel) (by decide +kernel) ⟨rfl, rfl, rfl, rfl, rfl, by decide +kernel⟩ ?hw ?hc
  case hw => w_witness2
  case hc =>
    refine EV.walk_ev (l := PySem.Challenge.rw_nightclasses_k09_errors) (n := 63) (k := 8) (x := "script") (m := K09.m_law 5) rfl (by decide) (by kernel_rfl) ⟨rfl, by decide, by decide⟩ main ?F
    intro w mg fa h Y g hmg0
    obtain ⟨K, KX, c⟩ := Y
    have hmg : mg ("law" : PySem.Str) = some (.ref fa) := by
      have e : (HandSHeadRun.topDef (OpenLaw.row PySem.Challenge.rw_nightclasses_k09_errors).prog 17).name = ("law" : PySem.Str) := by kernel_rfl
      rw [← e]
      exact hmg0
    have e := hmg.symm.trans (EV.glo_in KX g c (x := "law") (by decide +kernel))
    cases e
    obtain ⟨fd, hb, F⟩ := K09.r_law (w := w) KX g c 5
    exact ⟨K, EV.gmOf K K09.enN K09.bnN, fd, KX, hb, fun base KB gb => F base⟩
end PySem.Challenge

set_option maxHeartbeats 4000000
/-! k09: what the shared defs compute (printed by emit_std.py). -/
namespace K09
open PySem EV L2
abbrev iD (i : Int) : SV := .d (.int i)
theorem cfp {p : List Nat} {f : List Fm} : (cfK p f).pin = p := rfl
theorem cff {p : List Nat} {f : List Fm} : (cfK p f).fns = f := rfl
theorem sm {a : Int} (h1 : -(2 ^ 64) < a) (h2 : a < 2 ^ 64) : EV.small64 a = true := by unfold EV.small64; simp only [h1, h2, decide_true, Bool.and_self]
/-- the state of the numbers drawn -/
abbrev rowOf (ns : List Int) (k s c : Int) : SV := .olst [.list (ns.map .int), .int k, .int s, .int c]
theorem run_own {cf : Cf} {np n : Nat} {body : C} (svs : List SV) (hl : svs.length = np) (hp : (svs.zipIdx.all fun p => isPinned cf.pin p.2 p.1) = true) : runF cf np n body svs = retM svs (semS cf body (env0 n svs)) := by
  rw [run_eq, if_pos ⟨hl, hp⟩]
theorem ret_own {xs ys : List PyData} {d : PyData} {v : SV} {ρ : EV.Env} : retM [.olst xs, .d d] (.ok (.ret v) (some (.olst ys) :: ρ)) = .ok v [.olst ys, .d d] := rfl
theorem s_taken (ns : List Int) (k s c m : Int) (hk : 0 ≤ k) (hm : 0 < m) (hm2 : m < 2 ^ 64) : ∃ v k' s' c', m_law_taken [rowOf ns k s c, iD m] = .ok (iD v) [rowOf ns k' s' c', iD m] ∧ 0 ≤ k' ∧ 0 ≤ v ∧ v < m := by
  have e0 : m_law_taken [rowOf ns k s c, iD m] = retM [rowOf ns k s c, iD m] (semS (cfK [0] []) b_law_taken (env0 4 [rowOf ns k s c, iD m])) := run_own _ rfl (by simp [isPinned, SV.isOwn, cfK])
  have w1 : ∀ x : Int, 0 ≤ x % m := fun x => Int.emod_nonneg _ (by omega)
  have w2 : ∀ x : Int, x % m < m := fun x => Int.emod_lt_of_pos _ hm
  by_cases hc : 0 < c
  · refine ⟨c % m, k, s, c / m, ?_, hk, w1 _, w2 _⟩
    rw [e0]
    simp only [env0, b_law_taken]
    simp -implicitDefEqProofs only [R.bind_ok, R.bind_err, R.bind_stuck, R.lift_some, R.lift_none, EV.varM_d, EV.varM_o, EV.varM_n, EV.getS_0, EV.getS_s, List.set_cons_zero, List.set_cons_succ, List.map_cons, List.map_nil, EV.e_none, EV.e_bl, EV.e_int, EV.e_str, EV.e_var, EV.e_gl, EV.e_gfn, EV.e_bin, EV.kBin_, EV.kBin'_, EV.negD_i, EV.kNeg_, EV.e_neg, EV.e_cmp, EV.kCmp_, EV.kCmp'_, EV.e_cmp2, EV.kC1_, EV.kC2_, EV.kC3_t, EV.kC3_f, EV.e_cmpO, EV.kCO_, EV.kCO'_, EV.e_not, EV.kNot_, EV.kNot'_, EV.e_and, EV.e_or, EV.e_ife, EV.kIf_, EV.ifE_t, EV.ifE_f, EV.e_idx, EV.kIdx_, EV.kIdx'_, EV.e_idxO, EV.kIO_, EV.kIO'_, EV.kIO2_, EV.e_slc, EV.kS1_, EV.kS2_, EV.kS3_, EV.kS4_, EV.kS5_, EV.e_efld, EV.e_tup, EV.kTup_, EV.kTup'_, EV.e_lst, EV.kLst_, EV.kLst'_, EV.frzM_o, EV.frzM_d, EV.e_frz, EV.e_lrg, EV.kL1_, EV.kL2_, EV.e_bf, EV.kBf_, EV.e_lenO, EV.kLen_, EV.kIsi_, EV.e_isi, EV.outM_ok, EV.outM_err, EV.e_call, EV.kCall_, EV.kCall'_, EV.e_comp, EV.kComp_, EV.kComp'_, EV.e_itV, EV.e_it1, EV.e_it2, EV.e_itE, EV.e_itO, EV.itoM_, EV.kIt_, EV.kIt'_, EV.l_nil, EV.l_cons, EV.kLc_, EV.kLc'_, EV.a_nil, EV.a_ref, EV.kAr_, EV.kAc_, EV.kAc'_, EV.seqM_n, EV.seqM_r, EV.seqM_e, EV.seqM_s, EV.s_skip, EV.s_seq, EV.s_asg1, EV.kAsg_, EV.s_asgM, EV.kAsgM_, EV.kAsgM2_, EV.s_par, EV.kPar_, EV.s_asgI, EV.kAI_, EV.kAI1_, EV.kAI2_, EV.s_app, EV.appO_, EV.kApp_, EV.s_ext, EV.extO_, EV.kExt_, EV.s_ins, EV.insO_, EV.kIns_, EV.kIns2_, EV.s_ex, EV.kEx_, EV.s_ret, EV.kRet_, EV.s_ifs, EV.kIfS_, EV.ifS_t, EV.ifS_f, EV.s_fors, EV.kFor_, EV.kFor'_, EV.s_raise, EV.kRai_, EV.raiM_, EV.tryM_e, EV.tryM_o, EV.s_tryx, EV.h_nil, EV.h_hnd, EV.hn_f, EV.hn_t, EV.offS_, EV.noExc, EV.Fl.plain, EV.setM_i, EV.appM_i, EV.extM_i, EV.insM_i, EV.tgs, EV.datM_n, EV.datM_r, EV.datM_e, EV.o_add, EV.o_sub, EV.c_lt, EV.c_le, EV.c_gt, EV.c_ge, EV.c_eqi, EV.c_nei, EV.asB_b, EV.allD, Option.map_some, Option.map_none, Option.bind_some, Option.bind_none, EV.refsOf, EV.resolve, EV.SV.isOwn, EV.SV.plain, Bool.not_true, Bool.not_false, Bool.or_false, Bool.false_or, Bool.false_eq_true, ↓reduceIte, EV.putOuts, List.nodup_nil, EV.setAll, List.length_cons, List.length_nil, List.getElem?_cons_zero, List.getElem?_cons_succ, List.cons_append, List.nil_append, List.append_nil, eq_self, and_self, true_and, and_true, EV.atI_lit, List.replicate_succ, List.replicate_zero, Nat.reduceAdd, Nat.reduceSub, Nat.sub_self, List.any_cons, List.any_nil, List.contains_cons, List.contains_nil, true_or, or_true, EV.ac_none, EV.ac_bl, EV.ac_int, EV.ac_str, EV.ac_var, EV.ac_gl, EV.ac_gfn, EV.ac_bin, EV.ac_neg, EV.ac_cmp, EV.ac_cmp2, EV.ac_cmpO, EV.ac_not, EV.ac_and, EV.ac_or, EV.ac_ife, EV.ac_idx, EV.ac_idxO, EV.ac_slc, EV.ac_fld, EV.ac_efld, EV.ac_tup, EV.ac_lst, EV.ac_frz, EV.ac_lrg, EV.ac_bf, EV.ac_lenO, EV.ac_isi, EV.ac_call, EV.ac_comp, EV.isN_none, EV.isN_int, EV.isN_var, EV.isN_bin, EV.isN_neg, EV.isN_idxO, EV.isN_idx, EV.isN_call, EV.isN_lenO, EV.bound_n, EV.bound_i, EV.i_t, EV.i_l, EV.i_o, EV.n_t, EV.n_l, EV.n_o, EV.bf_len, EV.bf_int, EV.bf_abs, EV.bf_tupL, EV.bf_tupT, EV.bf_tupO, EV.bf_lstL, EV.bf_lstT, EV.bf_lstO, EV.bf_max2, EV.bf_min2, EV.bf_max1, EV.bf_min1, EV.bf_all, EV.bf_any, EV.bf_repr, EV.t_one, EV.t_many, EV.t_nil, EV.t_cons, EV.it_l, EV.it_t, EV.it_r1, EV.it_r2, EV.it_el, EV.it_et, EV.w_nil, EV.w_cons, EV.b_nil, EV.b_cons, EV.c_eqb, EV.c_neb, EV.c_isN, EV.c_notN, EV.isNn, EV.hasTy, Nat.reduceBEq, Int.reduceLE, Int.reduceLT, Int.reduceToNat, Int.reduceNeg, Int.cast_ofNat_Int, Int.natCast_zero, Int.natCast_one, List.nodup_cons, List.mem_cons, List.not_mem_nil, or_false, or_self, Nat.reduceEqDiff, Nat.succ_ne_self, ne_eq, not_true_eq_false, not_false_eq_true, Bool.or_self, decide_true, decide_false, reduceCtorEq, cfp, cff, hc, o_mod hm, o_fdiv hm hm2]
    exact ret_own
  · have n7 : (7 : Int) < 2 ^ 64 := by decide
    have p1 : (0 : Int) < 2147483647 := by decide
    have p2 : binop .pow (.d (.int 10)) (.d (.int 18)) = some (.d (.int (10 ^ 18))) := rfl
    have q1 : EV.small64 48271 = true := rfl
    by_cases hl : (ns.length : Int) < k + 1
    · refine ⟨(s * 48271 + 11) % 2147483647 / 7 % m, k + 1, (s * 48271 + 11) % 2147483647, c, ?_, by omega, w1 _, w2 _⟩
      rw [e0]
      simp only [env0, b_law_taken]
      simp -implicitDefEqProofs only [R.bind_ok, R.bind_err, R.bind_stuck, R.lift_some, R.lift_none, EV.varM_d, EV.varM_o, EV.varM_n, EV.getS_0, EV.getS_s, List.set_cons_zero, List.set_cons_succ, List.map_cons, List.map_nil, EV.e_none, EV.e_bl, EV.e_int, EV.e_str, EV.e_var, EV.e_gl, EV.e_gfn, EV.e_bin, EV.kBin_, EV.kBin'_, EV.negD_i, EV.kNeg_, EV.e_neg, EV.e_cmp, EV.kCmp_, EV.kCmp'_, EV.e_cmp2, EV.kC1_, EV.kC2_, EV.kC3_t, EV.kC3_f, EV.e_cmpO, EV.kCO_, EV.kCO'_, EV.e_not, EV.kNot_, EV.kNot'_, EV.e_and, EV.e_or, EV.e_ife, EV.kIf_, EV.ifE_t, EV.ifE_f, EV.e_idx, EV.kIdx_, EV.kIdx'_, EV.e_idxO, EV.kIO_, EV.kIO'_, EV.kIO2_, EV.e_slc, EV.kS1_, EV.kS2_, EV.kS3_, EV.kS4_, EV.kS5_, EV.e_efld, EV.e_tup, EV.kTup_, EV.kTup'_, EV.e_lst, EV.kLst_, EV.kLst'_, EV.frzM_o, EV.frzM_d, EV.e_frz, EV.e_lrg, EV.kL1_, EV.kL2_, EV.e_bf, EV.kBf_, EV.e_lenO, EV.kLen_, EV.kIsi_, EV.e_isi, EV.outM_ok, EV.outM_err, EV.e_call, EV.kCall_, EV.kCall'_, EV.e_comp, EV.kComp_, EV.kComp'_, EV.e_itV, EV.e_it1, EV.e_it2, EV.e_itE, EV.e_itO, EV.itoM_, EV.kIt_, EV.kIt'_, EV.l_nil, EV.l_cons, EV.kLc_, EV.kLc'_, EV.a_nil, EV.a_ref, EV.kAr_, EV.kAc_, EV.kAc'_, EV.seqM_n, EV.seqM_r, EV.seqM_e, EV.seqM_s, EV.s_skip, EV.s_seq, EV.s_asg1, EV.kAsg_, EV.s_asgM, EV.kAsgM_, EV.kAsgM2_, EV.s_par, EV.kPar_, EV.s_asgI, EV.kAI_, EV.kAI1_, EV.kAI2_, EV.s_app, EV.appO_, EV.kApp_, EV.s_ext, EV.extO_, EV.kExt_, EV.s_ins, EV.insO_, EV.kIns_, EV.kIns2_, EV.s_ex, EV.kEx_, EV.s_ret, EV.kRet_, EV.s_ifs, EV.kIfS_, EV.ifS_t, EV.ifS_f, EV.s_fors, EV.kFor_, EV.kFor'_, EV.s_raise, EV.kRai_, EV.raiM_, EV.tryM_e, EV.tryM_o, EV.s_tryx, EV.h_nil, EV.h_hnd, EV.hn_f, EV.hn_t, EV.offS_, EV.noExc, EV.Fl.plain, EV.setM_i, EV.appM_i, EV.extM_i, EV.insM_i, EV.tgs, EV.datM_n, EV.datM_r, EV.datM_e, EV.o_add, EV.o_sub, EV.c_lt, EV.c_le, EV.c_gt, EV.c_ge, EV.c_eqi, EV.c_nei, EV.asB_b, EV.allD, Option.map_some, Option.map_none, Option.bind_some, Option.bind_none, EV.refsOf, EV.resolve, EV.SV.isOwn, EV.SV.plain, Bool.not_true, Bool.not_false, Bool.or_false, Bool.false_or, Bool.false_eq_true, ↓reduceIte, EV.putOuts, List.nodup_nil, EV.setAll, List.length_cons, List.length_nil, List.getElem?_cons_zero, List.getElem?_cons_succ, List.cons_append, List.nil_append, List.append_nil, eq_self, and_self, true_and, and_true, EV.atI_lit, List.replicate_succ, List.replicate_zero, Nat.reduceAdd, Nat.reduceSub, Nat.sub_self, List.any_cons, List.any_nil, List.contains_cons, List.contains_nil, true_or, or_true, EV.ac_none, EV.ac_bl, EV.ac_int, EV.ac_str, EV.ac_var, EV.ac_gl, EV.ac_gfn, EV.ac_bin, EV.ac_neg, EV.ac_cmp, EV.ac_cmp2, EV.ac_cmpO, EV.ac_not, EV.ac_and, EV.ac_or, EV.ac_ife, EV.ac_idx, EV.ac_idxO, EV.ac_slc, EV.ac_fld, EV.ac_efld, EV.ac_tup, EV.ac_lst, EV.ac_frz, EV.ac_lrg, EV.ac_bf, EV.ac_lenO, EV.ac_isi, EV.ac_call, EV.ac_comp, EV.isN_none, EV.isN_int, EV.isN_var, EV.isN_bin, EV.isN_neg, EV.isN_idxO, EV.isN_idx, EV.isN_call, EV.isN_lenO, EV.bound_n, EV.bound_i, EV.i_t, EV.i_l, EV.i_o, EV.n_t, EV.n_l, EV.n_o, EV.bf_len, EV.bf_int, EV.bf_abs, EV.bf_tupL, EV.bf_tupT, EV.bf_tupO, EV.bf_lstL, EV.bf_lstT, EV.bf_lstO, EV.bf_max2, EV.bf_min2, EV.bf_max1, EV.bf_min1, EV.bf_all, EV.bf_any, EV.bf_repr, EV.t_one, EV.t_many, EV.t_nil, EV.t_cons, EV.it_l, EV.it_t, EV.it_r1, EV.it_r2, EV.it_el, EV.it_et, EV.w_nil, EV.w_cons, EV.b_nil, EV.b_cons, EV.c_eqb, EV.c_neb, EV.c_isN, EV.c_notN, EV.isNn, EV.hasTy, Nat.reduceBEq, Int.reduceLE, Int.reduceLT, Int.reduceToNat, Int.reduceNeg, Int.cast_ofNat_Int, Int.natCast_zero, Int.natCast_one, List.nodup_cons, List.mem_cons, List.not_mem_nil, or_false, or_self, Nat.reduceEqDiff, Nat.succ_ne_self, ne_eq, not_true_eq_false, not_false_eq_true, Bool.or_self, decide_true, decide_false, reduceCtorEq, cfp, cff, hc, decide_false, List.length_map, hl, o_mod p1, o_mul (.inr q1), o_fdiv (show (0 : Int) < 7 by decide) n7, o_mod hm]
      exact ret_own
    · have hk2 : k.toNat < ns.length := by omega
      have at_ : L2.atI (ns.map PyData.int) (k + 1 - 1) = some (.int ns[k.toNat]) := by
        rw [Int.add_sub_cancel, EV.atI_nat hk, List.getElem?_map, List.getElem?_eq_getElem hk2]
        rfl
      generalize ns[k.toNat] = z at at_
      by_cases hz : (10 : Int) ^ 18 ≤ z
      · refine ⟨z % m, k + 1, (s * 48271 + z + 11) % 2147483647, z / m, ?_, by omega, w1 _, w2 _⟩
        rw [e0]
        simp only [env0, b_law_taken]
        simp -implicitDefEqProofs only [R.bind_ok, R.bind_err, R.bind_stuck, R.lift_some, R.lift_none, EV.varM_d, EV.varM_o, EV.varM_n, EV.getS_0, EV.getS_s, List.set_cons_zero, List.set_cons_succ, List.map_cons, List.map_nil, EV.e_none, EV.e_bl, EV.e_int, EV.e_str, EV.e_var, EV.e_gl, EV.e_gfn, EV.e_bin, EV.kBin_, EV.kBin'_, EV.negD_i, EV.kNeg_, EV.e_neg, EV.e_cmp, EV.kCmp_, EV.kCmp'_, EV.e_cmp2, EV.kC1_, EV.kC2_, EV.kC3_t, EV.kC3_f, EV.e_cmpO, EV.kCO_, EV.kCO'_, EV.e_not, EV.kNot_, EV.kNot'_, EV.e_and, EV.e_or, EV.e_ife, EV.kIf_, EV.ifE_t, EV.ifE_f, EV.e_idx, EV.kIdx_, EV.kIdx'_, EV.e_idxO, EV.kIO_, EV.kIO'_, EV.kIO2_, EV.e_slc, EV.kS1_, EV.kS2_, EV.kS3_, EV.kS4_, EV.kS5_, EV.e_efld, EV.e_tup, EV.kTup_, EV.kTup'_, EV.e_lst, EV.kLst_, EV.kLst'_, EV.frzM_o, EV.frzM_d, EV.e_frz, EV.e_lrg, EV.kL1_, EV.kL2_, EV.e_bf, EV.kBf_, EV.e_lenO, EV.kLen_, EV.kIsi_, EV.e_isi, EV.outM_ok, EV.outM_err, EV.e_call, EV.kCall_, EV.kCall'_, EV.e_comp, EV.kComp_, EV.kComp'_, EV.e_itV, EV.e_it1, EV.e_it2, EV.e_itE, EV.e_itO, EV.itoM_, EV.kIt_, EV.kIt'_, EV.l_nil, EV.l_cons, EV.kLc_, EV.kLc'_, EV.a_nil, EV.a_ref, EV.kAr_, EV.kAc_, EV.kAc'_, EV.seqM_n, EV.seqM_r, EV.seqM_e, EV.seqM_s, EV.s_skip, EV.s_seq, EV.s_asg1, EV.kAsg_, EV.s_asgM, EV.kAsgM_, EV.kAsgM2_, EV.s_par, EV.kPar_, EV.s_asgI, EV.kAI_, EV.kAI1_, EV.kAI2_, EV.s_app, EV.appO_, EV.kApp_, EV.s_ext, EV.extO_, EV.kExt_, EV.s_ins, EV.insO_, EV.kIns_, EV.kIns2_, EV.s_ex, EV.kEx_, EV.s_ret, EV.kRet_, EV.s_ifs, EV.kIfS_, EV.ifS_t, EV.ifS_f, EV.s_fors, EV.kFor_, EV.kFor'_, EV.s_raise, EV.kRai_, EV.raiM_, EV.tryM_e, EV.tryM_o, EV.s_tryx, EV.h_nil, EV.h_hnd, EV.hn_f, EV.hn_t, EV.offS_, EV.noExc, EV.Fl.plain, EV.setM_i, EV.appM_i, EV.extM_i, EV.insM_i, EV.tgs, EV.datM_n, EV.datM_r, EV.datM_e, EV.o_add, EV.o_sub, EV.c_lt, EV.c_le, EV.c_gt, EV.c_ge, EV.c_eqi, EV.c_nei, EV.asB_b, EV.allD, Option.map_some, Option.map_none, Option.bind_some, Option.bind_none, EV.refsOf, EV.resolve, EV.SV.isOwn, EV.SV.plain, Bool.not_true, Bool.not_false, Bool.or_false, Bool.false_or, Bool.false_eq_true, ↓reduceIte, EV.putOuts, List.nodup_nil, EV.setAll, List.length_cons, List.length_nil, List.getElem?_cons_zero, List.getElem?_cons_succ, List.cons_append, List.nil_append, List.append_nil, eq_self, and_self, true_and, and_true, EV.atI_lit, List.replicate_succ, List.replicate_zero, Nat.reduceAdd, Nat.reduceSub, Nat.sub_self, List.any_cons, List.any_nil, List.contains_cons, List.contains_nil, true_or, or_true, EV.ac_none, EV.ac_bl, EV.ac_int, EV.ac_str, EV.ac_var, EV.ac_gl, EV.ac_gfn, EV.ac_bin, EV.ac_neg, EV.ac_cmp, EV.ac_cmp2, EV.ac_cmpO, EV.ac_not, EV.ac_and, EV.ac_or, EV.ac_ife, EV.ac_idx, EV.ac_idxO, EV.ac_slc, EV.ac_fld, EV.ac_efld, EV.ac_tup, EV.ac_lst, EV.ac_frz, EV.ac_lrg, EV.ac_bf, EV.ac_lenO, EV.ac_isi, EV.ac_call, EV.ac_comp, EV.isN_none, EV.isN_int, EV.isN_var, EV.isN_bin, EV.isN_neg, EV.isN_idxO, EV.isN_idx, EV.isN_call, EV.isN_lenO, EV.bound_n, EV.bound_i, EV.i_t, EV.i_l, EV.i_o, EV.n_t, EV.n_l, EV.n_o, EV.bf_len, EV.bf_int, EV.bf_abs, EV.bf_tupL, EV.bf_tupT, EV.bf_tupO, EV.bf_lstL, EV.bf_lstT, EV.bf_lstO, EV.bf_max2, EV.bf_min2, EV.bf_max1, EV.bf_min1, EV.bf_all, EV.bf_any, EV.bf_repr, EV.t_one, EV.t_many, EV.t_nil, EV.t_cons, EV.it_l, EV.it_t, EV.it_r1, EV.it_r2, EV.it_el, EV.it_et, EV.w_nil, EV.w_cons, EV.b_nil, EV.b_cons, EV.c_eqb, EV.c_neb, EV.c_isN, EV.c_notN, EV.isNn, EV.hasTy, Nat.reduceBEq, Int.reduceLE, Int.reduceLT, Int.reduceToNat, Int.reduceNeg, Int.cast_ofNat_Int, Int.natCast_zero, Int.natCast_one, List.nodup_cons, List.mem_cons, List.not_mem_nil, or_false, or_self, Nat.reduceEqDiff, Nat.succ_ne_self, ne_eq, not_true_eq_false, not_false_eq_true, Bool.or_self, decide_true, decide_false, reduceCtorEq, cfp, cff, hc, decide_false, List.length_map, hl, o_mod p1, o_mul (.inr q1), o_mod hm, at_, p2, hz, o_fdiv hm hm2]
        exact ret_own
      · refine ⟨z % m, k + 1, (s * 48271 + z + 11) % 2147483647, c, ?_, by omega, w1 _, w2 _⟩
        rw [e0]
        simp only [env0, b_law_taken]
        simp -implicitDefEqProofs only [R.bind_ok, R.bind_err, R.bind_stuck, R.lift_some, R.lift_none, EV.varM_d, EV.varM_o, EV.varM_n, EV.getS_0, EV.getS_s, List.set_cons_zero, List.set_cons_succ, List.map_cons, List.map_nil, EV.e_none, EV.e_bl, EV.e_int, EV.e_str, EV.e_var, EV.e_gl, EV.e_gfn, EV.e_bin, EV.kBin_, EV.kBin'_, EV.negD_i, EV.kNeg_, EV.e_neg, EV.e_cmp, EV.kCmp_, EV.kCmp'_, EV.e_cmp2, EV.kC1_, EV.kC2_, EV.kC3_t, EV.kC3_f, EV.e_cmpO, EV.kCO_, EV.kCO'_, EV.e_not, EV.kNot_, EV.kNot'_, EV.e_and, EV.e_or, EV.e_ife, EV.kIf_, EV.ifE_t, EV.ifE_f, EV.e_idx, EV.kIdx_, EV.kIdx'_, EV.e_idxO, EV.kIO_, EV.kIO'_, EV.kIO2_, EV.e_slc, EV.kS1_, EV.kS2_, EV.kS3_, EV.kS4_, EV.kS5_, EV.e_efld, EV.e_tup, EV.kTup_, EV.kTup'_, EV.e_lst, EV.kLst_, EV.kLst'_, EV.frzM_o, EV.frzM_d, EV.e_frz, EV.e_lrg, EV.kL1_, EV.kL2_, EV.e_bf, EV.kBf_, EV.e_lenO, EV.kLen_, EV.kIsi_, EV.e_isi, EV.outM_ok, EV.outM_err, EV.e_call, EV.kCall_, EV.kCall'_, EV.e_comp, EV.kComp_, EV.kComp'_, EV.e_itV, EV.e_it1, EV.e_it2, EV.e_itE, EV.e_itO, EV.itoM_, EV.kIt_, EV.kIt'_, EV.l_nil, EV.l_cons, EV.kLc_, EV.kLc'_, EV.a_nil, EV.a_ref, EV.kAr_, EV.kAc_, EV.kAc'_, EV.seqM_n, EV.seqM_r, EV.seqM_e, EV.seqM_s, EV.s_skip, EV.s_seq, EV.s_asg1, EV.kAsg_, EV.s_asgM, EV.kAsgM_, EV.kAsgM2_, EV.s_par, EV.kPar_, EV.s_asgI, EV.kAI_, EV.kAI1_, EV.kAI2_, EV.s_app, EV.appO_, EV.kApp_, EV.s_ext, EV.extO_, EV.kExt_, EV.s_ins, EV.insO_, EV.kIns_, EV.kIns2_, EV.s_ex, EV.kEx_, EV.s_ret, EV.kRet_, EV.s_ifs, EV.kIfS_, EV.ifS_t, EV.ifS_f, EV.s_fors, EV.kFor_, EV.kFor'_, EV.s_raise, EV.kRai_, EV.raiM_, EV.tryM_e, EV.tryM_o, EV.s_tryx, EV.h_nil, EV.h_hnd, EV.hn_f, EV.hn_t, EV.offS_, EV.noExc, EV.Fl.plain, EV.setM_i, EV.appM_i, EV.extM_i, EV.insM_i, EV.tgs, EV.datM_n, EV.datM_r, EV.datM_e, EV.o_add, EV.o_sub, EV.c_lt, EV.c_le, EV.c_gt, EV.c_ge, EV.c_eqi, EV.c_nei, EV.asB_b, EV.allD, Option.map_some, Option.map_none, Option.bind_some, Option.bind_none, EV.refsOf, EV.resolve, EV.SV.isOwn, EV.SV.plain, Bool.not_true, Bool.not_false, Bool.or_false, Bool.false_or, Bool.false_eq_true, ↓reduceIte, EV.putOuts, List.nodup_nil, EV.setAll, List.length_cons, List.length_nil, List.getElem?_cons_zero, List.getElem?_cons_succ, List.cons_append, List.nil_append, List.append_nil, eq_self, and_self, true_and, and_true, EV.atI_lit, List.replicate_succ, List.replicate_zero, Nat.reduceAdd, Nat.reduceSub, Nat.sub_self, List.any_cons, List.any_nil, List.contains_cons, List.contains_nil, true_or, or_true, EV.ac_none, EV.ac_bl, EV.ac_int, EV.ac_str, EV.ac_var, EV.ac_gl, EV.ac_gfn, EV.ac_bin, EV.ac_neg, EV.ac_cmp, EV.ac_cmp2, EV.ac_cmpO, EV.ac_not, EV.ac_and, EV.ac_or, EV.ac_ife, EV.ac_idx, EV.ac_idxO, EV.ac_slc, EV.ac_fld, EV.ac_efld, EV.ac_tup, EV.ac_lst, EV.ac_frz, EV.ac_lrg, EV.ac_bf, EV.ac_lenO, EV.ac_isi, EV.ac_call, EV.ac_comp, EV.isN_none, EV.isN_int, EV.isN_var, EV.isN_bin, EV.isN_neg, EV.isN_idxO, EV.isN_idx, EV.isN_call, EV.isN_lenO, EV.bound_n, EV.bound_i, EV.i_t, EV.i_l, EV.i_o, EV.n_t, EV.n_l, EV.n_o, EV.bf_len, EV.bf_int, EV.bf_abs, EV.bf_tupL, EV.bf_tupT, EV.bf_tupO, EV.bf_lstL, EV.bf_lstT, EV.bf_lstO, EV.bf_max2, EV.bf_min2, EV.bf_max1, EV.bf_min1, EV.bf_all, EV.bf_any, EV.bf_repr, EV.t_one, EV.t_many, EV.t_nil, EV.t_cons, EV.it_l, EV.it_t, EV.it_r1, EV.it_r2, EV.it_el, EV.it_et, EV.w_nil, EV.w_cons, EV.b_nil, EV.b_cons, EV.c_eqb, EV.c_neb, EV.c_isN, EV.c_notN, EV.isNn, EV.hasTy, Nat.reduceBEq, Int.reduceLE, Int.reduceLT, Int.reduceToNat, Int.reduceNeg, Int.cast_ofNat_Int, Int.natCast_zero, Int.natCast_one, List.nodup_cons, List.mem_cons, List.not_mem_nil, or_false, or_self, Nat.reduceEqDiff, Nat.succ_ne_self, ne_eq, not_true_eq_false, not_false_eq_true, Bool.or_self, decide_true, decide_false, reduceCtorEq, cfp, cff, hc, decide_false, List.length_map, hl, o_mod p1, o_mul (.inr q1), o_mod hm, at_, p2, hz, o_fdiv hm hm2]
        exact ret_own
theorem s_pick (ns : List Int) (k s c : Int) {xs : List PyData} (hk : 0 ≤ k) (h0 : xs ≠ []) (hn : xs.length < 1000000) : ∃ v k' s' c', v ∈ xs ∧ m_law_pick [rowOf ns k s c, .d (.list xs)] = .ok (.d v) [rowOf ns k' s' c', .d (.list xs)] ∧ 0 ≤ k' := by
  have hl : 0 < xs.length := List.length_pos_iff.mpr h0
  obtain ⟨v, k', s', c', e, hk', v0, v1⟩ := s_taken ns k s c xs.length hk (by omega) (by omega)
  have hv : v.toNat < xs.length := by omega
  have at_ : L2.atI xs v = some xs[v.toNat] := by rw [EV.atI_nat v0, List.getElem?_eq_getElem hv]
  refine ⟨xs[v.toNat], k', s', c', List.getElem_mem hv, ?_, hk'⟩
  generalize xs[v.toNat] = z at at_
  have e0 : m_law_pick [rowOf ns k s c, .d (.list xs)] = retM [rowOf ns k s c, .d (.list xs)] (semS (cfK [0] [m_law_taken]) b_law_pick (env0 2 [rowOf ns k s c, .d (.list xs)])) := run_own _ rfl (by simp [isPinned, SV.isOwn, cfK])
  rw [e0]
  simp only [env0, b_law_pick]
  simp -implicitDefEqProofs only [R.bind_ok, R.bind_err, R.bind_stuck, R.lift_some, R.lift_none, EV.varM_d, EV.varM_o, EV.varM_n, EV.getS_0, EV.getS_s, List.set_cons_zero, List.set_cons_succ, List.map_cons, List.map_nil, EV.e_none, EV.e_bl, EV.e_int, EV.e_str, EV.e_var, EV.e_gl, EV.e_gfn, EV.e_bin, EV.kBin_, EV.kBin'_, EV.negD_i, EV.kNeg_, EV.e_neg, EV.e_cmp, EV.kCmp_, EV.kCmp'_, EV.e_cmp2, EV.kC1_, EV.kC2_, EV.kC3_t, EV.kC3_f, EV.e_cmpO, EV.kCO_, EV.kCO'_, EV.e_not, EV.kNot_, EV.kNot'_, EV.e_and, EV.e_or, EV.e_ife, EV.kIf_, EV.ifE_t, EV.ifE_f, EV.e_idx, EV.kIdx_, EV.kIdx'_, EV.e_idxO, EV.kIO_, EV.kIO'_, EV.kIO2_, EV.e_slc, EV.kS1_, EV.kS2_, EV.kS3_, EV.kS4_, EV.kS5_, EV.e_efld, EV.e_tup, EV.kTup_, EV.kTup'_, EV.e_lst, EV.kLst_, EV.kLst'_, EV.frzM_o, EV.frzM_d, EV.e_frz, EV.e_lrg, EV.kL1_, EV.kL2_, EV.e_bf, EV.kBf_, EV.e_lenO, EV.kLen_, EV.kIsi_, EV.e_isi, EV.outM_ok, EV.outM_err, EV.e_call, EV.kCall_, EV.kCall'_, EV.e_comp, EV.kComp_, EV.kComp'_, EV.e_itV, EV.e_it1, EV.e_it2, EV.e_itE, EV.e_itO, EV.itoM_, EV.kIt_, EV.kIt'_, EV.l_nil, EV.l_cons, EV.kLc_, EV.kLc'_, EV.a_nil, EV.a_ref, EV.kAr_, EV.kAc_, EV.kAc'_, EV.seqM_n, EV.seqM_r, EV.seqM_e, EV.seqM_s, EV.s_skip, EV.s_seq, EV.s_asg1, EV.kAsg_, EV.s_asgM, EV.kAsgM_, EV.kAsgM2_, EV.s_par, EV.kPar_, EV.s_asgI, EV.kAI_, EV.kAI1_, EV.kAI2_, EV.s_app, EV.appO_, EV.kApp_, EV.s_ext, EV.extO_, EV.kExt_, EV.s_ins, EV.insO_, EV.kIns_, EV.kIns2_, EV.s_ex, EV.kEx_, EV.s_ret, EV.kRet_, EV.s_ifs, EV.kIfS_, EV.ifS_t, EV.ifS_f, EV.s_fors, EV.kFor_, EV.kFor'_, EV.s_raise, EV.kRai_, EV.raiM_, EV.tryM_e, EV.tryM_o, EV.s_tryx, EV.h_nil, EV.h_hnd, EV.hn_f, EV.hn_t, EV.offS_, EV.noExc, EV.Fl.plain, EV.setM_i, EV.appM_i, EV.extM_i, EV.insM_i, EV.tgs, EV.datM_n, EV.datM_r, EV.datM_e, EV.o_add, EV.o_sub, EV.c_lt, EV.c_le, EV.c_gt, EV.c_ge, EV.c_eqi, EV.c_nei, EV.asB_b, EV.allD, Option.map_some, Option.map_none, Option.bind_some, Option.bind_none, EV.refsOf, EV.resolve, EV.SV.isOwn, EV.SV.plain, Bool.not_true, Bool.not_false, Bool.or_false, Bool.false_or, Bool.false_eq_true, ↓reduceIte, EV.putOuts, List.nodup_nil, EV.setAll, List.length_cons, List.length_nil, List.getElem?_cons_zero, List.getElem?_cons_succ, List.cons_append, List.nil_append, List.append_nil, eq_self, and_self, true_and, and_true, EV.atI_lit, List.replicate_succ, List.replicate_zero, Nat.reduceAdd, Nat.reduceSub, Nat.sub_self, List.any_cons, List.any_nil, List.contains_cons, List.contains_nil, true_or, or_true, EV.ac_none, EV.ac_bl, EV.ac_int, EV.ac_str, EV.ac_var, EV.ac_gl, EV.ac_gfn, EV.ac_bin, EV.ac_neg, EV.ac_cmp, EV.ac_cmp2, EV.ac_cmpO, EV.ac_not, EV.ac_and, EV.ac_or, EV.ac_ife, EV.ac_idx, EV.ac_idxO, EV.ac_slc, EV.ac_fld, EV.ac_efld, EV.ac_tup, EV.ac_lst, EV.ac_frz, EV.ac_lrg, EV.ac_bf, EV.ac_lenO, EV.ac_isi, EV.ac_call, EV.ac_comp, EV.isN_none, EV.isN_int, EV.isN_var, EV.isN_bin, EV.isN_neg, EV.isN_idxO, EV.isN_idx, EV.isN_call, EV.isN_lenO, EV.bound_n, EV.bound_i, EV.i_t, EV.i_l, EV.i_o, EV.n_t, EV.n_l, EV.n_o, EV.bf_len, EV.bf_int, EV.bf_abs, EV.bf_tupL, EV.bf_tupT, EV.bf_tupO, EV.bf_lstL, EV.bf_lstT, EV.bf_lstO, EV.bf_max2, EV.bf_min2, EV.bf_max1, EV.bf_min1, EV.bf_all, EV.bf_any, EV.bf_repr, EV.t_one, EV.t_many, EV.t_nil, EV.t_cons, EV.it_l, EV.it_t, EV.it_r1, EV.it_r2, EV.it_el, EV.it_et, EV.w_nil, EV.w_cons, EV.b_nil, EV.b_cons, EV.c_eqb, EV.c_neb, EV.c_isN, EV.c_notN, EV.isNn, EV.hasTy, Nat.reduceBEq, Int.reduceLE, Int.reduceLT, Int.reduceToNat, Int.reduceNeg, Int.cast_ofNat_Int, Int.natCast_zero, Int.natCast_one, List.nodup_cons, List.mem_cons, List.not_mem_nil, or_false, or_self, Nat.reduceEqDiff, Nat.succ_ne_self, ne_eq, not_true_eq_false, not_false_eq_true, Bool.or_self, decide_true, decide_false, reduceCtorEq, cfp, cff, e, at_]
  exact ret_own
/-! ### alike -/
theorem fm_none {α β : Type} {l : List α} : l.filterMap (fun _ => (none : Option β)) = [] := by induction l with | nil => rfl | cons a l ih => exact ih
theorem ceq0 : cmpop .eq (.olst []) (.olst []) = some (.d (.bool true)) := by kernel_rfl
abbrev alF (d : Nat) : List Fm := [S, S, m_law_alike d]
theorem alike_s {d : Nat} {svs : List SV} : m_law_alike (d + 1) svs = runF (cfK [] (alF d)) 2 3 b_law_alike svs := rfl
theorem c_selfe {x : PyData} (h1 : x.depth ≤ 60) (h2 : PyData.eqv x x = true) : cmpop .eq (.d x) (.d x) = some (.d (.bool true)) := by rw [c_eq, eqD_l h1, h2] <;> rfl
theorem hr_len {n : Nat} (hl : n ≤ 1000) : rangeD 0 (n : Int) = some ((List.range n).map fun k => .int (0 + (k : Nat))) := by
  rw [range_ok (by decide) (by decide) (by omega) (by omega) (by omega), Int.sub_zero, Int.toNat_natCast]
theorem al_none {d : Nat} : m_law_alike (d + 1) [.d .none, .d .none] = .ok (.d (.bool true)) [.d .none, .d .none] := by kernel_rfl
theorem al_int {d : Nat} {i : Int} : m_law_alike (d + 1) [iD i, iD i] = .ok (.d (.bool true)) [iD i, iD i] := by
  rw [alike_s]
  refine ((run_data [iD i, iD i] (by simp [SV.isOwn]) rfl).trans ?_)
  simp only [env0, b_law_alike]
  simp -implicitDefEqProofs only [R.bind_ok, R.bind_err, R.bind_stuck, R.lift_some, R.lift_none, EV.varM_d, EV.varM_o, EV.varM_n, EV.getS_0, EV.getS_s, List.set_cons_zero, List.set_cons_succ, List.map_cons, List.map_nil, EV.e_none, EV.e_bl, EV.e_int, EV.e_str, EV.e_var, EV.e_gl, EV.e_gfn, EV.e_bin, EV.kBin_, EV.kBin'_, EV.negD_i, EV.kNeg_, EV.e_neg, EV.e_cmp, EV.kCmp_, EV.kCmp'_, EV.e_cmp2, EV.kC1_, EV.kC2_, EV.kC3_t, EV.kC3_f, EV.e_cmpO, EV.kCO_, EV.kCO'_, EV.e_not, EV.kNot_, EV.kNot'_, EV.e_and, EV.e_or, EV.e_ife, EV.kIf_, EV.ifE_t, EV.ifE_f, EV.e_idx, EV.kIdx_, EV.kIdx'_, EV.e_idxO, EV.kIO_, EV.kIO'_, EV.kIO2_, EV.e_slc, EV.kS1_, EV.kS2_, EV.kS3_, EV.kS4_, EV.kS5_, EV.e_efld, EV.e_tup, EV.kTup_, EV.kTup'_, EV.e_lst, EV.kLst_, EV.kLst'_, EV.frzM_o, EV.frzM_d, EV.e_frz, EV.e_lrg, EV.kL1_, EV.kL2_, EV.e_bf, EV.kBf_, EV.e_lenO, EV.kLen_, EV.kIsi_, EV.e_isi, EV.outM_ok, EV.outM_err, EV.e_call, EV.kCall_, EV.kCall'_, EV.e_comp, EV.kComp_, EV.kComp'_, EV.e_itV, EV.e_it1, EV.e_it2, EV.e_itE, EV.e_itO, EV.itoM_, EV.kIt_, EV.kIt'_, EV.l_nil, EV.l_cons, EV.kLc_, EV.kLc'_, EV.a_nil, EV.a_ref, EV.kAr_, EV.kAc_, EV.kAc'_, EV.seqM_n, EV.seqM_r, EV.seqM_e, EV.seqM_s, EV.s_skip, EV.s_seq, EV.s_asg1, EV.kAsg_, EV.s_asgM, EV.kAsgM_, EV.kAsgM2_, EV.s_par, EV.kPar_, EV.s_asgI, EV.kAI_, EV.kAI1_, EV.kAI2_, EV.s_app, EV.appO_, EV.kApp_, EV.s_ext, EV.extO_, EV.kExt_, EV.s_ins, EV.insO_, EV.kIns_, EV.kIns2_, EV.s_ex, EV.kEx_, EV.s_ret, EV.kRet_, EV.s_ifs, EV.kIfS_, EV.ifS_t, EV.ifS_f, EV.s_fors, EV.kFor_, EV.kFor'_, EV.s_raise, EV.kRai_, EV.raiM_, EV.tryM_e, EV.tryM_o, EV.s_tryx, EV.h_nil, EV.h_hnd, EV.hn_f, EV.hn_t, EV.offS_, EV.noExc, EV.Fl.plain, EV.setM_i, EV.appM_i, EV.extM_i, EV.insM_i, EV.tgs, EV.datM_n, EV.datM_r, EV.datM_e, EV.o_add, EV.o_sub, EV.c_lt, EV.c_le, EV.c_gt, EV.c_ge, EV.c_eqi, EV.c_nei, EV.asB_b, EV.allD, Option.map_some, Option.map_none, Option.bind_some, Option.bind_none, EV.refsOf, EV.resolve, EV.SV.isOwn, EV.SV.plain, Bool.not_true, Bool.not_false, Bool.or_false, Bool.false_or, Bool.false_eq_true, ↓reduceIte, EV.putOuts, List.nodup_nil, EV.setAll, List.length_cons, List.length_nil, List.getElem?_cons_zero, List.getElem?_cons_succ, List.cons_append, List.nil_append, List.append_nil, eq_self, and_self, true_and, and_true, EV.atI_lit, List.replicate_succ, List.replicate_zero, Nat.reduceAdd, Nat.reduceSub, Nat.sub_self, List.any_cons, List.any_nil, List.contains_cons, List.contains_nil, true_or, or_true, EV.ac_none, EV.ac_bl, EV.ac_int, EV.ac_str, EV.ac_var, EV.ac_gl, EV.ac_gfn, EV.ac_bin, EV.ac_neg, EV.ac_cmp, EV.ac_cmp2, EV.ac_cmpO, EV.ac_not, EV.ac_and, EV.ac_or, EV.ac_ife, EV.ac_idx, EV.ac_idxO, EV.ac_slc, EV.ac_fld, EV.ac_efld, EV.ac_tup, EV.ac_lst, EV.ac_frz, EV.ac_lrg, EV.ac_bf, EV.ac_lenO, EV.ac_isi, EV.ac_call, EV.ac_comp, EV.isN_none, EV.isN_int, EV.isN_var, EV.isN_bin, EV.isN_neg, EV.isN_idxO, EV.isN_idx, EV.isN_call, EV.isN_lenO, EV.bound_n, EV.bound_i, EV.i_t, EV.i_l, EV.i_o, EV.n_t, EV.n_l, EV.n_o, EV.bf_len, EV.bf_int, EV.bf_abs, EV.bf_tupL, EV.bf_tupT, EV.bf_tupO, EV.bf_lstL, EV.bf_lstT, EV.bf_lstO, EV.bf_max2, EV.bf_min2, EV.bf_max1, EV.bf_min1, EV.bf_all, EV.bf_any, EV.bf_repr, EV.t_one, EV.t_many, EV.t_nil, EV.t_cons, EV.it_l, EV.it_t, EV.it_r1, EV.it_r2, EV.it_el, EV.it_et, EV.w_nil, EV.w_cons, EV.b_nil, EV.b_cons, EV.c_eqb, EV.c_neb, EV.c_isN, EV.c_notN, EV.isNn, EV.hasTy, Nat.reduceBEq, Int.reduceLE, Int.reduceLT, Int.reduceToNat, Int.reduceNeg, Int.cast_ofNat_Int, Int.natCast_zero, Int.natCast_one, List.nodup_cons, List.mem_cons, List.not_mem_nil, or_false, or_self, Nat.reduceEqDiff, Nat.succ_ne_self, ne_eq, not_true_eq_false, not_false_eq_true, Bool.or_self, decide_true, decide_false, reduceCtorEq, cfp, cff]
theorem al_bool {d : Nat} {b : Bool} : m_law_alike (d + 1) [.d (.bool b), .d (.bool b)] = .ok (.d (.bool true)) [.d (.bool b), .d (.bool b)] := by
  rw [alike_s]
  refine ((run_data [.d (.bool b), .d (.bool b)] (by simp [SV.isOwn]) rfl).trans ?_)
  simp only [env0, b_law_alike]
  simp -implicitDefEqProofs only [R.bind_ok, R.bind_err, R.bind_stuck, R.lift_some, R.lift_none, EV.varM_d, EV.varM_o, EV.varM_n, EV.getS_0, EV.getS_s, List.set_cons_zero, List.set_cons_succ, List.map_cons, List.map_nil, EV.e_none, EV.e_bl, EV.e_int, EV.e_str, EV.e_var, EV.e_gl, EV.e_gfn, EV.e_bin, EV.kBin_, EV.kBin'_, EV.negD_i, EV.kNeg_, EV.e_neg, EV.e_cmp, EV.kCmp_, EV.kCmp'_, EV.e_cmp2, EV.kC1_, EV.kC2_, EV.kC3_t, EV.kC3_f, EV.e_cmpO, EV.kCO_, EV.kCO'_, EV.e_not, EV.kNot_, EV.kNot'_, EV.e_and, EV.e_or, EV.e_ife, EV.kIf_, EV.ifE_t, EV.ifE_f, EV.e_idx, EV.kIdx_, EV.kIdx'_, EV.e_idxO, EV.kIO_, EV.kIO'_, EV.kIO2_, EV.e_slc, EV.kS1_, EV.kS2_, EV.kS3_, EV.kS4_, EV.kS5_, EV.e_efld, EV.e_tup, EV.kTup_, EV.kTup'_, EV.e_lst, EV.kLst_, EV.kLst'_, EV.frzM_o, EV.frzM_d, EV.e_frz, EV.e_lrg, EV.kL1_, EV.kL2_, EV.e_bf, EV.kBf_, EV.e_lenO, EV.kLen_, EV.kIsi_, EV.e_isi, EV.outM_ok, EV.outM_err, EV.e_call, EV.kCall_, EV.kCall'_, EV.e_comp, EV.kComp_, EV.kComp'_, EV.e_itV, EV.e_it1, EV.e_it2, EV.e_itE, EV.e_itO, EV.itoM_, EV.kIt_, EV.kIt'_, EV.l_nil, EV.l_cons, EV.kLc_, EV.kLc'_, EV.a_nil, EV.a_ref, EV.kAr_, EV.kAc_, EV.kAc'_, EV.seqM_n, EV.seqM_r, EV.seqM_e, EV.seqM_s, EV.s_skip, EV.s_seq, EV.s_asg1, EV.kAsg_, EV.s_asgM, EV.kAsgM_, EV.kAsgM2_, EV.s_par, EV.kPar_, EV.s_asgI, EV.kAI_, EV.kAI1_, EV.kAI2_, EV.s_app, EV.appO_, EV.kApp_, EV.s_ext, EV.extO_, EV.kExt_, EV.s_ins, EV.insO_, EV.kIns_, EV.kIns2_, EV.s_ex, EV.kEx_, EV.s_ret, EV.kRet_, EV.s_ifs, EV.kIfS_, EV.ifS_t, EV.ifS_f, EV.s_fors, EV.kFor_, EV.kFor'_, EV.s_raise, EV.kRai_, EV.raiM_, EV.tryM_e, EV.tryM_o, EV.s_tryx, EV.h_nil, EV.h_hnd, EV.hn_f, EV.hn_t, EV.offS_, EV.noExc, EV.Fl.plain, EV.setM_i, EV.appM_i, EV.extM_i, EV.insM_i, EV.tgs, EV.datM_n, EV.datM_r, EV.datM_e, EV.o_add, EV.o_sub, EV.c_lt, EV.c_le, EV.c_gt, EV.c_ge, EV.c_eqi, EV.c_nei, EV.asB_b, EV.allD, Option.map_some, Option.map_none, Option.bind_some, Option.bind_none, EV.refsOf, EV.resolve, EV.SV.isOwn, EV.SV.plain, Bool.not_true, Bool.not_false, Bool.or_false, Bool.false_or, Bool.false_eq_true, ↓reduceIte, EV.putOuts, List.nodup_nil, EV.setAll, List.length_cons, List.length_nil, List.getElem?_cons_zero, List.getElem?_cons_succ, List.cons_append, List.nil_append, List.append_nil, eq_self, and_self, true_and, and_true, EV.atI_lit, List.replicate_succ, List.replicate_zero, Nat.reduceAdd, Nat.reduceSub, Nat.sub_self, List.any_cons, List.any_nil, List.contains_cons, List.contains_nil, true_or, or_true, EV.ac_none, EV.ac_bl, EV.ac_int, EV.ac_str, EV.ac_var, EV.ac_gl, EV.ac_gfn, EV.ac_bin, EV.ac_neg, EV.ac_cmp, EV.ac_cmp2, EV.ac_cmpO, EV.ac_not, EV.ac_and, EV.ac_or, EV.ac_ife, EV.ac_idx, EV.ac_idxO, EV.ac_slc, EV.ac_fld, EV.ac_efld, EV.ac_tup, EV.ac_lst, EV.ac_frz, EV.ac_lrg, EV.ac_bf, EV.ac_lenO, EV.ac_isi, EV.ac_call, EV.ac_comp, EV.isN_none, EV.isN_int, EV.isN_var, EV.isN_bin, EV.isN_neg, EV.isN_idxO, EV.isN_idx, EV.isN_call, EV.isN_lenO, EV.bound_n, EV.bound_i, EV.i_t, EV.i_l, EV.i_o, EV.n_t, EV.n_l, EV.n_o, EV.bf_len, EV.bf_int, EV.bf_abs, EV.bf_tupL, EV.bf_tupT, EV.bf_tupO, EV.bf_lstL, EV.bf_lstT, EV.bf_lstO, EV.bf_max2, EV.bf_min2, EV.bf_max1, EV.bf_min1, EV.bf_all, EV.bf_any, EV.bf_repr, EV.t_one, EV.t_many, EV.t_nil, EV.t_cons, EV.it_l, EV.it_t, EV.it_r1, EV.it_r2, EV.it_el, EV.it_et, EV.w_nil, EV.w_cons, EV.b_nil, EV.b_cons, EV.c_eqb, EV.c_neb, EV.c_isN, EV.c_notN, EV.isNn, EV.hasTy, Nat.reduceBEq, Int.reduceLE, Int.reduceLT, Int.reduceToNat, Int.reduceNeg, Int.cast_ofNat_Int, Int.natCast_zero, Int.natCast_one, List.nodup_cons, List.mem_cons, List.not_mem_nil, or_false, or_self, Nat.reduceEqDiff, Nat.succ_ne_self, ne_eq, not_true_eq_false, not_false_eq_true, Bool.or_self, decide_true, decide_false, reduceCtorEq, cfp, cff]
theorem al_str {d : Nat} {z : Str} : m_law_alike (d + 1) [.d (.str z), .d (.str z)] = .ok (.d (.bool true)) [.d (.str z), .d (.str z)] := by
  rw [alike_s]
  refine ((run_data [.d (.str z), .d (.str z)] (by simp [SV.isOwn]) rfl).trans ?_)
  simp only [env0, b_law_alike]
  simp -implicitDefEqProofs only [R.bind_ok, R.bind_err, R.bind_stuck, R.lift_some, R.lift_none, EV.varM_d, EV.varM_o, EV.varM_n, EV.getS_0, EV.getS_s, List.set_cons_zero, List.set_cons_succ, List.map_cons, List.map_nil, EV.e_none, EV.e_bl, EV.e_int, EV.e_str, EV.e_var, EV.e_gl, EV.e_gfn, EV.e_bin, EV.kBin_, EV.kBin'_, EV.negD_i, EV.kNeg_, EV.e_neg, EV.e_cmp, EV.kCmp_, EV.kCmp'_, EV.e_cmp2, EV.kC1_, EV.kC2_, EV.kC3_t, EV.kC3_f, EV.e_cmpO, EV.kCO_, EV.kCO'_, EV.e_not, EV.kNot_, EV.kNot'_, EV.e_and, EV.e_or, EV.e_ife, EV.kIf_, EV.ifE_t, EV.ifE_f, EV.e_idx, EV.kIdx_, EV.kIdx'_, EV.e_idxO, EV.kIO_, EV.kIO'_, EV.kIO2_, EV.e_slc, EV.kS1_, EV.kS2_, EV.kS3_, EV.kS4_, EV.kS5_, EV.e_efld, EV.e_tup, EV.kTup_, EV.kTup'_, EV.e_lst, EV.kLst_, EV.kLst'_, EV.frzM_o, EV.frzM_d, EV.e_frz, EV.e_lrg, EV.kL1_, EV.kL2_, EV.e_bf, EV.kBf_, EV.e_lenO, EV.kLen_, EV.kIsi_, EV.e_isi, EV.outM_ok, EV.outM_err, EV.e_call, EV.kCall_, EV.kCall'_, EV.e_comp, EV.kComp_, EV.kComp'_, EV.e_itV, EV.e_it1, EV.e_it2, EV.e_itE, EV.e_itO, EV.itoM_, EV.kIt_, EV.kIt'_, EV.l_nil, EV.l_cons, EV.kLc_, EV.kLc'_, EV.a_nil, EV.a_ref, EV.kAr_, EV.kAc_, EV.kAc'_, EV.seqM_n, EV.seqM_r, EV.seqM_e, EV.seqM_s, EV.s_skip, EV.s_seq, EV.s_asg1, EV.kAsg_, EV.s_asgM, EV.kAsgM_, EV.kAsgM2_, EV.s_par, EV.kPar_, EV.s_asgI, EV.kAI_, EV.kAI1_, EV.kAI2_, EV.s_app, EV.appO_, EV.kApp_, EV.s_ext, EV.extO_, EV.kExt_, EV.s_ins, EV.insO_, EV.kIns_, EV.kIns2_, EV.s_ex, EV.kEx_, EV.s_ret, EV.kRet_, EV.s_ifs, EV.kIfS_, EV.ifS_t, EV.ifS_f, EV.s_fors, EV.kFor_, EV.kFor'_, EV.s_raise, EV.kRai_, EV.raiM_, EV.tryM_e, EV.tryM_o, EV.s_tryx, EV.h_nil, EV.h_hnd, EV.hn_f, EV.hn_t, EV.offS_, EV.noExc, EV.Fl.plain, EV.setM_i, EV.appM_i, EV.extM_i, EV.insM_i, EV.tgs, EV.datM_n, EV.datM_r, EV.datM_e, EV.o_add, EV.o_sub, EV.c_lt, EV.c_le, EV.c_gt, EV.c_ge, EV.c_eqi, EV.c_nei, EV.asB_b, EV.allD, Option.map_some, Option.map_none, Option.bind_some, Option.bind_none, EV.refsOf, EV.resolve, EV.SV.isOwn, EV.SV.plain, Bool.not_true, Bool.not_false, Bool.or_false, Bool.false_or, Bool.false_eq_true, ↓reduceIte, EV.putOuts, List.nodup_nil, EV.setAll, List.length_cons, List.length_nil, List.getElem?_cons_zero, List.getElem?_cons_succ, List.cons_append, List.nil_append, List.append_nil, eq_self, and_self, true_and, and_true, EV.atI_lit, List.replicate_succ, List.replicate_zero, Nat.reduceAdd, Nat.reduceSub, Nat.sub_self, List.any_cons, List.any_nil, List.contains_cons, List.contains_nil, true_or, or_true, EV.ac_none, EV.ac_bl, EV.ac_int, EV.ac_str, EV.ac_var, EV.ac_gl, EV.ac_gfn, EV.ac_bin, EV.ac_neg, EV.ac_cmp, EV.ac_cmp2, EV.ac_cmpO, EV.ac_not, EV.ac_and, EV.ac_or, EV.ac_ife, EV.ac_idx, EV.ac_idxO, EV.ac_slc, EV.ac_fld, EV.ac_efld, EV.ac_tup, EV.ac_lst, EV.ac_frz, EV.ac_lrg, EV.ac_bf, EV.ac_lenO, EV.ac_isi, EV.ac_call, EV.ac_comp, EV.isN_none, EV.isN_int, EV.isN_var, EV.isN_bin, EV.isN_neg, EV.isN_idxO, EV.isN_idx, EV.isN_call, EV.isN_lenO, EV.bound_n, EV.bound_i, EV.i_t, EV.i_l, EV.i_o, EV.n_t, EV.n_l, EV.n_o, EV.bf_len, EV.bf_int, EV.bf_abs, EV.bf_tupL, EV.bf_tupT, EV.bf_tupO, EV.bf_lstL, EV.bf_lstT, EV.bf_lstO, EV.bf_max2, EV.bf_min2, EV.bf_max1, EV.bf_min1, EV.bf_all, EV.bf_any, EV.bf_repr, EV.t_one, EV.t_many, EV.t_nil, EV.t_cons, EV.it_l, EV.it_t, EV.it_r1, EV.it_r2, EV.it_el, EV.it_et, EV.w_nil, EV.w_cons, EV.b_nil, EV.b_cons, EV.c_eqb, EV.c_neb, EV.c_isN, EV.c_notN, EV.isNn, EV.hasTy, Nat.reduceBEq, Int.reduceLE, Int.reduceLT, Int.reduceToNat, Int.reduceNeg, Int.cast_ofNat_Int, Int.natCast_zero, Int.natCast_one, List.nodup_cons, List.mem_cons, List.not_mem_nil, or_false, or_self, Nat.reduceEqDiff, Nat.succ_ne_self, ne_eq, not_true_eq_false, not_false_eq_true, Bool.or_self, decide_true, decide_false, reduceCtorEq, cfp, cff, c_selfe (x := .str z) (by simp [PyData.depth]) (by simp [PyData.eqv])]
theorem al_ctup {d : Nat} {xs : List PyData} (h : ∀ x ∈ xs, m_law_alike d [.d x, .d x] = .ok (.d (.bool true)) [.d x, .d x]) : compM (stepC (cfK [] (alF d)) [2] (.one 2) (.not (.call 2 (.cons (.idxO 0 (.var 2)) (.cons (.idxO 1 (.var 2)) .nil)))) (.var 2))
    ((List.range xs.length).map fun k => .int (0 + (k : Nat))) [some (.d (.tuple xs)), some (.d (.tuple xs)), none] = .ok [] [some (.d (.tuple xs)), some (.d (.tuple xs)), none] := by
  refine (comp_all (g := fun _ => none) fun x hx => ?_).trans (by rw [fm_none])
  obtain ⟨k, hk, rfl⟩ := List.mem_map.mp hx
  have hk := List.mem_range.mp hk
  have at_ : L2.atI xs (0 + (k : Nat)) = some xs[k] := by
    rw [Int.zero_add, EV.atI_nat (by omega), Int.toNat_natCast, List.getElem?_eq_getElem hk]
  have hx := h xs[k] (List.getElem_mem hk)
  generalize xs[k] = z at at_ hx
  refine (step_no (ρ1 := [some (.d (.tuple xs)), some (.d (.tuple xs)), some (iD (0 + (k : Nat)))]) (ρ2 := [some (.d (.tuple xs)), some (.d (.tuple xs)), some (iD (0 + (k : Nat)))]) rfl ?_).trans rfl
  simp -implicitDefEqProofs only [R.bind_ok, R.bind_err, R.bind_stuck, R.lift_some, R.lift_none, EV.varM_d, EV.varM_o, EV.varM_n, EV.getS_0, EV.getS_s, List.set_cons_zero, List.set_cons_succ, List.map_cons, List.map_nil, EV.e_none, EV.e_bl, EV.e_int, EV.e_str, EV.e_var, EV.e_gl, EV.e_gfn, EV.e_bin, EV.kBin_, EV.kBin'_, EV.negD_i, EV.kNeg_, EV.e_neg, EV.e_cmp, EV.kCmp_, EV.kCmp'_, EV.e_cmp2, EV.kC1_, EV.kC2_, EV.kC3_t, EV.kC3_f, EV.e_cmpO, EV.kCO_, EV.kCO'_, EV.e_not, EV.kNot_, EV.kNot'_, EV.e_and, EV.e_or, EV.e_ife, EV.kIf_, EV.ifE_t, EV.ifE_f, EV.e_idx, EV.kIdx_, EV.kIdx'_, EV.e_idxO, EV.kIO_, EV.kIO'_, EV.kIO2_, EV.e_slc, EV.kS1_, EV.kS2_, EV.kS3_, EV.kS4_, EV.kS5_, EV.e_efld, EV.e_tup, EV.kTup_, EV.kTup'_, EV.e_lst, EV.kLst_, EV.kLst'_, EV.frzM_o, EV.frzM_d, EV.e_frz, EV.e_lrg, EV.kL1_, EV.kL2_, EV.e_bf, EV.kBf_, EV.e_lenO, EV.kLen_, EV.kIsi_, EV.e_isi, EV.outM_ok, EV.outM_err, EV.e_call, EV.kCall_, EV.kCall'_, EV.e_comp, EV.kComp_, EV.kComp'_, EV.e_itV, EV.e_it1, EV.e_it2, EV.e_itE, EV.e_itO, EV.itoM_, EV.kIt_, EV.kIt'_, EV.l_nil, EV.l_cons, EV.kLc_, EV.kLc'_, EV.a_nil, EV.a_ref, EV.kAr_, EV.kAc_, EV.kAc'_, EV.seqM_n, EV.seqM_r, EV.seqM_e, EV.seqM_s, EV.s_skip, EV.s_seq, EV.s_asg1, EV.kAsg_, EV.s_asgM, EV.kAsgM_, EV.kAsgM2_, EV.s_par, EV.kPar_, EV.s_asgI, EV.kAI_, EV.kAI1_, EV.kAI2_, EV.s_app, EV.appO_, EV.kApp_, EV.s_ext, EV.extO_, EV.kExt_, EV.s_ins, EV.insO_, EV.kIns_, EV.kIns2_, EV.s_ex, EV.kEx_, EV.s_ret, EV.kRet_, EV.s_ifs, EV.kIfS_, EV.ifS_t, EV.ifS_f, EV.s_fors, EV.kFor_, EV.kFor'_, EV.s_raise, EV.kRai_, EV.raiM_, EV.tryM_e, EV.tryM_o, EV.s_tryx, EV.h_nil, EV.h_hnd, EV.hn_f, EV.hn_t, EV.offS_, EV.noExc, EV.Fl.plain, EV.setM_i, EV.appM_i, EV.extM_i, EV.insM_i, EV.tgs, EV.datM_n, EV.datM_r, EV.datM_e, EV.o_add, EV.o_sub, EV.c_lt, EV.c_le, EV.c_gt, EV.c_ge, EV.c_eqi, EV.c_nei, EV.asB_b, EV.allD, Option.map_some, Option.map_none, Option.bind_some, Option.bind_none, EV.refsOf, EV.resolve, EV.SV.isOwn, EV.SV.plain, Bool.not_true, Bool.not_false, Bool.or_false, Bool.false_or, Bool.false_eq_true, ↓reduceIte, EV.putOuts, List.nodup_nil, EV.setAll, List.length_cons, List.length_nil, List.getElem?_cons_zero, List.getElem?_cons_succ, List.cons_append, List.nil_append, List.append_nil, eq_self, and_self, true_and, and_true, EV.atI_lit, List.replicate_succ, List.replicate_zero, Nat.reduceAdd, Nat.reduceSub, Nat.sub_self, List.any_cons, List.any_nil, List.contains_cons, List.contains_nil, true_or, or_true, EV.ac_none, EV.ac_bl, EV.ac_int, EV.ac_str, EV.ac_var, EV.ac_gl, EV.ac_gfn, EV.ac_bin, EV.ac_neg, EV.ac_cmp, EV.ac_cmp2, EV.ac_cmpO, EV.ac_not, EV.ac_and, EV.ac_or, EV.ac_ife, EV.ac_idx, EV.ac_idxO, EV.ac_slc, EV.ac_fld, EV.ac_efld, EV.ac_tup, EV.ac_lst, EV.ac_frz, EV.ac_lrg, EV.ac_bf, EV.ac_lenO, EV.ac_isi, EV.ac_call, EV.ac_comp, EV.isN_none, EV.isN_int, EV.isN_var, EV.isN_bin, EV.isN_neg, EV.isN_idxO, EV.isN_idx, EV.isN_call, EV.isN_lenO, EV.bound_n, EV.bound_i, EV.i_t, EV.i_l, EV.i_o, EV.n_t, EV.n_l, EV.n_o, EV.bf_len, EV.bf_int, EV.bf_abs, EV.bf_tupL, EV.bf_tupT, EV.bf_tupO, EV.bf_lstL, EV.bf_lstT, EV.bf_lstO, EV.bf_max2, EV.bf_min2, EV.bf_max1, EV.bf_min1, EV.bf_all, EV.bf_any, EV.bf_repr, EV.t_one, EV.t_many, EV.t_nil, EV.t_cons, EV.it_l, EV.it_t, EV.it_r1, EV.it_r2, EV.it_el, EV.it_et, EV.w_nil, EV.w_cons, EV.b_nil, EV.b_cons, EV.c_eqb, EV.c_neb, EV.c_isN, EV.c_notN, EV.isNn, EV.hasTy, Nat.reduceBEq, Int.reduceLE, Int.reduceLT, Int.reduceToNat, Int.reduceNeg, Int.cast_ofNat_Int, Int.natCast_zero, Int.natCast_one, List.nodup_cons, List.mem_cons, List.not_mem_nil, or_false, or_self, Nat.reduceEqDiff, Nat.succ_ne_self, ne_eq, not_true_eq_false, not_false_eq_true, Bool.or_self, decide_true, decide_false, reduceCtorEq, cfp, cff, at_, hx]
theorem al_tup {d : Nat} {xs : List PyData} (h : ∀ x ∈ xs, m_law_alike d [.d x, .d x] = .ok (.d (.bool true)) [.d x, .d x]) (hl : xs.length ≤ 1000) : m_law_alike (d + 1) [.d (.tuple xs), .d (.tuple xs)] = .ok (.d (.bool true)) [.d (.tuple xs), .d (.tuple xs)] := by
  rw [alike_s]
  refine ((run_data [.d (.tuple xs), .d (.tuple xs)] (by simp [SV.isOwn]) rfl).trans ?_)
  simp only [env0, b_law_alike]
  simp -implicitDefEqProofs only [R.bind_ok, R.bind_err, R.bind_stuck, R.lift_some, R.lift_none, EV.varM_d, EV.varM_o, EV.varM_n, EV.getS_0, EV.getS_s, List.set_cons_zero, List.set_cons_succ, List.map_cons, List.map_nil, EV.e_none, EV.e_bl, EV.e_int, EV.e_str, EV.e_var, EV.e_gl, EV.e_gfn, EV.e_bin, EV.kBin_, EV.kBin'_, EV.negD_i, EV.kNeg_, EV.e_neg, EV.e_cmp, EV.kCmp_, EV.kCmp'_, EV.e_cmp2, EV.kC1_, EV.kC2_, EV.kC3_t, EV.kC3_f, EV.e_cmpO, EV.kCO_, EV.kCO'_, EV.e_not, EV.kNot_, EV.kNot'_, EV.e_and, EV.e_or, EV.e_ife, EV.kIf_, EV.ifE_t, EV.ifE_f, EV.e_idx, EV.kIdx_, EV.kIdx'_, EV.e_idxO, EV.kIO_, EV.kIO'_, EV.kIO2_, EV.e_slc, EV.kS1_, EV.kS2_, EV.kS3_, EV.kS4_, EV.kS5_, EV.e_efld, EV.e_tup, EV.kTup_, EV.kTup'_, EV.e_lst, EV.kLst_, EV.kLst'_, EV.frzM_o, EV.frzM_d, EV.e_frz, EV.e_lrg, EV.kL1_, EV.kL2_, EV.e_bf, EV.kBf_, EV.e_lenO, EV.kLen_, EV.kIsi_, EV.e_isi, EV.outM_ok, EV.outM_err, EV.e_call, EV.kCall_, EV.kCall'_, EV.e_comp, EV.kComp_, EV.kComp'_, EV.e_itV, EV.e_it1, EV.e_it2, EV.e_itE, EV.e_itO, EV.itoM_, EV.kIt_, EV.kIt'_, EV.l_nil, EV.l_cons, EV.kLc_, EV.kLc'_, EV.a_nil, EV.a_ref, EV.kAr_, EV.kAc_, EV.kAc'_, EV.seqM_n, EV.seqM_r, EV.seqM_e, EV.seqM_s, EV.s_skip, EV.s_seq, EV.s_asg1, EV.kAsg_, EV.s_asgM, EV.kAsgM_, EV.kAsgM2_, EV.s_par, EV.kPar_, EV.s_asgI, EV.kAI_, EV.kAI1_, EV.kAI2_, EV.s_app, EV.appO_, EV.kApp_, EV.s_ext, EV.extO_, EV.kExt_, EV.s_ins, EV.insO_, EV.kIns_, EV.kIns2_, EV.s_ex, EV.kEx_, EV.s_ret, EV.kRet_, EV.s_ifs, EV.kIfS_, EV.ifS_t, EV.ifS_f, EV.s_fors, EV.kFor_, EV.kFor'_, EV.s_raise, EV.kRai_, EV.raiM_, EV.tryM_e, EV.tryM_o, EV.s_tryx, EV.h_nil, EV.h_hnd, EV.hn_f, EV.hn_t, EV.offS_, EV.noExc, EV.Fl.plain, EV.setM_i, EV.appM_i, EV.extM_i, EV.insM_i, EV.tgs, EV.datM_n, EV.datM_r, EV.datM_e, EV.o_add, EV.o_sub, EV.c_lt, EV.c_le, EV.c_gt, EV.c_ge, EV.c_eqi, EV.c_nei, EV.asB_b, EV.allD, Option.map_some, Option.map_none, Option.bind_some, Option.bind_none, EV.refsOf, EV.resolve, EV.SV.isOwn, EV.SV.plain, Bool.not_true, Bool.not_false, Bool.or_false, Bool.false_or, Bool.false_eq_true, ↓reduceIte, EV.putOuts, List.nodup_nil, EV.setAll, List.length_cons, List.length_nil, List.getElem?_cons_zero, List.getElem?_cons_succ, List.cons_append, List.nil_append, List.append_nil, eq_self, and_self, true_and, and_true, EV.atI_lit, List.replicate_succ, List.replicate_zero, Nat.reduceAdd, Nat.reduceSub, Nat.sub_self, List.any_cons, List.any_nil, List.contains_cons, List.contains_nil, true_or, or_true, EV.ac_none, EV.ac_bl, EV.ac_int, EV.ac_str, EV.ac_var, EV.ac_gl, EV.ac_gfn, EV.ac_bin, EV.ac_neg, EV.ac_cmp, EV.ac_cmp2, EV.ac_cmpO, EV.ac_not, EV.ac_and, EV.ac_or, EV.ac_ife, EV.ac_idx, EV.ac_idxO, EV.ac_slc, EV.ac_fld, EV.ac_efld, EV.ac_tup, EV.ac_lst, EV.ac_frz, EV.ac_lrg, EV.ac_bf, EV.ac_lenO, EV.ac_isi, EV.ac_call, EV.ac_comp, EV.isN_none, EV.isN_int, EV.isN_var, EV.isN_bin, EV.isN_neg, EV.isN_idxO, EV.isN_idx, EV.isN_call, EV.isN_lenO, EV.bound_n, EV.bound_i, EV.i_t, EV.i_l, EV.i_o, EV.n_t, EV.n_l, EV.n_o, EV.bf_len, EV.bf_int, EV.bf_abs, EV.bf_tupL, EV.bf_tupT, EV.bf_tupO, EV.bf_lstL, EV.bf_lstT, EV.bf_lstO, EV.bf_max2, EV.bf_min2, EV.bf_max1, EV.bf_min1, EV.bf_all, EV.bf_any, EV.bf_repr, EV.t_one, EV.t_many, EV.t_nil, EV.t_cons, EV.it_l, EV.it_t, EV.it_r1, EV.it_r2, EV.it_el, EV.it_et, EV.w_nil, EV.w_cons, EV.b_nil, EV.b_cons, EV.c_eqb, EV.c_neb, EV.c_isN, EV.c_notN, EV.isNn, EV.hasTy, Nat.reduceBEq, Int.reduceLE, Int.reduceLT, Int.reduceToNat, Int.reduceNeg, Int.cast_ofNat_Int, Int.natCast_zero, Int.natCast_one, List.nodup_cons, List.mem_cons, List.not_mem_nil, or_false, or_self, Nat.reduceEqDiff, Nat.succ_ne_self, ne_eq, not_true_eq_false, not_false_eq_true, Bool.or_self, decide_true, decide_false, reduceCtorEq, cfp, cff, hr_len hl, al_ctup h, ceq0]
theorem al_clst {d : Nat} {xs : List PyData} (h : ∀ x ∈ xs, m_law_alike d [.d x, .d x] = .ok (.d (.bool true)) [.d x, .d x]) : compM (stepC (cfK [] (alF d)) [2] (.one 2) (.not (.call 2 (.cons (.idxO 0 (.var 2)) (.cons (.idxO 1 (.var 2)) .nil)))) (.var 2))
    ((List.range xs.length).map fun k => .int (0 + (k : Nat))) [some (.d (.list xs)), some (.d (.list xs)), none] = .ok [] [some (.d (.list xs)), some (.d (.list xs)), none] := by
  refine (comp_all (g := fun _ => none) fun x hx => ?_).trans (by rw [fm_none])
  obtain ⟨k, hk, rfl⟩ := List.mem_map.mp hx
  have hk := List.mem_range.mp hk
  have at_ : L2.atI xs (0 + (k : Nat)) = some xs[k] := by
    rw [Int.zero_add, EV.atI_nat (by omega), Int.toNat_natCast, List.getElem?_eq_getElem hk]
  have hx := h xs[k] (List.getElem_mem hk)
  generalize xs[k] = z at at_ hx
  refine (step_no (ρ1 := [some (.d (.list xs)), some (.d (.list xs)), some (iD (0 + (k : Nat)))]) (ρ2 := [some (.d (.list xs)), some (.d (.list xs)), some (iD (0 + (k : Nat)))]) rfl ?_).trans rfl
  simp -implicitDefEqProofs only [R.bind_ok, R.bind_err, R.bind_stuck, R.lift_some, R.lift_none, EV.varM_d, EV.varM_o, EV.varM_n, EV.getS_0, EV.getS_s, List.set_cons_zero, List.set_cons_succ, List.map_cons, List.map_nil, EV.e_none, EV.e_bl, EV.e_int, EV.e_str, EV.e_var, EV.e_gl, EV.e_gfn, EV.e_bin, EV.kBin_, EV.kBin'_, EV.negD_i, EV.kNeg_, EV.e_neg, EV.e_cmp, EV.kCmp_, EV.kCmp'_, EV.e_cmp2, EV.kC1_, EV.kC2_, EV.kC3_t, EV.kC3_f, EV.e_cmpO, EV.kCO_, EV.kCO'_, EV.e_not, EV.kNot_, EV.kNot'_, EV.e_and, EV.e_or, EV.e_ife, EV.kIf_, EV.ifE_t, EV.ifE_f, EV.e_idx, EV.kIdx_, EV.kIdx'_, EV.e_idxO, EV.kIO_, EV.kIO'_, EV.kIO2_, EV.e_slc, EV.kS1_, EV.kS2_, EV.kS3_, EV.kS4_, EV.kS5_, EV.e_efld, EV.e_tup, EV.kTup_, EV.kTup'_, EV.e_lst, EV.kLst_, EV.kLst'_, EV.frzM_o, EV.frzM_d, EV.e_frz, EV.e_lrg, EV.kL1_, EV.kL2_, EV.e_bf, EV.kBf_, EV.e_lenO, EV.kLen_, EV.kIsi_, EV.e_isi, EV.outM_ok, EV.outM_err, EV.e_call, EV.kCall_, EV.kCall'_, EV.e_comp, EV.kComp_, EV.kComp'_, EV.e_itV, EV.e_it1, EV.e_it2, EV.e_itE, EV.e_itO, EV.itoM_, EV.kIt_, EV.kIt'_, EV.l_nil, EV.l_cons, EV.kLc_, EV.kLc'_, EV.a_nil, EV.a_ref, EV.kAr_, EV.kAc_, EV.kAc'_, EV.seqM_n, EV.seqM_r, EV.seqM_e, EV.seqM_s, EV.s_skip, EV.s_seq, EV.s_asg1, EV.kAsg_, EV.s_asgM, EV.kAsgM_, EV.kAsgM2_, EV.s_par, EV.kPar_, EV.s_asgI, EV.kAI_, EV.kAI1_, EV.kAI2_, EV.s_app, EV.appO_, EV.kApp_, EV.s_ext, EV.extO_, EV.kExt_, EV.s_ins, EV.insO_, EV.kIns_, EV.kIns2_, EV.s_ex, EV.kEx_, EV.s_ret, EV.kRet_, EV.s_ifs, EV.kIfS_, EV.ifS_t, EV.ifS_f, EV.s_fors, EV.kFor_, EV.kFor'_, EV.s_raise, EV.kRai_, EV.raiM_, EV.tryM_e, EV.tryM_o, EV.s_tryx, EV.h_nil, EV.h_hnd, EV.hn_f, EV.hn_t, EV.offS_, EV.noExc, EV.Fl.plain, EV.setM_i, EV.appM_i, EV.extM_i, EV.insM_i, EV.tgs, EV.datM_n, EV.datM_r, EV.datM_e, EV.o_add, EV.o_sub, EV.c_lt, EV.c_le, EV.c_gt, EV.c_ge, EV.c_eqi, EV.c_nei, EV.asB_b, EV.allD, Option.map_some, Option.map_none, Option.bind_some, Option.bind_none, EV.refsOf, EV.resolve, EV.SV.isOwn, EV.SV.plain, Bool.not_true, Bool.not_false, Bool.or_false, Bool.false_or, Bool.false_eq_true, ↓reduceIte, EV.putOuts, List.nodup_nil, EV.setAll, List.length_cons, List.length_nil, List.getElem?_cons_zero, List.getElem?_cons_succ, List.cons_append, List.nil_append, List.append_nil, eq_self, and_self, true_and, and_true, EV.atI_lit, List.replicate_succ, List.replicate_zero, Nat.reduceAdd, Nat.reduceSub, Nat.sub_self, List.any_cons, List.any_nil, List.contains_cons, List.contains_nil, true_or, or_true, EV.ac_none, EV.ac_bl, EV.ac_int, EV.ac_str, EV.ac_var, EV.ac_gl, EV.ac_gfn, EV.ac_bin, EV.ac_neg, EV.ac_cmp, EV.ac_cmp2, EV.ac_cmpO, EV.ac_not, EV.ac_and, EV.ac_or, EV.ac_ife, EV.ac_idx, EV.ac_idxO, EV.ac_slc, EV.ac_fld, EV.ac_efld, EV.ac_tup, EV.ac_lst, EV.ac_frz, EV.ac_lrg, EV.ac_bf, EV.ac_lenO, EV.ac_isi, EV.ac_call, EV.ac_comp, EV.isN_none, EV.isN_int, EV.isN_var, EV.isN_bin, EV.isN_neg, EV.isN_idxO, EV.isN_idx, EV.isN_call, EV.isN_lenO, EV.bound_n, EV.bound_i, EV.i_t, EV.i_l, EV.i_o, EV.n_t, EV.n_l, EV.n_o, EV.bf_len, EV.bf_int, EV.bf_abs, EV.bf_tupL, EV.bf_tupT, EV.bf_tupO, EV.bf_lstL, EV.bf_lstT, EV.bf_lstO, EV.bf_max2, EV.bf_min2, EV.bf_max1, EV.bf_min1, EV.bf_all, EV.bf_any, EV.bf_repr, EV.t_one, EV.t_many, EV.t_nil, EV.t_cons, EV.it_l, EV.it_t, EV.it_r1, EV.it_r2, EV.it_el, EV.it_et, EV.w_nil, EV.w_cons, EV.b_nil, EV.b_cons, EV.c_eqb, EV.c_neb, EV.c_isN, EV.c_notN, EV.isNn, EV.hasTy, Nat.reduceBEq, Int.reduceLE, Int.reduceLT, Int.reduceToNat, Int.reduceNeg, Int.cast_ofNat_Int, Int.natCast_zero, Int.natCast_one, List.nodup_cons, List.mem_cons, List.not_mem_nil, or_false, or_self, Nat.reduceEqDiff, Nat.succ_ne_self, ne_eq, not_true_eq_false, not_false_eq_true, Bool.or_self, decide_true, decide_false, reduceCtorEq, cfp, cff, at_, hx]
theorem al_lst {d : Nat} {xs : List PyData} (h : ∀ x ∈ xs, m_law_alike d [.d x, .d x] = .ok (.d (.bool true)) [.d x, .d x]) (hl : xs.length ≤ 1000) : m_law_alike (d + 1) [.d (.list xs), .d (.list xs)] = .ok (.d (.bool true)) [.d (.list xs), .d (.list xs)] := by
  rw [alike_s]
  refine ((run_data [.d (.list xs), .d (.list xs)] (by simp [SV.isOwn]) rfl).trans ?_)
  simp only [env0, b_law_alike]
  simp -implicitDefEqProofs only [R.bind_ok, R.bind_err, R.bind_stuck, R.lift_some, R.lift_none, EV.varM_d, EV.varM_o, EV.varM_n, EV.getS_0, EV.getS_s, List.set_cons_zero, List.set_cons_succ, List.map_cons, List.map_nil, EV.e_none, EV.e_bl, EV.e_int, EV.e_str, EV.e_var, EV.e_gl, EV.e_gfn, EV.e_bin, EV.kBin_, EV.kBin'_, EV.negD_i, EV.kNeg_, EV.e_neg, EV.e_cmp, EV.kCmp_, EV.kCmp'_, EV.e_cmp2, EV.kC1_, EV.kC2_, EV.kC3_t, EV.kC3_f, EV.e_cmpO, EV.kCO_, EV.kCO'_, EV.e_not, EV.kNot_, EV.kNot'_, EV.e_and, EV.e_or, EV.e_ife, EV.kIf_, EV.ifE_t, EV.ifE_f, EV.e_idx, EV.kIdx_, EV.kIdx'_, EV.e_idxO, EV.kIO_, EV.kIO'_, EV.kIO2_, EV.e_slc, EV.kS1_, EV.kS2_, EV.kS3_, EV.kS4_, EV.kS5_, EV.e_efld, EV.e_tup, EV.kTup_, EV.kTup'_, EV.e_lst, EV.kLst_, EV.kLst'_, EV.frzM_o, EV.frzM_d, EV.e_frz, EV.e_lrg, EV.kL1_, EV.kL2_, EV.e_bf, EV.kBf_, EV.e_lenO, EV.kLen_, EV.kIsi_, EV.e_isi, EV.outM_ok, EV.outM_err, EV.e_call, EV.kCall_, EV.kCall'_, EV.e_comp, EV.kComp_, EV.kComp'_, EV.e_itV, EV.e_it1, EV.e_it2, EV.e_itE, EV.e_itO, EV.itoM_, EV.kIt_, EV.kIt'_, EV.l_nil, EV.l_cons, EV.kLc_, EV.kLc'_, EV.a_nil, EV.a_ref, EV.kAr_, EV.kAc_, EV.kAc'_, EV.seqM_n, EV.seqM_r, EV.seqM_e, EV.seqM_s, EV.s_skip, EV.s_seq, EV.s_asg1, EV.kAsg_, EV.s_asgM, EV.kAsgM_, EV.kAsgM2_, EV.s_par, EV.kPar_, EV.s_asgI, EV.kAI_, EV.kAI1_, EV.kAI2_, EV.s_app, EV.appO_, EV.kApp_, EV.s_ext, EV.extO_, EV.kExt_, EV.s_ins, EV.insO_, EV.kIns_, EV.kIns2_, EV.s_ex, EV.kEx_, EV.s_ret, EV.kRet_, EV.s_ifs, EV.kIfS_, EV.ifS_t, EV.ifS_f, EV.s_fors, EV.kFor_, EV.kFor'_, EV.s_raise, EV.kRai_, EV.raiM_, EV.tryM_e, EV.tryM_o, EV.s_tryx, EV.h_nil, EV.h_hnd, EV.hn_f, EV.hn_t, EV.offS_, EV.noExc, EV.Fl.plain, EV.setM_i, EV.appM_i, EV.extM_i, EV.insM_i, EV.tgs, EV.datM_n, EV.datM_r, EV.datM_e, EV.o_add, EV.o_sub, EV.c_lt, EV.c_le, EV.c_gt, EV.c_ge, EV.c_eqi, EV.c_nei, EV.asB_b, EV.allD, Option.map_some, Option.map_none, Option.bind_some, Option.bind_none, EV.refsOf, EV.resolve, EV.SV.isOwn, EV.SV.plain, Bool.not_true, Bool.not_false, Bool.or_false, Bool.false_or, Bool.false_eq_true, ↓reduceIte, EV.putOuts, List.nodup_nil, EV.setAll, List.length_cons, List.length_nil, List.getElem?_cons_zero, List.getElem?_cons_succ, List.cons_append, List.nil_append, List.append_nil, eq_self, and_self, true_and, and_true, EV.atI_lit, List.replicate_succ, List.replicate_zero, Nat.reduceAdd, Nat.reduceSub, Nat.sub_self, List.any_cons, List.any_nil, List.contains_cons, List.contains_nil, true_or, or_true, EV.ac_none, EV.ac_bl, EV.ac_int, EV.ac_str, EV.ac_var, EV.ac_gl, EV.ac_gfn, EV.ac_bin, EV.ac_neg, EV.ac_cmp, EV.ac_cmp2, EV.ac_cmpO, EV.ac_not, EV.ac_and, EV.ac_or, EV.ac_ife, EV.ac_idx, EV.ac_idxO, EV.ac_slc, EV.ac_fld, EV.ac_efld, EV.ac_tup, EV.ac_lst, EV.ac_frz, EV.ac_lrg, EV.ac_bf, EV.ac_lenO, EV.ac_isi, EV.ac_call, EV.ac_comp, EV.isN_none, EV.isN_int, EV.isN_var, EV.isN_bin, EV.isN_neg, EV.isN_idxO, EV.isN_idx, EV.isN_call, EV.isN_lenO, EV.bound_n, EV.bound_i, EV.i_t, EV.i_l, EV.i_o, EV.n_t, EV.n_l, EV.n_o, EV.bf_len, EV.bf_int, EV.bf_abs, EV.bf_tupL, EV.bf_tupT, EV.bf_tupO, EV.bf_lstL, EV.bf_lstT, EV.bf_lstO, EV.bf_max2, EV.bf_min2, EV.bf_max1, EV.bf_min1, EV.bf_all, EV.bf_any, EV.bf_repr, EV.t_one, EV.t_many, EV.t_nil, EV.t_cons, EV.it_l, EV.it_t, EV.it_r1, EV.it_r2, EV.it_el, EV.it_et, EV.w_nil, EV.w_cons, EV.b_nil, EV.b_cons, EV.c_eqb, EV.c_neb, EV.c_isN, EV.c_notN, EV.isNn, EV.hasTy, Nat.reduceBEq, Int.reduceLE, Int.reduceLT, Int.reduceToNat, Int.reduceNeg, Int.cast_ofNat_Int, Int.natCast_zero, Int.natCast_one, List.nodup_cons, List.mem_cons, List.not_mem_nil, or_false, or_self, Nat.reduceEqDiff, Nat.succ_ne_self, ne_eq, not_true_eq_false, not_false_eq_true, Bool.or_self, decide_true, decide_false, reduceCtorEq, cfp, cff, hr_len hl, al_clst h, ceq0]
/-- data that alike finds alike with themselves -/
def gd : Nat → PyData → Bool
  | 0, _ => false
  | d + 1, x => match x with
    | .none => true
    | .bool _ => true
    | .int _ => true
    | .str _ => true
    | .tuple xs => xs.all (gd d) && decide (xs.length ≤ 1000)
    | .list xs => xs.all (gd d) && decide (xs.length ≤ 1000)
    | _ => false
theorem al_self : ∀ {d : Nat} {x : PyData}, gd d x = true → m_law_alike d [.d x, .d x] = .ok (.d (.bool true)) [.d x, .d x]
  | 0, _, h => by cases h
  | d + 1, x, h => by
    unfold gd at h
    cases x with
    | none => exact al_none
    | bool b => exact al_bool
    | int i => exact al_int
    | str z => exact al_str
    | tuple xs =>
      simp only [Bool.and_eq_true, decide_eq_true_eq] at h
      exact al_tup (fun x hx => al_self (List.all_eq_true.mp h.1 x hx)) h.2
    | list xs =>
      simp only [Bool.and_eq_true, decide_eq_true_eq] at h
      exact al_lst (fun x hx => al_self (List.all_eq_true.mp h.1 x hx)) h.2
    | dict _ => cases h
end K09

namespace K09
open PySem EV
-- own [2] tg (.one 2) ik .range1 it (.cons (.lenO 1) .nil)
abbrev Pc_law_alike_0 : C := (.not (.call 2 (.cons (.idxO 0 (.var 2)) (.cons (.idxO 1 (.var 2)) .nil))))
abbrev P_law_alike_0 : C := (.var 2)
abbrev F_law_0 : C := (.seq (.asg (.one 4) (.call 1 (.cons (.refv 1) (.cons (.frz (.lst (.cons .none (.cons (.int 7) (.cons (.str "x") (.cons (.tup (.cons (.int 1) (.cons (.int 2) .nil))) (.cons (.bl true) (.cons (.frz (.call 0 (.cons (.refv 1) (.cons (.bin .pow (.int 10) (.int 9)) .nil)))) .nil)))))))) .nil)))) (.seq (.asg (.one 5) (.call 1 (.cons (.refv 1) (.cons (.frz (.lst (.cons (.tup .nil) (.cons (.tup (.cons (.str "a") .nil)) .nil)))) .nil)))) (.seq (.asg (.one 6) (.call 3 (.cons (.var 2) (.cons (.var 4) (.cons (.var 5) .nil))))) (.seq (.ifs (.or (.cmp .isN (.var 6) .none) (.cmp .ne (.idxO 6 (.int 0)) (.comp [8] (.one 8) .range1 (.cons (.int 10) .nil) (.bl true) (.cmpO .eq (.var 8) 2)))) (.seq (.ret (.bl false)) .skip) .skip) (.seq (.asg (.one 7) (.var 4)) (.seq (.ifs (.cmp .eq (.var 2) (.int 8)) (.seq (.asg (.one 7) (.tup (.cons (.var 4) (.cons (.var 5) .nil)))) .skip) .skip) (.seq (.ifs (.and (.cmp .lt (.var 2) (.int 9)) (.or (.cmpO .ne (.idxO 6 (.int 1)) 7) (.cmp .ne (.isi (.idxO 6 (.int 1)) [.bool]) (.isi (.var 7) [.bool])))) (.seq (.ret (.bl false)) .skip) .skip) .skip)))))))
-- own [8] tg (.one 8) ik .range1 it (.cons (.int 10) .nil)
abbrev Pc_law_1 : C := (.bl true)
abbrev P_law_1 : C := (.cmpO .eq (.var 8) 2)
end K09

set_option maxHeartbeats 4000000
namespace K09
open PySem EV L2
abbrev bs (n : Nat) : List PyData := (List.range 10).map fun k => .bool (k == n)
theorem rs0 {v w : PyData} : m_law_raised [iD 0, .d v, .d w] = .ok (.d (.tuple [.list (bs 0), v])) [iD 0, .d v, .d w] := by kernel_rfl
theorem rs1 {v w : PyData} : m_law_raised [iD 1, .d v, .d w] = .ok (.d (.tuple [.list (bs 1), v])) [iD 1, .d v, .d w] := by kernel_rfl
theorem rs2 {v w : PyData} : m_law_raised [iD 2, .d v, .d w] = .ok (.d (.tuple [.list (bs 2), v])) [iD 2, .d v, .d w] := by kernel_rfl
theorem rs3 {v w : PyData} : m_law_raised [iD 3, .d v, .d w] = .ok (.d (.tuple [.list (bs 3), v])) [iD 3, .d v, .d w] := by kernel_rfl
theorem rs4 {v w : PyData} : m_law_raised [iD 4, .d v, .d w] = .ok (.d (.tuple [.list (bs 4), v])) [iD 4, .d v, .d w] := by kernel_rfl
theorem rs5 {v w : PyData} : m_law_raised [iD 5, .d v, .d w] = .ok (.d (.tuple [.list (bs 5), v])) [iD 5, .d v, .d w] := by kernel_rfl
theorem rs6 {v w : PyData} : m_law_raised [iD 6, .d v, .d w] = .ok (.d (.tuple [.list (bs 6), v])) [iD 6, .d v, .d w] := by kernel_rfl
theorem rs7 {v w : PyData} : m_law_raised [iD 7, .d v, .d w] = .ok (.d (.tuple [.list (bs 7), v])) [iD 7, .d v, .d w] := by kernel_rfl
theorem rs8 {v w : PyData} : m_law_raised [iD 8, .d v, .d w] = .ok (.d (.tuple [.list (bs 8), .tuple [v, w]])) [iD 8, .d v, .d w] := by kernel_rfl
theorem rs9 {v w : PyData} : m_law_raised [iD 9, .d v, .d w] = .ok (.d (.tuple [.list (bs 9), .none])) [iD 9, .d v, .d w] := by kernel_rfl
end K09

set_option maxHeartbeats 4000000
namespace K09
open PySem EV L2
abbrev lcf : Cf := cfK [] [m_law_taken, m_law_pick, m_law_alike 5, m_law_raised]
structure LS where
  k : Int
  s : Int
  c : Int
  n : Option PyData
  v : Option PyData
  w : Option PyData
  t : Option PyData
  d : Option PyData
abbrev E (ns : List Int) (x : LS) : EV.Env := [some (.d (.list (ns.map .int))), some (rowOf ns x.k x.s x.c), x.n.map .d, none, x.v.map .d, x.w.map .d, x.t.map .d, x.d.map .d, none]
def kinds (z : Int) : List PyData := [.none, .int 7, .str "x", .tuple [.int 1, .int 2], .bool true, .int z]
def knames : List PyData := [.tuple [], .tuple [.str "a"]]
/-- data that equal themselves -/
theorem self_kind {z : Int} {v : PyData} (h : v ∈ kinds z) : cmpop .ne (.d v) (.d v) = some (.d (.bool false)) := by
  simp only [kinds, List.mem_cons, List.not_mem_nil, or_false] at h
  rcases h with rfl | rfl | rfl | rfl | rfl | rfl
  · kernel_rfl
  · kernel_rfl
  · kernel_rfl
  · kernel_rfl
  · kernel_rfl
  · rw [c_nei]; simp
theorem self_pair {z : Int} {v w : PyData} (h : v ∈ kinds z) (h2 : w ∈ knames) : cmpop .ne (.d (.tuple [v, w])) (.d (.tuple [v, w])) = some (.d (.bool false)) := by
  simp only [kinds, knames, List.mem_cons, List.not_mem_nil, or_false] at h h2
  rcases h2 with rfl | rfl <;> rcases h with rfl | rfl | rfl | rfl | rfl | rfl <;> (rw [c_ne, eqD_l (by simp [PyData.depth, PyData.depthAll])]; simp [PyData.eqv, PyData.eqvAll])
theorem rg10 : rangeD 0 10 = some [.int 0, .int 1, .int 2, .int 3, .int 4, .int 5, .int 6, .int 7, .int 8, .int 9] := by kernel_rfl
theorem cmp10 {n : Nat} (hn : n < 10) {y0 y1 y3 y4 y5 y6 y7 : Option SV} : compM (stepC lcf [8] (.one 8) Pc_law_1 P_law_1) [.int 0, .int 1, .int 2, .int 3, .int 4, .int 5, .int 6, .int 7, .int 8, .int 9] [y0, y1, some (iD n), y3, y4, y5, y6, y7, none] = .ok (bs n) [y0, y1, some (iD n), y3, y4, y5, y6, y7, none] := by
  have : n = 0 ∨ n = 1 ∨ n = 2 ∨ n = 3 ∨ n = 4 ∨ n = 5 ∨ n = 6 ∨ n = 7 ∨ n = 8 ∨ n = 9 := by omega
  rcases this with rfl | rfl | rfl | rfl | rfl | rfl | rfl | rfl | rfl | rfl <;> kernel_rfl
theorem nebs {n : Nat} (hn : n < 10) : cmpop .ne (.d (.list (bs n))) (.olst (bs n)) = some (.d (.bool false)) := by
  have : n = 0 ∨ n = 1 ∨ n = 2 ∨ n = 3 ∨ n = 4 ∨ n = 5 ∨ n = 6 ∨ n = 7 ∨ n = 8 ∨ n = 9 := by omega
  rcases this with rfl | rfl | rfl | rfl | rfl | rfl | rfl | rfl | rfl | rfl <;> kernel_rfl
theorem turn (ns : List Int) (n : Nat) (hn : n < 10) (x : LS) (hk : 0 ≤ x.k) : ∃ y : LS, 0 ≤ y.k ∧ stepF lcf (.one 2) F_law_0 (.int n) (E ns x) = .ok .nx (E ns y) := by
  obtain ⟨z, k1, s1, c1, e1, h1, z0, z1⟩ := s_taken ns x.k x.s x.c (10 ^ 9) hk (by decide) (by decide)
  obtain ⟨v, k2, s2, c2, hv, e2, h2⟩ := s_pick ns k1 s1 c1 (xs := kinds z) h1 (by simp [kinds]) (by simp [kinds])
  obtain ⟨w, k3, s3, c3, hw, e3, h3⟩ := s_pick ns k2 s2 c2 (xs := knames) h2 (by simp [knames]) (by simp [knames])
  have p1 : binop .pow (.d (.int 10)) (.d (.int 9)) = some (.d (.int (10 ^ 9))) := rfl
  have q1 := self_kind hv
  have q2 := self_pair hv hw
  have q3 := @cmp10 n hn
  have q4 := nebs hn
  simp only [kinds] at e2
  simp only [knames] at e3
  have hh : n = 0 ∨ n = 1 ∨ n = 2 ∨ n = 3 ∨ n = 4 ∨ n = 5 ∨ n = 6 ∨ n = 7 ∨ n = 8 ∨ n = 9 := by omega
  obtain ⟨b, hb⟩ : ∃ b, hasTy v .bool = b := ⟨_, rfl⟩
  rw [stepF_1]
  obtain rfl | hh := hh
  ·
    refine ⟨⟨k3, s3, c3, some (.int 0), some v, some w, some (.tuple [.list (bs 0), v]), some (v)⟩, h3, ?_⟩
    simp only [E, F_law_0, Int.natCast_zero, Int.natCast_one, Int.cast_ofNat_Int] at q3 q4 ⊢
    simp -implicitDefEqProofs only [R.bind_ok, R.bind_err, R.bind_stuck, R.lift_some, R.lift_none, EV.varM_d, EV.varM_o, EV.varM_n, EV.getS_0, EV.getS_s, List.set_cons_zero, List.set_cons_succ, List.map_cons, List.map_nil, EV.e_none, EV.e_bl, EV.e_int, EV.e_str, EV.e_var, EV.e_gl, EV.e_gfn, EV.e_bin, EV.kBin_, EV.kBin'_, EV.negD_i, EV.kNeg_, EV.e_neg, EV.e_cmp, EV.kCmp_, EV.kCmp'_, EV.e_cmp2, EV.kC1_, EV.kC2_, EV.kC3_t, EV.kC3_f, EV.e_cmpO, EV.kCO_, EV.kCO'_, EV.e_not, EV.kNot_, EV.kNot'_, EV.e_and, EV.e_or, EV.e_ife, EV.kIf_, EV.ifE_t, EV.ifE_f, EV.e_idx, EV.kIdx_, EV.kIdx'_, EV.e_idxO, EV.kIO_, EV.kIO'_, EV.kIO2_, EV.e_slc, EV.kS1_, EV.kS2_, EV.kS3_, EV.kS4_, EV.kS5_, EV.e_efld, EV.e_tup, EV.kTup_, EV.kTup'_, EV.e_lst, EV.kLst_, EV.kLst'_, EV.frzM_o, EV.frzM_d, EV.e_frz, EV.e_lrg, EV.kL1_, EV.kL2_, EV.e_bf, EV.kBf_, EV.e_lenO, EV.kLen_, EV.kIsi_, EV.e_isi, EV.outM_ok, EV.outM_err, EV.e_call, EV.kCall_, EV.kCall'_, EV.e_comp, EV.kComp_, EV.kComp'_, EV.e_itV, EV.e_it1, EV.e_it2, EV.e_itE, EV.e_itO, EV.itoM_, EV.kIt_, EV.kIt'_, EV.l_nil, EV.l_cons, EV.kLc_, EV.kLc'_, EV.a_nil, EV.a_ref, EV.kAr_, EV.kAc_, EV.kAc'_, EV.seqM_n, EV.seqM_r, EV.seqM_e, EV.seqM_s, EV.s_skip, EV.s_seq, EV.s_asg1, EV.kAsg_, EV.s_asgM, EV.kAsgM_, EV.kAsgM2_, EV.s_par, EV.kPar_, EV.s_asgI, EV.kAI_, EV.kAI1_, EV.kAI2_, EV.s_app, EV.appO_, EV.kApp_, EV.s_ext, EV.extO_, EV.kExt_, EV.s_ins, EV.insO_, EV.kIns_, EV.kIns2_, EV.s_ex, EV.kEx_, EV.s_ret, EV.kRet_, EV.s_ifs, EV.kIfS_, EV.ifS_t, EV.ifS_f, EV.s_fors, EV.kFor_, EV.kFor'_, EV.s_raise, EV.kRai_, EV.raiM_, EV.tryM_e, EV.tryM_o, EV.s_tryx, EV.h_nil, EV.h_hnd, EV.hn_f, EV.hn_t, EV.offS_, EV.noExc, EV.Fl.plain, EV.setM_i, EV.appM_i, EV.extM_i, EV.insM_i, EV.tgs, EV.datM_n, EV.datM_r, EV.datM_e, EV.o_add, EV.o_sub, EV.c_lt, EV.c_le, EV.c_gt, EV.c_ge, EV.c_eqi, EV.c_nei, EV.asB_b, EV.allD, Option.map_some, Option.map_none, Option.bind_some, Option.bind_none, EV.refsOf, EV.resolve, EV.SV.isOwn, EV.SV.plain, Bool.not_true, Bool.not_false, Bool.or_false, Bool.false_or, Bool.false_eq_true, ↓reduceIte, EV.putOuts, List.nodup_nil, EV.setAll, List.length_cons, List.length_nil, List.getElem?_cons_zero, List.getElem?_cons_succ, List.cons_append, List.nil_append, List.append_nil, eq_self, and_self, true_and, and_true, EV.atI_lit, List.replicate_succ, List.replicate_zero, Nat.reduceAdd, Nat.reduceSub, Nat.sub_self, List.any_cons, List.any_nil, List.contains_cons, List.contains_nil, true_or, or_true, EV.ac_none, EV.ac_bl, EV.ac_int, EV.ac_str, EV.ac_var, EV.ac_gl, EV.ac_gfn, EV.ac_bin, EV.ac_neg, EV.ac_cmp, EV.ac_cmp2, EV.ac_cmpO, EV.ac_not, EV.ac_and, EV.ac_or, EV.ac_ife, EV.ac_idx, EV.ac_idxO, EV.ac_slc, EV.ac_fld, EV.ac_efld, EV.ac_tup, EV.ac_lst, EV.ac_frz, EV.ac_lrg, EV.ac_bf, EV.ac_lenO, EV.ac_isi, EV.ac_call, EV.ac_comp, EV.isN_none, EV.isN_int, EV.isN_var, EV.isN_bin, EV.isN_neg, EV.isN_idxO, EV.isN_idx, EV.isN_call, EV.isN_lenO, EV.bound_n, EV.bound_i, EV.i_t, EV.i_l, EV.i_o, EV.n_t, EV.n_l, EV.n_o, EV.bf_len, EV.bf_int, EV.bf_abs, EV.bf_tupL, EV.bf_tupT, EV.bf_tupO, EV.bf_lstL, EV.bf_lstT, EV.bf_lstO, EV.bf_max2, EV.bf_min2, EV.bf_max1, EV.bf_min1, EV.bf_all, EV.bf_any, EV.bf_repr, EV.t_one, EV.t_many, EV.t_nil, EV.t_cons, EV.it_l, EV.it_t, EV.it_r1, EV.it_r2, EV.it_el, EV.it_et, EV.w_nil, EV.w_cons, EV.b_nil, EV.b_cons, EV.c_eqb, EV.c_neb, EV.c_isN, EV.c_notN, EV.isNn, EV.hasTy, Nat.reduceBEq, Int.reduceLE, Int.reduceLT, Int.reduceToNat, Int.reduceNeg, Int.cast_ofNat_Int, Int.natCast_zero, Int.natCast_one, List.nodup_cons, List.mem_cons, List.not_mem_nil, or_false, or_self, Nat.reduceEqDiff, Nat.succ_ne_self, ne_eq, not_true_eq_false, not_false_eq_true, Bool.or_self, decide_true, decide_false, reduceCtorEq, cfp, cff, p1, e1, e2, e3, rs0, rg10, q3, q4, q1, q2, kComp'_, Option.map_some, Int.reduceEq, Int.reduceLT, hb]
  obtain rfl | hh := hh
  ·
    refine ⟨⟨k3, s3, c3, some (.int 1), some v, some w, some (.tuple [.list (bs 1), v]), some (v)⟩, h3, ?_⟩
    simp only [E, F_law_0, Int.natCast_zero, Int.natCast_one, Int.cast_ofNat_Int] at q3 q4 ⊢
    simp -implicitDefEqProofs only [R.bind_ok, R.bind_err, R.bind_stuck, R.lift_some, R.lift_none, EV.varM_d, EV.varM_o, EV.varM_n, EV.getS_0, EV.getS_s, List.set_cons_zero, List.set_cons_succ, List.map_cons, List.map_nil, EV.e_none, EV.e_bl, EV.e_int, EV.e_str, EV.e_var, EV.e_gl, EV.e_gfn, EV.e_bin, EV.kBin_, EV.kBin'_, EV.negD_i, EV.kNeg_, EV.e_neg, EV.e_cmp, EV.kCmp_, EV.kCmp'_, EV.e_cmp2, EV.kC1_, EV.kC2_, EV.kC3_t, EV.kC3_f, EV.e_cmpO, EV.kCO_, EV.kCO'_, EV.e_not, EV.kNot_, EV.kNot'_, EV.e_and, EV.e_or, EV.e_ife, EV.kIf_, EV.ifE_t, EV.ifE_f, EV.e_idx, EV.kIdx_, EV.kIdx'_, EV.e_idxO, EV.kIO_, EV.kIO'_, EV.kIO2_, EV.e_slc, EV.kS1_, EV.kS2_, EV.kS3_, EV.kS4_, EV.kS5_, EV.e_efld, EV.e_tup, EV.kTup_, EV.kTup'_, EV.e_lst, EV.kLst_, EV.kLst'_, EV.frzM_o, EV.frzM_d, EV.e_frz, EV.e_lrg, EV.kL1_, EV.kL2_, EV.e_bf, EV.kBf_, EV.e_lenO, EV.kLen_, EV.kIsi_, EV.e_isi, EV.outM_ok, EV.outM_err, EV.e_call, EV.kCall_, EV.kCall'_, EV.e_comp, EV.kComp_, EV.kComp'_, EV.e_itV, EV.e_it1, EV.e_it2, EV.e_itE, EV.e_itO, EV.itoM_, EV.kIt_, EV.kIt'_, EV.l_nil, EV.l_cons, EV.kLc_, EV.kLc'_, EV.a_nil, EV.a_ref, EV.kAr_, EV.kAc_, EV.kAc'_, EV.seqM_n, EV.seqM_r, EV.seqM_e, EV.seqM_s, EV.s_skip, EV.s_seq, EV.s_asg1, EV.kAsg_, EV.s_asgM, EV.kAsgM_, EV.kAsgM2_, EV.s_par, EV.kPar_, EV.s_asgI, EV.kAI_, EV.kAI1_, EV.kAI2_, EV.s_app, EV.appO_, EV.kApp_, EV.s_ext, EV.extO_, EV.kExt_, EV.s_ins, EV.insO_, EV.kIns_, EV.kIns2_, EV.s_ex, EV.kEx_, EV.s_ret, EV.kRet_, EV.s_ifs, EV.kIfS_, EV.ifS_t, EV.ifS_f, EV.s_fors, EV.kFor_, EV.kFor'_, EV.s_raise, EV.kRai_, EV.raiM_, EV.tryM_e, EV.tryM_o, EV.s_tryx, EV.h_nil, EV.h_hnd, EV.hn_f, EV.hn_t, EV.offS_, EV.noExc, EV.Fl.plain, EV.setM_i, EV.appM_i, EV.extM_i, EV.insM_i, EV.tgs, EV.datM_n, EV.datM_r, EV.datM_e, EV.o_add, EV.o_sub, EV.c_lt, EV.c_le, EV.c_gt, EV.c_ge, EV.c_eqi, EV.c_nei, EV.asB_b, EV.allD, Option.map_some, Option.map_none, Option.bind_some, Option.bind_none, EV.refsOf, EV.resolve, EV.SV.isOwn, EV.SV.plain, Bool.not_true, Bool.not_false, Bool.or_false, Bool.false_or, Bool.false_eq_true, ↓reduceIte, EV.putOuts, List.nodup_nil, EV.setAll, List.length_cons, List.length_nil, List.getElem?_cons_zero, List.getElem?_cons_succ, List.cons_append, List.nil_append, List.append_nil, eq_self, and_self, true_and, and_true, EV.atI_lit, List.replicate_succ, List.replicate_zero, Nat.reduceAdd, Nat.reduceSub, Nat.sub_self, List.any_cons, List.any_nil, List.contains_cons, List.contains_nil, true_or, or_true, EV.ac_none, EV.ac_bl, EV.ac_int, EV.ac_str, EV.ac_var, EV.ac_gl, EV.ac_gfn, EV.ac_bin, EV.ac_neg, EV.ac_cmp, EV.ac_cmp2, EV.ac_cmpO, EV.ac_not, EV.ac_and, EV.ac_or, EV.ac_ife, EV.ac_idx, EV.ac_idxO, EV.ac_slc, EV.ac_fld, EV.ac_efld, EV.ac_tup, EV.ac_lst, EV.ac_frz, EV.ac_lrg, EV.ac_bf, EV.ac_lenO, EV.ac_isi, EV.ac_call, EV.ac_comp, EV.isN_none, EV.isN_int, EV.isN_var, EV.isN_bin, EV.isN_neg, EV.isN_idxO, EV.isN_idx, EV.isN_call, EV.isN_lenO, EV.bound_n, EV.bound_i, EV.i_t, EV.i_l, EV.i_o, EV.n_t, EV.n_l, EV.n_o, EV.bf_len, EV.bf_int, EV.bf_abs, EV.bf_tupL, EV.bf_tupT, EV.bf_tupO, EV.bf_lstL, EV.bf_lstT, EV.bf_lstO, EV.bf_max2, EV.bf_min2, EV.bf_max1, EV.bf_min1, EV.bf_all, EV.bf_any, EV.bf_repr, EV.t_one, EV.t_many, EV.t_nil, EV.t_cons, EV.it_l, EV.it_t, EV.it_r1, EV.it_r2, EV.it_el, EV.it_et, EV.w_nil, EV.w_cons, EV.b_nil, EV.b_cons, EV.c_eqb, EV.c_neb, EV.c_isN, EV.c_notN, EV.isNn, EV.hasTy, Nat.reduceBEq, Int.reduceLE, Int.reduceLT, Int.reduceToNat, Int.reduceNeg, Int.cast_ofNat_Int, Int.natCast_zero, Int.natCast_one, List.nodup_cons, List.mem_cons, List.not_mem_nil, or_false, or_self, Nat.reduceEqDiff, Nat.succ_ne_self, ne_eq, not_true_eq_false, not_false_eq_true, Bool.or_self, decide_true, decide_false, reduceCtorEq, cfp, cff, p1, e1, e2, e3, rs1, rg10, q3, q4, q1, q2, kComp'_, Option.map_some, Int.reduceEq, Int.reduceLT, hb]
  obtain rfl | hh := hh
  ·
    refine ⟨⟨k3, s3, c3, some (.int 2), some v, some w, some (.tuple [.list (bs 2), v]), some (v)⟩, h3, ?_⟩
    simp only [E, F_law_0, Int.natCast_zero, Int.natCast_one, Int.cast_ofNat_Int] at q3 q4 ⊢
    simp -implicitDefEqProofs only [R.bind_ok, R.bind_err, R.bind_stuck, R.lift_some, R.lift_none, EV.varM_d, EV.varM_o, EV.varM_n, EV.getS_0, EV.getS_s, List.set_cons_zero, List.set_cons_succ, List.map_cons, List.map_nil, EV.e_none, EV.e_bl, EV.e_int, EV.e_str, EV.e_var, EV.e_gl, EV.e_gfn, EV.e_bin, EV.kBin_, EV.kBin'_, EV.negD_i, EV.kNeg_, EV.e_neg, EV.e_cmp, EV.kCmp_, EV.kCmp'_, EV.e_cmp2, EV.kC1_, EV.kC2_, EV.kC3_t, EV.kC3_f, EV.e_cmpO, EV.kCO_, EV.kCO'_, EV.e_not, EV.kNot_, EV.kNot'_, EV.e_and, EV.e_or, EV.e_ife, EV.kIf_, EV.ifE_t, EV.ifE_f, EV.e_idx, EV.kIdx_, EV.kIdx'_, EV.e_idxO, EV.kIO_, EV.kIO'_, EV.kIO2_, EV.e_slc, EV.kS1_, EV.kS2_, EV.kS3_, EV.kS4_, EV.kS5_, EV.e_efld, EV.e_tup, EV.kTup_, EV.kTup'_, EV.e_lst, EV.kLst_, EV.kLst'_, EV.frzM_o, EV.frzM_d, EV.e_frz, EV.e_lrg, EV.kL1_, EV.kL2_, EV.e_bf, EV.kBf_, EV.e_lenO, EV.kLen_, EV.kIsi_, EV.e_isi, EV.outM_ok, EV.outM_err, EV.e_call, EV.kCall_, EV.kCall'_, EV.e_comp, EV.kComp_, EV.kComp'_, EV.e_itV, EV.e_it1, EV.e_it2, EV.e_itE, EV.e_itO, EV.itoM_, EV.kIt_, EV.kIt'_, EV.l_nil, EV.l_cons, EV.kLc_, EV.kLc'_, EV.a_nil, EV.a_ref, EV.kAr_, EV.kAc_, EV.kAc'_, EV.seqM_n, EV.seqM_r, EV.seqM_e, EV.seqM_s, EV.s_skip, EV.s_seq, EV.s_asg1, EV.kAsg_, EV.s_asgM, EV.kAsgM_, EV.kAsgM2_, EV.s_par, EV.kPar_, EV.s_asgI, EV.kAI_, EV.kAI1_, EV.kAI2_, EV.s_app, EV.appO_, EV.kApp_, EV.s_ext, EV.extO_, EV.kExt_, EV.s_ins, EV.insO_, EV.kIns_, EV.kIns2_, EV.s_ex, EV.kEx_, EV.s_ret, EV.kRet_, EV.s_ifs, EV.kIfS_, EV.ifS_t, EV.ifS_f, EV.s_fors, EV.kFor_, EV.kFor'_, EV.s_raise, EV.kRai_, EV.raiM_, EV.tryM_e, EV.tryM_o, EV.s_tryx, EV.h_nil, EV.h_hnd, EV.hn_f, EV.hn_t, EV.offS_, EV.noExc, EV.Fl.plain, EV.setM_i, EV.appM_i, EV.extM_i, EV.insM_i, EV.tgs, EV.datM_n, EV.datM_r, EV.datM_e, EV.o_add, EV.o_sub, EV.c_lt, EV.c_le, EV.c_gt, EV.c_ge, EV.c_eqi, EV.c_nei, EV.asB_b, EV.allD, Option.map_some, Option.map_none, Option.bind_some, Option.bind_none, EV.refsOf, EV.resolve, EV.SV.isOwn, EV.SV.plain, Bool.not_true, Bool.not_false, Bool.or_false, Bool.false_or, Bool.false_eq_true, ↓reduceIte, EV.putOuts, List.nodup_nil, EV.setAll, List.length_cons, List.length_nil, List.getElem?_cons_zero, List.getElem?_cons_succ, List.cons_append, List.nil_append, List.append_nil, eq_self, and_self, true_and, and_true, EV.atI_lit, List.replicate_succ, List.replicate_zero, Nat.reduceAdd, Nat.reduceSub, Nat.sub_self, List.any_cons, List.any_nil, List.contains_cons, List.contains_nil, true_or, or_true, EV.ac_none, EV.ac_bl, EV.ac_int, EV.ac_str, EV.ac_var, EV.ac_gl, EV.ac_gfn, EV.ac_bin, EV.ac_neg, EV.ac_cmp, EV.ac_cmp2, EV.ac_cmpO, EV.ac_not, EV.ac_and, EV.ac_or, EV.ac_ife, EV.ac_idx, EV.ac_idxO, EV.ac_slc, EV.ac_fld, EV.ac_efld, EV.ac_tup, EV.ac_lst, EV.ac_frz, EV.ac_lrg, EV.ac_bf, EV.ac_lenO, EV.ac_isi, EV.ac_call, EV.ac_comp, EV.isN_none, EV.isN_int, EV.isN_var, EV.isN_bin, EV.isN_neg, EV.isN_idxO, EV.isN_idx, EV.isN_call, EV.isN_lenO, EV.bound_n, EV.bound_i, EV.i_t, EV.i_l, EV.i_o, EV.n_t, EV.n_l, EV.n_o, EV.bf_len, EV.bf_int, EV.bf_abs, EV.bf_tupL, EV.bf_tupT, EV.bf_tupO, EV.bf_lstL, EV.bf_lstT, EV.bf_lstO, EV.bf_max2, EV.bf_min2, EV.bf_max1, EV.bf_min1, EV.bf_all, EV.bf_any, EV.bf_repr, EV.t_one, EV.t_many, EV.t_nil, EV.t_cons, EV.it_l, EV.it_t, EV.it_r1, EV.it_r2, EV.it_el, EV.it_et, EV.w_nil, EV.w_cons, EV.b_nil, EV.b_cons, EV.c_eqb, EV.c_neb, EV.c_isN, EV.c_notN, EV.isNn, EV.hasTy, Nat.reduceBEq, Int.reduceLE, Int.reduceLT, Int.reduceToNat, Int.reduceNeg, Int.cast_ofNat_Int, Int.natCast_zero, Int.natCast_one, List.nodup_cons, List.mem_cons, List.not_mem_nil, or_false, or_self, Nat.reduceEqDiff, Nat.succ_ne_self, ne_eq, not_true_eq_false, not_false_eq_true, Bool.or_self, decide_true, decide_false, reduceCtorEq, cfp, cff, p1, e1, e2, e3, rs2, rg10, q3, q4, q1, q2, kComp'_, Option.map_some, Int.reduceEq, Int.reduceLT, hb]
  obtain rfl | hh := hh
  ·
    refine ⟨⟨k3, s3, c3, some (.int 3), some v, some w, some (.tuple [.list (bs 3), v]), some (v)⟩, h3, ?_⟩
    simp only [E, F_law_0, Int.natCast_zero, Int.natCast_one, Int.cast_ofNat_Int] at q3 q4 ⊢
    simp -implicitDefEqProofs only [R.bind_ok, R.bind_err, R.bind_stuck, R.lift_some, R.lift_none, EV.varM_d, EV.varM_o, EV.varM_n, EV.getS_0, EV.getS_s, List.set_cons_zero, List.set_cons_succ, List.map_cons, List.map_nil, EV.e_none, EV.e_bl, EV.e_int, EV.e_str, EV.e_var, EV.e_gl, EV.e_gfn, EV.e_bin, EV.kBin_, EV.kBin'_, EV.negD_i, EV.kNeg_, EV.e_neg, EV.e_cmp, EV.kCmp_, EV.kCmp'_, EV.e_cmp2, EV.kC1_, EV.kC2_, EV.kC3_t, EV.kC3_f, EV.e_cmpO, EV.kCO_, EV.kCO'_, EV.e_not, EV.kNot_, EV.kNot'_, EV.e_and, EV.e_or, EV.e_ife, EV.kIf_, EV.ifE_t, EV.ifE_f, EV.e_idx, EV.kIdx_, EV.kIdx'_, EV.e_idxO, EV.kIO_, EV.kIO'_, EV.kIO2_, EV.e_slc, EV.kS1_, EV.kS2_, EV.kS3_, EV.kS4_, EV.kS5_, EV.e_efld, EV.e_tup, EV.kTup_, EV.kTup'_, EV.e_lst, EV.kLst_, EV.kLst'_, EV.frzM_o, EV.frzM_d, EV.e_frz, EV.e_lrg, EV.kL1_, EV.kL2_, EV.e_bf, EV.kBf_, EV.e_lenO, EV.kLen_, EV.kIsi_, EV.e_isi, EV.outM_ok, EV.outM_err, EV.e_call, EV.kCall_, EV.kCall'_, EV.e_comp, EV.kComp_, EV.kComp'_, EV.e_itV, EV.e_it1, EV.e_it2, EV.e_itE, EV.e_itO, EV.itoM_, EV.kIt_, EV.kIt'_, EV.l_nil, EV.l_cons, EV.kLc_, EV.kLc'_, EV.a_nil, EV.a_ref, EV.kAr_, EV.kAc_, EV.kAc'_, EV.seqM_n, EV.seqM_r, EV.seqM_e, EV.seqM_s, EV.s_skip, EV.s_seq, EV.s_asg1, EV.kAsg_, EV.s_asgM, EV.kAsgM_, EV.kAsgM2_, EV.s_par, EV.kPar_, EV.s_asgI, EV.kAI_, EV.kAI1_, EV.kAI2_, EV.s_app, EV.appO_, EV.kApp_, EV.s_ext, EV.extO_, EV.kExt_, EV.s_ins, EV.insO_, EV.kIns_, EV.kIns2_, EV.s_ex, EV.kEx_, EV.s_ret, EV.kRet_, EV.s_ifs, EV.kIfS_, EV.ifS_t, EV.ifS_f, EV.s_fors, EV.kFor_, EV.kFor'_, EV.s_raise, EV.kRai_, EV.raiM_, EV.tryM_e, EV.tryM_o, EV.s_tryx, EV.h_nil, EV.h_hnd, EV.hn_f, EV.hn_t, EV.offS_, EV.noExc, EV.Fl.plain, EV.setM_i, EV.appM_i, EV.extM_i, EV.insM_i, EV.tgs, EV.datM_n, EV.datM_r, EV.datM_e, EV.o_add, EV.o_sub, EV.c_lt, EV.c_le, EV.c_gt, EV.c_ge, EV.c_eqi, EV.c_nei, EV.asB_b, EV.allD, Option.map_some, Option.map_none, Option.bind_some, Option.bind_none, EV.refsOf, EV.resolve, EV.SV.isOwn, EV.SV.plain, Bool.not_true, Bool.not_false, Bool.or_false, Bool.false_or, Bool.false_eq_true, ↓reduceIte, EV.putOuts, List.nodup_nil, EV.setAll, List.length_cons, List.length_nil, List.getElem?_cons_zero, List.getElem?_cons_succ, List.cons_append, List.nil_append, List.append_nil, eq_self, and_self, true_and, and_true, EV.atI_lit, List.replicate_succ, List.replicate_zero, Nat.reduceAdd, Nat.reduceSub, Nat.sub_self, List.any_cons, List.any_nil, List.contains_cons, List.contains_nil, true_or, or_true, EV.ac_none, EV.ac_bl, EV.ac_int, EV.ac_str, EV.ac_var, EV.ac_gl, EV.ac_gfn, EV.ac_bin, EV.ac_neg, EV.ac_cmp, EV.ac_cmp2, EV.ac_cmpO, EV.ac_not, EV.ac_and, EV.ac_or, EV.ac_ife, EV.ac_idx, EV.ac_idxO, EV.ac_slc, EV.ac_fld, EV.ac_efld, EV.ac_tup, EV.ac_lst, EV.ac_frz, EV.ac_lrg, EV.ac_bf, EV.ac_lenO, EV.ac_isi, EV.ac_call, EV.ac_comp, EV.isN_none, EV.isN_int, EV.isN_var, EV.isN_bin, EV.isN_neg, EV.isN_idxO, EV.isN_idx, EV.isN_call, EV.isN_lenO, EV.bound_n, EV.bound_i, EV.i_t, EV.i_l, EV.i_o, EV.n_t, EV.n_l, EV.n_o, EV.bf_len, EV.bf_int, EV.bf_abs, EV.bf_tupL, EV.bf_tupT, EV.bf_tupO, EV.bf_lstL, EV.bf_lstT, EV.bf_lstO, EV.bf_max2, EV.bf_min2, EV.bf_max1, EV.bf_min1, EV.bf_all, EV.bf_any, EV.bf_repr, EV.t_one, EV.t_many, EV.t_nil, EV.t_cons, EV.it_l, EV.it_t, EV.it_r1, EV.it_r2, EV.it_el, EV.it_et, EV.w_nil, EV.w_cons, EV.b_nil, EV.b_cons, EV.c_eqb, EV.c_neb, EV.c_isN, EV.c_notN, EV.isNn, EV.hasTy, Nat.reduceBEq, Int.reduceLE, Int.reduceLT, Int.reduceToNat, Int.reduceNeg, Int.cast_ofNat_Int, Int.natCast_zero, Int.natCast_one, List.nodup_cons, List.mem_cons, List.not_mem_nil, or_false, or_self, Nat.reduceEqDiff, Nat.succ_ne_self, ne_eq, not_true_eq_false, not_false_eq_true, Bool.or_self, decide_true, decide_false, reduceCtorEq, cfp, cff, p1, e1, e2, e3, rs3, rg10, q3, q4, q1, q2, kComp'_, Option.map_some, Int.reduceEq, Int.reduceLT, hb]
  obtain rfl | hh := hh
  ·
    refine ⟨⟨k3, s3, c3, some (.int 4), some v, some w, some (.tuple [.list (bs 4), v]), some (v)⟩, h3, ?_⟩
    simp only [E, F_law_0, Int.natCast_zero, Int.natCast_one, Int.cast_ofNat_Int] at q3 q4 ⊢
    simp -implicitDefEqProofs only [R.bind_ok, R.bind_err, R.bind_stuck, R.lift_some, R.lift_none, EV.varM_d, EV.varM_o, EV.varM_n, EV.getS_0, EV.getS_s, List.set_cons_zero, List.set_cons_succ, List.map_cons, List.map_nil, EV.e_none, EV.e_bl, EV.e_int, EV.e_str, EV.e_var, EV.e_gl, EV.e_gfn, EV.e_bin, EV.kBin_, EV.kBin'_, EV.negD_i, EV.kNeg_, EV.e_neg, EV.e_cmp, EV.kCmp_, EV.kCmp'_, EV.e_cmp2, EV.kC1_, EV.kC2_, EV.kC3_t, EV.kC3_f, EV.e_cmpO, EV.kCO_, EV.kCO'_, EV.e_not, EV.kNot_, EV.kNot'_, EV.e_and, EV.e_or, EV.e_ife, EV.kIf_, EV.ifE_t, EV.ifE_f, EV.e_idx, EV.kIdx_, EV.kIdx'_, EV.e_idxO, EV.kIO_, EV.kIO'_, EV.kIO2_, EV.e_slc, EV.kS1_, EV.kS2_, EV.kS3_, EV.kS4_, EV.kS5_, EV.e_efld, EV.e_tup, EV.kTup_, EV.kTup'_, EV.e_lst, EV.kLst_, EV.kLst'_, EV.frzM_o, EV.frzM_d, EV.e_frz, EV.e_lrg, EV.kL1_, EV.kL2_, EV.e_bf, EV.kBf_, EV.e_lenO, EV.kLen_, EV.kIsi_, EV.e_isi, EV.outM_ok, EV.outM_err, EV.e_call, EV.kCall_, EV.kCall'_, EV.e_comp, EV.kComp_, EV.kComp'_, EV.e_itV, EV.e_it1, EV.e_it2, EV.e_itE, EV.e_itO, EV.itoM_, EV.kIt_, EV.kIt'_, EV.l_nil, EV.l_cons, EV.kLc_, EV.kLc'_, EV.a_nil, EV.a_ref, EV.kAr_, EV.kAc_, EV.kAc'_, EV.seqM_n, EV.seqM_r, EV.seqM_e, EV.seqM_s, EV.s_skip, EV.s_seq, EV.s_asg1, EV.kAsg_, EV.s_asgM, EV.kAsgM_, EV.kAsgM2_, EV.s_par, EV.kPar_, EV.s_asgI, EV.kAI_, EV.kAI1_, EV.kAI2_, EV.s_app, EV.appO_, EV.kApp_, EV.s_ext, EV.extO_, EV.kExt_, EV.s_ins, EV.insO_, EV.kIns_, EV.kIns2_, EV.s_ex, EV.kEx_, EV.s_ret, EV.kRet_, EV.s_ifs, EV.kIfS_, EV.ifS_t, EV.ifS_f, EV.s_fors, EV.kFor_, EV.kFor'_, EV.s_raise, EV.kRai_, EV.raiM_, EV.tryM_e, EV.tryM_o, EV.s_tryx, EV.h_nil, EV.h_hnd, EV.hn_f, EV.hn_t, EV.offS_, EV.noExc, EV.Fl.plain, EV.setM_i, EV.appM_i, EV.extM_i, EV.insM_i, EV.tgs, EV.datM_n, EV.datM_r, EV.datM_e, EV.o_add, EV.o_sub, EV.c_lt, EV.c_le, EV.c_gt, EV.c_ge, EV.c_eqi, EV.c_nei, EV.asB_b, EV.allD, Option.map_some, Option.map_none, Option.bind_some, Option.bind_none, EV.refsOf, EV.resolve, EV.SV.isOwn, EV.SV.plain, Bool.not_true, Bool.not_false, Bool.or_false, Bool.false_or, Bool.false_eq_true, ↓reduceIte, EV.putOuts, List.nodup_nil, EV.setAll, List.length_cons, List.length_nil, List.getElem?_cons_zero, List.getElem?_cons_succ, List.cons_append, List.nil_append, List.append_nil, eq_self, and_self, true_and, and_true, EV.atI_lit, List.replicate_succ, List.replicate_zero, Nat.reduceAdd, Nat.reduceSub, Nat.sub_self, List.any_cons, List.any_nil, List.contains_cons, List.contains_nil, true_or, or_true, EV.ac_none, EV.ac_bl, EV.ac_int, EV.ac_str, EV.ac_var, EV.ac_gl, EV.ac_gfn, EV.ac_bin, EV.ac_neg, EV.ac_cmp, EV.ac_cmp2, EV.ac_cmpO, EV.ac_not, EV.ac_and, EV.ac_or, EV.ac_ife, EV.ac_idx, EV.ac_idxO, EV.ac_slc, EV.ac_fld, EV.ac_efld, EV.ac_tup, EV.ac_lst, EV.ac_frz, EV.ac_lrg, EV.ac_bf, EV.ac_lenO, EV.ac_isi, EV.ac_call, EV.ac_comp, EV.isN_none, EV.isN_int, EV.isN_var, EV.isN_bin, EV.isN_neg, EV.isN_idxO, EV.isN_idx, EV.isN_call, EV.isN_lenO, EV.bound_n, EV.bound_i, EV.i_t, EV.i_l, EV.i_o, EV.n_t, EV.n_l, EV.n_o, EV.bf_len, EV.bf_int, EV.bf_abs, EV.bf_tupL, EV.bf_tupT, EV.bf_tupO, EV.bf_lstL, EV.bf_lstT, EV.bf_lstO, EV.bf_max2, EV.bf_min2, EV.bf_max1, EV.bf_min1, EV.bf_all, EV.bf_any, EV.bf_repr, EV.t_one, EV.t_many, EV.t_nil, EV.t_cons, EV.it_l, EV.it_t, EV.it_r1, EV.it_r2, EV.it_el, EV.it_et, EV.w_nil, EV.w_cons, EV.b_nil, EV.b_cons, EV.c_eqb, EV.c_neb, EV.c_isN, EV.c_notN, EV.isNn, EV.hasTy, Nat.reduceBEq, Int.reduceLE, Int.reduceLT, Int.reduceToNat, Int.reduceNeg, Int.cast_ofNat_Int, Int.natCast_zero, Int.natCast_one, List.nodup_cons, List.mem_cons, List.not_mem_nil, or_false, or_self, Nat.reduceEqDiff, Nat.succ_ne_self, ne_eq, not_true_eq_false, not_false_eq_true, Bool.or_self, decide_true, decide_false, reduceCtorEq, cfp, cff, p1, e1, e2, e3, rs4, rg10, q3, q4, q1, q2, kComp'_, Option.map_some, Int.reduceEq, Int.reduceLT, hb]
  obtain rfl | hh := hh
  ·
    refine ⟨⟨k3, s3, c3, some (.int 5), some v, some w, some (.tuple [.list (bs 5), v]), some (v)⟩, h3, ?_⟩
    simp only [E, F_law_0, Int.natCast_zero, Int.natCast_one, Int.cast_ofNat_Int] at q3 q4 ⊢
    simp -implicitDefEqProofs only [R.bind_ok, R.bind_err, R.bind_stuck, R.lift_some, R.lift_none, EV.varM_d, EV.varM_o, EV.varM_n, EV.getS_0, EV.getS_s, List.set_cons_zero, List.set_cons_succ, List.map_cons, List.map_nil, EV.e_none, EV.e_bl, EV.e_int, EV.e_str, EV.e_var, EV.e_gl, EV.e_gfn, EV.e_bin, EV.kBin_, EV.kBin'_, EV.negD_i, EV.kNeg_, EV.e_neg, EV.e_cmp, EV.kCmp_, EV.kCmp'_, EV.e_cmp2, EV.kC1_, EV.kC2_, EV.kC3_t, EV.kC3_f, EV.e_cmpO, EV.kCO_, EV.kCO'_, EV.e_not, EV.kNot_, EV.kNot'_, EV.e_and, EV.e_or, EV.e_ife, EV.kIf_, EV.ifE_t, EV.ifE_f, EV.e_idx, EV.kIdx_, EV.kIdx'_, EV.e_idxO, EV.kIO_, EV.kIO'_, EV.kIO2_, EV.e_slc, EV.kS1_, EV.kS2_, EV.kS3_, EV.kS4_, EV.kS5_, EV.e_efld, EV.e_tup, EV.kTup_, EV.kTup'_, EV.e_lst, EV.kLst_, EV.kLst'_, EV.frzM_o, EV.frzM_d, EV.e_frz, EV.e_lrg, EV.kL1_, EV.kL2_, EV.e_bf, EV.kBf_, EV.e_lenO, EV.kLen_, EV.kIsi_, EV.e_isi, EV.outM_ok, EV.outM_err, EV.e_call, EV.kCall_, EV.kCall'_, EV.e_comp, EV.kComp_, EV.kComp'_, EV.e_itV, EV.e_it1, EV.e_it2, EV.e_itE, EV.e_itO, EV.itoM_, EV.kIt_, EV.kIt'_, EV.l_nil, EV.l_cons, EV.kLc_, EV.kLc'_, EV.a_nil, EV.a_ref, EV.kAr_, EV.kAc_, EV.kAc'_, EV.seqM_n, EV.seqM_r, EV.seqM_e, EV.seqM_s, EV.s_skip, EV.s_seq, EV.s_asg1, EV.kAsg_, EV.s_asgM, EV.kAsgM_, EV.kAsgM2_, EV.s_par, EV.kPar_, EV.s_asgI, EV.kAI_, EV.kAI1_, EV.kAI2_, EV.s_app, EV.appO_, EV.kApp_, EV.s_ext, EV.extO_, EV.kExt_, EV.s_ins, EV.insO_, EV.kIns_, EV.kIns2_, EV.s_ex, EV.kEx_, EV.s_ret, EV.kRet_, EV.s_ifs, EV.kIfS_, EV.ifS_t, EV.ifS_f, EV.s_fors, EV.kFor_, EV.kFor'_, EV.s_raise, EV.kRai_, EV.raiM_, EV.tryM_e, EV.tryM_o, EV.s_tryx, EV.h_nil, EV.h_hnd, EV.hn_f, EV.hn_t, EV.offS_, EV.noExc, EV.Fl.plain, EV.setM_i, EV.appM_i, EV.extM_i, EV.insM_i, EV.tgs, EV.datM_n, EV.datM_r, EV.datM_e, EV.o_add, EV.o_sub, EV.c_lt, EV.c_le, EV.c_gt, EV.c_ge, EV.c_eqi, EV.c_nei, EV.asB_b, EV.allD, Option.map_some, Option.map_none, Option.bind_some, Option.bind_none, EV.refsOf, EV.resolve, EV.SV.isOwn, EV.SV.plain, Bool.not_true, Bool.not_false, Bool.or_false, Bool.false_or, Bool.false_eq_true, ↓reduceIte, EV.putOuts, List.nodup_nil, EV.setAll, List.length_cons, List.length_nil, List.getElem?_cons_zero, List.getElem?_cons_succ, List.cons_append, List.nil_append, List.append_nil, eq_self, and_self, true_and, and_true, EV.atI_lit, List.replicate_succ, List.replicate_zero, Nat.reduceAdd, Nat.reduceSub, Nat.sub_self, List.any_cons, List.any_nil, List.contains_cons, List.contains_nil, true_or, or_true, EV.ac_none, EV.ac_bl, EV.ac_int, EV.ac_str, EV.ac_var, EV.ac_gl, EV.ac_gfn, EV.ac_bin, EV.ac_neg, EV.ac_cmp, EV.ac_cmp2, EV.ac_cmpO, EV.ac_not, EV.ac_and, EV.ac_or, EV.ac_ife, EV.ac_idx, EV.ac_idxO, EV.ac_slc, EV.ac_fld, EV.ac_efld, EV.ac_tup, EV.ac_lst, EV.ac_frz, EV.ac_lrg, EV.ac_bf, EV.ac_lenO, EV.ac_isi, EV.ac_call, EV.ac_comp, EV.isN_none, EV.isN_int, EV.isN_var, EV.isN_bin, EV.isN_neg, EV.isN_idxO, EV.isN_idx, EV.isN_call, EV.isN_lenO, EV.bound_n, EV.bound_i, EV.i_t, EV.i_l, EV.i_o, EV.n_t, EV.n_l, EV.n_o, EV.bf_len, EV.bf_int, EV.bf_abs, EV.bf_tupL, EV.bf_tupT, EV.bf_tupO, EV.bf_lstL, EV.bf_lstT, EV.bf_lstO, EV.bf_max2, EV.bf_min2, EV.bf_max1, EV.bf_min1, EV.bf_all, EV.bf_any, EV.bf_repr, EV.t_one, EV.t_many, EV.t_nil, EV.t_cons, EV.it_l, EV.it_t, EV.it_r1, EV.it_r2, EV.it_el, EV.it_et, EV.w_nil, EV.w_cons, EV.b_nil, EV.b_cons, EV.c_eqb, EV.c_neb, EV.c_isN, EV.c_notN, EV.isNn, EV.hasTy, Nat.reduceBEq, Int.reduceLE, Int.reduceLT, Int.reduceToNat, Int.reduceNeg, Int.cast_ofNat_Int, Int.natCast_zero, Int.natCast_one, List.nodup_cons, List.mem_cons, List.not_mem_nil, or_false, or_self, Nat.reduceEqDiff, Nat.succ_ne_self, ne_eq, not_true_eq_false, not_false_eq_true, Bool.or_self, decide_true, decide_false, reduceCtorEq, cfp, cff, p1, e1, e2, e3, rs5, rg10, q3, q4, q1, q2, kComp'_, Option.map_some, Int.reduceEq, Int.reduceLT, hb]
  obtain rfl | hh := hh
  ·
    refine ⟨⟨k3, s3, c3, some (.int 6), some v, some w, some (.tuple [.list (bs 6), v]), some (v)⟩, h3, ?_⟩
    simp only [E, F_law_0, Int.natCast_zero, Int.natCast_one, Int.cast_ofNat_Int] at q3 q4 ⊢
    simp -implicitDefEqProofs only [R.bind_ok, R.bind_err, R.bind_stuck, R.lift_some, R.lift_none, EV.varM_d, EV.varM_o, EV.varM_n, EV.getS_0, EV.getS_s, List.set_cons_zero, List.set_cons_succ, List.map_cons, List.map_nil, EV.e_none, EV.e_bl, EV.e_int, EV.e_str, EV.e_var, EV.e_gl, EV.e_gfn, EV.e_bin, EV.kBin_, EV.kBin'_, EV.negD_i, EV.kNeg_, EV.e_neg, EV.e_cmp, EV.kCmp_, EV.kCmp'_, EV.e_cmp2, EV.kC1_, EV.kC2_, EV.kC3_t, EV.kC3_f, EV.e_cmpO, EV.kCO_, EV.kCO'_, EV.e_not, EV.kNot_, EV.kNot'_, EV.e_and, EV.e_or, EV.e_ife, EV.kIf_, EV.ifE_t, EV.ifE_f, EV.e_idx, EV.kIdx_, EV.kIdx'_, EV.e_idxO, EV.kIO_, EV.kIO'_, EV.kIO2_, EV.e_slc, EV.kS1_, EV.kS2_, EV.kS3_, EV.kS4_, EV.kS5_, EV.e_efld, EV.e_tup, EV.kTup_, EV.kTup'_, EV.e_lst, EV.kLst_, EV.kLst'_, EV.frzM_o, EV.frzM_d, EV.e_frz, EV.e_lrg, EV.kL1_, EV.kL2_, EV.e_bf, EV.kBf_, EV.e_lenO, EV.kLen_, EV.kIsi_, EV.e_isi, EV.outM_ok, EV.outM_err, EV.e_call, EV.kCall_, EV.kCall'_, EV.e_comp, EV.kComp_, EV.kComp'_, EV.e_itV, EV.e_it1, EV.e_it2, EV.e_itE, EV.e_itO, EV.itoM_, EV.kIt_, EV.kIt'_, EV.l_nil, EV.l_cons, EV.kLc_, EV.kLc'_, EV.a_nil, EV.a_ref, EV.kAr_, EV.kAc_, EV.kAc'_, EV.seqM_n, EV.seqM_r, EV.seqM_e, EV.seqM_s, EV.s_skip, EV.s_seq, EV.s_asg1, EV.kAsg_, EV.s_asgM, EV.kAsgM_, EV.kAsgM2_, EV.s_par, EV.kPar_, EV.s_asgI, EV.kAI_, EV.kAI1_, EV.kAI2_, EV.s_app, EV.appO_, EV.kApp_, EV.s_ext, EV.extO_, EV.kExt_, EV.s_ins, EV.insO_, EV.kIns_, EV.kIns2_, EV.s_ex, EV.kEx_, EV.s_ret, EV.kRet_, EV.s_ifs, EV.kIfS_, EV.ifS_t, EV.ifS_f, EV.s_fors, EV.kFor_, EV.kFor'_, EV.s_raise, EV.kRai_, EV.raiM_, EV.tryM_e, EV.tryM_o, EV.s_tryx, EV.h_nil, EV.h_hnd, EV.hn_f, EV.hn_t, EV.offS_, EV.noExc, EV.Fl.plain, EV.setM_i, EV.appM_i, EV.extM_i, EV.insM_i, EV.tgs, EV.datM_n, EV.datM_r, EV.datM_e, EV.o_add, EV.o_sub, EV.c_lt, EV.c_le, EV.c_gt, EV.c_ge, EV.c_eqi, EV.c_nei, EV.asB_b, EV.allD, Option.map_some, Option.map_none, Option.bind_some, Option.bind_none, EV.refsOf, EV.resolve, EV.SV.isOwn, EV.SV.plain, Bool.not_true, Bool.not_false, Bool.or_false, Bool.false_or, Bool.false_eq_true, ↓reduceIte, EV.putOuts, List.nodup_nil, EV.setAll, List.length_cons, List.length_nil, List.getElem?_cons_zero, List.getElem?_cons_succ, List.cons_append, List.nil_append, List.append_nil, eq_self, and_self, true_and, and_true, EV.atI_lit, List.replicate_succ, List.replicate_zero, Nat.reduceAdd, Nat.reduceSub, Nat.sub_self, List.any_cons, List.any_nil, List.contains_cons, List.contains_nil, true_or, or_true, EV.ac_none, EV.ac_bl, EV.ac_int, EV.ac_str, EV.ac_var, EV.ac_gl, EV.ac_gfn, EV.ac_bin, EV.ac_neg, EV.ac_cmp, EV.ac_cmp2, EV.ac_cmpO, EV.ac_not, EV.ac_and, EV.ac_or, EV.ac_ife, EV.ac_idx, EV.ac_idxO, EV.ac_slc, EV.ac_fld, EV.ac_efld, EV.ac_tup, EV.ac_lst, EV.ac_frz, EV.ac_lrg, EV.ac_bf, EV.ac_lenO, EV.ac_isi, EV.ac_call, EV.ac_comp, EV.isN_none, EV.isN_int, EV.isN_var, EV.isN_bin, EV.isN_neg, EV.isN_idxO, EV.isN_idx, EV.isN_call, EV.isN_lenO, EV.bound_n, EV.bound_i, EV.i_t, EV.i_l, EV.i_o, EV.n_t, EV.n_l, EV.n_o, EV.bf_len, EV.bf_int, EV.bf_abs, EV.bf_tupL, EV.bf_tupT, EV.bf_tupO, EV.bf_lstL, EV.bf_lstT, EV.bf_lstO, EV.bf_max2, EV.bf_min2, EV.bf_max1, EV.bf_min1, EV.bf_all, EV.bf_any, EV.bf_repr, EV.t_one, EV.t_many, EV.t_nil, EV.t_cons, EV.it_l, EV.it_t, EV.it_r1, EV.it_r2, EV.it_el, EV.it_et, EV.w_nil, EV.w_cons, EV.b_nil, EV.b_cons, EV.c_eqb, EV.c_neb, EV.c_isN, EV.c_notN, EV.isNn, EV.hasTy, Nat.reduceBEq, Int.reduceLE, Int.reduceLT, Int.reduceToNat, Int.reduceNeg, Int.cast_ofNat_Int, Int.natCast_zero, Int.natCast_one, List.nodup_cons, List.mem_cons, List.not_mem_nil, or_false, or_self, Nat.reduceEqDiff, Nat.succ_ne_self, ne_eq, not_true_eq_false, not_false_eq_true, Bool.or_self, decide_true, decide_false, reduceCtorEq, cfp, cff, p1, e1, e2, e3, rs6, rg10, q3, q4, q1, q2, kComp'_, Option.map_some, Int.reduceEq, Int.reduceLT, hb]
  obtain rfl | hh := hh
  ·
    refine ⟨⟨k3, s3, c3, some (.int 7), some v, some w, some (.tuple [.list (bs 7), v]), some (v)⟩, h3, ?_⟩
    simp only [E, F_law_0, Int.natCast_zero, Int.natCast_one, Int.cast_ofNat_Int] at q3 q4 ⊢
    simp -implicitDefEqProofs only [R.bind_ok, R.bind_err, R.bind_stuck, R.lift_some, R.lift_none, EV.varM_d, EV.varM_o, EV.varM_n, EV.getS_0, EV.getS_s, List.set_cons_zero, List.set_cons_succ, List.map_cons, List.map_nil, EV.e_none, EV.e_bl, EV.e_int, EV.e_str, EV.e_var, EV.e_gl, EV.e_gfn, EV.e_bin, EV.kBin_, EV.kBin'_, EV.negD_i, EV.kNeg_, EV.e_neg, EV.e_cmp, EV.kCmp_, EV.kCmp'_, EV.e_cmp2, EV.kC1_, EV.kC2_, EV.kC3_t, EV.kC3_f, EV.e_cmpO, EV.kCO_, EV.kCO'_, EV.e_not, EV.kNot_, EV.kNot'_, EV.e_and, EV.e_or, EV.e_ife, EV.kIf_, EV.ifE_t, EV.ifE_f, EV.e_idx, EV.kIdx_, EV.kIdx'_, EV.e_idxO, EV.kIO_, EV.kIO'_, EV.kIO2_, EV.e_slc, EV.kS1_, EV.kS2_, EV.kS3_, EV.kS4_, EV.kS5_, EV.e_efld, EV.e_tup, EV.kTup_, EV.kTup'_, EV.e_lst, EV.kLst_, EV.kLst'_, EV.frzM_o, EV.frzM_d, EV.e_frz, EV.e_lrg, EV.kL1_, EV.kL2_, EV.e_bf, EV.kBf_, EV.e_lenO, EV.kLen_, EV.kIsi_, EV.e_isi, EV.outM_ok, EV.outM_err, EV.e_call, EV.kCall_, EV.kCall'_, EV.e_comp, EV.kComp_, EV.kComp'_, EV.e_itV, EV.e_it1, EV.e_it2, EV.e_itE, EV.e_itO, EV.itoM_, EV.kIt_, EV.kIt'_, EV.l_nil, EV.l_cons, EV.kLc_, EV.kLc'_, EV.a_nil, EV.a_ref, EV.kAr_, EV.kAc_, EV.kAc'_, EV.seqM_n, EV.seqM_r, EV.seqM_e, EV.seqM_s, EV.s_skip, EV.s_seq, EV.s_asg1, EV.kAsg_, EV.s_asgM, EV.kAsgM_, EV.kAsgM2_, EV.s_par, EV.kPar_, EV.s_asgI, EV.kAI_, EV.kAI1_, EV.kAI2_, EV.s_app, EV.appO_, EV.kApp_, EV.s_ext, EV.extO_, EV.kExt_, EV.s_ins, EV.insO_, EV.kIns_, EV.kIns2_, EV.s_ex, EV.kEx_, EV.s_ret, EV.kRet_, EV.s_ifs, EV.kIfS_, EV.ifS_t, EV.ifS_f, EV.s_fors, EV.kFor_, EV.kFor'_, EV.s_raise, EV.kRai_, EV.raiM_, EV.tryM_e, EV.tryM_o, EV.s_tryx, EV.h_nil, EV.h_hnd, EV.hn_f, EV.hn_t, EV.offS_, EV.noExc, EV.Fl.plain, EV.setM_i, EV.appM_i, EV.extM_i, EV.insM_i, EV.tgs, EV.datM_n, EV.datM_r, EV.datM_e, EV.o_add, EV.o_sub, EV.c_lt, EV.c_le, EV.c_gt, EV.c_ge, EV.c_eqi, EV.c_nei, EV.asB_b, EV.allD, Option.map_some, Option.map_none, Option.bind_some, Option.bind_none, EV.refsOf, EV.resolve, EV.SV.isOwn, EV.SV.plain, Bool.not_true, Bool.not_false, Bool.or_false, Bool.false_or, Bool.false_eq_true, ↓reduceIte, EV.putOuts, List.nodup_nil, EV.setAll, List.length_cons, List.length_nil, List.getElem?_cons_zero, List.getElem?_cons_succ, List.cons_append, List.nil_append, List.append_nil, eq_self, and_self, true_and, and_true, EV.atI_lit, List.replicate_succ, List.replicate_zero, Nat.reduceAdd, Nat.reduceSub, Nat.sub_self, List.any_cons, List.any_nil, List.contains_cons, List.contains_nil, true_or, or_true, EV.ac_none, EV.ac_bl, EV.ac_int, EV.ac_str, EV.ac_var, EV.ac_gl, EV.ac_gfn, EV.ac_bin, EV.ac_neg, EV.ac_cmp, EV.ac_cmp2, EV.ac_cmpO, EV.ac_not, EV.ac_and, EV.ac_or, EV.ac_ife, EV.ac_idx, EV.ac_idxO, EV.ac_slc, EV.ac_fld, EV.ac_efld, EV.ac_tup, EV.ac_lst, EV.ac_frz, EV.ac_lrg, EV.ac_bf, EV.ac_lenO, EV.ac_isi, EV.ac_call, EV.ac_comp, EV.isN_none, EV.isN_int, EV.isN_var, EV.isN_bin, EV.isN_neg, EV.isN_idxO, EV.isN_idx, EV.isN_call, EV.isN_lenO, EV.bound_n, EV.bound_i, EV.i_t, EV.i_l, EV.i_o, EV.n_t, EV.n_l, EV.n_o, EV.bf_len, EV.bf_int, EV.bf_abs, EV.bf_tupL, EV.bf_tupT, EV.bf_tupO, EV.bf_lstL, EV.bf_lstT, EV.bf_lstO, EV.bf_max2, EV.bf_min2, EV.bf_max1, EV.bf_min1, EV.bf_all, EV.bf_any, EV.bf_repr, EV.t_one, EV.t_many, EV.t_nil, EV.t_cons, EV.it_l, EV.it_t, EV.it_r1, EV.it_r2, EV.it_el, EV.it_et, EV.w_nil, EV.w_cons, EV.b_nil, EV.b_cons, EV.c_eqb, EV.c_neb, EV.c_isN, EV.c_notN, EV.isNn, EV.hasTy, Nat.reduceBEq, Int.reduceLE, Int.reduceLT, Int.reduceToNat, Int.reduceNeg, Int.cast_ofNat_Int, Int.natCast_zero, Int.natCast_one, List.nodup_cons, List.mem_cons, List.not_mem_nil, or_false, or_self, Nat.reduceEqDiff, Nat.succ_ne_self, ne_eq, not_true_eq_false, not_false_eq_true, Bool.or_self, decide_true, decide_false, reduceCtorEq, cfp, cff, p1, e1, e2, e3, rs7, rg10, q3, q4, q1, q2, kComp'_, Option.map_some, Int.reduceEq, Int.reduceLT, hb]
  obtain rfl | hh := hh
  ·
    refine ⟨⟨k3, s3, c3, some (.int 8), some v, some w, some (.tuple [.list (bs 8), .tuple [v, w]]), some (.tuple [v, w])⟩, h3, ?_⟩
    simp only [E, F_law_0, Int.natCast_zero, Int.natCast_one, Int.cast_ofNat_Int] at q3 q4 ⊢
    simp -implicitDefEqProofs only [R.bind_ok, R.bind_err, R.bind_stuck, R.lift_some, R.lift_none, EV.varM_d, EV.varM_o, EV.varM_n, EV.getS_0, EV.getS_s, List.set_cons_zero, List.set_cons_succ, List.map_cons, List.map_nil, EV.e_none, EV.e_bl, EV.e_int, EV.e_str, EV.e_var, EV.e_gl, EV.e_gfn, EV.e_bin, EV.kBin_, EV.kBin'_, EV.negD_i, EV.kNeg_, EV.e_neg, EV.e_cmp, EV.kCmp_, EV.kCmp'_, EV.e_cmp2, EV.kC1_, EV.kC2_, EV.kC3_t, EV.kC3_f, EV.e_cmpO, EV.kCO_, EV.kCO'_, EV.e_not, EV.kNot_, EV.kNot'_, EV.e_and, EV.e_or, EV.e_ife, EV.kIf_, EV.ifE_t, EV.ifE_f, EV.e_idx, EV.kIdx_, EV.kIdx'_, EV.e_idxO, EV.kIO_, EV.kIO'_, EV.kIO2_, EV.e_slc, EV.kS1_, EV.kS2_, EV.kS3_, EV.kS4_, EV.kS5_, EV.e_efld, EV.e_tup, EV.kTup_, EV.kTup'_, EV.e_lst, EV.kLst_, EV.kLst'_, EV.frzM_o, EV.frzM_d, EV.e_frz, EV.e_lrg, EV.kL1_, EV.kL2_, EV.e_bf, EV.kBf_, EV.e_lenO, EV.kLen_, EV.kIsi_, EV.e_isi, EV.outM_ok, EV.outM_err, EV.e_call, EV.kCall_, EV.kCall'_, EV.e_comp, EV.kComp_, EV.kComp'_, EV.e_itV, EV.e_it1, EV.e_it2, EV.e_itE, EV.e_itO, EV.itoM_, EV.kIt_, EV.kIt'_, EV.l_nil, EV.l_cons, EV.kLc_, EV.kLc'_, EV.a_nil, EV.a_ref, EV.kAr_, EV.kAc_, EV.kAc'_, EV.seqM_n, EV.seqM_r, EV.seqM_e, EV.seqM_s, EV.s_skip, EV.s_seq, EV.s_asg1, EV.kAsg_, EV.s_asgM, EV.kAsgM_, EV.kAsgM2_, EV.s_par, EV.kPar_, EV.s_asgI, EV.kAI_, EV.kAI1_, EV.kAI2_, EV.s_app, EV.appO_, EV.kApp_, EV.s_ext, EV.extO_, EV.kExt_, EV.s_ins, EV.insO_, EV.kIns_, EV.kIns2_, EV.s_ex, EV.kEx_, EV.s_ret, EV.kRet_, EV.s_ifs, EV.kIfS_, EV.ifS_t, EV.ifS_f, EV.s_fors, EV.kFor_, EV.kFor'_, EV.s_raise, EV.kRai_, EV.raiM_, EV.tryM_e, EV.tryM_o, EV.s_tryx, EV.h_nil, EV.h_hnd, EV.hn_f, EV.hn_t, EV.offS_, EV.noExc, EV.Fl.plain, EV.setM_i, EV.appM_i, EV.extM_i, EV.insM_i, EV.tgs, EV.datM_n, EV.datM_r, EV.datM_e, EV.o_add, EV.o_sub, EV.c_lt, EV.c_le, EV.c_gt, EV.c_ge, EV.c_eqi, EV.c_nei, EV.asB_b, EV.allD, Option.map_some, Option.map_none, Option.bind_some, Option.bind_none, EV.refsOf, EV.resolve, EV.SV.isOwn, EV.SV.plain, Bool.not_true, Bool.not_false, Bool.or_false, Bool.false_or, Bool.false_eq_true, ↓reduceIte, EV.putOuts, List.nodup_nil, EV.setAll, List.length_cons, List.length_nil, List.getElem?_cons_zero, List.getElem?_cons_succ, List.cons_append, List.nil_append, List.append_nil, eq_self, and_self, true_and, and_true, EV.atI_lit, List.replicate_succ, List.replicate_zero, Nat.reduceAdd, Nat.reduceSub, Nat.sub_self, List.any_cons, List.any_nil, List.contains_cons, List.contains_nil, true_or, or_true, EV.ac_none, EV.ac_bl, EV.ac_int, EV.ac_str, EV.ac_var, EV.ac_gl, EV.ac_gfn, EV.ac_bin, EV.ac_neg, EV.ac_cmp, EV.ac_cmp2, EV.ac_cmpO, EV.ac_not, EV.ac_and, EV.ac_or, EV.ac_ife, EV.ac_idx, EV.ac_idxO, EV.ac_slc, EV.ac_fld, EV.ac_efld, EV.ac_tup, EV.ac_lst, EV.ac_frz, EV.ac_lrg, EV.ac_bf, EV.ac_lenO, EV.ac_isi, EV.ac_call, EV.ac_comp, EV.isN_none, EV.isN_int, EV.isN_var, EV.isN_bin, EV.isN_neg, EV.isN_idxO, EV.isN_idx, EV.isN_call, EV.isN_lenO, EV.bound_n, EV.bound_i, EV.i_t, EV.i_l, EV.i_o, EV.n_t, EV.n_l, EV.n_o, EV.bf_len, EV.bf_int, EV.bf_abs, EV.bf_tupL, EV.bf_tupT, EV.bf_tupO, EV.bf_lstL, EV.bf_lstT, EV.bf_lstO, EV.bf_max2, EV.bf_min2, EV.bf_max1, EV.bf_min1, EV.bf_all, EV.bf_any, EV.bf_repr, EV.t_one, EV.t_many, EV.t_nil, EV.t_cons, EV.it_l, EV.it_t, EV.it_r1, EV.it_r2, EV.it_el, EV.it_et, EV.w_nil, EV.w_cons, EV.b_nil, EV.b_cons, EV.c_eqb, EV.c_neb, EV.c_isN, EV.c_notN, EV.isNn, EV.hasTy, Nat.reduceBEq, Int.reduceLE, Int.reduceLT, Int.reduceToNat, Int.reduceNeg, Int.cast_ofNat_Int, Int.natCast_zero, Int.natCast_one, List.nodup_cons, List.mem_cons, List.not_mem_nil, or_false, or_self, Nat.reduceEqDiff, Nat.succ_ne_self, ne_eq, not_true_eq_false, not_false_eq_true, Bool.or_self, decide_true, decide_false, reduceCtorEq, cfp, cff, p1, e1, e2, e3, rs8, rg10, q3, q4, q1, q2, kComp'_, Option.map_some, Int.reduceEq, Int.reduceLT, hb]
  obtain rfl := hh
  ·
    refine ⟨⟨k3, s3, c3, some (.int 9), some v, some w, some (.tuple [.list (bs 9), .none]), some (v)⟩, h3, ?_⟩
    simp only [E, F_law_0, Int.natCast_zero, Int.natCast_one, Int.cast_ofNat_Int] at q3 q4 ⊢
    simp -implicitDefEqProofs only [R.bind_ok, R.bind_err, R.bind_stuck, R.lift_some, R.lift_none, EV.varM_d, EV.varM_o, EV.varM_n, EV.getS_0, EV.getS_s, List.set_cons_zero, List.set_cons_succ, List.map_cons, List.map_nil, EV.e_none, EV.e_bl, EV.e_int, EV.e_str, EV.e_var, EV.e_gl, EV.e_gfn, EV.e_bin, EV.kBin_, EV.kBin'_, EV.negD_i, EV.kNeg_, EV.e_neg, EV.e_cmp, EV.kCmp_, EV.kCmp'_, EV.e_cmp2, EV.kC1_, EV.kC2_, EV.kC3_t, EV.kC3_f, EV.e_cmpO, EV.kCO_, EV.kCO'_, EV.e_not, EV.kNot_, EV.kNot'_, EV.e_and, EV.e_or, EV.e_ife, EV.kIf_, EV.ifE_t, EV.ifE_f, EV.e_idx, EV.kIdx_, EV.kIdx'_, EV.e_idxO, EV.kIO_, EV.kIO'_, EV.kIO2_, EV.e_slc, EV.kS1_, EV.kS2_, EV.kS3_, EV.kS4_, EV.kS5_, EV.e_efld, EV.e_tup, EV.kTup_, EV.kTup'_, EV.e_lst, EV.kLst_, EV.kLst'_, EV.frzM_o, EV.frzM_d, EV.e_frz, EV.e_lrg, EV.kL1_, EV.kL2_, EV.e_bf, EV.kBf_, EV.e_lenO, EV.kLen_, EV.kIsi_, EV.e_isi, EV.outM_ok, EV.outM_err, EV.e_call, EV.kCall_, EV.kCall'_, EV.e_comp, EV.kComp_, EV.kComp'_, EV.e_itV, EV.e_it1, EV.e_it2, EV.e_itE, EV.e_itO, EV.itoM_, EV.kIt_, EV.kIt'_, EV.l_nil, EV.l_cons, EV.kLc_, EV.kLc'_, EV.a_nil, EV.a_ref, EV.kAr_, EV.kAc_, EV.kAc'_, EV.seqM_n, EV.seqM_r, EV.seqM_e, EV.seqM_s, EV.s_skip, EV.s_seq, EV.s_asg1, EV.kAsg_, EV.s_asgM, EV.kAsgM_, EV.kAsgM2_, EV.s_par, EV.kPar_, EV.s_asgI, EV.kAI_, EV.kAI1_, EV.kAI2_, EV.s_app, EV.appO_, EV.kApp_, EV.s_ext, EV.extO_, EV.kExt_, EV.s_ins, EV.insO_, EV.kIns_, EV.kIns2_, EV.s_ex, EV.kEx_, EV.s_ret, EV.kRet_, EV.s_ifs, EV.kIfS_, EV.ifS_t, EV.ifS_f, EV.s_fors, EV.kFor_, EV.kFor'_, EV.s_raise, EV.kRai_, EV.raiM_, EV.tryM_e, EV.tryM_o, EV.s_tryx, EV.h_nil, EV.h_hnd, EV.hn_f, EV.hn_t, EV.offS_, EV.noExc, EV.Fl.plain, EV.setM_i, EV.appM_i, EV.extM_i, EV.insM_i, EV.tgs, EV.datM_n, EV.datM_r, EV.datM_e, EV.o_add, EV.o_sub, EV.c_lt, EV.c_le, EV.c_gt, EV.c_ge, EV.c_eqi, EV.c_nei, EV.asB_b, EV.allD, Option.map_some, Option.map_none, Option.bind_some, Option.bind_none, EV.refsOf, EV.resolve, EV.SV.isOwn, EV.SV.plain, Bool.not_true, Bool.not_false, Bool.or_false, Bool.false_or, Bool.false_eq_true, ↓reduceIte, EV.putOuts, List.nodup_nil, EV.setAll, List.length_cons, List.length_nil, List.getElem?_cons_zero, List.getElem?_cons_succ, List.cons_append, List.nil_append, List.append_nil, eq_self, and_self, true_and, and_true, EV.atI_lit, List.replicate_succ, List.replicate_zero, Nat.reduceAdd, Nat.reduceSub, Nat.sub_self, List.any_cons, List.any_nil, List.contains_cons, List.contains_nil, true_or, or_true, EV.ac_none, EV.ac_bl, EV.ac_int, EV.ac_str, EV.ac_var, EV.ac_gl, EV.ac_gfn, EV.ac_bin, EV.ac_neg, EV.ac_cmp, EV.ac_cmp2, EV.ac_cmpO, EV.ac_not, EV.ac_and, EV.ac_or, EV.ac_ife, EV.ac_idx, EV.ac_idxO, EV.ac_slc, EV.ac_fld, EV.ac_efld, EV.ac_tup, EV.ac_lst, EV.ac_frz, EV.ac_lrg, EV.ac_bf, EV.ac_lenO, EV.ac_isi, EV.ac_call, EV.ac_comp, EV.isN_none, EV.isN_int, EV.isN_var, EV.isN_bin, EV.isN_neg, EV.isN_idxO, EV.isN_idx, EV.isN_call, EV.isN_lenO, EV.bound_n, EV.bound_i, EV.i_t, EV.i_l, EV.i_o, EV.n_t, EV.n_l, EV.n_o, EV.bf_len, EV.bf_int, EV.bf_abs, EV.bf_tupL, EV.bf_tupT, EV.bf_tupO, EV.bf_lstL, EV.bf_lstT, EV.bf_lstO, EV.bf_max2, EV.bf_min2, EV.bf_max1, EV.bf_min1, EV.bf_all, EV.bf_any, EV.bf_repr, EV.t_one, EV.t_many, EV.t_nil, EV.t_cons, EV.it_l, EV.it_t, EV.it_r1, EV.it_r2, EV.it_el, EV.it_et, EV.w_nil, EV.w_cons, EV.b_nil, EV.b_cons, EV.c_eqb, EV.c_neb, EV.c_isN, EV.c_notN, EV.isNn, EV.hasTy, Nat.reduceBEq, Int.reduceLE, Int.reduceLT, Int.reduceToNat, Int.reduceNeg, Int.cast_ofNat_Int, Int.natCast_zero, Int.natCast_one, List.nodup_cons, List.mem_cons, List.not_mem_nil, or_false, or_self, Nat.reduceEqDiff, Nat.succ_ne_self, ne_eq, not_true_eq_false, not_false_eq_true, Bool.or_self, decide_true, decide_false, reduceCtorEq, cfp, cff, p1, e1, e2, e3, rs9, rg10, q3, q4, q1, q2, kComp'_, Option.map_some, Int.reduceEq, Int.reduceLT, hb]
end K09

set_option maxHeartbeats 8000000
namespace K09
open PySem EV L2
theorem loop (ns : List Int) : ∀ (l : List Nat) (x : LS), (∀ n ∈ l, n < 10) → 0 ≤ x.k → ∃ y : LS, EV.forM (stepF lcf (.one 2) F_law_0) (l.map fun n => .int (n : Nat)) (E ns x) = .ok .nx (E ns y)
  | [], x, _, _ => ⟨x, rfl⟩
  | n :: l, x, h, hk => by
    obtain ⟨y, hy, e⟩ := turn ns n (h n List.mem_cons_self) x hk
    obtain ⟨z, e2⟩ := loop ns l y (fun m hm => h m (List.mem_cons_of_mem _ hm)) hy
    refine ⟨z, ?_⟩
    rw [List.map_cons]
    unfold EV.forM
    rw [e]
    exact e2
theorem e_mkf {cf : Cf} {ρ : EV.Env} {X : Nat} {ks : List Str} {perm : List Nat} {cs : List PyData} {f : Str} : semE cf (.mkf X ks perm cs f) ρ = EV.R.lift ((mkfD cf X perm cs f).map .d) ρ := rfl
theorem rgN : rangeD 0 10 = some ((List.range 10).map fun n => .int (n : Nat)) := by kernel_rfl
theorem mk1 : mkfD lcf 1 [0] [.int 1] "value" = some (.int 1) := by kernel_rfl
theorem mk2 : mkfD lcf 2 [0] [.str "a"] "value" = some (.str "a") := by kernel_rfl
theorem mk3 : mkfD lcf 3 [0] [.int 4] "index" = some (.int 4) := by kernel_rfl
theorem mk4 : mkfD lcf 4 [0] [.int 5] "value" = some (.int 5) := by kernel_rfl
theorem mk5 : mkfD lcf 5 [0] [.int 6] "line" = some (.int 6) := by kernel_rfl
theorem mk6 : mkfD lcf 6 [0] [.int 7] "limit" = some (.int 7) := by kernel_rfl
theorem mk7 : mkfD lcf 7 [0] [.int 8] "value" = some (.int 8) := by kernel_rfl
theorem mk8 : mkfD lcf 8 [0] [.int 9] "value" = some (.int 9) := by kernel_rfl
theorem mk9 : mkfD lcf 9 [0, 1] [.str "r", .int 11] "names" = some (.int 11) := by kernel_rfl
theorem mk10 : mkfD lcf 9 [1, 0] [.int 1, .str "s"] "reason" = some (.str "s") := by kernel_rfl
theorem addL {xs ys : List PyData} (h : xs.length + ys.length ≤ 1000) : binop .add (.d (.list xs)) (.olst ys) = some (.olst (xs ++ ys)) := by
  show (if xs.length + ys.length ≤ EV.line then some (SV.olst (xs ++ ys)) else none) = _
  have : EV.line = 16777216 := rfl
  rw [if_pos (by omega)]
theorem main (ns : List Int) (hn : ns.length ≤ 63) : ∃ o, m_law 5 [.d (.list (ns.map .int))] = .ok (.d (.bool true)) o := by
  obtain ⟨y, hy⟩ := loop ns (List.range 10) ⟨0, 53, 0, none, none, none, none, none⟩ (fun n h => List.mem_range.mp h) (by decide)
  have hal := al_self (d := 5) (x := .list [.int 1, .str "a", .int 4, .int 5, .int 6, .int 7, .int 8, .int 9, .int 11, .str "s"]) (by kernel_rfl)
  have had := addL (xs := [.int 1, .str "a", .int 4, .int 5, .int 6]) (ys := [.int 7, .int 8, .int 9, .int 11, .str "s"]) (by decide)
  simp only [List.cons_append, List.nil_append] at had
  refine ⟨[.d (.list (ns.map .int))], ?_⟩
  refine ((run_data [.d (.list (ns.map .int))] (by simp [SV.isOwn]) rfl).trans ?_)
  simp only [E, Option.map_none] at hy
  simp only [env0, b_law]
  simp -implicitDefEqProofs only [R.bind_ok, R.bind_err, R.bind_stuck, R.lift_some, R.lift_none, EV.varM_d, EV.varM_o, EV.varM_n, EV.getS_0, EV.getS_s, List.set_cons_zero, List.set_cons_succ, List.map_cons, List.map_nil, EV.e_none, EV.e_bl, EV.e_int, EV.e_str, EV.e_var, EV.e_gl, EV.e_gfn, EV.e_bin, EV.kBin_, EV.kBin'_, EV.negD_i, EV.kNeg_, EV.e_neg, EV.e_cmp, EV.kCmp_, EV.kCmp'_, EV.e_cmp2, EV.kC1_, EV.kC2_, EV.kC3_t, EV.kC3_f, EV.e_cmpO, EV.kCO_, EV.kCO'_, EV.e_not, EV.kNot_, EV.kNot'_, EV.e_and, EV.e_or, EV.e_ife, EV.kIf_, EV.ifE_t, EV.ifE_f, EV.e_idx, EV.kIdx_, EV.kIdx'_, EV.e_idxO, EV.kIO_, EV.kIO'_, EV.kIO2_, EV.e_slc, EV.kS1_, EV.kS2_, EV.kS3_, EV.kS4_, EV.kS5_, EV.e_efld, EV.e_tup, EV.kTup_, EV.kTup'_, EV.e_lst, EV.kLst_, EV.kLst'_, EV.frzM_o, EV.frzM_d, EV.e_frz, EV.e_lrg, EV.kL1_, EV.kL2_, EV.e_bf, EV.kBf_, EV.e_lenO, EV.kLen_, EV.kIsi_, EV.e_isi, EV.outM_ok, EV.outM_err, EV.e_call, EV.kCall_, EV.kCall'_, EV.e_comp, EV.kComp_, EV.kComp'_, EV.e_itV, EV.e_it1, EV.e_it2, EV.e_itE, EV.e_itO, EV.itoM_, EV.kIt_, EV.kIt'_, EV.l_nil, EV.l_cons, EV.kLc_, EV.kLc'_, EV.a_nil, EV.a_ref, EV.kAr_, EV.kAc_, EV.kAc'_, EV.seqM_n, EV.seqM_r, EV.seqM_e, EV.seqM_s, EV.s_skip, EV.s_seq, EV.s_asg1, EV.kAsg_, EV.s_asgM, EV.kAsgM_, EV.kAsgM2_, EV.s_par, EV.kPar_, EV.s_asgI, EV.kAI_, EV.kAI1_, EV.kAI2_, EV.s_app, EV.appO_, EV.kApp_, EV.s_ext, EV.extO_, EV.kExt_, EV.s_ins, EV.insO_, EV.kIns_, EV.kIns2_, EV.s_ex, EV.kEx_, EV.s_ret, EV.kRet_, EV.s_ifs, EV.kIfS_, EV.ifS_t, EV.ifS_f, EV.s_fors, EV.kFor_, EV.kFor'_, EV.s_raise, EV.kRai_, EV.raiM_, EV.tryM_e, EV.tryM_o, EV.s_tryx, EV.h_nil, EV.h_hnd, EV.hn_f, EV.hn_t, EV.offS_, EV.noExc, EV.Fl.plain, EV.setM_i, EV.appM_i, EV.extM_i, EV.insM_i, EV.tgs, EV.datM_n, EV.datM_r, EV.datM_e, EV.o_add, EV.o_sub, EV.c_lt, EV.c_le, EV.c_gt, EV.c_ge, EV.c_eqi, EV.c_nei, EV.asB_b, EV.allD, Option.map_some, Option.map_none, Option.bind_some, Option.bind_none, EV.refsOf, EV.resolve, EV.SV.isOwn, EV.SV.plain, Bool.not_true, Bool.not_false, Bool.or_false, Bool.false_or, Bool.false_eq_true, ↓reduceIte, EV.putOuts, List.nodup_nil, EV.setAll, List.length_cons, List.length_nil, List.getElem?_cons_zero, List.getElem?_cons_succ, List.cons_append, List.nil_append, List.append_nil, eq_self, and_self, true_and, and_true, EV.atI_lit, List.replicate_succ, List.replicate_zero, Nat.reduceAdd, Nat.reduceSub, Nat.sub_self, List.any_cons, List.any_nil, List.contains_cons, List.contains_nil, true_or, or_true, EV.ac_none, EV.ac_bl, EV.ac_int, EV.ac_str, EV.ac_var, EV.ac_gl, EV.ac_gfn, EV.ac_bin, EV.ac_neg, EV.ac_cmp, EV.ac_cmp2, EV.ac_cmpO, EV.ac_not, EV.ac_and, EV.ac_or, EV.ac_ife, EV.ac_idx, EV.ac_idxO, EV.ac_slc, EV.ac_fld, EV.ac_efld, EV.ac_tup, EV.ac_lst, EV.ac_frz, EV.ac_lrg, EV.ac_bf, EV.ac_lenO, EV.ac_isi, EV.ac_call, EV.ac_comp, EV.isN_none, EV.isN_int, EV.isN_var, EV.isN_bin, EV.isN_neg, EV.isN_idxO, EV.isN_idx, EV.isN_call, EV.isN_lenO, EV.bound_n, EV.bound_i, EV.i_t, EV.i_l, EV.i_o, EV.n_t, EV.n_l, EV.n_o, EV.bf_len, EV.bf_int, EV.bf_abs, EV.bf_tupL, EV.bf_tupT, EV.bf_tupO, EV.bf_lstL, EV.bf_lstT, EV.bf_lstO, EV.bf_max2, EV.bf_min2, EV.bf_max1, EV.bf_min1, EV.bf_all, EV.bf_any, EV.bf_repr, EV.t_one, EV.t_many, EV.t_nil, EV.t_cons, EV.it_l, EV.it_t, EV.it_r1, EV.it_r2, EV.it_el, EV.it_et, EV.w_nil, EV.w_cons, EV.b_nil, EV.b_cons, EV.c_eqb, EV.c_neb, EV.c_isN, EV.c_notN, EV.isNn, EV.hasTy, Nat.reduceBEq, Int.reduceLE, Int.reduceLT, Int.reduceToNat, Int.reduceNeg, Int.cast_ofNat_Int, Int.natCast_zero, Int.natCast_one, List.nodup_cons, List.mem_cons, List.not_mem_nil, or_false, or_self, Nat.reduceEqDiff, Nat.succ_ne_self, ne_eq, not_true_eq_false, not_false_eq_true, Bool.or_self, decide_true, decide_false, reduceCtorEq, cfp, cff, rgN, hy, e_mkf, mk1, mk2, mk3, mk4, mk5, mk6, mk7, mk8, mk9, mk10, had, hal]
end K09

theorem PySem.Challenge.cw_nightclasses_k09_errors_holds : PySem.Challenge.rw_nightclasses_k09_errors.Holds :=
  PySem.Challenge.k09_of K09.main
