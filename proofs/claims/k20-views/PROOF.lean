import PyProof.Rows.All
import Wide.All
import OpenK.AllK
import Wide.FinOn
import HandS.ForMost
import HandS.Exc
import HandS.Lambda
import HandS.Wide
import HandS.IsInst
import HandS.Style
import HandS.TupAny
import HandS.Defaults
import HandS.ExcOwn
import HandS.CallSlots
import HandS.TryOnly
import HandS.SetFor
import HandS.Comp
import HandS.ExcInit
import HandS.ExcSuper
import KE.KExcSuper
import KE.RegKSuper
import HandS.Nested
import HandS.ExcIs
import HandS.ExcField
import HandS.ExcValue
import HandS.Deep
import PyProof.ReprRoads
import PyProof.ListMulRight
import PyProof.StrOps2
import PyProof.AutoIntG3
import KE.KDflt
import HandS.HeadHook2
import HandS.EndTab
import HandS.HeadWalk
import KE.KStateDown
import HandS.Ends
import HandS.Words
import HandS.WordsExc
import HandS.Head0
import HandS.Head1
import HandS.Head2
import HandS.HeadEnd
import HandS.HeadHook1
import PySem.Challenge.RW_peranswer_k20_what_views_weigh
set_option Elab.async false
set_option linter.all false
set_option maxRecDepth 100000
set_option maxHeartbeats 0
/-! The D-layer: pure data, a store, what represents what. -/
namespace DL
open PySem PySem.Spec PyProof.Rows L2

/-! ### data -/
inductive D where
  | non | bl (b : Bool) | int (i : Int) | str (x : Str) | ty (n : String)
  /-- what the module's name x stands for: a def, a class -/
  | glo (x : Str)
  | tup (xs : List D) | lst (xs : List D)
  /-- a list that is only read (the script) -/
  | frl (xs : List D)
  | dct (kvs : List (D × D))
  /-- an instance that never changes any more -/
  | obj (c : Str) (fs : List (Str × D))
  /-- an exception -/
  | exc (c : Str) (fs : List (Str × D))
  /-- a lambda: the object at f, its code object at c; σ the slots of the def that made it, ρ what is known of them -/
  | lam (f c : Addr) (q : Str) (σ : List (Option V)) (ρ : List (Nat × D))
instance : Inhabited D := ⟨.non⟩
/-- a changing object -/
inductive MO where
  | lst (xs : List D) | dct (kvs : List (D × D)) | ins (c : Str) (fs : List (Str × D))
/-- a value: data, or the n-th changing object -/
inductive Val where
  | d (d : D) | loc (n : Nat)
instance : Inhabited Val := ⟨.d .non⟩
abbrev Store := List (Option MO)
abbrev Env := List (Option Val)

/-- what an expression comes to -/
inductive Res (α : Type) where
  | ok (x : α) (ω : Store) | exc (e : D) (ω : Store) | bad
def Res.bind {α β : Type} : Res α → (α → Store → Res β) → Res β
  | .ok x ω, k => k x ω
  | .exc e ω, _ => .exc e ω
  | .bad, _ => .bad
/-- what a statement comes to -/
inductive SRes where
  | nx (ρ : Env) (ω : Store) | rt (x : Val) (ω : Store) | bk (ρ : Env) (ω : Store) | ct (ρ : Env) (ω : Store) | exc (e : D) (ρ : Env) (ω : Store) | bad

/-! ### the ground -/
structure Gd where
  K : PySem.W.Frag
  mg : Str → Option Value
  T : List (Addr × Str)
def off (l : List Addr) (H : Hp) : Hp := fun a => if a ∈ l then none else H a
theorem off_some {l : List Addr} {H : Hp} {a : Addr} {o : HO} (h : off l H a = some o) : a ∉ l ∧ H a = some o := by
  unfold off at h
  split at h
  · cases h
  · rename_i q; exact ⟨q, h⟩
theorem off_of {l : List Addr} {H : Hp} {a : Addr} (h : a ∉ l) : off l H a = H a := by unfold off; rw [if_neg h]
theorem off_in {l : List Addr} {H : Hp} {a : Addr} (h : a ∈ l) : off l H a = none := by unfold off; rw [if_pos h]
theorem off_nil {H : Hp} : off [] H = H := by funext a; exact off_of (by simp)
/-- grown by new objects alone -/
def Grow (H H' : Hp) : Prop := ∀ a o, H a = some o → H' a = some o
theorem Grow.refl {H : Hp} : Grow H H := fun _ _ h => h
theorem Grow.trans {H H1 H2 : Hp} (a : Grow H H1) (b : Grow H1 H2) : Grow H H2 := fun c o h => b c o (a c o h)
theorem Grow.new {H : Hp} {p : Addr} {o : HO} (h : H p = none) : Grow H (upd H p o) := fun a u e => by rw [upd_ne (ne_of_none e h)]; exact e
/-- all stands but tables -/
abbrev Ext := LamX.ExtN
theorem Grow.ext {H H' : Hp} (g : Grow H H') : Ext H H' := fun a o h _ => g a o h
theorem Grow.off {l : List Addr} {H H' : Hp} (g : Grow H H') : Grow (off l H) (off l H') := fun a o h => by
  obtain ⟨h1, h2⟩ := off_some h
  rw [off_of h1]; exact g a o h2
theorem ext_off {l : List Addr} {H : Hp} : Ext (off l H) H := fun a o h _ => (off_some h).2

/-! ### what represents data -/
/-- at a: an exception that was caught, of the class cls, its dict at d -/
def exh (a : Addr) (cls : Value) (d : Option Addr) : HO := .ext fun h => ∃ (oe : Obj) (vs : Array Value), h.get? a = some oe ∧ L2.Zc cls d oe ∧ oe.data = .fields vs
theorem exh_tbl {a : Addr} {cls : Value} {d : Option Addr} {ps : Array Value} : exh a cls d ≠ .tbl ps := fun z => by
  have z' : HO.ext _ = HO.tbl ps := z
  cases z'
def keyD : Key → D
  | .inl i => .int i
  | .inr x => .str x
/-- a tuple: tracked, or of the written part -/
def TupAt (K : PySem.W.Frag) (H : Hp) (a : Addr) (vs : List V) : Prop := H a = some (.tup vs) ∨ ∃ (o : Obj) (its : Array Value) (n : Nat), K.lookup a = some o ∧ o.cls = .type "tuple" ∧ o.data = .seq its n ∧ its.size ≤ sizeLine ∧ Vals vs its.toList
theorem TupAt.sq {K : PySem.W.Frag} {H : Hp} {a : Addr} {vs : List V} (h : TupAt K H a vs) : SqT K H a vs := by
  rcases h with h | h
  · exact .inl (.inl h)
  · exact .inr h
theorem TupAt.ext {K : PySem.W.Frag} {H H' : Hp} {a : Addr} {vs : List V} (e : LamX.ExtN H H') (h : TupAt K H a vs) : TupAt K H' a vs := by
  rcases h with h | h
  · exact .inl (e _ _ h (fun ps z => by cases z))
  · exact .inr h
mutual
inductive Rep (g : Gd) (B : Hp) : V → D → Prop
  | non : Rep g B .non .non
  | bl (b : Bool) : Rep g B (.bl b) (.bl b)
  | int (i : Int) : Rep g B (.int i) (.int i)
  | str (x : Str) : Rep g B (.str x) (.str x)
  | ty (n : String) : Rep g B (.ty n) (.ty n)
  | glo {x : Str} {a : Addr} (h : g.mg x = some (.ref a)) : Rep g B (.ref a) (.glo x)
  | tup {a : Addr} {vs : List V} {ds : List D} (h : TupAt g.K B a vs) (r : RepL g B vs ds) : Rep g B (.ref a) (.tup ds)
  | lst {a : Addr} {vs : List V} {ds : List D} (h : B a = some (.lst vs)) (r : RepL g B vs ds) : Rep g B (.ref a) (.lst ds)
  | frl {a : Addr} {vs : List V} {ds : List D} (h : SqL g.K B a vs) (r : RepL g B vs ds) : Rep g B (.ref a) (.frl ds)
  | dct {a : Addr} {kvs : List (Key × V)} {ds : List (D × D)} (h : B a = some (.dK kvs)) (r : RepK g B kvs ds) : Rep g B (.ref a) (.dct ds)
  | obj {a C dx : Addr} {fvs : List (Str × V)} {c : Str} {fs : List (Str × D)} (h : B a = some (.ins C dx fvs)) (hc : g.mg c = some (.ref C)) (r : RepF g B fvs fs) : Rep g B (.ref a) (.obj c fs)
  | exc {a C d : Addr} {fvs : List (Str × V)} {c : Str} {fs : List (Str × D)} (h : B a = some (exh a (.ref C) (some d))) (hd : B d = some (.xd fvs)) (hc : g.mg c = some (.ref C)) (r : RepF g B fvs fs) : Rep g B (.ref a) (.exc c fs)
  | lam {f c : Addr} {q : Str} {σ : List (Option V)} {ρ : List (Nat × D)} (h : B c = some (LamX.CodeO c q)) (r : RepN g B σ ρ) : Rep g B (.ref f) (.lam f c q σ ρ)
inductive RepL (g : Gd) (B : Hp) : List V → List D → Prop
  | nil : RepL g B [] []
  | cons {v : V} {d : D} {vs : List V} {ds : List D} (h : Rep g B v d) (r : RepL g B vs ds) : RepL g B (v :: vs) (d :: ds)
inductive RepK (g : Gd) (B : Hp) : List (Key × V) → List (D × D) → Prop
  | nil : RepK g B [] []
  | cons {k : Key} {v : V} {d : D} {vs : List (Key × V)} {ds : List (D × D)} (h : Rep g B v d) (r : RepK g B vs ds) : RepK g B ((k, v) :: vs) ((keyD k, d) :: ds)
inductive RepF (g : Gd) (B : Hp) : List (Str × V) → List (Str × D) → Prop
  | nil : RepF g B [] []
  | cons {x : Str} {v : V} {d : D} {vs : List (Str × V)} {ds : List (Str × D)} (h : Rep g B v d) (r : RepF g B vs ds) : RepF g B ((x, v) :: vs) ((x, d) :: ds)
inductive RepN (g : Gd) (B : Hp) : List (Option V) → List (Nat × D) → Prop
  | nil {σ : List (Option V)} : RepN g B σ []
  | cons {i : Nat} {σ : List (Option V)} {v : V} {d : D} {ρ : List (Nat × D)} (e : σ[i]? = some (some v)) (h : Rep g B v d) (r : RepN g B σ ρ) : RepN g B σ ((i, d) :: ρ)
end
theorem sqL_ext {K : PySem.W.Frag} {B B' : Hp} {a : Addr} {vs : List V} (e : Ext B B') (h : SqL K B a vs) : SqL K B' a vs := by
  rcases h with (h | ⟨o, h⟩) | h
  · exact .inl (.inl (e _ _ h (fun ps z => by cases z)))
  · exact .inl (.inr ⟨o, e _ _ h (fun ps z => by cases z)⟩)
  · exact .inr h
theorem sqT_ext {K : PySem.W.Frag} {B B' : Hp} {a : Addr} {vs : List V} (e : Ext B B') (h : SqT K B a vs) : SqT K B' a vs := by
  rcases h with (h | ⟨o, h⟩) | h
  · exact .inl (.inl (e _ _ h (fun ps z => by cases z)))
  · exact .inl (.inr ⟨o, e _ _ h (fun ps z => by cases z)⟩)
  · exact .inr h
section
variable {g : Gd} {B B' : Hp}
theorem monoAll (e : Ext B B') : (∀ {v : V} {d : D}, Rep g B v d → Rep g B' v d) ∧ (∀ {vs : List V} {ds : List D}, RepL g B vs ds → RepL g B' vs ds) ∧
    (∀ {vs : List (Key × V)} {ds : List (D × D)}, RepK g B vs ds → RepK g B' vs ds) ∧ (∀ {vs : List (Str × V)} {ds : List (Str × D)}, RepF g B vs ds → RepF g B' vs ds) ∧ (∀ {σ : List (Option V)} {ρ : List (Nat × D)}, RepN g B σ ρ → RepN g B' σ ρ) := by
  have key := @Rep.rec g B (fun v d _ => Rep g B' v d) (fun vs ds _ => RepL g B' vs ds) (fun vs ds _ => RepK g B' vs ds) (fun vs ds _ => RepF g B' vs ds) (fun σ ρ _ => RepN g B' σ ρ)
    .non .bl .int .str .ty (fun h => .glo h) (fun h _ r => .tup (h.ext e) r) (fun h _ r => .lst (e _ _ h (fun ps z => by cases z)) r) (fun h _ r => .frl (sqL_ext e h) r) (fun h _ r => .dct (e _ _ h (fun ps z => by cases z)) r)
    (fun h hc _ r => .obj (e _ _ h (fun ps z => by cases z)) hc r) (fun h hd hc _ r => .exc (e _ _ h (fun ps z => exh_tbl z)) (e _ _ hd (fun ps z => by cases z)) hc r) (fun h _ r => .lam (e _ _ h (fun ps z => LamX.codeO_ne ps z)) r) .nil (fun _ _ h r => .cons h r) .nil (fun _ _ h r => .cons h r) .nil (fun _ _ h r => .cons h r) .nil (fun e' _ _ h r => .cons e' h r)
  have keyL := @RepL.rec g B (fun v d _ => Rep g B' v d) (fun vs ds _ => RepL g B' vs ds) (fun vs ds _ => RepK g B' vs ds) (fun vs ds _ => RepF g B' vs ds) (fun σ ρ _ => RepN g B' σ ρ)
    .non .bl .int .str .ty (fun h => .glo h) (fun h _ r => .tup (h.ext e) r) (fun h _ r => .lst (e _ _ h (fun ps z => by cases z)) r) (fun h _ r => .frl (sqL_ext e h) r) (fun h _ r => .dct (e _ _ h (fun ps z => by cases z)) r)
    (fun h hc _ r => .obj (e _ _ h (fun ps z => by cases z)) hc r) (fun h hd hc _ r => .exc (e _ _ h (fun ps z => exh_tbl z)) (e _ _ hd (fun ps z => by cases z)) hc r) (fun h _ r => .lam (e _ _ h (fun ps z => LamX.codeO_ne ps z)) r) .nil (fun _ _ h r => .cons h r) .nil (fun _ _ h r => .cons h r) .nil (fun _ _ h r => .cons h r) .nil (fun e' _ _ h r => .cons e' h r)
  have keyK := @RepK.rec g B (fun v d _ => Rep g B' v d) (fun vs ds _ => RepL g B' vs ds) (fun vs ds _ => RepK g B' vs ds) (fun vs ds _ => RepF g B' vs ds) (fun σ ρ _ => RepN g B' σ ρ)
    .non .bl .int .str .ty (fun h => .glo h) (fun h _ r => .tup (h.ext e) r) (fun h _ r => .lst (e _ _ h (fun ps z => by cases z)) r) (fun h _ r => .frl (sqL_ext e h) r) (fun h _ r => .dct (e _ _ h (fun ps z => by cases z)) r)
    (fun h hc _ r => .obj (e _ _ h (fun ps z => by cases z)) hc r) (fun h hd hc _ r => .exc (e _ _ h (fun ps z => exh_tbl z)) (e _ _ hd (fun ps z => by cases z)) hc r) (fun h _ r => .lam (e _ _ h (fun ps z => LamX.codeO_ne ps z)) r) .nil (fun _ _ h r => .cons h r) .nil (fun _ _ h r => .cons h r) .nil (fun _ _ h r => .cons h r) .nil (fun e' _ _ h r => .cons e' h r)
  have keyF := @RepF.rec g B (fun v d _ => Rep g B' v d) (fun vs ds _ => RepL g B' vs ds) (fun vs ds _ => RepK g B' vs ds) (fun vs ds _ => RepF g B' vs ds) (fun σ ρ _ => RepN g B' σ ρ)
    .non .bl .int .str .ty (fun h => .glo h) (fun h _ r => .tup (h.ext e) r) (fun h _ r => .lst (e _ _ h (fun ps z => by cases z)) r) (fun h _ r => .frl (sqL_ext e h) r) (fun h _ r => .dct (e _ _ h (fun ps z => by cases z)) r)
    (fun h hc _ r => .obj (e _ _ h (fun ps z => by cases z)) hc r) (fun h hd hc _ r => .exc (e _ _ h (fun ps z => exh_tbl z)) (e _ _ hd (fun ps z => by cases z)) hc r) (fun h _ r => .lam (e _ _ h (fun ps z => LamX.codeO_ne ps z)) r) .nil (fun _ _ h r => .cons h r) .nil (fun _ _ h r => .cons h r) .nil (fun _ _ h r => .cons h r) .nil (fun e' _ _ h r => .cons e' h r)
  have keyN := @RepN.rec g B (fun v d _ => Rep g B' v d) (fun vs ds _ => RepL g B' vs ds) (fun vs ds _ => RepK g B' vs ds) (fun vs ds _ => RepF g B' vs ds) (fun σ ρ _ => RepN g B' σ ρ)
    .non .bl .int .str .ty (fun h => .glo h) (fun h _ r => .tup (h.ext e) r) (fun h _ r => .lst (e _ _ h (fun ps z => by cases z)) r) (fun h _ r => .frl (sqL_ext e h) r) (fun h _ r => .dct (e _ _ h (fun ps z => by cases z)) r)
    (fun h hc _ r => .obj (e _ _ h (fun ps z => by cases z)) hc r) (fun h hd hc _ r => .exc (e _ _ h (fun ps z => exh_tbl z)) (e _ _ hd (fun ps z => by cases z)) hc r) (fun h _ r => .lam (e _ _ h (fun ps z => LamX.codeO_ne ps z)) r) .nil (fun _ _ h r => .cons h r) .nil (fun _ _ h r => .cons h r) .nil (fun _ _ h r => .cons h r) .nil (fun e' _ _ h r => .cons e' h r)
  exact ⟨fun h => key h, fun h => keyL h, fun h => keyK h, fun h => keyF h, fun h => keyN h⟩
theorem Rep.mono (e : Ext B B') {v : V} {d : D} (h : Rep g B v d) : Rep g B' v d := (monoAll e).1 h
theorem RepL.mono (e : Ext B B') {vs : List V} {ds : List D} (h : RepL g B vs ds) : RepL g B' vs ds := (monoAll e).2.1 h
theorem RepK.mono (e : Ext B B') {vs : List (Key × V)} {ds : List (D × D)} (h : RepK g B vs ds) : RepK g B' vs ds := (monoAll e).2.2.1 h
theorem RepF.mono (e : Ext B B') {vs : List (Str × V)} {ds : List (Str × D)} (h : RepF g B vs ds) : RepF g B' vs ds := (monoAll e).2.2.2.1 h
theorem RepN.mono (e : Ext B B') {σ : List (Option V)} {ρ : List (Nat × D)} (h : RepN g B σ ρ) : RepN g B' σ ρ := (monoAll e).2.2.2.2 h
theorem RepL.len : ∀ {vs : List V} {ds : List D}, RepL g B vs ds → vs.length = ds.length
  | _, _, .nil => rfl
  | _, _, .cons _ r => congrArg (· + 1) (RepL.len r)
theorem RepL.get : ∀ {vs : List V} {ds : List D} {i : Nat} {d : D}, RepL g B vs ds → ds[i]? = some d → ∃ v, vs[i]? = some v ∧ Rep g B v d
  | _, _, _, _, .nil, h => by simp at h
  | _, _, 0, _, .cons h _, e => by simp at e; subst e; exact ⟨_, rfl, h⟩
  | _, _, i + 1, _, .cons _ r, e => by
    obtain ⟨v, h1, h2⟩ := RepL.get (i := i) r (by simpa using e)
    exact ⟨v, by simpa using h1, h2⟩
theorem RepL.getV : ∀ {vs : List V} {ds : List D} {i : Nat} {v : V}, RepL g B vs ds → vs[i]? = some v → ∃ d, ds[i]? = some d ∧ Rep g B v d
  | _, _, _, _, .nil, h => by simp at h
  | _, _, 0, _, .cons h _, e => by simp at e; subst e; exact ⟨_, rfl, h⟩
  | _, _, i + 1, _, .cons _ r, e => by
    obtain ⟨v, h1, h2⟩ := RepL.getV (i := i) r (by simpa using e)
    exact ⟨v, by simpa using h1, h2⟩
theorem RepL.append : ∀ {vs ws : List V} {ds es : List D}, RepL g B vs ds → RepL g B ws es → RepL g B (vs ++ ws) (ds ++ es)
  | _, _, _, _, .nil, s => s
  | _, _, _, _, .cons h r, s => .cons h (RepL.append r s)
theorem RepL.one {v : V} {d : D} (h : Rep g B v d) : RepL g B [v] [d] := .cons h .nil
theorem RepL.set : ∀ {vs : List V} {ds : List D} (i : Nat) {v : V} {d : D}, RepL g B vs ds → Rep g B v d → RepL g B (vs.set i v) (ds.set i d)
  | _, _, _, _, _, .nil, _ => .nil
  | _, _, 0, _, _, .cons _ r, h => .cons h r
  | _, _, i + 1, _, _, .cons h r, q => .cons h (RepL.set i r q)
theorem RepL.take : ∀ {vs : List V} {ds : List D} (n : Nat), RepL g B vs ds → RepL g B (vs.take n) (ds.take n)
  | _, _, 0, _ => .nil
  | _, _, _ + 1, .nil => .nil
  | _, _, n + 1, .cons h r => .cons h (RepL.take n r)
theorem RepL.drop : ∀ {vs : List V} {ds : List D} (n : Nat), RepL g B vs ds → RepL g B (vs.drop n) (ds.drop n)
  | _, _, 0, r => r
  | _, _, _ + 1, .nil => .nil
  | _, _, n + 1, .cons _ r => RepL.drop n r
theorem RepF.look : ∀ {fvs : List (Str × V)} {fs : List (Str × D)} {x : Str} {d : D}, RepF g B fvs fs → fs.lookup x = some d → ∃ v, fvs.lookup x = some v ∧ Rep g B v d
  | _, _, _, _, .nil, h => by cases h
  | _, _, x, d, .cons (x := y) h r, e => by
    rw [List.lookup_cons] at e ⊢
    cases q : x == y with
    | true => rw [q] at e; cases e; exact ⟨_, rfl, h⟩
    | false => rw [q] at e; exact RepF.look r e
theorem RepF.lookN : ∀ {fvs : List (Str × V)} {fs : List (Str × D)} {x : Str}, RepF g B fvs fs → fs.lookup x = none → fvs.lookup x = none
  | _, _, _, .nil, h => rfl
  | _, _, x, .cons (x := y) h r, e => by
    rw [List.lookup_cons] at e ⊢
    cases q : x == y with
    | true => rw [q] at e; cases e
    | false => rw [q] at e; exact RepF.lookN r e
end

/-! ### the store -/
def lv : Store → List Addr → List Addr
  | some _ :: ω, a :: α => a :: lv ω α
  | none :: ω, _ :: α => lv ω α
  | _, _ => []
abbrev base (ω : Store) (α : List Addr) (H : Hp) : Hp := off (lv ω α) H
inductive MRep (g : Gd) (B : Hp) : HO → MO → Prop
  | lst {vs : List V} {ds : List D} (h : RepL g B vs ds) : MRep g B (.lst vs) (.lst ds)
  | dct {kvs : List (Key × V)} {ds : List (D × D)} (h : RepK g B kvs ds) : MRep g B (.dK kvs) (.dct ds)
  | ins {C dx : Addr} {fvs : List (Str × V)} {c : Str} {fs : List (Str × D)} (hc : g.mg c = some (.ref C)) (h : RepF g B fvs fs) : MRep g B (.ins C dx fvs) (.ins c fs)
theorem MRep.mono {g : Gd} {B B' : Hp} (e : Ext B B') {o : HO} {m : MO} (h : MRep g B o m) : MRep g B' o m := by
  induction h with
  | lst h => exact .lst (h.mono e)
  | dct h => exact .dct (h.mono e)
  | ins hc h => exact .ins hc (h.mono e)
/-- the store's objects as they stand -/
inductive SRl (g : Gd) (B H : Hp) : Store → List Addr → Prop
  | nil : SRl g B H [] []
  | dead {ω : Store} {a : Addr} {α : List Addr} (r : SRl g B H ω α) : SRl g B H (none :: ω) (a :: α)
  | live {ω : Store} {a : Addr} {α : List Addr} {m : MO} {o : HO} (h : H a = some o) (hm : MRep g B o m) (r : SRl g B H ω α) : SRl g B H (some m :: ω) (a :: α)
structure SR (g : Gd) (ω : Store) (α : List Addr) (H : Hp) : Prop where
  at_ : SRl g (base ω α H) H ω α
  nd : (lv ω α).Nodup
  tabs : LamX.Tabs g.T H
def RepV (g : Gd) (B : Hp) (α : List Addr) : V → Val → Prop
  | v, .d x => Rep g B v x
  | v, .loc n => ∃ a, α[n]? = some a ∧ v = .ref a
structure RS (g : Gd) (B : Hp) (α : List Addr) (σ : L2.St) (ρ : Env) : Prop where
  len : σ.length = ρ.length
  at_ : ∀ (i : Nat) (x : Val), ρ[i]? = some (some x) → ∃ v : V, σ[i]? = some (some v) ∧ RepV g B α v x
/-- from one state to a later one -/
structure Go (g : Gd) (ω : Store) (α : List Addr) (H : Hp) (ω' : Store) (α' : List Addr) (H' : Hp) : Prop where
  sr : SR g ω' α' H'
  pre : α <+: α'
  ext : Ext (base ω α H) (base ω' α' H')
section
variable {g : Gd} {B B' H H' : Hp} {ω ω' : Store} {α α' : List Addr}
theorem SRl.mono (e : Ext B B') (k : ∀ a o, a ∈ lv ω α → H a = some o → H' a = some o) : SRl g B H ω α → SRl g B' H' ω α := by
  intro h
  induction h with
  | nil => exact .nil
  | dead r ih => exact .dead (ih k)
  | live h hm r ih => exact .live (k _ _ (by unfold lv; exact List.mem_cons_self) h) (hm.mono e) (ih fun a o q => k a o (by unfold lv; exact List.mem_cons_of_mem _ q))
theorem SRl.len : SRl g B H ω α → α.length = ω.length := by
  intro h
  induction h with
  | nil => rfl
  | dead r ih => simp [ih]
  | live h hm r ih => simp [ih]
theorem SRl.there : SRl g B H ω α → ∀ a ∈ lv ω α, ∃ o, H a = some o := by
  intro h
  induction h with
  | nil => intro a h; exact absurd h (by unfold lv; simp)
  | dead r ih => intro a h; exact ih a (by unfold lv at h; exact h)
  | live h hm r ih =>
    intro a q
    unfold lv at q
    rcases List.mem_cons.mp q with e | q
    · exact ⟨_, by rw [e]; exact h⟩
    · exact ih a q
theorem SRl.get : SRl g B H ω α → ∀ {n : Nat} {m : MO}, ω[n]? = some (some m) → ∃ a o, α[n]? = some a ∧ a ∈ lv ω α ∧ H a = some o ∧ MRep g B o m := by
  intro h
  induction h with
  | nil => intro n m e; simp at e
  | dead r ih =>
    intro n m e
    cases n with
    | zero => simp at e
    | succ n => obtain ⟨a, o, h1, h2, h3⟩ := ih (n := n) (by simpa using e); exact ⟨a, o, by simpa using h1, by unfold lv; exact h2, h3⟩
  | live h hm r ih =>
    intro n m e
    cases n with
    | zero => simp at e; subst e; exact ⟨_, _, rfl, by unfold lv; exact List.mem_cons_self, h, hm⟩
    | succ n => obtain ⟨a, o, h1, h2, h3⟩ := ih (n := n) (by simpa using e); exact ⟨a, o, by simpa using h1, by unfold lv; exact List.mem_cons_of_mem _ h2, h3⟩
theorem SR.len (s : SR g ω α H) : α.length = ω.length := s.at_.len
theorem SR.there (s : SR g ω α H) : ∀ a ∈ lv ω α, ∃ o, H a = some o := s.at_.there
theorem SR.get (s : SR g ω α H) {n : Nat} {m : MO} (e : ω[n]? = some (some m)) : ∃ a o, α[n]? = some a ∧ a ∈ lv ω α ∧ H a = some o ∧ MRep g (base ω α H) o m := s.at_.get e
theorem RepV.mono {v : V} {x : Val} (e : Ext B B') (p : α <+: α') (h : RepV g B α v x) : RepV g B' α' v x := by
  cases x with
  | d x => exact Rep.mono e h
  | loc n =>
    obtain ⟨a, h1, h2⟩ := h
    obtain ⟨r, rfl⟩ := p
    exact ⟨a, by rw [List.getElem?_append_left (List.getElem?_eq_some_iff.mp h1).1]; exact h1, h2⟩
theorem RS.mono {σ : L2.St} {ρ : Env} (e : Ext B B') (p : α <+: α') (h : RS g B α σ ρ) : RS g B' α' σ ρ := ⟨h.len, fun i x q => by
  obtain ⟨v, h1, h2⟩ := h.at_ i x q
  exact ⟨v, h1, h2.mono e p⟩⟩
theorem RS.set {σ : L2.St} {ρ : Env} {i : Nat} {v : V} {x : Val} (h : RS g B α σ ρ) (r : RepV g B α v x) : RS g B α (σ.set i (some v)) (ρ.set i (some x)) := ⟨by rw [List.length_set, List.length_set]; exact h.len, fun j y q => by
  by_cases e : i = j
  · subst e
    by_cases l : i < ρ.length
    · rw [List.getElem?_set_self l] at q
      cases q
      exact ⟨v, by rw [List.getElem?_set_self (by rw [h.len]; exact l)], r⟩
    · rw [List.getElem?_eq_none (by rw [List.length_set]; omega)] at q; cases q
  · rw [List.getElem?_set_ne e] at q ⊢
    exact h.at_ j y q⟩
theorem RS.unset {σ : L2.St} {ρ : Env} {i : Nat} (h : RS g B α σ ρ) : RS g B α (σ.set i none) (ρ.set i none) := ⟨by rw [List.length_set, List.length_set]; exact h.len, fun j y q => by
  by_cases e : i = j
  · subst e
    by_cases l : i < ρ.length
    · rw [List.getElem?_set_self l] at q; cases q
    · rw [List.getElem?_eq_none (by rw [List.length_set]; omega)] at q; cases q
  · rw [List.getElem?_set_ne e] at q ⊢
    exact h.at_ j y q⟩
theorem Go.refl (s : SR g ω α H) : Go g ω α H ω α H := ⟨s, List.prefix_refl _, LamX.ExtN.refl _⟩
theorem Go.trans {ω1 ω2 : Store} {α1 α2 : List Addr} {H1 H2 : Hp} (a : Go g ω α H ω1 α1 H1) (b : Go g ω1 α1 H1 ω2 α2 H2) : Go g ω α H ω2 α2 H2 := ⟨b.sr, a.pre.trans b.pre, a.ext.trans b.ext⟩
theorem Go.grow (s : SR g ω α H) (k : Grow H H') : Go g ω α H ω α H' := ⟨⟨s.at_.mono k.off.ext fun a o _ h => k a o h, s.nd, s.tabs.ext k⟩, List.prefix_refl _, k.off.ext⟩
theorem Go.rs {σ : L2.St} {ρ : Env} (go : Go g ω α H ω' α' H') (h : RS g (base ω α H) α σ ρ) : RS g (base ω' α' H') α' σ ρ := h.mono go.ext go.pre
theorem Go.rv {v : V} {x : Val} (go : Go g ω α H ω' α' H') (h : RepV g (base ω α H) α v x) : RepV g (base ω' α' H') α' v x := h.mono go.ext go.pre
end
end DL

/-! The D-layer: readings over data; expressions. -/
namespace DL
open PySem PySem.Spec PyProof.Rows L2

abbrev gX (T : List (Addr × Str)) (X : Cx) : Gd := ⟨X.K, X.mg, T⟩
/-- an exception by its class and its own dict -/
def XRep (g : Gd) (B : Hp) (cls : Value) (dd : Option Addr) : D → Prop
  | .exc c fs => ∃ C, g.mg c = some (.ref C) ∧ cls = .ref C ∧ ∃ d fvs, dd = some d ∧ B d = some (.xd fvs) ∧ RepF g B fvs fs
  | _ => False
theorem XRep.mono {g : Gd} {B B' : Hp} {cls : Value} {dd : Option Addr} {e : D} (x : Ext B B') (h : XRep g B cls dd e) : XRep g B' cls dd e := by
  cases e with
  | exc c fs =>
    obtain ⟨C, h1, h2, d, fvs, h3, h4, h5⟩ := h
    exact ⟨C, h1, h2, d, fvs, h3, x _ _ h4 (fun ps z => by cases z), h5.mono x⟩
  | _ => exact h.elim
/-- what is wanted behind a result -/
def Post (g : Gd) (W : WX) (σ : L2.St) (ω : Store) (α : List Addr) (H : Hp) {β γ : Type} (rel : Hp → List Addr → β → γ → Prop) (Q : β → Hp → Prop) : Res γ → Prop
  | .ok x ω' => ∀ v α' H', Go g ω α H ω' α' H' → rel (base ω' α' H') α' v x → Q v H'
  | .exc e ω' => ∀ cls dd α' H', Go g ω α H ω' α' H' → XRep g (base ω' α' H') cls dd e → W cls dd σ H'
  | .bad => False
def relB (B : Hp) (α : List Addr) (b c : Bool) : Prop := b = c
inductive RepVs (g : Gd) (B : Hp) (α : List Addr) : List V → List Val → Prop
  | nil : RepVs g B α [] []
  | cons {v : V} {x : Val} {vs : List V} {xs : List Val} (h : RepV g B α v x) (r : RepVs g B α vs xs) : RepVs g B α (v :: vs) (x :: xs)
theorem RepVs.mono {g : Gd} {B B' : Hp} {α α' : List Addr} (e : Ext B B') (p : α <+: α') {vs : List V} {xs : List Val} (h : RepVs g B α vs xs) : RepVs g B' α' vs xs := by
  induction h with
  | nil => exact .nil
  | cons h r ih => exact .cons (h.mono e p) ih
theorem RepVs.len {g : Gd} {B : Hp} {α : List Addr} {vs : List V} {xs : List Val} (h : RepVs g B α vs xs) : vs.length = xs.length := by
  induction h with
  | nil => rfl
  | cons h r ih => simp [ih]
theorem RepVs.append {g : Gd} {B : Hp} {α : List Addr} {vs : List V} {xs : List Val} (h : RepVs g B α vs xs) {ws : List V} {ys : List Val} (k : RepVs g B α ws ys) : RepVs g B α (vs ++ ws) (xs ++ ys) := by
  induction h with
  | nil => exact k
  | cons h r ih => exact .cons h ih
abbrev Fx (γ : Type) := Env → Store → Res γ
/-- a reading over data -/
def tG (g : Gd) (W : WX) {β γ : Type} (rel : Hp → List Addr → β → γ → Prop) (f : Fx γ) : L2.St → Hp → (β → Hp → Prop) → Prop := fun σ H Q =>
  ∃ ρ ω α, SR g ω α H ∧ RS g (base ω α H) α σ ρ ∧ Post g W σ ω α H rel Q (f ρ ω)
abbrev tE (g : Gd) (W : WX) (f : Fx Val) : TE := tG g W (RepV g) f
abbrev tT (g : Gd) (W : WX) (f : Fx Bool) : TT := tG g W relB f
abbrev tA (g : Gd) (W : WX) (f : Fx (List Val)) : TA := tG g W (RepVs g) f
section
variable {g : Gd} {W : WX} {σ : L2.St} {ω ω1 : Store} {α α1 : List Addr} {H H1 : Hp} {β γ δ ε : Type} {rel : Hp → List Addr → β → γ → Prop} {rel' : Hp → List Addr → δ → ε → Prop} {Q Q' : β → Hp → Prop} {R : δ → Hp → Prop}
theorem Post.rebase (go : Go g ω α H ω1 α1 H1) {r : Res γ} (h : Post g W σ ω α H rel Q r) : Post g W σ ω1 α1 H1 rel Q r := by
  cases r with
  | ok x ω' => exact fun v α' H' go' hv => h v α' H' (go.trans go') hv
  | exc e ω' => exact fun c d α' H' go' hv => h c d α' H' (go.trans go') hv
  | bad => exact h
theorem Post.imp {r : Res γ} (h : Post g W σ ω α H rel Q r) (k : ∀ v H', Q v H' → Q' v H') : Post g W σ ω α H rel Q' r := by
  cases r with
  | ok x ω' => exact fun v α' H' go' hv => k _ _ (h v α' H' go' hv)
  | exc e ω' => exact h
  | bad => exact h
theorem Post.bind {r : Res γ} {k : γ → Store → Res ε} (h : Post g W σ ω α H rel' R (r.bind k)) :
    Post g W σ ω α H rel (fun v H' => ∃ x ω' α', Go g ω α H ω' α' H' ∧ rel (base ω' α' H') α' v x ∧ Post g W σ ω' α' H' rel' R (k x ω')) r := by
  cases r with
  | ok x ω' => exact fun v α' H' go hv => ⟨x, ω', α', go, hv, Post.rebase go h⟩
  | exc e ω' => exact h
  | bad => exact h
/-- one step of a reading -/
theorem tG_step {f : Fx γ} {ρ : Env} {k : γ → Store → Res ε} (sr : SR g ω α H) (rs : RS g (base ω α H) α σ ρ) (h : Post g W σ ω α H rel' R ((f ρ ω).bind k))
    (q : ∀ v H' x ω' α', Go g ω α H ω' α' H' → rel (base ω' α' H') α' v x → SR g ω' α' H' → RS g (base ω' α' H') α' σ ρ → Post g W σ ω' α' H' rel' R (k x ω') → Q v H') : tG g W rel f σ H Q :=
  ⟨ρ, ω, α, sr, rs, (Post.bind (rel := rel) h).imp fun v H' ⟨x, ω', α', go, hv, p⟩ => q v H' x ω' α' go hv go.sr (go.rs rs) p⟩
/-- an end: the state as it is -/
theorem Post.here {x : γ} {v : β} (sr : SR g ω α H) (h : Post g W σ ω α H rel Q (.ok x ω)) (hv : rel (base ω α H) α v x) : Q v H := h v α H (Go.refl sr) hv
/-- an end: new objects -/
theorem Post.grown {x : γ} {v : β} {H' : Hp} (sr : SR g ω α H) (h : Post g W σ ω α H rel Q (.ok x ω)) (k : Grow H H') (hv : rel (base ω α H') α v x) : Q v H' := h v α H' (Go.grow sr k) hv
end
theorem PE.imp {X : Cx} {e : Expr} {t t' : TE} (h : PE X e t) (k : ∀ σ H Q, t' σ H Q → t σ H Q) : PE X e t' := ⟨fun pins s σ H Q I q => h.run pins s σ H Q I (k σ H Q q)⟩
theorem PT.imp {X : Cx} {e : Expr} {t t' : TT} (h : PT X e t) (k : ∀ σ H Q, t' σ H Q → t σ H Q) : PT X e t' := ⟨fun pins s σ H Q I q => h.run pins s σ H Q I (k σ H Q q)⟩
theorem PW.imp {X : Cx} {e : Expr} {t t' : TT} (h : PW X e t) (k : ∀ σ H Q, t' σ H Q → t σ H Q) : PW X e t' := ⟨fun wh pins s σ H Q I q => h.run wh pins s σ H Q I (k σ H Q q)⟩
theorem PA.imp {X : Cx} {es : List Expr} {t t' : TA} (h : PA X es t) (k : ∀ σ H Q, t' σ H Q → t σ H Q) : PA X es t' := ⟨fun pos pins s σ H Q I q => h.run pos pins s σ H Q I (k σ H Q q)⟩
/-! ### the judgements -/
abbrev EX (T : List (Addr × Str)) (X : Cx) (W : WX) (e : Expr) (f : Fx Val) : Prop := PE X e (tE (gX T X) W f)
abbrev TX (T : List (Addr × Str)) (X : Cx) (W : WX) (e : Expr) (f : Fx Bool) : Prop := PT X e (tT (gX T X) W f)
abbrev WTX (T : List (Addr × Str)) (X : Cx) (W : WX) (e : Expr) (f : Fx Bool) : Prop := PW X e (tT (gX T X) W f)
abbrev AX (T : List (Addr × Str)) (X : Cx) (W : WX) (es : List Expr) (f : Fx (List Val)) : Prop := PA X es (tA (gX T X) W f)

/-! ### names, constants -/
def eVar (i : Nat) : Fx Val := fun ρ ω => match ρ[i]? with
  | some (some x) => .ok x ω
  | _ => .bad
def eC (d : D) : Fx Val := fun _ ω => .ok (.d d) ω
section
variable {T : List (Addr × Str)} {X : Cx} {W : WX} {e a b c : Expr} {es : List Expr} {f fa fb : Fx Val} {pos : Pos}
theorem ex_var {i : Nat} {x : Str} (hN : X.N[i]? = some x) (hv : Vis X.env.scope x) (hd : (x == ("__debug__" : Str)) = false := by decide) (hcd : (x == ("__classdict__" : Str)) = false := by decide) : EX T X W (.Name x pos) (eVar i) :=
  PE.imp (pe_var hN hv hd hcd) fun σ H Q ⟨ρ, ω, α, sr, rs, p⟩ => by
    unfold eVar at p
    cases q : ρ[i]? with
    | none => rw [q] at p; exact p.elim
    | some o =>
      cases o with
      | none => rw [q] at p; exact p.elim
      | some x =>
        rw [q] at p
        obtain ⟨v, h1, h2⟩ := rs.at_ i x q
        exact ⟨v, h1, p.here sr h2⟩
theorem ex_c {v : V} {d : D} (h : PE X e (tC v)) (r : ∀ B, Rep (gX T X) B v d) : EX T X W e (eC d) := PE.imp h fun σ H Q ⟨ρ, ω, α, sr, rs, p⟩ => Post.here (rel := RepV (gX T X)) (v := v) sr p (r _)
theorem ex_int {i j} : EX T X W (.Constant (.int i) j pos) (eC (.int i)) := ex_c pe_int fun _ => .int i
theorem ex_bl {b j} : EX T X W (.Constant (.bool b) j pos) (eC (.bl b)) := ex_c pe_bl fun _ => .bl b
theorem ex_non {j} : EX T X W (.Constant .none j pos) (eC .non) := ex_c pe_non fun _ => .non
theorem ex_str {x j} : EX T X W (.Constant (.str x) j pos) (eC (.str x)) := ex_c pe_str fun _ => .str x
/-- a module's constant -/
theorem ex_gint {x : Str} {i : Int} (hg : Gl X x) (hm : ∃ t, X.mg x = some (.int i t)) (hd : (x == ("__debug__" : Str)) = false := by decide) : EX T X W (.Name x pos) (eC (.int i)) := by
  obtain ⟨t, h⟩ := hm
  exact ex_c (pe_glob (v := .int i) hg h ⟨t, rfl⟩ hd) fun _ => .int i
theorem ex_gstr {x : Str} {z : Str} (hg : Gl X x) (hm : ∃ t, X.mg x = some (.str z t)) (hd : (x == ("__debug__" : Str)) = false := by decide) : EX T X W (.Name x pos) (eC (.str z)) := by
  obtain ⟨t, h⟩ := hm
  exact ex_c (pe_glob (v := .str z) hg h ⟨t, rfl⟩ hd) fun _ => .str z
/-- a def, a class as a value -/
theorem ex_glo {x : Str} {u : Addr} (hg : Gl X x) (hm : X.mg x = some (.ref u)) (hd : (x == ("__debug__" : Str)) = false := by decide) : EX T X W (.Name x pos) (eC (.glo x)) :=
  ex_c (pe_glob (v := .ref u) hg hm rfl hd) fun _ => .glo hm
/-- a built-in type as a value -/
theorem ex_ty {x : Str} {n : String} (hg : Gl X x) (hm : X.mg x = none) (hv : bootBuiltins x = some (.type n)) (hn : x ≠ "__name__" := by decide) (hd : (x == ("__debug__" : Str)) = false := by decide) : EX T X W (.Name x pos) (eC (.ty n)) :=
  ex_c (pe_bltn (v := .ty n) hg hm hv rfl hn hd) fun _ => .ty n

/-! ### operators by values -/
/-- the value as data: a changing list as it stands -/
def Val.look (ω : Store) : Val → Option D
  | .d x => some x
  | .loc n => match ω[n]? with
    | some (some (.lst ds)) => some (.lst ds)
    | some (some (.dct ds)) => some (.dct ds)
    | _ => none
/-- data, its parts on the ground -/
inductive BR (g : Gd) (l : List Addr) (H : Hp) : V → D → Prop
  | of {v : V} {d : D} (h : Rep g (off l H) v d) : BR g l H v d
  | lst {a : Addr} {vs : List V} {ds : List D} (h : H a = some (.lst vs)) (r : RepL g (off l H) vs ds) : BR g l H (.ref a) (.lst ds)
  | dct {a : Addr} {vs : List (Key × V)} {ds : List (D × D)} (h : H a = some (.dK vs)) (r : RepK g (off l H) vs ds) : BR g l H (.ref a) (.dct ds)
section
variable {g : Gd} {l : List Addr} {H : Hp} {v : V}
theorem BR.lstE {ds : List D} (h : BR g l H v (.lst ds)) : ∃ a vs, v = .ref a ∧ H a = some (.lst vs) ∧ RepL g (off l H) vs ds := by
  cases h with
  | of h => cases h with
    | lst h r => exact ⟨_, _, rfl, (off_some h).2, r⟩
  | lst h r => exact ⟨_, _, rfl, h, r⟩
theorem BR.frlE {ds : List D} (h : BR g l H v (.frl ds)) : ∃ a vs, v = .ref a ∧ SqL g.K H a vs ∧ RepL g (off l H) vs ds := by
  cases h with
  | of h => cases h with
    | frl h r => exact ⟨_, _, rfl, sqL_ext ext_off h, r⟩
theorem BR.tupA {ds : List D} (h : BR g l H v (.tup ds)) : ∃ a vs, v = .ref a ∧ TupAt g.K H a vs ∧ RepL g (off l H) vs ds := by
  cases h with
  | of h => cases h with
    | tup h r => exact ⟨_, _, rfl, h.ext ext_off, r⟩
theorem BR.tupE {ds : List D} (h : BR g l H v (.tup ds)) : ∃ a vs, v = .ref a ∧ SqT g.K H a vs ∧ RepL g (off l H) vs ds := by
  obtain ⟨a, vs, e, h, r⟩ := h.tupA
  exact ⟨a, vs, e, h.sq, r⟩
theorem BR.dctE {ds : List (D × D)} (h : BR g l H v (.dct ds)) : ∃ a vs, v = .ref a ∧ H a = some (.dK vs) ∧ RepK g (off l H) vs ds := by
  cases h with
  | of h => cases h with
    | dct h r => exact ⟨_, _, rfl, (off_some h).2, r⟩
  | dct h r => exact ⟨_, _, rfl, h, r⟩
theorem BR.intE {i : Int} (h : BR g l H v (.int i)) : v = .int i := by
  cases h with
  | of h => cases h; rfl
theorem BR.blE {b : Bool} (h : BR g l H v (.bl b)) : v = .bl b := by
  cases h with
  | of h => cases h; rfl
theorem BR.strE {x : Str} (h : BR g l H v (.str x)) : v = .str x := by
  cases h with
  | of h => cases h; rfl
theorem BR.nonE (h : BR g l H v .non) : v = .non := by
  cases h with
  | of h => cases h; rfl
theorem BR.tyE {n : String} (h : BR g l H v (.ty n)) : v = .ty n := by
  cases h with
  | of h => cases h; rfl
theorem BR.gloE {x : Str} (h : BR g l H v (.glo x)) : ∃ a, v = .ref a ∧ g.mg x = some (.ref a) := by
  cases h with
  | of h => cases h with
    | glo h => exact ⟨_, rfl, h⟩
theorem BR.objE {c : Str} {fs : List (Str × D)} (h : BR g l H v (.obj c fs)) : ∃ a C dx fvs, v = .ref a ∧ H a = some (.ins C dx fvs) ∧ g.mg c = some (.ref C) ∧ RepF g (off l H) fvs fs := by
  cases h with
  | of h => cases h with
    | obj h hc r => exact ⟨_, _, _, _, rfl, (off_some h).2, hc, r⟩
end
theorem look_br {g : Gd} {ω : Store} {α : List Addr} {H : Hp} {v : V} {x : Val} {d : D} (sr : SR g ω α H) (r : RepV g (base ω α H) α v x) (h : x.look ω = some d) : BR g (lv ω α) H v d := by
  cases x with
  | d y => cases h; exact .of r
  | loc n =>
    obtain ⟨a, h1, rfl⟩ := r
    unfold Val.look at h
    dsimp only at h
    split at h
    · rename_i ds e
      cases h
      obtain ⟨a', o, h2, _, h3, h4⟩ := sr.get e
      rw [h1] at h2; cases h2
      cases h4 with
      | lst r => exact .lst h3 r
    · rename_i ds e
      cases h
      obtain ⟨a', o, h2, _, h3, h4⟩ := sr.get e
      rw [h1] at h2; cases h2
      cases h4 with
      | dct r => exact .dct h3 r
    · cases h
/-- one value made of two -/
def op2 (F : D → D → Option D) (x y : Val) (ω : Store) : Res Val := match x.look ω, y.look ω with
  | some a, some b => (match F a b with | some z => .ok (.d z) ω | none => .bad)
  | _, _ => .bad
def op1 (F : D → Option D) (x : Val) (ω : Store) : Res Val := match x.look ω with
  | some a => (match F a with | some z => .ok (.d z) ω | none => .bad)
  | none => .bad
def eOp (F : D → D → Option D) (fa fb : Fx Val) : Fx Val := fun ρ ω => (fa ρ ω).bind fun x ω => (fb ρ ω).bind fun y ω => op2 F x y ω
def eUn (F : D → Option D) (fa : Fx Val) : Fx Val := fun ρ ω => (fa ρ ω).bind fun x ω => op1 F x ω
/-- HandS' reading r of two values does what F does -/
def Lv (l : List Addr) (H : Hp) : Prop := ∀ a ∈ l, ∃ o, H a = some o
theorem Lv.no {l : List Addr} {H : Hp} (h : Lv l H) {p : Addr} (n : H p = none) : p ∉ l := fun q => by
  obtain ⟨o, e⟩ := h p q
  rw [n] at e; cases e
def Op2 (g : Gd) (r : R2) (F : D → D → Option D) : Prop := ∀ (l : List Addr) (H : Hp) (x y : V) (dx dy z : D) (Q : VK), Lv l H → BR g l H x dx → BR g l H y dy → F dx dy = some z →
  (∀ v H', Grow H H' → Rep g (off l H') v z → Q v H') → r x y H Q
def Op1 (g : Gd) (r : V → Hp → VK → Prop) (F : D → Option D) : Prop := ∀ (l : List Addr) (H : Hp) (x : V) (dx z : D) (Q : VK), Lv l H → BR g l H x dx → F dx = some z →
  (∀ v H', Grow H H' → Rep g (off l H') v z → Q v H') → r x H Q
theorem Op2.post {g : Gd} {r : R2} {F : D → D → Option D} (o : Op2 g r F) {W : WX} {σ : L2.St} {ω : Store} {α : List Addr} {H : Hp} {v w : V} {x y : Val} {Q : VK} (sr : SR g ω α H) (rx : RepV g (base ω α H) α v x) (ry : RepV g (base ω α H) α w y)
    (p : Post g W σ ω α H (RepV g) Q (op2 F x y ω)) : r v w H Q := by
  unfold op2 at p
  split at p
  · rename_i a b ea eb
    split at p
    · rename_i z ez
      exact o _ H v w a b z Q sr.there (look_br sr rx ea) (look_br sr ry eb) ez fun v' H' k hv => p.grown (rel := RepV g) (x := .d z) sr k hv
    · exact p.elim
  · exact p.elim
theorem Op1.post {g : Gd} {r : V → Hp → VK → Prop} {F : D → Option D} (o : Op1 g r F) {W : WX} {σ : L2.St} {ω : Store} {α : List Addr} {H : Hp} {v : V} {x : Val} {Q : VK} (sr : SR g ω α H) (rx : RepV g (base ω α H) α v x)
    (p : Post g W σ ω α H (RepV g) Q (op1 F x ω)) : r v H Q := by
  unfold op1 at p
  split at p
  · rename_i a ea
    split at p
    · rename_i z ez
      exact o _ H v a z Q sr.there (look_br sr rx ea) ez fun v' H' k hv => p.grown (rel := RepV g) (x := .d z) sr k hv
    · exact p.elim
  · exact p.elim
theorem tOp_of {g : Gd} {r : R2} {F : D → D → Option D} (o : Op2 g r F) {σ : L2.St} {H : Hp} {Q : VK} (h : tE g W (eOp F fa fb) σ H Q) : tOp r (tE g W fa) (tE g W fb) σ H Q := by
  obtain ⟨ρ, ω, α, sr, rs, p⟩ := h
  refine tG_step sr rs p fun v H1 x ω1 α1 go1 rx sr1 rs1 p1 => ?_
  refine tG_step sr1 rs1 p1 fun w H2 y ω2 α2 go2 ry sr2 rs2 p2 => ?_
  exact o.post sr2 (go2.rv rx) ry p2
theorem ex_op {op : Operator} {r : R2} {F : D → D → Option D} (ho : OpR X (binaryOp op) r) (o : Op2 (gX T X) r F) (ha : EX T X W a fa) (hb : EX T X W b fb) : EX T X W (.BinOp a op b pos) (eOp F fa fb) :=
  PE.imp (pe_op ho ha hb) fun _ _ _ h => tOp_of o h
theorem ex_un {op : UnaryOp} {r : V → Hp → VK → Prop} {F : D → Option D} (ho : UnR X (unaryOp op) r) (o : Op1 (gX T X) r F) (ha : EX T X W a fa) : EX T X W (.UnaryOp op a pos) (eUn F fa) :=
  PE.imp (pe_un ho ha) fun σ H Q ⟨ρ, ω, α, sr, rs, p⟩ => tG_step sr rs p fun v H1 x ω1 α1 go1 rx sr1 rs1 p1 => o.post sr1 rx p1
theorem ex_cmp {op : CmpOp} {r : R2} {F : D → D → Option D} (ho : OpR X (compareOp op) r) (o : Op2 (gX T X) r F) (ha : EX T X W a fa) (hb : EX T X W b fb) (hm : behindInMarks op b = false) : EX T X W (.Compare a [op] [b] pos) (eOp F fa fb) :=
  PE.imp (pe_cmpR ho ha hb hm) fun _ _ _ h => tOp_of o h
end
end DL

/-! The D-layer: operators over data. -/
namespace DL
open PySem PySem.Spec PyProof.Rows L2

/-! ### ints -/
def iiD (F : Int → Int → D) : D → D → Option D
  | .int i, .int j => some (F i j)
  | _, _ => none
def iiC (C : Int → Int → Bool) (F : Int → Int → D) : D → D → Option D
  | .int i, .int j => if C i j then some (F i j) else none
  | _, _ => none
theorem iiD_inv {F : Int → Int → D} {a b z : D} (h : iiD F a b = some z) : ∃ i j, a = .int i ∧ b = .int j ∧ z = F i j := by
  unfold iiD at h
  split at h
  · cases h; exact ⟨_, _, rfl, rfl, rfl⟩
  · cases h
theorem iiC_inv {C : Int → Int → Bool} {F : Int → Int → D} {a b z : D} (h : iiC C F a b = some z) : ∃ i j, a = .int i ∧ b = .int j ∧ C i j = true ∧ z = F i j := by
  unfold iiC at h
  split at h
  · split at h
    · cases h; exact ⟨_, _, rfl, rfl, by assumption, rfl⟩
    · cases h
  · cases h
section
variable {g : Gd}
theorem o_ii {F : Int → Int → D} {G : Int → Int → V} (h : ∀ B i j, Rep g B (G i j) (F i j)) : Op2 g (rI0 G) (iiD F) := by
  intro l H x y dx dy z Q lvs bx by_ hz k
  obtain ⟨i, j, rfl, rfl, rfl⟩ := iiD_inv hz
  obtain rfl := bx.intE
  obtain rfl := by_.intE
  exact ⟨i, j, rfl, rfl, k _ _ .refl (h _ _ _)⟩
theorem o_iiC {F : Int → Int → D} {G : Int → Int → V} {C : Int → Int → Bool} {P : Int → Int → Prop} (hc : ∀ i j, C i j = true → P i j) (h : ∀ B i j, Rep g B (G i j) (F i j)) : Op2 g (rI P G) (iiC C F) := by
  intro l H x y dx dy z Q lvs bx by_ hz k
  obtain ⟨i, j, rfl, rfl, c, rfl⟩ := iiC_inv hz
  obtain rfl := bx.intE
  obtain rfl := by_.intE
  exact ⟨i, j, rfl, rfl, hc _ _ c, k _ _ .refl (h _ _ _)⟩
abbrev ltD := iiD fun i j => .bl (decide (i < j))
abbrev leD := iiD fun i j => .bl (decide (i ≤ j))
abbrev gtD := iiD fun i j => .bl (decide (j < i))
abbrev geD := iiD fun i j => .bl (decide (j ≤ i))
abbrev subD := iiD fun i j => .int (i - j)
abbrev fdivD := iiC (fun i j => decide (0 < j) && decide (j.natAbs.log2 < 9000)) fun i j => .int (i / j)
abbrev modD := iiC (fun i j => decide (0 < j)) fun i j => .int (i % j)
abbrev powD := iiC (fun i j => decide (0 ≤ j) && decide (j ≤ 1000000) && decide (i.natAbs < 2 ^ 64)) fun i j => .int (i ^ j.toNat)
def negD : D → Option D
  | .int i => some (.int (-i))
  | _ => none
theorem o_lt : Op2 g (rI0 fun i j => .bl (decide (i < j))) ltD := o_ii fun _ _ _ => .bl _
theorem o_le : Op2 g (rI0 fun i j => .bl (decide (i ≤ j))) leD := o_ii fun _ _ _ => .bl _
theorem o_gt : Op2 g (rI0 fun i j => .bl (decide (j < i))) gtD := o_ii fun _ _ _ => .bl _
theorem o_ge : Op2 g (rI0 fun i j => .bl (decide (j ≤ i))) geD := o_ii fun _ _ _ => .bl _
theorem o_sub : Op2 g (rI0 fun i j => .int (i - j)) subD := o_ii fun _ _ _ => .int _
theorem o_fdiv : Op2 g (rI CDivW fun i j => .int (i / j)) fdivD := o_iiC (fun i j c => by simpa [CDivW] using c) fun _ _ _ => .int _
theorem o_mod : Op2 g (rI (fun _ j => 0 < j) fun i j => .int (i % j)) modD := o_iiC (fun i j c => by simpa using c) fun _ _ _ => .int _
theorem o_pow : Op2 g (rI CPow fun i j => .int (i ^ j.toNat)) powD := o_iiC (fun i j c => by
  simp only [Bool.and_eq_true, decide_eq_true_eq] at c
  exact ⟨c.1.1, c.1.2, c.2⟩) fun _ _ _ => .int _
theorem o_neg : Op1 g (rU fun i => .int (-i)) negD := by
  intro l H x dx z Q lvs bx hz k
  unfold negD at hz
  split at hz
  · cases hz
    obtain rfl := bx.intE
    exact ⟨_, rfl, k _ _ .refl (.int _)⟩
  · cases hz
/-! ### + and * of any kind -/
def addD : D → D → Option D
  | .int i, .int j => some (.int (i + j))
  | .str x, .str y => if x.length + y.length ≤ sizeLine then some (.str (x ++ y)) else none
  | .lst xs, .lst ys => if xs.length + ys.length ≤ sizeLine then some (.lst (xs ++ ys)) else none
  | .tup xs, .tup ys => if xs.length + ys.length ≤ sizeLine then some (.tup (xs ++ ys)) else none
  | _, _ => none
/-- one factor is small, or both are of together less than 134 million bits -/
def MulOk (i j : Int) : Prop := i.natAbs < 2 ^ 64 ∨ j.natAbs < 2 ^ 64 ∨ i.natAbs.log2 + j.natAbs.log2 < 134000000
instance {i j : Int} : Decidable (MulOk i j) := by unfold MulOk; infer_instance
theorem MulOk.ok {i j : Int} (h : MulOk i j) : IntMulOk i j := by
  rcases h with h | h | h
  · exact .of_left (intBits_le_64 (by omega) (by omega))
  · exact .of_right (intBits_le_64 (by omega) (by omega))
  · have b : ∀ x : Int, Builtin.Int.intBits x ≤ x.natAbs.log2 + 1 := fun x => by
      unfold Builtin.Int.intBits
      split <;> omega
    exact IntMulOk.of_le (b i) (b j) (by omega)
theorem op_mulX {X : Cx} : OpR X (binaryOp .Mult) (rI MulOk fun i j => .int (i * j)) := opI fun _ _ _ _ _ _ _ hc q => mul_int q hc.ok
def mulD : D → D → Option D
  | .int i, .int j => if MulOk i j then some (.int (i * j)) else none
  | .lst xs, .int k => if -(2 ^ 63) ≤ k ∧ k < 2 ^ 63 ∧ xs.length * k.toNat ≤ sizeLine then some (.lst (List.replicate k.toNat xs).flatten) else none
  | _, _ => none
abbrev rAddA (K : PySem.W.Frag) : R2 := fun x y H Q => (rI0 (fun i j => .int (i + j)) x y H Q) ∨ (∃ i j, x = .str i ∧ y = .str j ∧ i.length + j.length ≤ sizeLine ∧ Q (.str (i ++ j)) H) ∨ rCat x y H Q ∨ rCatA K x y H Q
abbrev rMulA : R2 := fun x y H Q => (rI MulOk (fun i j => .int (i * j)) x y H Q) ∨ rRep x y H Q
theorem h_add {X : Cx} : OpR X (binaryOp .Add) (rAddA X.K) := op_add.or (op_add_str.or (op_cat.or op_catA))
theorem h_mul {X : Cx} : OpR X (binaryOp .Mult) rMulA := op_mulX.or op_rep
theorem rep_tup {l : List Addr} {H : Hp} {p : Addr} {vs : List V} {ds : List D} (hp : H p = none) (hl : p ∉ l) (r : RepL g (off l H) vs ds) : Rep g (off l (upd H p (.tup vs))) (.ref p) (.tup ds) :=
  .tup (.inl (by rw [off_of hl]; exact upd_same)) (r.mono ((Grow.new hp).off.ext))
theorem rep_lst {l : List Addr} {H : Hp} {p : Addr} {vs : List V} {ds : List D} (hp : H p = none) (hl : p ∉ l) (r : RepL g (off l H) vs ds) : Rep g (off l (upd H p (.lst vs))) (.ref p) (.lst ds) :=
  .lst (by rw [off_of hl]; exact upd_same) (r.mono ((Grow.new hp).off.ext))
theorem rep_flat {B : Hp} {vs : List V} {ds : List D} (r : RepL g B vs ds) : ∀ k : Nat, RepL g B (List.replicate k vs).flatten (List.replicate k ds).flatten
  | 0 => .nil
  | k + 1 => by rw [List.replicate_succ, List.replicate_succ, List.flatten_cons, List.flatten_cons]; exact r.append (rep_flat r k)
theorem o_add : Op2 g (rAddA g.K) addD := by
  intro l H x y dx dy z Q lvs bx by_ hz k
  unfold addD at hz
  split at hz
  · cases hz
    obtain rfl := bx.intE
    obtain rfl := by_.intE
    exact .inl ⟨_, _, rfl, rfl, k _ _ .refl (.int _)⟩
  · split at hz
    · cases hz
      obtain rfl := bx.strE
      obtain rfl := by_.strE
      exact .inr (.inl ⟨_, _, rfl, rfl, by assumption, k _ _ .refl (.str _)⟩)
    · cases hz
  · split at hz
    · rename_i c
      cases hz
      obtain ⟨a, vs, rfl, h1, r1⟩ := bx.lstE
      obtain ⟨b, ws, rfl, h2, r2⟩ := by_.lstE
      exact .inr (.inr (.inl ⟨_, _, _, _, rfl, rfl, h1, h2, by rw [r1.len, r2.len]; exact c, fun p hp => k _ _ (.new hp) (rep_lst hp (lvs.no hp) (r1.append r2))⟩))
    · cases hz
  · split at hz
    · rename_i c
      cases hz
      obtain ⟨a, vs, rfl, h1, r1⟩ := bx.tupE
      obtain ⟨b, ws, rfl, h2, r2⟩ := by_.tupE
      refine .inr (.inr (.inr ⟨_, _, _, _, rfl, rfl, h1, h2, by rw [r1.len, r2.len]; exact c, fun z => ?_, fun _ z => ?_, fun _ _ p hp => k _ _ (.new hp) (rep_tup hp (lvs.no hp) (r1.append r2))⟩))
      · subst z
        cases r1
        cases by_ with
        | of h => exact k _ _ .refl h
      · subst z
        cases r2
        rw [List.append_nil] at k
        cases bx with
        | of h => exact k _ _ .refl h
    · cases hz
  · cases hz
theorem o_mul : Op2 g rMulA mulD := by
  intro l H x y dx dy z Q lvs bx by_ hz k
  unfold mulD at hz
  split at hz
  · split at hz
    · rename_i c
      cases hz
      obtain rfl := bx.intE
      obtain rfl := by_.intE
      exact .inl ⟨_, _, rfl, rfl, c, k _ _ .refl (.int _)⟩
    · cases hz
  · split at hz
    · rename_i c
      cases hz
      obtain ⟨a, vs, rfl, h1, r1⟩ := bx.lstE
      obtain rfl := by_.intE
      exact .inr ⟨_, _, _, rfl, rfl, h1, c.1, c.2.1, by rw [r1.len]; exact c.2.2, fun p hp => k _ _ (.new hp) (rep_lst hp (lvs.no hp) (rep_flat r1 _))⟩
    · cases hz
  · cases hz
end
end DL

/-! The D-layer: arguments, displays, calls; statements; a def's promise. -/
namespace DL
open PySem PySem.Spec PyProof.Rows L2

/-! ### argument lists -/
def aNil : Fx (List Val) := fun _ ω => .ok [] ω
def aCons (f : Fx Val) (fs : Fx (List Val)) : Fx (List Val) := fun ρ ω => (f ρ ω).bind fun x ω => (fs ρ ω).bind fun xs ω => .ok (x :: xs) ω
section
variable {T : List (Addr × Str)} {X : Cx} {W : WX} {e a b c : Expr} {es : List Expr} {f fa fb : Fx Val} {fs gs : Fx (List Val)} {pos p : Pos}
theorem tA_nil {σ : L2.St} {H : Hp} {Q : List V → Hp → Prop} (h : tA (gX T X) W aNil σ H Q) : tNil σ H Q := by
  obtain ⟨ρ, ω, α, sr, rs, p⟩ := h
  exact p.here sr .nil
theorem tA_cons {σ : L2.St} {H : Hp} {Q : List V → Hp → Prop} (h : tA (gX T X) W (aCons f fs) σ H Q) : tCons (tE (gX T X) W f) (tA (gX T X) W fs) σ H Q := by
  obtain ⟨ρ, ω, α, sr, rs, p⟩ := h
  refine tG_step sr rs p fun v H1 x ω1 α1 go1 rx sr1 rs1 p1 => ?_
  refine tG_step sr1 rs1 p1 fun ws H2 ys ω2 α2 go2 ry sr2 rs2 p2 => ?_
  exact p2.here sr2 (.cons (go2.rv rx) ry)
theorem ax_nil : AX T X W [] aNil := PA.imp pa_nil fun _ _ _ h => tA_nil h
theorem ax_cons (ha : EX T X W e f) (hr : AX T X W es fs) (hs : starEach (e :: es) X.env = (false, eval e X.env) :: starEach es X.env := by rfl) : AX T X W (e :: es) (aCons f fs) :=
  PA.imp (pa_cons ha hr hs) fun _ _ _ h => tA_cons h
theorem kx_nil : PK X [] (tA (gX T X) W aNil) := ⟨fun pos pins s σ H Q I q => pk_nil.run pos pins s σ H Q I (tA_nil q)⟩
theorem kx_cons {nm : Option Str} {kws : List Keyword} {kpos : Pos} (ha : EX T X W e f) (hr : PK X kws (tA (gX T X) W fs)) : PK X (⟨nm, e, kpos⟩ :: kws) (tA (gX T X) W (aCons f fs)) :=
  ⟨fun pos pins s σ H Q I q => (pk_cons ha hr).run pos pins s σ H Q I (tA_cons q)⟩

/-! ### all as data -/
def looks (ω : Store) : List Val → Option (List D)
  | [] => some []
  | x :: xs => match x.look ω, looks ω xs with
    | some d, some ds => some (d :: ds)
    | _, _ => none
/-- data in the strict sense: parts of a new tree -/
def plain : List Val → Option (List D)
  | [] => some []
  | .d d :: xs => match plain xs with
    | some ds => some (d :: ds)
    | none => none
  | .loc _ :: _ => none
inductive BRs (g : Gd) (l : List Addr) (H : Hp) : List V → List D → Prop
  | nil : BRs g l H [] []
  | cons {v : V} {d : D} {vs : List V} {ds : List D} (h : BR g l H v d) (r : BRs g l H vs ds) : BRs g l H (v :: vs) (d :: ds)
theorem looks_br {g : Gd} {ω : Store} {α : List Addr} {H : Hp} (sr : SR g ω α H) : ∀ {vs : List V} {xs : List Val} {ds : List D}, RepVs g (base ω α H) α vs xs → looks ω xs = some ds → BRs g (lv ω α) H vs ds
  | _, _, _, .nil, h => by cases h; exact .nil
  | _, _, _, .cons (x := x) (xs := xs) hv r, h => by
    unfold looks at h
    split at h
    · rename_i d ds e1 e2
      cases h
      exact .cons (look_br sr hv e1) (looks_br sr r e2)
    · cases h
theorem plain_rep {g : Gd} {B : Hp} {α : List Addr} : ∀ {vs : List V} {xs : List Val} {ds : List D}, RepVs g B α vs xs → plain xs = some ds → RepL g B vs ds
  | _, _, _, .nil, h => by cases h; exact .nil
  | _, _, _, .cons (x := x) (xs := xs) hv r, h => by
    cases x with
    | d d =>
      unfold plain at h
      split at h
      · rename_i ds e
        cases h
        exact .cons hv (plain_rep r e)
      · cases h
    | loc n => cases h

/-! ### displays -/
def mk (F : List D → D) (fs : Fx (List Val)) : Fx Val := fun ρ ω => (fs ρ ω).bind fun xs ω => match plain xs with
  | some ds => if ds.length ≤ sizeLine then .ok (.d (F ds)) ω else .bad
  | none => .bad
abbrev eTup := mk .tup
abbrev eLst := mk .lst
theorem ex_tup {x1} (h : AX T X W es fs) : EX T X W (.Tuple es x1 pos) (eTup fs) := PE.imp (pe_tup h) fun σ H Q ⟨ρ, ω, α, sr, rs, p⟩ =>
  tG_step sr rs p fun vs H1 xs ω1 α1 go1 rx sr1 rs1 p1 => by
    split at p1
    · rename_i ds e
      split at p1
      · rename_i hl
        have r := plain_rep rx e
        exact ⟨by rw [r.len]; exact hl, fun q hq => p1.grown sr1 (.new hq) (rep_tup hq (Lv.no sr1.there hq) r)⟩
      · exact p1.elim
    · exact p1.elim
theorem ex_lst (h : AX T X W es fs) : EX T X W (.List es pos) (eLst fs) := PE.imp (pe_lst h) fun σ H Q ⟨ρ, ω, α, sr, rs, p⟩ =>
  tG_step sr rs p fun vs H1 xs ω1 α1 go1 rx sr1 rs1 p1 => by
    split at p1
    · rename_i ds e
      split at p1
      · rename_i hl
        have r := plain_rep rx e
        exact ⟨by rw [r.len]; exact hl, fun q hq => p1.grown sr1 (.new hq) (rep_lst hq (Lv.no sr1.there hq) r)⟩
      · exact p1.elim
    · exact p1.elim

/-! ### built-in calls by values -/
def callB (F : List D → Option D) (fs : Fx (List Val)) : Fx Val := fun ρ ω => (fs ρ ω).bind fun xs ω => match looks ω xs with
  | some ds => (match F ds with | some z => .ok (.d z) ω | none => .bad)
  | none => .bad
def Cb (g : Gd) (r : List V → Hp → VK → Prop) (F : List D → Option D) : Prop := ∀ (l : List Addr) (H : Hp) (vs : List V) (ds : List D) (z : D) (Q : VK), Lv l H → BRs g l H vs ds → F ds = some z →
  (∀ v H', Grow H H' → Rep g (off l H') v z → Q v H') → r vs H Q
theorem Cb.post {g : Gd} {r : List V → Hp → VK → Prop} {F : List D → Option D} (o : Cb g r F) {σ : L2.St} {ω : Store} {α : List Addr} {H : Hp} {vs : List V} {xs : List Val} {Q : VK} (sr : SR g ω α H) (rx : RepVs g (base ω α H) α vs xs)
    (p : Post g W σ ω α H (RepV g) Q (match looks ω xs with | some ds => (match F ds with | some z => .ok (.d z) ω | none => .bad) | none => .bad)) : r vs H Q := by
  split at p
  · rename_i ds e
    split at p
    · rename_i z ez
      exact o _ H vs ds z Q sr.there (looks_br sr rx e) ez fun v H' k hv => p.grown (rel := RepV g) (x := .d z) sr k hv
    · exact p.elim
  · exact p.elim
theorem tCB_of {r : List V → Hp → VK → Prop} {F : List D → Option D} (o : Cb (gX T X) r F) {σ : L2.St} {H : Hp} {Q : VK} (h : tE (gX T X) W (callB F fs) σ H Q) : tCB r (tA (gX T X) W fs) σ H Q := by
  obtain ⟨ρ, ω, α, sr, rs, p⟩ := h
  exact tG_step sr rs p fun vs H1 xs ω1 α1 go1 rx sr1 rs1 p1 => o.post sr1 rx p1
theorem ex_callB {x : Str} {id : String} {r : List V → Hp → VK → Prop} {F : List D → Option D} (hc : CallR X (.builtin id) r) (o : Cb (gX T X) r F) (hg : Gl X x) (hm : X.mg x = none) (hv : bootBuiltins x = some (.builtin id)) (ha : AX T X W (e :: es) fs)
    (hn : x ≠ "__name__" := by decide) (hdb : (x == ("__debug__" : Str)) = false := by decide)
    (he : starEach (e :: es) X.env = (false, eval e X.env) :: starEach es X.env := by rfl) (hpl : (backTo pos (starEach es X.env)).any (·.1) = false := by rfl) : EX T X W (.Call (.Name x p) (e :: es) [] pos) (callB F fs) :=
  PE.imp (pe_callB hc hg hm hv ha hn hdb he hpl) fun _ _ _ h => tCB_of o h
theorem ex_callTy {x : Str} {id : String} {r : List V → Hp → VK → Prop} {F : List D → Option D} (hc : CallR X (.type id) r) (o : Cb (gX T X) r F) (hg : Gl X x) (hm : X.mg x = none) (hv : bootBuiltins x = some (.type id)) (ha : AX T X W (e :: es) fs)
    (hn : x ≠ "__name__" := by decide) (hdb : (x == ("__debug__" : Str)) = false := by decide)
    (he : starEach (e :: es) X.env = (false, eval e X.env) :: starEach es X.env := by rfl) (hpl : (backTo pos (starEach es X.env)).any (·.1) = false := by rfl) : EX T X W (.Call (.Name x p) (e :: es) [] pos) (callB F fs) :=
  PE.imp (pe_callTy hc hg hm hv ha hn hdb he hpl) fun _ _ _ h => tCB_of o h
end

/-! ### a def's promise -/
abbrev Fn := List Val → Store → Res Val
/-- what is wanted behind a call -/
def CPost (g : Gd) (ω : Store) (α : List Addr) (H : Hp) (Q : VK) (E : XK) : Res Val → Prop
  | .ok x ω' => ∀ v α' H', Go g ω α H ω' α' H' → RepV g (base ω' α' H') α' v x → Q v H'
  | .exc e ω' => ∀ cls dd α' H', Go g ω α H ω' α' H' → XRep g (base ω' α' H') cls dd e → E cls dd H'
  | .bad => False
def spD (g : Gd) (n : Nat) (F : Fn) : Sp := fun vs H Q E => vs.length = n ∧ ∃ xs ω α, SR g ω α H ∧ RepVs g (base ω α H) α vs xs ∧ CPost g ω α H Q E (F xs ω)
/-- room, and no repr under way -/
abbrev RoomG (k : Nat) (A : Around) : Prop := Room k A ∧ A.guards = some []
/-- the def keeps F -/
structure DOk (P : Program) (w : World) (g : Gd) (bs : Heap) (k : Nat) (f : Addr) (fd : FuncData) (ps : List Str) (F : Fn) : Prop where
  run : ∀ (A : Around) (outer : List PySem.Env) (s : Shared) (H : Hp) (args : Args) (us : List Value) (vs : List V) (Q : VK) (E : XK), RoomG k A → L2.Env0 P w g.K g.mg bs A outer s H → BindsTo s fd args (ps.zip us) → Vals vs us → spD g ps.length F vs H Q E →
    codeAny (model P w) A (.call (.ref f) args) (CR (L2.CX P w) outer P w H s Q E) s
theorem Post.cpost {g : Gd} {W : WX} {σ : L2.St} {ω : Store} {α : List Addr} {H : Hp} {Q : VK} {r : Res Val} (h : Post g W σ ω α H (RepV g) Q r) : CPost g ω α H Q (fun c d H => W c d σ H) r := by
  cases r with
  | ok x ω' => exact h
  | exc e ω' => exact h
  | bad => exact h
/-- arguments in the parameters' order: of the positional ones, the keywords' ones, the defaults, by places -/
def pick {α : Type} (ix : List Nat) (xs : List α) : List α := ix.filterMap (xs[·]?)
theorem Vals.pick {vs : List V} {us : List Value} (r : Vals vs us) : ∀ ix : List Nat, Vals (pick ix vs) (pick ix us)
  | [] => .nil
  | i :: ix => by
    have ih := Vals.pick r ix
    unfold DL.pick at ih ⊢
    rw [List.filterMap_cons, List.filterMap_cons]
    cases e : vs[i]? with
    | none => rw [r.none_of e]; exact ih
    | some v =>
      obtain ⟨u, h1, h2⟩ := r.get e
      rw [h1]
      exact .cons h2 ih
theorem RepVs.get {g : Gd} {B : Hp} {α : List Addr} : ∀ {vs : List V} {xs : List Val} {i : Nat}, RepVs g B α vs xs → (vs[i]? = none ∧ xs[i]? = none) ∨ ∃ v x, vs[i]? = some v ∧ xs[i]? = some x ∧ RepV g B α v x
  | _, _, _, .nil => .inl (by simp)
  | _, _, 0, .cons h r => .inr ⟨_, _, rfl, rfl, h⟩
  | _, _, i + 1, .cons h r => by simpa using RepVs.get (i := i) r
theorem RepVs.pick {g : Gd} {B : Hp} {α : List Addr} {vs : List V} {xs : List Val} (r : RepVs g B α vs xs) : ∀ ix : List Nat, RepVs g B α (pick ix vs) (pick ix xs)
  | [] => .nil
  | i :: ix => by
    have ih := RepVs.pick r ix
    unfold DL.pick at ih ⊢
    rw [List.filterMap_cons, List.filterMap_cons]
    rcases r.get (i := i) with ⟨h1, h2⟩ | ⟨v, x, h1, h2, h3⟩
    · rw [h1, h2]; exact ih
    · rw [h1, h2]; exact .cons h3 ih
/-- one step, as it is carried on -/
def Car (g : Gd) (W : WX) (σ : L2.St) {β γ δ ε : Type} (rel : Hp → List Addr → β → γ → Prop) (rel' : Hp → List Addr → δ → ε → Prop) (R : δ → Hp → Prop) (ρ : Env) (k : γ → Store → Res ε) : β → Hp → Prop := fun v H1 =>
  ∃ x ω1 α1, SR g ω1 α1 H1 ∧ RS g (base ω1 α1 H1) α1 σ ρ ∧ rel (base ω1 α1 H1) α1 v x ∧ Post g W σ ω1 α1 H1 rel' R (k x ω1)
theorem tG_car {g : Gd} {W : WX} {σ : L2.St} {ω : Store} {α : List Addr} {H : Hp} {β γ δ ε : Type} {rel : Hp → List Addr → β → γ → Prop} {rel' : Hp → List Addr → δ → ε → Prop} {R : δ → Hp → Prop} {f : Fx γ} {ρ : Env} {k : γ → Store → Res ε}
    (sr : SR g ω α H) (rs : RS g (base ω α H) α σ ρ) (h : Post g W σ ω α H rel' R ((f ρ ω).bind k)) : tG g W rel f σ H (Car g W σ rel rel' R ρ k) :=
  tG_step sr rs h fun v H' x ω' α' go hv sr' rs' p => ⟨x, ω', α', sr', rs', hv, p⟩
/-- how a call binds: n positional values, keywords ks; dvs: the def's defaults -/
structure Bnd (K : PySem.W.Frag) (fd : FuncData) (ps : List Str) (n : Nat) (ks : List Str) (ix : List Nat) (dvs : List V) : Prop where
  to : ∃ ds : List Value, Vals dvs ds ∧ ∀ (s : Shared) (us ws : List Value), K.In s.heap → us.length = n → ws.length = ks.length → BindsTo s fd ⟨us, ks.zip ws⟩ (ps.zip (pick ix (us ++ ws ++ ds)))
  len : ∀ {α : Type} (xs : List α), xs.length = n + ks.length + dvs.length → (pick ix xs).length = ps.length
/-- a call of values: positional ones, keywords' ones, defaults -/
def eCall (F : Fn) (n m : Nat) (ix : List Nat) (dvs : List Val) (fs ks : Fx (List Val)) : Fx Val := fun ρ ω => (fs ρ ω).bind fun xs ω => (ks ρ ω).bind fun ys ω =>
  if xs.length = n ∧ ys.length = m then F (pick ix (xs ++ ys ++ dvs)) ω else .bad
section
variable {T : List (Addr × Str)} {X : Cx} {W : WX} {e a b c : Expr} {es : List Expr} {fs gs : Fx (List Val)} {pos p apos : Pos} {k n : Nat} {f : Addr} {fd : FuncData} {ps ks : List Str} {ix : List Nat} {dvs : List V} {dxs : List Val} {F : Fn} {x : Str}
/-- the callee runs -/
theorem run_d {pins : List (Addr × Obj)} {σ : L2.St} {H : Hp} {s : Shared} {Q : VK} {us ws : List Value} {vs zs : List V} {xs ys : List Val} {ω : Store} {α : List Addr} (G : DOk X.prog X.w (gX T X) X.base k f fd ps F) (hr : RoomG k X.A) (hb : Bnd X.K fd ps n ks ix dvs)
    (hd : ∀ B α, RepVs (gX T X) B α dvs dxs) (tk : Takes X W) (I : Inv X pins σ H s) (r : Vals vs us) (rz : Vals zs ws) (sr : SR (gX T X) ω α H) (rx : RepVs (gX T X) (base ω α H) α vs xs) (ry : RepVs (gX T X) (base ω α H) α zs ys)
    (h : Post (gX T X) W σ ω α H (RepV (gX T X)) Q (if xs.length = n ∧ ys.length = ks.length then F (pick ix (xs ++ ys ++ dxs)) ω else .bad)) :
    wpAny (model X.prog X.w) X.A (call (.ref f) us (ks.zip ws)) (EP X pins σ Q) X.xe s := by
  split at h
  · rename_i hl
    obtain ⟨ds, hds, hto⟩ := hb.to
    have r2 : Vals (vs ++ zs ++ dvs) (us ++ ws ++ ds) := (r.append rz).append hds
    have rr : RepVs (gX T X) (base ω α H) α (vs ++ zs ++ dvs) (xs ++ ys ++ dxs) := (rx.append ry).append (hd _ _)
    have l1 : us.length = n := by rw [← r.length, rx.len]; exact hl.1
    have l2 : ws.length = ks.length := by rw [← rz.length, ry.len]; exact hl.2
    have hlen : (pick ix (vs ++ zs ++ dvs)).length = ps.length := hb.len _ (by simp only [List.length_append]; rw [rx.len, hl.1, ry.len, hl.2])
    have hsp : spD (gX T X) ps.length F (pick ix (vs ++ zs ++ dvs)) H Q (fun c d H => W c d σ H) := ⟨hlen, _, ω, α, sr, rr.pick ix, h.cpost⟩
    refine wpAny_call (codeAny_mono (G.run X.A X.stack s H ⟨us, ks.zip ws⟩ _ _ Q _ hr I.env0 (hto s us ws I.kIn l1 l2) (Vals.pick r2 ix) hsp) fun r s' hq => ?_)
    cases r with
    | error e => exact passAt tk σ pins H s e s' I hq
    | ok fl =>
      cases fl with
      | ret u => exact I.after hq
      | next => exact False.elim hq
      | brk => exact False.elim hq
      | cont => exact False.elim hq
  · exact h.elim
/-- f(e, ..) -/
theorem ex_call (G : DOk X.prog X.w (gX T X) X.base k f fd ps F) (hr : RoomG k X.A) (hg : Gl X x) (hm : X.mg x = some (.ref f)) (hk : PySem.W.keepIn X.K (.ref f) = true) (hb : Bnd X.K fd ps n [] ix dvs) (hd : ∀ B α, RepVs (gX T X) B α dvs dxs)
    (tk : Takes X W) (ha : AX T X W (e :: es) fs) (hdb : (x == ("__debug__" : Str)) = false := by decide) (he : starEach (e :: es) X.env = (false, eval e X.env) :: starEach es X.env := by rfl) (hpl : (backTo pos (starEach es X.env)).any (·.1) = false := by rfl) :
    EX T X W (.Call (.Name x p) (e :: es) [] pos) (eCall F n 0 ix dxs fs aNil) := by
  refine ⟨fun pins s σ H Q I h => ?_⟩
  refine wpAny_Call_Name_kw (ld_glob I hg hm ?_ hdb)
  obtain ⟨ρ, ω, α, sr, rs, q⟩ := h
  refine PySem.W.callWith_K (h₀ := X.base) I.ok.mod.kin hk (thn (ha.run pos pins s σ H _ I (tG_car sr rs q)) fun us s1 ⟨vs, H1, I1, r, xs, ω1, α1, sr1, rs1, rx, p1⟩ => ⟨I1.kIn, ?_⟩) he hpl
  exact run_d (ks := []) (ws := []) (zs := []) (ys := []) G hr hb hd tk I1 r .nil sr1 rx .nil p1
/-- f() -/
theorem ex_call0 (G : DOk X.prog X.w (gX T X) X.base k f fd ps F) (hr : RoomG k X.A) (hg : Gl X x) (hm : X.mg x = some (.ref f)) (hk : PySem.W.keepIn X.K (.ref f) = true) (hb : Bnd X.K fd ps 0 [] ix dvs) (hd : ∀ B α, RepVs (gX T X) B α dvs dxs)
    (tk : Takes X W) (hdb : (x == ("__debug__" : Str)) = false := by decide) : EX T X W (.Call (.Name x p) [] [] pos) (eCall F 0 0 ix dxs aNil aNil) := by
  refine ⟨fun pins s σ H Q I h => ?_⟩
  refine wpAny_Call_Name_kw (ld_glob I hg hm ?_ hdb)
  obtain ⟨ρ, ω, α, sr, rs, q⟩ := h
  exact PySem.W.callWith_K0 I.kIn hk (run_d (ks := []) (ws := []) (us := []) (vs := []) (xs := []) (zs := []) (ys := []) G hr hb hd tk I .nil .nil sr .nil .nil q)
/-- f(e, .., k = v, ..) -/
theorem ex_callK {kws : List Keyword} (G : DOk X.prog X.w (gX T X) X.base k f fd ps F) (hr : RoomG k X.A) (hg : Gl X x) (hm : X.mg x = some (.ref f)) (hk : PySem.W.keepIn X.K (.ref f) = true) (hb : Bnd X.K fd ps n ks ix dvs) (hd : ∀ B α, RepVs (gX T X) B α dvs dxs)
    (tk : Takes X W) (ha : AX T X W (e :: es) fs) (hkw : PK X kws (tA (gX T X) W gs)) (hall : (backToKw pos (keywordEach kws X.env)).all (·.1.isSome) = true := by rfl) (hks : (backToKw pos (keywordEach kws X.env)).filterMap (·.1) = ks := by rfl)
    (hdb : (x == ("__debug__" : Str)) = false := by decide) (he : starEach (e :: es) X.env = (false, eval e X.env) :: starEach es X.env := by rfl)
    (hpl : ((backTo pos (starEach (e :: es) X.env)).any (·.1) || (backToKw pos (keywordEach kws X.env)).any (·.1.isNone)) = false := by rfl) : EX T X W (.Call (.Name x p) (e :: es) kws pos) (eCall F n ks.length ix dxs fs gs) := by
  refine ⟨fun pins s σ H Q I h => ?_⟩
  refine wpAny_Call_Name_kw (ld_glob I hg hm ?_ hdb)
  obtain ⟨ρ, ω, α, sr, rs, q⟩ := h
  refine PySem.W.callWith_KW (h₀ := X.base) I.ok.mod.kin hk hall (thn (ha.run pos pins s σ H _ I (tG_car sr rs q)) fun us s1 ⟨vs, H1, I1, r, xs, ω1, α1, sr1, rs1, rx, p1⟩ => ?_) hpl he
  refine thn (hkw.run pos pins s1 σ H1 (fun zs H2 => ∃ ys ω2 α2, SR (gX T X) ω2 α2 H2 ∧ RepVs (gX T X) (base ω2 α2 H2) α2 vs xs ∧ RepVs (gX T X) (base ω2 α2 H2) α2 zs ys ∧ Post (gX T X) W σ ω2 α2 H2 (RepV (gX T X)) Q (if xs.length = n ∧ ys.length = ks.length then F (pick ix (xs ++ ys ++ dxs)) ω2 else .bad)) I1
    (tG_step sr1 rs1 p1 fun zs H2 ys ω2 α2 go2 ry sr2 rs2 p2 => ⟨ys, ω2, α2, sr2, RepVs.mono go2.ext go2.pre rx, ry, p2⟩)) fun ws s2 ⟨zs, H2, I2, rz, ys, ω2, α2, sr2, rx2, ry, p2⟩ => ⟨I2.kIn, ?_⟩
  rw [hks]
  exact run_d G hr hb hd tk I2 r rz sr2 rx2 ry p2
/-- f(k = v, ..) -/
theorem ex_callK0 {kws : List Keyword} (G : DOk X.prog X.w (gX T X) X.base k f fd ps F) (hr : RoomG k X.A) (hg : Gl X x) (hm : X.mg x = some (.ref f)) (hk : PySem.W.keepIn X.K (.ref f) = true) (hb : Bnd X.K fd ps 0 ks ix dvs) (hd : ∀ B α, RepVs (gX T X) B α dvs dxs)
    (tk : Takes X W) (hkw : PK X kws (tA (gX T X) W gs)) (hall : (backToKw pos (keywordEach kws X.env)).all (·.1.isSome) = true := by rfl) (hks : (backToKw pos (keywordEach kws X.env)).filterMap (·.1) = ks := by rfl)
    (hdb : (x == ("__debug__" : Str)) = false := by decide)
    (hpl : ((backTo pos (starEach [] X.env)).any (·.1) || (backToKw pos (keywordEach kws X.env)).any (·.1.isNone)) = false := by rfl) : EX T X W (.Call (.Name x p) [] kws pos) (eCall F 0 ks.length ix dxs aNil gs) := by
  refine ⟨fun pins s σ H Q I h => ?_⟩
  refine wpAny_Call_Name_kw (ld_glob I hg hm ?_ hdb)
  obtain ⟨ρ, ω, α, sr, rs, q⟩ := h
  refine PySem.W.callWith_KW0 (h₀ := X.base) I.ok.mod.kin hk hall ?_ hpl
  refine thn (hkw.run pos pins s σ H _ I (tG_car (f := gs) (k := fun ys ω => if ([] : List Val).length = 0 ∧ ys.length = ks.length then F (pick ix ([] ++ ys ++ dxs)) ω else .bad) (R := Q) (rel' := RepV (gX T X)) sr rs q)) fun ws s2 ⟨zs, H2, I2, rz, ys, ω2, α2, sr2, rs2, ry, p2⟩ => ⟨I2.kIn, ?_⟩
  rw [hks]
  exact run_d (us := []) (vs := []) (xs := []) G hr hb hd tk I2 .nil rz sr2 .nil ry p2
end
end DL

/-! The D-layer: tests, statements, loops; a def by its body. -/
namespace DL
open PySem PySem.Spec PyProof.Rows L2

/-! ### statements' readings -/
abbrev Sx := Env → Store → SRes
def SPost (g : Gd) (W : WX) (ω : Store) (α : List Addr) (H : Hp) (D : Ends) : SRes → Prop
  | .nx ρ ω' => ∀ σ' α' H', Go g ω α H ω' α' H' → RS g (base ω' α' H') α' σ' ρ → D.nx σ' H'
  | .bk ρ ω' => ∀ σ' α' H', Go g ω α H ω' α' H' → RS g (base ω' α' H') α' σ' ρ → D.bk σ' H'
  | .ct ρ ω' => ∀ σ' α' H', Go g ω α H ω' α' H' → RS g (base ω' α' H') α' σ' ρ → D.ct σ' H'
  | .rt x ω' => ∀ v α' H', Go g ω α H ω' α' H' → RepV g (base ω' α' H') α' v x → D.rt v H'
  | .exc e ρ ω' => ∀ cls dd σ' α' H', Go g ω α H ω' α' H' → RS g (base ω' α' H') α' σ' ρ → XRep g (base ω' α' H') cls dd e → W cls dd σ' H'
  | .bad => False
def tS (g : Gd) (W : WX) (f : Sx) : TS := fun D σ H => ∃ ρ ω α, SR g ω α H ∧ RS g (base ω α H) α σ ρ ∧ SPost g W ω α H D (f ρ ω)
abbrev SX (T : List (Addr × Str)) (X : Cx) (W : WX) (st : Stmt) (f : Sx) : Prop := PS X st (tS (gX T X) W f)
abbrev BX (T : List (Addr × Str)) (X : Cx) (W : WX) (st : List Stmt) (f : Sx) : Prop := PSs X st (tS (gX T X) W f)
def sBind {γ : Type} (r : Res γ) (ρ : Env) (k : γ → Store → SRes) : SRes := match r with
  | .ok x ω => k x ω
  | .exc e ω => .exc e ρ ω
  | .bad => .bad
theorem PS.imp {X : Cx} {st : Stmt} {t t' : TS} (h : PS X st t) (k : ∀ D σ H, t' D σ H → t D σ H) : PS X st t' := ⟨fun pins s σ H D I q => h.run pins s σ H D I (k D σ H q)⟩
theorem PSs.imp {X : Cx} {st : List Stmt} {t t' : TS} (h : PSs X st t) (k : ∀ D σ H, t' D σ H → t D σ H) : PSs X st t' := ⟨fun pins s σ H D I q => h.run pins s σ H D I (k D σ H q)⟩
section
variable {g : Gd} {W : WX} {σ : L2.St} {ω ω1 : Store} {α α1 : List Addr} {H H1 : Hp} {D D' : Ends} {β γ : Type} {rel : Hp → List Addr → β → γ → Prop}
theorem SPost.rebase (go : Go g ω α H ω1 α1 H1) {r : SRes} (h : SPost g W ω α H D r) : SPost g W ω1 α1 H1 D r := by
  cases r with
  | nx ρ ω' => exact fun σ' α' H' go' q => h σ' α' H' (go.trans go') q
  | bk ρ ω' => exact fun σ' α' H' go' q => h σ' α' H' (go.trans go') q
  | ct ρ ω' => exact fun σ' α' H' go' q => h σ' α' H' (go.trans go') q
  | rt x ω' => exact fun σ' α' H' go' q => h σ' α' H' (go.trans go') q
  | exc e ρ ω' => exact fun c d σ' α' H' go' q => h c d σ' α' H' (go.trans go') q
  | bad => exact h
/-- an expression within a statement -/
theorem sG_step {f : Fx γ} {ρ : Env} {k : γ → Store → SRes} {Q : β → Hp → Prop} (sr : SR g ω α H) (rs : RS g (base ω α H) α σ ρ) (h : SPost g W ω α H D (sBind (f ρ ω) ρ k))
    (q : ∀ v H' x ω' α', Go g ω α H ω' α' H' → rel (base ω' α' H') α' v x → SR g ω' α' H' → RS g (base ω' α' H') α' σ ρ → SPost g W ω' α' H' D (k x ω') → Q v H') : tG g W rel f σ H Q := by
  refine ⟨ρ, ω, α, sr, rs, ?_⟩
  cases e : f ρ ω with
  | ok x ω' => rw [e] at h; exact fun v α' H' go hv => q v H' x ω' α' go hv go.sr (go.rs rs) (SPost.rebase go h)
  | exc x ω' => rw [e] at h; exact fun c d α' H' go hv => h c d σ α' H' go (go.rs rs) hv
  | bad => rw [e] at h; exact h
theorem SPost.nxHere {ρ : Env} (sr : SR g ω α H) (h : SPost g W ω α H D (.nx ρ ω)) (rs : RS g (base ω α H) α σ ρ) : D.nx σ H := h σ α H (Go.refl sr) rs
end

theorem natI : ∀ n : Nat, (n != 0) = ((n : Int) != 0)
  | 0 => rfl
  | n + 1 => by simp; omega
/-! ### tests -/
def asB : Val → Store → Res Bool
  | .d (.bl b), ω => .ok b ω
  | _, _ => .bad
def tst (f : Fx Val) : Fx Bool := fun ρ ω => (f ρ ω).bind asB
def truD : D → Option Bool
  | .non => some false
  | .bl b => some b
  | .int i => some (i != 0)
  | .str x => if x.length ≤ sizeLine then some (x.length != 0) else none
  | .lst xs => some (!xs.isEmpty)
  | .frl xs => some (!xs.isEmpty)
  | .tup xs => some (!xs.isEmpty)
  | _ => none
def truth (f : Fx Val) : Fx Bool := fun ρ ω => (f ρ ω).bind fun x ω => match x.look ω with
  | some d => (match truD d with | some b => .ok b ω | none => .bad)
  | none => .bad
def tAndD (t u : Fx Bool) : Fx Bool := fun ρ ω => (t ρ ω).bind fun c ω => if c then u ρ ω else .ok false ω
def tOrD (t u : Fx Bool) : Fx Bool := fun ρ ω => (t ρ ω).bind fun c ω => if c then .ok true ω else u ρ ω
def tNotD (t : Fx Bool) : Fx Bool := fun ρ ω => (t ρ ω).bind fun c ω => .ok (!c) ω
/-- .. as values -/
def eAnd (a b : Fx Val) : Fx Val := fun ρ ω => ((a ρ ω).bind asB).bind fun c ω => if c then b ρ ω else .ok (.d (.bl false)) ω
def eOr (a b : Fx Val) : Fx Val := fun ρ ω => ((a ρ ω).bind asB).bind fun c ω => if c then .ok (.d (.bl true)) ω else b ρ ω
def eNot (a : Fx Val) : Fx Val := fun ρ ω => ((a ρ ω).bind asB).bind fun c ω => .ok (.d (.bl (!c))) ω
def eIf (t : Fx Bool) (a b : Fx Val) : Fx Val := fun ρ ω => (t ρ ω).bind fun c ω => if c then a ρ ω else b ρ ω
section
variable {T : List (Addr × Str)} {X : Cx} {W : WX} {e a b c : Expr} {es : List Expr} {f fa fb fc : Fx Val} {ft fu : Fx Bool} {fs gs : Fx (List Val)} {pos p : Pos} {σ : L2.St} {H : Hp}
theorem asB_ok {γ β : Type} {x : Val} {k : Bool → Store → Res γ} {g : Gd} {ω : Store} {α : List Addr} {H : Hp} {rel : Hp → List Addr → β → γ → Prop} {Q : β → Hp → Prop} (h : Post g W σ ω α H rel Q ((asB x ω).bind k)) : ∃ c, x = .d (.bl c) ∧ Post g W σ ω α H rel Q (k c ω) := by
  unfold asB at h
  split at h
  · exact ⟨_, rfl, h⟩
  · exact h.elim
theorem tst_of {Q : Bool → Hp → Prop} (h : tT (gX T X) W (tst f) σ H Q) : tE (gX T X) W f σ H (fun x H' => ∃ k, x = .bl k ∧ Q k H') := by
  obtain ⟨ρ, ω, α, sr, rs, p⟩ := h
  refine tG_step sr rs p fun v H1 x ω1 α1 go1 rx sr1 rs1 p1 => ?_
  unfold asB at p1
  split at p1
  · cases rx
    exact ⟨_, rfl, p1.here sr1 rfl⟩
  · exact p1.elim
theorem tx_val (h : EX T X W e f) (he : ∀ whole, isTrue e X.env whole = (do let v ← whole; standAt e.pos; holding [v] (truthy v)) := by intro _; rfl) : TX T X W e (tst f) := PT.imp (pt_val h he) fun _ _ _ q => tst_of q
theorem tx_truth (h : EX T X W e f) (he : ∀ whole, isTrue e X.env whole = (do let v ← whole; standAt e.pos; holding [v] (truthy v)) := by intro _; rfl) : TX T X W e (truth f) := PT.imp (pt_truth h he) fun σ H Q ⟨ρ, ω, α, sr, rs, p⟩ =>
  tG_step sr rs p fun v H1 x ω1 α1 go1 rx sr1 rs1 p1 => by
    split at p1
    · rename_i d e
      have br := look_br sr1 rx e
      split at p1
      · rename_i b eb
        refine ⟨b, ?_, p1.here sr1 rfl⟩
        unfold truD at eb
        split at eb
        · cases eb; cases br.nonE; rfl
        · cases eb; cases br.blE; rfl
        · cases eb; cases br.intE; rfl
        · split at eb
          · rename_i hl
            cases eb; cases br.strE; exact ⟨hl, natI _⟩
          · cases eb
        · cases eb
          obtain ⟨a, vs, rfl, h1, r⟩ := br.lstE
          refine .inl ⟨vs, SqL.of h1, ?_⟩
          cases r <;> rfl
        · cases eb
          obtain ⟨a, vs, rfl, h1, r⟩ := br.frlE
          refine .inl ⟨vs, h1, ?_⟩
          cases r <;> rfl
        · cases eb
          obtain ⟨a, vs, rfl, h1, r⟩ := br.tupE
          refine .inr (.inl ⟨vs, h1, ?_⟩)
          cases r <;> rfl
        · cases eb
      · exact p1.elim
    · exact p1.elim
theorem tx_cmp {op : CmpOp} {r : R2} {F : D → D → Option D} (ho : OpR X (compareOp op) r) (o : Op2 (gX T X) r F) (ha : EX T X W a fa) (hb : EX T X W b fb) (hm : behindInMarks op b = false) : TX T X W (.Compare a [op] [b] pos) (tst (eOp F fa fb)) :=
  PT.imp (pt_cmpR ho ha hb hm) fun σ H Q h => by
    have h2 := tst_of h
    exact tOp_of o h2
theorem tx_not (h : TX T X W a ft) : TX T X W (.UnaryOp .Not a pos) (tNotD ft) := PT.imp (pt_not h) fun σ H Q ⟨ρ, ω, α, sr, rs, p⟩ =>
  tG_step sr rs p fun v H1 x ω1 α1 go1 rx sr1 rs1 p1 => by cases rx; exact p1.here sr1 rfl
theorem wx_and1 (h : TX T X W a ft) : WTX T X W (.BoolOp .And [a] pos) ft := pw_and1 h
theorem wx_or1 (h : TX T X W a ft) : WTX T X W (.BoolOp .Or [a] pos) ft := pw_or1 h
theorem wx_and (ha : TX T X W a ft) (hb : WTX T X W (.BoolOp .And (b :: es) pos) fu) : WTX T X W (.BoolOp .And (a :: b :: es) pos) (tAndD ft fu) := PW.imp (pw_and ha hb) fun σ H Q ⟨ρ, ω, α, sr, rs, p⟩ =>
  tG_step sr rs p fun v H1 x ω1 α1 go1 rx sr1 rs1 p1 => by
    cases rx
    cases v with
    | true => exact ⟨ρ, ω1, α1, sr1, rs1, p1⟩
    | false => exact p1.here sr1 rfl
theorem wx_or (ha : TX T X W a ft) (hb : WTX T X W (.BoolOp .Or (b :: es) pos) fu) : WTX T X W (.BoolOp .Or (a :: b :: es) pos) (tOrD ft fu) := PW.imp (pw_or ha hb) fun σ H Q ⟨ρ, ω, α, sr, rs, p⟩ =>
  tG_step sr rs p fun v H1 x ω1 α1 go1 rx sr1 rs1 p1 => by
    cases rx
    cases v with
    | true => exact p1.here sr1 rfl
    | false => exact ⟨ρ, ω1, α1, sr1, rs1, p1⟩
theorem ex_one {op} (h : EX T X W a f) : EX T X W (.BoolOp op [a] pos) f := pe_one h
theorem ex_and (ha : EX T X W a fa) (hb : EX T X W (.BoolOp .And (b :: es) pos) fb) : EX T X W (.BoolOp .And (a :: b :: es) pos) (eAnd fa fb) := PE.imp (pe_and ha hb) fun σ H Q ⟨ρ, ω, α, sr, rs, p⟩ => by
  unfold eAnd at p
  have h2 : tT (gX T X) W (tst fa) σ H (fun c H1 => if c = true then tE (gX T X) W fb σ H1 Q else Q (.bl false) H1) := tG_step sr rs p fun v H1 x ω1 α1 go1 rx sr1 rs1 p1 => by
    cases rx
    cases v with
    | true => exact ⟨ρ, ω1, α1, sr1, rs1, p1⟩
    | false => exact p1.here sr1 (.bl false)
  exact tst_of h2
theorem ex_or (ha : EX T X W a fa) (hb : EX T X W (.BoolOp .Or (b :: es) pos) fb) : EX T X W (.BoolOp .Or (a :: b :: es) pos) (eOr fa fb) := PE.imp (pe_or ha hb) fun σ H Q ⟨ρ, ω, α, sr, rs, p⟩ => by
  unfold eOr at p
  have h2 : tT (gX T X) W (tst fa) σ H (fun c H1 => if c = true then Q (.bl true) H1 else tE (gX T X) W fb σ H1 Q) := tG_step sr rs p fun v H1 x ω1 α1 go1 rx sr1 rs1 p1 => by
    cases rx
    cases v with
    | true => exact p1.here sr1 (.bl true)
    | false => exact ⟨ρ, ω1, α1, sr1, rs1, p1⟩
  exact tst_of h2
theorem ex_not (ha : EX T X W a fa) : EX T X W (.UnaryOp .Not a pos) (eNot fa) := PE.imp (pe_not ha) fun σ H Q ⟨ρ, ω, α, sr, rs, p⟩ => by
  unfold eNot at p
  have h2 : tT (gX T X) W (tst fa) σ H (fun c H1 => Q (.bl (!c)) H1) := tG_step sr rs p fun v H1 x ω1 α1 go1 rx sr1 rs1 p1 => by
    cases rx
    exact p1.here sr1 (.bl _)
  exact tst_of h2
theorem ex_if (hc : TX T X W c ft) (ha : EX T X W a fa) (hb : EX T X W b fb) : EX T X W (.IfExp c a b pos) (eIf ft fa fb) := PE.imp (pe_ifExp hc ha hb) fun σ H Q ⟨ρ, ω, α, sr, rs, p⟩ =>
  tG_step sr rs p fun v H1 x ω1 α1 go1 rx sr1 rs1 p1 => by
    cases rx
    cases v with
    | true => exact ⟨ρ, ω1, α1, sr1, rs1, p1⟩
    | false => exact ⟨ρ, ω1, α1, sr1, rs1, p1⟩
/-- a < b < c -/
def eChain (F G : D → D → Option D) (fa fb fc : Fx Val) : Fx Val := fun ρ ω => (fa ρ ω).bind fun x ω => (fb ρ ω).bind fun y ω => ((op2 F x y ω).bind asB).bind fun k ω => if k then (fc ρ ω).bind fun z ω => op2 G y z ω else .ok (.d (.bl false)) ω
end

/-! ### blocks -/
def sSeq (a b : Sx) : Sx := fun ρ ω => match a ρ ω with
  | .nx ρ' ω' => b ρ' ω'
  | r => r
def sPass : Sx := fun ρ ω => .nx ρ ω
def sBreak : Sx := fun ρ ω => .bk ρ ω
def sCont : Sx := fun ρ ω => .ct ρ ω
def sRet (f : Fx Val) : Sx := fun ρ ω => sBind (f ρ ω) ρ fun x ω => .rt x ω
def sRetN : Sx := fun _ ω => .rt (.d .non) ω
def sDrop (f : Fx Val) : Sx := fun ρ ω => sBind (f ρ ω) ρ fun _ ω => .nx ρ ω
def sSet (i : Nat) (f : Fx Val) : Sx := fun ρ ω => sBind (f ρ ω) ρ fun x ω => .nx (ρ.set i (some x)) ω
def sIf (t : Fx Bool) (a b : Sx) : Sx := fun ρ ω => sBind (t ρ ω) ρ fun c ω => if c then a ρ ω else b ρ ω
def sPar (i j : Nat) (fs : Fx (List Val)) : Sx := fun ρ ω => sBind (fs ρ ω) ρ fun xs ω => match xs with
  | [x, y] => .nx ((ρ.set i (some x)).set j (some y)) ω
  | _ => .bad
section
variable {T : List (Addr × Str)} {X : Cx} {W : WX} {e a b c : Expr} {st : Stmt} {sts sts' : List Stmt} {es : List Expr} {f fa fb : Fx Val} {ft : Fx Bool} {fs : Fx (List Val)} {s1 s2 : Sx} {pos pos' p : Pos} {i j : Nat} {x y : Str}
theorem bx_nil : BX T X W [] sPass := PSs.imp pss_nil fun D σ H ⟨ρ, ω, α, sr, rs, p⟩ => p.nxHere sr rs
theorem bx_cons (h1 : SX T X W st s1) (h2 : BX T X W sts s2) : BX T X W (st :: sts) (sSeq s1 s2) := PSs.imp (pss_cons h1 h2) fun D σ H ⟨ρ, ω, α, sr, rs, p⟩ => by
  refine ⟨ρ, ω, α, sr, rs, ?_⟩
  unfold sSeq at p
  cases e : s1 ρ ω with
  | nx ρ' ω' => rw [e] at p; exact fun σ' α' H' go q => ⟨ρ', ω', α', go.sr, q, SPost.rebase go p⟩
  | rt x ω' => rw [e] at p; exact p
  | bk ρ' ω' => rw [e] at p; exact p
  | ct ρ' ω' => rw [e] at p; exact p
  | exc d ρ' ω' => rw [e] at p; exact p
  | bad => rw [e] at p; exact p
theorem bx_one (h1 : SX T X W st s1) : BX T X W [st] s1 := pss_one h1
theorem sx_pass : SX T X W (.Pass pos) sPass := PS.imp ps_pass fun D σ H ⟨ρ, ω, α, sr, rs, p⟩ => p.nxHere sr rs
theorem sx_break : SX T X W (.Break pos) sBreak := PS.imp ps_break fun D σ H ⟨ρ, ω, α, sr, rs, p⟩ => p σ α H (Go.refl sr) rs
theorem sx_cont : SX T X W (.Continue pos) sCont := PS.imp ps_continue fun D σ H ⟨ρ, ω, α, sr, rs, p⟩ => p σ α H (Go.refl sr) rs
theorem sx_ret (he : EX T X W e f) : SX T X W (.Return (some e) pos) (sRet f) := PS.imp (ps_ret he) fun D σ H ⟨ρ, ω, α, sr, rs, p⟩ =>
  sG_step sr rs p fun v H1 x ω1 α1 go1 rx sr1 rs1 p1 => p1 v α1 H1 (Go.refl sr1) rx
theorem sx_retN : SX T X W (.Return none pos) sRetN := PS.imp ps_retN fun D σ H ⟨ρ, ω, α, sr, rs, p⟩ => p _ α H (Go.refl sr) (show RepV _ _ _ _ (.d .non) from .non)
theorem sx_expr (he : EX T X W e f) (hs : swapsWith e none pos.line X.env = pure false := by rfl) : SX T X W (.Expr e pos) (sDrop f) := PS.imp (ps_expr he hs) fun D σ H ⟨ρ, ω, α, sr, rs, p⟩ =>
  sG_step sr rs p fun v H1 x ω1 α1 go1 rx sr1 rs1 p1 => p1.nxHere sr1 rs1
theorem sx_set (hN : X.N.Nodup) (hi : X.N[i]? = some x) (hx : Loc X.env.scope x) (he : EX T X W e f) (hs : swapsWith e (some (.Name x pos')) pos.line X.env = pure false := by rfl) (hf : X.fn x = true ∨ X.env.scope.names.lookup x = some .local := by first | exact .inl rfl | exact .inr rfl | assumption) :
    SX T X W (.Assign [.Name x pos'] e pos) (sSet i f) := PS.imp (ps_set hN hi hx he hs hf) fun D σ H ⟨ρ, ω, α, sr, rs, p⟩ =>
  sG_step sr rs p fun v H1 x ω1 α1 go1 rx sr1 rs1 p1 => p1.nxHere sr1 (rs1.set rx)
theorem sx_if (hc : TX T X W c ft) (ha : BX T X W sts s1) (hb : BX T X W sts' s2) : SX T X W (.If c sts sts' pos) (sIf ft s1 s2) := PS.imp (ps_if hc ha hb) fun D σ H ⟨ρ, ω, α, sr, rs, p⟩ =>
  sG_step sr rs p fun v H1 x ω1 α1 go1 rx sr1 rs1 p1 => by
    cases rx
    cases v with
    | true => exact ⟨ρ, ω1, α1, sr1, rs1, p1⟩
    | false => exact ⟨ρ, ω1, α1, sr1, rs1, p1⟩
theorem sx_par {px py pt : Pos} {kt k2 pt2} (hc : X.calm = true) (hN : X.N.Nodup) (hi : X.N[i]? = some x) (hj : X.N[j]? = some y) (hij : i ≠ j)
    (hx : X.env.scope.names.lookup x = some .local) (hy : X.env.scope.names.lookup y = some .local) (ha : AX T X W [a, b] fs)
    (hw : swappedStores [.Tuple [.Name x px, .Name y py] kt pt] (.Tuple [a, b] k2 pt2) X.env = pure (some [x, y]))
    (hs : swapsWithSole [.Tuple [.Name x px, .Name y py] kt pt] (.Tuple [a, b] k2 pt2) pos.line X.env = pure false := by rfl) :
    SX T X W (.Assign [.Tuple [.Name x px, .Name y py] kt pt] (.Tuple [a, b] k2 pt2) pos) (sPar i j fs) := PS.imp (ps_par hc hN hi hj hij hx hy ha hw hs) fun D σ H ⟨ρ, ω, α, sr, rs, p⟩ =>
  sG_step sr rs p fun vs H1 xs ω1 α1 go1 rx sr1 rs1 p1 => by
    cases rx with
    | nil => exact p1.elim
    | cons h1 r1 => cases r1 with
      | nil => exact p1.elim
      | cons h2 r2 => cases r2 with
        | nil => exact ⟨_, _, rfl, p1.nxHere sr1 ((rs1.set h1).set h2)⟩
        | cons h3 r3 => exact p1.elim
end
end DL

/-! The D-layer: chains, targets, loops, items, a def by its body. -/
namespace DL
open PySem PySem.Spec PyProof.Rows L2
section
variable {T : List (Addr × Str)} {X : Cx} {W : WX} {e a b c : Expr} {st : Stmt} {sts sts' : List Stmt} {es : List Expr} {f fa fb fc : Fx Val} {ft : Fx Bool} {fs : Fx (List Val)} {s1 s2 : Sx} {pos pos' p : Pos} {i j : Nat} {x y : Str}
theorem chain_of {r r' : R2} {F G : D → D → Option D} (o : Op2 (gX T X) r F) (o' : Op2 (gX T X) r' G) {σ : L2.St} {H : Hp} {Q : VK} (h : tE (gX T X) W (eChain F G fa fb fc) σ H Q) : tChain r r' (tE (gX T X) W fa) (tE (gX T X) W fb) (tE (gX T X) W fc) σ H Q := by
  obtain ⟨ρ, ω, α, sr, rs, p⟩ := h
  refine tG_step sr rs p fun v H1 x ω1 α1 go1 rx sr1 rs1 p1 => ?_
  refine tG_step sr1 rs1 p1 fun w H2 y ω2 α2 go2 ry sr2 rs2 p2 => ?_
  have rx2 := go2.rv rx
  unfold op2 at p2
  split at p2
  · rename_i dx dy ex ey
    split at p2
    · rename_i z ez
      obtain ⟨k', hk', p3⟩ := asB_ok (x := .d z) p2
      cases hk'
      refine o _ H2 v w dx dy _ _ sr2.there (look_br sr2 rx2 ex) (look_br sr2 ry ey) ez fun v' H' k hv => ?_
      cases hv
      refine ⟨_, rfl, ?_⟩
      have go3 := Go.grow sr2 k
      cases k' with
      | true =>
        refine tG_step go3.sr (go3.rs rs2) (Post.rebase go3 p3) fun u H4 z' ω4 α4 go4 rz sr4 rs4 p4 => ?_
        exact o'.post sr4 (go4.rv (go3.rv ry)) rz p4
      | false => exact p3.grown (rel := RepV (gX T X)) sr2 k (.bl false)
    · exact p2.elim
  · exact p2.elim
theorem ex_chain {op op' : CmpOp} {r r' : R2} {F G : D → D → Option D} (ho : OpR X (compareOp op) r) (ho' : OpR X (compareOp op') r') (o : Op2 (gX T X) r F) (o' : Op2 (gX T X) r' G) (ha : EX T X W a fa) (hb : EX T X W b fb) (hc : EX T X W c fc)
    (hm : lastMarks [op, op'] [b, c] = false := by with_unfolding_all rfl) : EX T X W (.Compare a [op, op'] [b, c] pos) (eChain F G fa fb fc) := PE.imp (pe_chain ho ho' ha hb hc hm) fun _ _ _ h => chain_of o o' h
theorem tx_chain {op op' : CmpOp} {r r' : R2} {F G : D → D → Option D} (ho : OpR X (compareOp op) r) (ho' : OpR X (compareOp op') r') (o : Op2 (gX T X) r F) (o' : Op2 (gX T X) r' G) (ha : EX T X W a fa) (hb : EX T X W b fb) (hc : EX T X W c fc)
    (hm : lastMarks [op, op'] [b, c] = false := by with_unfolding_all rfl) : TX T X W (.Compare a [op, op'] [b, c] pos) (tst (eChain F G fa fb fc)) := PT.imp (pt_chain ho ho' ha hb hc hm) fun _ _ _ h => chain_of o o' (tst_of h)
end

/-! ### targets -/
/-- what a target makes of the slots -/
abbrev Tg := D → Env → Option Env
def GX (T : List (Addr × Str)) (X : Cx) (t : Expr) (G : Tg) : Prop := ∀ (pins : List (Addr × Obj)) (s : Shared) (σ : L2.St) (H : Hp) (v : V) (u : Value) (Q : L2.St → Hp → Prop), L2.Inv X pins σ H s → RelV v u →
  (∃ (ρ ρ' : Env) (l : List Addr) (α : List Addr) (d : D), RS (gX T X) (off l H) α σ ρ ∧ Rep (gX T X) (off l H) v d ∧ G d ρ = some ρ' ∧ ∀ σ', RS (gX T X) (off l H) α σ' ρ' → Q σ' H) →
  wpAny (model X.prog X.w) X.A (assign t X.env u) (fun _ s' => ∃ σ' H', L2.Inv X pins σ' H' s' ∧ Q σ' H') X.xe s
def GXs (T : List (Addr × Str)) (X : Cx) (ts : List Expr) (G : List D → Env → Option Env) : Prop := ∀ (pins : List (Addr × Obj)) (s : Shared) (σ : L2.St) (H : Hp) (vs : List V) (us : List Value) (Q : L2.St → Hp → Prop), L2.Inv X pins σ H s → Vals vs us →
  (∃ (ρ ρ' : Env) (l : List Addr) (α : List Addr) (ds : List D), RS (gX T X) (off l H) α σ ρ ∧ RepL (gX T X) (off l H) vs ds ∧ G ds ρ = some ρ' ∧ ∀ σ', RS (gX T X) (off l H) α σ' ρ' → Q σ' H) →
  wpAny (model X.prog X.w) X.A (assignInOrder ((assignEach ts X.env).map (·.2)) us) (fun _ s' => ∃ σ' H', L2.Inv X pins σ' H' s' ∧ Q σ' H') X.xe s
def gNm (i : Nat) : Tg := fun d ρ => some (ρ.set i (some (.d d)))
def gsNil : List D → Env → Option Env
  | [], ρ => some ρ
  | _, _ => none
def gsCons (G : Tg) (R : List D → Env → Option Env) : List D → Env → Option Env
  | d :: ds, ρ => (G d ρ).bind fun ρ' => R ds ρ'
  | [], _ => none
def gSeq (n : Nat) (R : List D → Env → Option Env) : Tg
  | .tup ds, ρ => if ds.length = n then R ds ρ else none
  | .lst ds, ρ => if ds.length = n then R ds ρ else none
  | _, _ => none
section
variable {T : List (Addr × Str)} {X : Cx} {W : WX} {t : Expr} {ts : List Expr} {G : Tg} {R : List D → Env → Option Env} {pos : Pos} {i n k : Nat} {x : Str}
theorem gx_name (hN : X.N.Nodup) (hi : X.N[i]? = some x) (hx : Loc X.env.scope x) (hf : X.fn x = true ∨ X.env.scope.names.lookup x = some .local := by first | exact .inl rfl | exact .inr rfl | assumption) : GX T X (.Name x pos) (gNm i) :=
  fun pins s σ H v u Q I r ⟨ρ, ρ', l, α, d, rs, rep, e, q⟩ => by
    cases e
    exact (pg_name hN hi hx hf).run pins s σ H v u Q I r (q _ (rs.set (x := .d d) rep))
theorem gxs_nil : GXs T X [] gsNil := fun pins s σ H vs us Q I r ⟨ρ, ρ', l, α, ds, rs, rep, e, q⟩ => by
  cases rep with
  | nil => cases e; exact pgs_nil.run pins s σ H [] us Q I r ⟨rfl, q _ rs⟩
  | cons h r' => cases e
theorem gxs_cons (h1 : GX T X t G) (h2 : GXs T X ts R) (hs : (assignEach (t :: ts) X.env).map (·.2) = assign t X.env :: (assignEach ts X.env).map (·.2) := by rfl) : GXs T X (t :: ts) (gsCons G R) :=
  fun pins s σ H vs us Q I r ⟨ρ, ρ', l, α, ds, rs, rep, e, q⟩ => by
    cases rep with
    | nil => cases e
    | cons hv rr =>
      cases r with
      | cons r rv =>
        rw [hs]
        unfold gsCons at e
        obtain ⟨ρ1, e1, e2⟩ := Option.bind_eq_some_iff.mp e
        refine assignInOrder_cons (thn (h1 pins s σ H _ _ (fun σ1 H1 => H1 = H ∧ RS (gX T X) (off l H) α σ1 ρ1) I r ⟨ρ, ρ1, l, α, _, rs, hv, e1, fun σ' h => ⟨rfl, h⟩⟩) fun _ s1 ⟨σ1, H1, I1, eH, rs1⟩ => ?_)
        subst eH
        exact h2 pins s1 σ1 _ _ _ Q I1 rv ⟨ρ1, ρ', l, α, _, rs1, rr, e2, q⟩
theorem gx_seq (hc : X.calm = true) (h : GXs T X ts R) (hn : (assignEach ts X.env).length = n := by rfl) (hst : (assignEach ts X.env).findIdx? (·.1) = none := by rfl) : GX T X (.Tuple ts k pos) (gSeq n R) :=
  fun pins s σ H v u Q I r ⟨ρ, ρ', l, α, d, rs, rep, e, q⟩ => by
    unfold gSeq at e
    split at e
    · split at e
      · rename_i hl
        cases rep with
        | tup hq rr =>
          refine (pg_tup (t := fun vs σ H Q => ∃ (ρ ρ' : Env) (l : List Addr) (α : List Addr) (ds : List D), RS (gX T X) (off l H) α σ ρ ∧ RepL (gX T X) (off l H) vs ds ∧ R ds ρ = some ρ' ∧ ∀ σ', RS (gX T X) (off l H) α σ' ρ' → Q σ' H) hc ⟨h⟩ hn hst).run pins s σ H _ u Q I r ?_
          exact ⟨_, _, rfl, (hq.ext ext_off).sq, by rw [rr.len]; exact hl, ρ, ρ', l, α, _, rs, rr, e, q⟩
      · cases e
    · split at e
      · rename_i hl
        cases rep with
        | lst hq rr =>
          refine (pg_lst (t := fun vs σ H Q => ∃ (ρ ρ' : Env) (l : List Addr) (α : List Addr) (ds : List D), RS (gX T X) (off l H) α σ ρ ∧ RepL (gX T X) (off l H) vs ds ∧ R ds ρ = some ρ' ∧ ∀ σ', RS (gX T X) (off l H) α σ' ρ' → Q σ' H) hc ⟨h⟩ hn hst).run pins s σ H _ u Q I r ?_
          exact ⟨_, _, rfl, SqL.of (off_some hq).2, by rw [rr.len]; exact hl, ρ, ρ', l, α, _, rs, rr, e, q⟩
      · cases e
    · cases e
/-- a, b = e -/
def sAsg (G : Tg) (f : Fx Val) : Sx := fun ρ ω => sBind (f ρ ω) ρ fun x ω => match x with
  | .d d => (match G d ρ with | some ρ' => .nx ρ' ω | none => .bad)
  | .loc _ => .bad
theorem sx_asg {e : Expr} {f : Fx Val} (he : EX T X W e f) (hg : GX T X t G) (hs : swapsWithSole [t] e pos.line X.env = pure false := by rfl) (hw : swappedStores [t] e X.env = pure none := by rfl)
    (h1 : (assignEach [t] X.env).map (·.2) = [assign t X.env] := by rfl) : SX T X W (.Assign [t] e pos) (sAsg G f) := by
  refine PS.imp (ps_asg he (g := fun v σ H Q => ∃ (ρ ρ' : Env) (l : List Addr) (α : List Addr) (d : D), RS (gX T X) (off l H) α σ ρ ∧ Rep (gX T X) (off l H) v d ∧ G d ρ = some ρ' ∧ ∀ σ', RS (gX T X) (off l H) α σ' ρ' → Q σ' H) ⟨hg⟩ hs hw h1) fun D σ H ⟨ρ, ω, α, sr, rs, p⟩ => ?_
  refine sG_step sr rs p fun v H1 x ω1 α1 go1 rx sr1 rs1 p1 => ?_
  split at p1
  · split at p1
    · rename_i ρ' e'
      exact ⟨ρ, ρ', lv ω1 α1, α1, _, rs1, rx, e', fun σ' h => p1.nxHere sr1 h⟩
    · exact p1.elim
  · exact p1.elim
end

/-! ### for -/
def loopL (G : Tg) (body : Sx) : List D → Env → Store → SRes
  | [], ρ, ω => .nx ρ ω
  | d :: ds, ρ, ω => match G d ρ with
    | none => .bad
    | some ρ1 => match body ρ1 ω with
      | .nx ρ2 ω2 => loopL G body ds ρ2 ω2
      | .ct ρ2 ω2 => loopL G body ds ρ2 ω2
      | .bk ρ2 ω2 => .nx ρ2 ω2
      | r => r
def seqD : D → Option (List D)
  | .lst ds => some ds
  | .tup ds => some ds
  | .frl ds => some ds
  | _ => none
/-- for G in f: body; the list walked is no changing one -/
def sFor (f : Fx Val) (G : Tg) (body : Sx) : Sx := fun ρ ω => sBind (f ρ ω) ρ fun x ω => match x with
  | .d d => (match seqD d with | some ds => loopL G body ds ρ ω | none => .bad)
  | .loc _ => .bad
def rangeD (lo : Int) (n : Nat) : List D := (List.range n).map fun i => .int (lo + (i : Nat))
def sForR1 (f : Fx Val) (G : Tg) (body : Sx) : Sx := fun ρ ω => sBind (f ρ ω) ρ fun x ω => match x with
  | .d (.int j) => if -(2 ^ 62) ≤ j ∧ j < 2 ^ 62 then loopL G body (rangeD 0 j.toNat) ρ ω else .bad
  | _ => .bad
def sForR2 (f h : Fx Val) (G : Tg) (body : Sx) : Sx := fun ρ ω => sBind (f ρ ω) ρ fun x ω => sBind (h ρ ω) ρ fun y ω => match x, y with
  | .d (.int i), .d (.int j) => if -(2 ^ 62) ≤ i ∧ i < 2 ^ 62 ∧ -(2 ^ 62) ≤ j ∧ j < 2 ^ 62 then loopL G body (rangeD i (j - i).toNat) ρ ω else .bad
  | _, _ => .bad
/-- while t: body, n turns at most -/
def loopW (t : Fx Bool) (body : Sx) : Nat → Env → Store → SRes
  | 0, _, _ => .bad
  | n + 1, ρ, ω => sBind (t ρ ω) ρ fun c ω => if c then (match body ρ ω with
      | .nx ρ2 ω2 => loopW t body n ρ2 ω2
      | .ct ρ2 ω2 => loopW t body n ρ2 ω2
      | .bk ρ2 ω2 => .nx ρ2 ω2
      | r => r) else .nx ρ ω
def sWhile (n : Nat) (t : Fx Bool) (body : Sx) : Sx := fun ρ ω => loopW t body n ρ ω
/-- what a loop walks: a list, a tuple -/
def iAny (K : PySem.W.Frag) (tl : TE) : TI := fun σ H R => tl σ H fun x H1 => ∃ a, x = .ref a ∧ (((∃ xs, SqL K H1 a xs) ∧ R (Itl K a) H1) ∨ ((∃ xs, SqT K H1 a xs) ∧ R (Itt K a) H1))
theorem pi_any {X : Cx} {tg l : Expr} {tl : TE} (hl : PE X l tl) : PI X tg l (iAny X.K tl) := by
  refine ⟨fun pins s σ H R I h => ?_⟩
  refine thn (hl.run pins s σ H _ I h) fun v s1 ⟨x, H1, I1, r1, q1⟩ => ?_
  obtain ⟨a, e, ⟨⟨xs, hq⟩, q⟩ | ⟨⟨xs, hq⟩, q⟩⟩ := q1
  · subst e
    cases r1
    obtain ⟨its, rv, p, hz⟩ := I1.list hq
    refine wpAny_pyIter_list p.isList ?_
    refine ⟨s1.heap.objs.size, [s1.heap.objs.size], _, _, H1, rfl, I1.kept (t' := s1.toks) fun b o e => Heap.get?_push_of_some _ e, turn_list a _, ⟨_, Heap.get?_push_size _ rfl, rfl, rfl⟩, fun b hb => ?_, q⟩
    have e : b = s1.heap.objs.size := by simpa using hb
    subst e
    exact I1.fpOk (Nat.le_refl _) (I1.hok.fresh (Nat.le_refl _))
  · subst e
    cases r1
    obtain ⟨its, rv, p, hz⟩ := I1.tuple hq
    refine wpAny_pyIter_tuple (show s1.heap.IsTuple a its.toArray from p) ?_
    refine ⟨s1.heap.objs.size, [s1.heap.objs.size], _, _, H1, rfl, I1.kept (t' := s1.toks) fun b o e => Heap.get?_push_of_some _ e, turn_tuple a _, ⟨_, Heap.get?_push_size _ rfl, rfl, rfl⟩, fun b hb => ?_, q⟩
    have e : b = s1.heap.objs.size := by simpa using hb
    subst e
    exact I1.fpOk (Nat.le_refl _) (I1.hok.fresh (Nat.le_refl _))

section
variable {T : List (Addr × Str)} {X : Cx} {W : WX} {e a b c tg iter : Expr} {st : Stmt} {sts body : List Stmt} {es : List Expr} {f fa fb fc : Fx Val} {ft : Fx Bool} {fs : Fx (List Val)} {s1 s2 sb : Sx} {pos pos' p : Pos} {i j : Nat} {x y : Str} {G : Tg}
/-- the loop's state at turn i -/
def LP (g : Gd) (W : WX) (B0 : Hp) (G : Tg) (sb : Sx) (De : Ends) (ds : List D) (i : Nat) : L2.St → Hp → Prop := fun σ H =>
  ∃ ρ ω α, SR g ω α H ∧ RS g (base ω α H) α σ ρ ∧ Ext B0 (base ω α H) ∧ SPost g W ω α H De (loopL G sb (ds.drop i) ρ ω)
theorem drop_cons {α : Type} {l : List α} {i : Nat} {d : α} (h : l[i]? = some d) : l.drop i = d :: l.drop (i + 1) := by
  obtain ⟨h1, h2⟩ := List.getElem?_eq_some_iff.mp h
  rw [List.drop_eq_getElem_cons h1, h2]
abbrev EndsL (De : Ends) (Pv : L2.St → Hp → Prop) : Ends := { De with nx := Pv, ct := Pv, bk := De.nx }
/-- the turn's target and body -/
abbrev gOf (T : List (Addr × Str)) (X : Cx) (G : Tg) : TG := fun v σ H Q => ∃ (ρ ρ' : Env) (l : List Addr) (α : List Addr) (d : D), RS (gX T X) (off l H) α σ ρ ∧ Rep (gX T X) (off l H) v d ∧ G d ρ = some ρ' ∧ ∀ σ', RS (gX T X) (off l H) α σ' ρ' → Q σ' H
/-- one turn -/
theorem loop_turn {W : WX} {De : Ends} {B0 : Hp} {H : Hp} {σ : L2.St} {ds : List D} {d : D} {i : Nat} {v : V} (hd : ds[i]? = some d) (rv : ∀ B, Ext B0 B → Rep (gX T X) B v d)
    (p : LP (gX T X) W B0 G sb De ds i σ H) : gOf T X G v σ H fun σ' H' => tS (gX T X) W sb (EndsL De (LP (gX T X) W B0 G sb De ds (i + 1))) σ' H' := by
  obtain ⟨ρ, ω, α, sr, rs, ext, p⟩ := p
  rw [drop_cons hd] at p
  unfold loopL at p
  cases e : G d ρ with
  | none => rw [e] at p; exact p.elim
  | some ρ1 =>
    rw [e] at p
    refine ⟨ρ, ρ1, lv ω α, α, d, rs, rv _ ext, e, fun σ' rs' => ⟨ρ1, ω, α, sr, rs', ?_⟩⟩
    dsimp only at p
    cases q : sb ρ1 ω with
    | nx ρ2 ω2 => rw [q] at p; exact fun σ2 α2 H2 go r2 => ⟨ρ2, ω2, α2, go.sr, r2, ext.trans go.ext, SPost.rebase go p⟩
    | ct ρ2 ω2 => rw [q] at p; exact fun σ2 α2 H2 go r2 => ⟨ρ2, ω2, α2, go.sr, r2, ext.trans go.ext, SPost.rebase go p⟩
    | bk ρ2 ω2 => rw [q] at p; exact p
    | rt x ω2 => rw [q] at p; exact p
    | exc x ρ2 ω2 => rw [q] at p; exact p
    | bad => rw [q] at p; exact p.elim
theorem loop_end {W : WX} {De : Ends} {B0 : Hp} {H : Hp} {σ : L2.St} {ds : List D} {n : Nat} (hn : ds.length ≤ n) (p : LP (gX T X) W B0 G sb De ds n σ H) : De.nx σ H := by
  obtain ⟨ρ, ω, α, sr, rs, ext, p⟩ := p
  rw [List.drop_eq_nil_of_le hn] at p
  exact p.nxHere sr rs
theorem sx_for (hp : PassesOwn (model X.prog X.w) X.A X.env X.xe) (hc : X.calm = true) (hi : EX T X W iter f) (hg : GX T X tg G) (hb : BX T X W body sb) (hs : ∀ x, foldedSetIterable iter X.env x = pure x := by intro _; rfl) : SX T X W (.For tg iter body [] pos) (sFor f G sb) :=
  PS.imp (ps_for (g := gOf T X G) hp hc (pi_any hi) ⟨hg⟩ hb hs) fun De σ H ⟨ρ, ω, α, sr, rs, p⟩ => by
    refine sG_step sr rs p fun v H1 x ω1 α1 go1 rx sr1 rs1 p1 => ?_
    split at p1
    · rename_i d
      split at p1
      · rename_i ds eds
        have start : LP (gX T X) W (base ω1 α1 H1) G sb De ds 0 σ H1 := ⟨ρ, ω1, α1, sr1, rs1, LamX.ExtN.refl _, p1⟩
        have turn : ∀ {vs : List V}, RepL (gX T X) (base ω1 α1 H1) vs ds → ∀ (i : Nat) (y : V) (σ' : L2.St) (H' : Hp), vs[i]? = some y → LP (gX T X) W (base ω1 α1 H1) G sb De ds i σ' H' →
            gOf T X G y σ' H' fun σ2 H2 => tS (gX T X) W sb (EndsL De (LP (gX T X) W (base ω1 α1 H1) G sb De ds (i + 1))) σ2 H2 := fun r i y σ' H' hy q => by
          obtain ⟨d', hd', rd'⟩ := r.getV hy
          exact loop_turn hd' (fun B e => rd'.mono e) q
        unfold seqD at eds
        split at eds
        · cases eds
          cases rx with
          | lst h r => exact ⟨_, rfl, .inl ⟨⟨_, SqL.of (off_some h).2⟩, for_list _ start (fun i σ' H' _ ⟨ρ', ω', α', sr', rs', ext', p'⟩ => SqL.of (off_some (ext' _ _ h (fun ps z => by cases z))).2) (fun i y σ' H' hy q => turn r i y σ' H' hy q) (fun σ' H' q => loop_end (by rw [r.len]; exact Nat.le_refl _) q)⟩⟩
        · cases eds
          cases rx with
          | tup h r => exact ⟨_, rfl, .inr ⟨⟨_, (h.ext ext_off).sq⟩, for_tup _ start (fun i σ' H' _ ⟨ρ', ω', α', sr', rs', ext', p'⟩ => (h.ext (LamX.ExtN.trans ext' ext_off)).sq) (fun i y σ' H' hy q => turn r i y σ' H' hy q) (fun σ' H' q => loop_end (by rw [r.len]; exact Nat.le_refl _) q)⟩⟩
        · cases eds
          cases rx with
          | frl h r => exact ⟨_, rfl, .inl ⟨⟨_, sqL_ext ext_off h⟩, for_list _ start (fun i σ' H' _ ⟨ρ', ω', α', sr', rs', ext', p'⟩ => sqL_ext (LamX.ExtN.trans ext' ext_off) h) (fun i y σ' H' hy q => turn r i y σ' H' hy q) (fun σ' H' q => loop_end (by rw [r.len]; exact Nat.le_refl _) q)⟩⟩
        · cases eds
      · exact p1.elim
    · exact p1.elim
theorem range_get {lo : Int} {n i : Nat} (h : i < n) : (rangeD lo n)[i]? = some (.int (lo + i)) := by
  unfold rangeD
  rw [List.getElem?_map, List.getElem?_range h]; rfl
theorem for_rng {W : WX} {De : Ends} {ω1 : Store} {α1 : List Addr} {H1 : Hp} {σ : L2.St} {ρ : Env} {lo : Int} {n : Nat} (sr1 : SR (gX T X) ω1 α1 H1) (rs1 : RS (gX T X) (base ω1 α1 H1) α1 σ ρ) (p1 : SPost (gX T X) W ω1 α1 H1 De (loopL G sb (rangeD lo n) ρ ω1)) :
    ∃ Wv : Nat → Nat → L2.St → Hp → Prop, (∃ m, Wv 0 m σ H1) ∧ ∀ i m σ H, Wv i m σ H →
      ((Itr lo n).stop i H ∧ De.nx σ H) ∨ ((Itr lo n).go i H ∧ ∃ N : L2.St → Hp → Prop, (∀ σ' H', N σ' H' → ∃ m', m' < m ∧ Wv (i + 1) m' σ' H') ∧ ∀ x H', (Itr lo n).yld i H x H' → gOf T X G x σ H' fun σ2 H2 => tS (gX T X) W sb (EndsL De N) σ2 H2) :=
  for_range (fun i σ' H' => LP (gX T X) W (base ω1 α1 H1) G sb De (rangeD lo n) i σ' H') ⟨ρ, ω1, α1, sr1, rs1, LamX.ExtN.refl _, p1⟩ (fun i σ' H' hi q => loop_turn (range_get hi) (fun _ _ => .int _) q) fun σ' H' q => loop_end (by unfold rangeD; simp) q
theorem sx_forR1 (hp : PassesOwn (model X.prog X.w) X.A X.env X.xe) (hc : X.calm = true) (hgl : Gl X "range") (hm : X.mg "range" = none) (hi : EX T X W a f) (hg : GX T X tg G) (hb : BX T X W body sb) (hst : starEach [a] X.env = [(false, eval a X.env)] := by rfl)
    (hs : ∀ x, foldedSetIterable (.Call (.Name "range" p) [a] [] pos') X.env x = pure x := by intro _; rfl) : SX T X W (.For tg (.Call (.Name "range" p) [a] [] pos') body [] pos) (sForR1 f G sb) :=
  PS.imp (ps_for (g := gOf T X G) hp hc (pi_range1 hgl hm (ax_cons hi ax_nil hst) hst) ⟨hg⟩ hb hs) fun D σ H ⟨ρ, ω, α, sr, rs, p⟩ => by
    refine ⟨ρ, ω, α, sr, rs, ?_⟩
    unfold sForR1 at p
    unfold aCons aNil
    cases e : f ρ ω with
    | exc x ω' => rw [e] at p; exact fun c d α' H' go hv => p c d σ α' H' go (go.rs rs) hv
    | bad => rw [e] at p; exact p
    | ok x ω1 =>
      rw [e] at p
      intro vs α1 H1 go1 rx
      have sr1 := go1.sr
      have rs1 := go1.rs rs
      have p1 := SPost.rebase go1 p
      dsimp only [sBind] at p1
      split at p1
      · split at p1
        · rename_i j hj
          cases rx with
          | cons h r => cases r; cases h; exact ⟨_, rfl, hj.1, hj.2, for_rng sr1 rs1 p1⟩
        · exact p1.elim
      · exact p1.elim
theorem sx_while {n : Nat} (hp : PassesOwn (model X.prog X.w) X.A X.env X.xe) (hc : TX T X W c ft) (hb : BX T X W body sb) : SX T X W (.While c body [] pos) (sWhile n ft sb) :=
  PS.imp (ps_while hp hc hb) fun D σ H ⟨ρ, ω, α, sr, rs, p⟩ => by
    refine ⟨fun m σ H => ∃ ρ ω α, SR (gX T X) ω α H ∧ RS (gX T X) (base ω α H) α σ ρ ∧ SPost (gX T X) W ω α H D (loopW ft sb m ρ ω), ⟨n, ρ, ω, α, sr, rs, p⟩, ?_⟩
    intro m σ H ⟨ρ, ω, α, sr, rs, p⟩
    cases m with
    | zero => exact p.elim
    | succ m =>
      unfold loopW at p
      refine sG_step sr rs p fun v H1 x ω1 α1 go1 rx sr1 rs1 p1 => ?_
      cases rx
      cases v with
      | false => exact p1.nxHere sr1 rs1
      | true =>
        rw [if_pos rfl] at p1 ⊢
        refine ⟨fun σ H => ∃ ρ ω α, SR (gX T X) ω α H ∧ RS (gX T X) (base ω α H) α σ ρ ∧ SPost (gX T X) W ω α H D (loopW ft sb m ρ ω), fun σ' H' q => ⟨m, Nat.lt_succ_self m, q⟩, ρ, ω1, α1, sr1, rs1, ?_⟩
        cases q : sb ρ ω1 with
        | nx ρ2 ω2 => rw [q] at p1; exact fun σ2 α2 H2 go r2 => ⟨ρ2, ω2, α2, go.sr, r2, SPost.rebase go p1⟩
        | ct ρ2 ω2 => rw [q] at p1; exact fun σ2 α2 H2 go r2 => ⟨ρ2, ω2, α2, go.sr, r2, SPost.rebase go p1⟩
        | bk ρ2 ω2 => rw [q] at p1; exact p1
        | rt x ω2 => rw [q] at p1; exact p1
        | exc x ρ2 ω2 => rw [q] at p1; exact p1
        | bad => rw [q] at p1; exact p1.elim
end

/-! ### a def by its body -/
def leave (n : Nat) : SRes → Res Val
  | .nx _ ω => .ok (.d .non) (ω.take n)
  | .rt (.d d) ω => .ok (.d d) (ω.take n)
  | .rt (.loc m) ω => if m < n then .ok (.loc m) (ω.take n) else (match ω[m]? with
    | some (some c) => .ok (.loc n) (ω.take n ++ [some c])
    | _ => .bad)
  | .exc e _ ω => .exc e (ω.take n)
  | _ => .bad
/-- N names, the body -/
def fnD (N : Nat) (body : Sx) : Fn := fun xs ω => leave ω.length (body (xs.map some ++ List.replicate (N - xs.length) none) ω)
section
variable {g : Gd} {ω ω' : Store} {α α' : List Addr} {H H' : Hp}
theorem lv_take : ∀ (ω : Store) (α : List Addr) (n : Nat), ∀ a ∈ lv (ω.take n) (α.take n), a ∈ lv ω α
  | [], _, _, a, h => by rw [List.take_nil] at h; exact h
  | some m :: ω, [], n, a, h => by rw [List.take_nil] at h; cases n <;> exact absurd h (by simp [lv])
  | none :: ω, [], n, a, h => by rw [List.take_nil] at h; cases n <;> exact absurd h (by simp [lv])
  | some m :: ω, b :: α, 0, a, h => absurd h (by simp [lv])
  | none :: ω, b :: α, 0, a, h => absurd h (by simp [lv])
  | some m :: ω, b :: α, n + 1, a, h => by
    rw [List.take_succ_cons, List.take_succ_cons] at h
    unfold lv at h ⊢
    rcases List.mem_cons.mp h with e | h
    · rw [e]; exact List.mem_cons_self
    · exact List.mem_cons_of_mem _ (lv_take ω α n a h)
  | none :: ω, b :: α, n + 1, a, h => by
    rw [List.take_succ_cons, List.take_succ_cons] at h
    unfold lv at h ⊢
    exact lv_take ω α n a h
theorem off_less {l l' : List Addr} (h : ∀ a ∈ l', a ∈ l) : Ext (off l H) (off l' H) := fun a o e _ => by
  obtain ⟨h1, h2⟩ := off_some e
  rw [off_of (fun q => h1 (h a q))]; exact h2
theorem SRl.take {B : Hp} : ∀ {ω : Store} {α : List Addr} (n : Nat), SRl g B H ω α → SRl g B H (ω.take n) (α.take n)
  | _, _, 0, _ => by rw [List.take_zero, List.take_zero]; exact .nil
  | _, _, n + 1, .nil => .nil
  | _, _, n + 1, .dead r => .dead (SRl.take n r)
  | _, _, n + 1, .live h hm r => .live h hm (SRl.take n r)
theorem lv_nodup_take : ∀ (ω : Store) (α : List Addr) (n : Nat), (lv ω α).Nodup → (lv (ω.take n) (α.take n)).Nodup
  | [], _, _, h => by rw [List.take_nil]; exact h
  | some m :: ω, [], n, h => by rw [List.take_nil]; cases n <;> simp [lv]
  | none :: ω, [], n, h => by rw [List.take_nil]; cases n <;> simp [lv]
  | some m :: ω, b :: α, 0, h => by simp [lv]
  | none :: ω, b :: α, 0, h => by simp [lv]
  | some m :: ω, b :: α, n + 1, h => by
    rw [List.take_succ_cons, List.take_succ_cons]
    unfold lv at h ⊢
    obtain ⟨h1, h2⟩ := List.nodup_cons.mp h
    exact List.nodup_cons.mpr ⟨fun q => h1 (lv_take ω α n b q), lv_nodup_take ω α n h2⟩
  | none :: ω, b :: α, n + 1, h => by
    rw [List.take_succ_cons, List.take_succ_cons]
    unfold lv at h ⊢
    exact lv_nodup_take ω α n h
theorem SR.take (s : SR g ω α H) (n : Nat) : SR g (ω.take n) (α.take n) H := ⟨(s.at_.take n).mono (off_less (lv_take ω α n)) fun _ _ _ q => q, lv_nodup_take ω α n s.nd, s.tabs⟩
/-- behind a def: its own objects are forgotten -/
theorem Go.leave (sr : SR g ω α H) (go : Go g ω α H ω' α' H') : Go g ω α H (ω'.take ω.length) (α'.take ω.length) H' := by
  refine ⟨go.sr.take _, ?_, go.ext.trans (off_less (lv_take ω' α' _))⟩
  obtain ⟨r, rfl⟩ := go.pre
  rw [← sr.len, List.take_left]
  exact List.prefix_refl _
theorem lv_some {m : MO} {ω : Store} {a : Addr} {α : List Addr} : lv (some m :: ω) (a :: α) = a :: lv ω α := rfl
theorem lv_none {ω : Store} {a : Addr} {α : List Addr} : lv (none :: ω) (a :: α) = lv ω α := rfl
theorem lv_append : ∀ (ω : Store) (α : List Addr) (ω2 : Store) (α2 : List Addr), α.length = ω.length → lv (ω ++ ω2) (α ++ α2) = lv ω α ++ lv ω2 α2
  | [], [], _, _, _ => by simp [lv]
  | [], _ :: _, _, _, h => by cases h
  | _ :: _, [], _, _, h => by cases h
  | some m :: ω, a :: α, ω2, α2, h => by
    rw [List.cons_append, List.cons_append, lv_some, lv_some, lv_append ω α ω2 α2 (by simpa using h), List.cons_append]
  | none :: ω, a :: α, ω2, α2, h => by
    rw [List.cons_append, List.cons_append, lv_none, lv_none, lv_append ω α ω2 α2 (by simpa using h)]
theorem lv_mem : ∀ {ω : Store} {α : List Addr} {m : Nat} {c : MO} {a : Addr}, ω[m]? = some (some c) → α[m]? = some a → a ∈ lv ω α
  | [], _, _, _, _, h, _ => by simp at h
  | _ :: _, [], _, _, _, _, h => by simp at h
  | o :: ω, b :: α, 0, c, a, h, k => by
    simp at h k; subst h; subst k; rw [lv_some]; exact List.mem_cons_self
  | some o :: ω, b :: α, m + 1, c, a, h, k => by
    rw [lv_some]; exact List.mem_cons_of_mem _ (lv_mem (m := m) (by simpa using h) (by simpa using k))
  | none :: ω, b :: α, m + 1, c, a, h, k => by
    rw [lv_none]; exact lv_mem (m := m) (by simpa using h) (by simpa using k)
theorem lv_apart {ω : Store} {α : List Addr} {m n : Nat} {c : MO} {a : Addr} (hl : α.length = ω.length) (nd : (lv ω α).Nodup) (h : ω[m]? = some (some c)) (k : α[m]? = some a) (hm : n ≤ m) : a ∉ lv (ω.take n) (α.take n) := fun q => by
  have e : lv ω α = lv (ω.take n) (α.take n) ++ lv (ω.drop n) (α.drop n) := by
    rw [← lv_append _ _ _ _ (by rw [List.length_take, List.length_take, hl]), List.take_append_drop, List.take_append_drop]
  rw [e] at nd
  have h2 : a ∈ lv (ω.drop n) (α.drop n) := lv_mem (m := m - n) (c := c) (by rw [List.getElem?_drop, Nat.add_sub_cancel' hm]; exact h) (by rw [List.getElem?_drop, Nat.add_sub_cancel' hm]; exact k)
  exact (List.nodup_append.mp nd).2.2 a q a h2 rfl
theorem SRl.append {B : Hp} : ∀ {ω : Store} {α : List Addr} {ω2 : Store} {α2 : List Addr}, SRl g B H ω α → SRl g B H ω2 α2 → SRl g B H (ω ++ ω2) (α ++ α2)
  | _, _, _, _, .nil, s => s
  | _, _, _, _, .dead r, s => .dead (SRl.append r s)
  | _, _, _, _, .live h hm r, s => .live h hm (SRl.append r s)
end
section
variable {P : Program} {w : World} {K : PySem.W.Frag} {mg : Str → Option Value} {bs : Heap} {T : List (Addr × Str)} {x qual : Str} {params : Arguments} {body : List Stmt} {scope : Scope} {dvs : List V} {kws : List (Str × V)} {f : Addr} {fd : FuncData} {N ps : List Str} {k : Nat} {fb : Sx}
theorem RS.start {g : Gd} {B : Hp} {α : List Addr} {vs : List V} {xs : List Val} (h : RepVs g B α vs xs) (n : Nat) : RS g B α (vs.map some ++ List.replicate n none) (xs.map some ++ List.replicate n none) := by
  induction h with
  | nil => exact ⟨by simp, fun i x e => by
      rw [List.map_nil, List.nil_append, List.getElem?_replicate] at e
      split at e <;> cases e⟩
  | cons h r ih =>
    refine ⟨by simp [r.len], fun i x e => ?_⟩
    cases i with
    | zero => cases e; exact ⟨_, rfl, h⟩
    | succ i => exact ih.at_ i x e
/-- behind a def's body -/
theorem leave_post {g : Gd} {ω : Store} {α : List Addr} {H : Hp} {Q : VK} {E : XK} {r : SRes} (sr : SR g ω α H) (post : CPost g ω α H Q E (leave ω.length r)) : SPost g (fun c d _ H => E c d H) ω α H { nx := fun _ H' => Q .non H', rt := Q } r := by
  cases r with
  | nx ρ' ω' => exact fun σ' α' H' go q => post .non _ H' (Go.leave sr go) (show RepV _ _ _ _ (.d .non) from .non)
  | rt y ω' =>
    intro v α' H' go hv
    cases y with
    | d d => exact post v _ H' (Go.leave sr go) (Rep.mono (off_less (lv_take ω' α' _)) hv)
    | loc m =>
      unfold leave at post
      dsimp only at post
      obtain ⟨a, ha, rfl⟩ := hv
      split at post
      · rename_i hm
        refine post _ _ H' (Go.leave sr go) ⟨a, ?_, rfl⟩
        rw [List.getElem?_take_of_lt hm]; exact ha
      · rename_i hm
        split at post
        · rename_i c ec
          obtain ⟨a', o, h1, h2, h3, h4⟩ := go.sr.get ec
          rw [ha] at h1; cases h1
          have gl := Go.leave sr go
          have hlen : (α'.take ω.length).length = (ω'.take ω.length).length := gl.sr.len
          have hn : a ∉ lv (ω'.take ω.length) (α'.take ω.length) := lv_apart go.sr.len go.sr.nd ec ha (by omega)
          · have hlv : lv (ω'.take ω.length ++ [some c]) (α'.take ω.length ++ [a]) = lv (ω'.take ω.length) (α'.take ω.length) ++ [a] := by rw [lv_append _ _ _ _ hlen]; rfl
            have hsub : ∀ b ∈ lv (ω'.take ω.length ++ [some c]) (α'.take ω.length ++ [a]), b ∈ lv ω' α' := fun b hb => by
              rw [hlv] at hb
              rcases List.mem_append.mp hb with q | q
              · exact lv_take ω' α' _ b q
              · rw [List.mem_singleton.mp q]; exact h2
            have hext : Ext (base ω' α' H') (base (ω'.take ω.length ++ [some c]) (α'.take ω.length ++ [a]) H') := off_less hsub
            refine post _ (α'.take ω.length ++ [a]) H' ⟨⟨?_, ?_, go.sr.tabs⟩, gl.pre.trans (List.prefix_append _ _), go.ext.trans hext⟩ ⟨a, ?_, rfl⟩
            · exact SRl.append ((go.sr.at_.take _).mono hext fun _ _ _ q => q) (.live h3 (h4.mono hext) .nil)
            · rw [hlv]
              exact List.nodup_append.mpr ⟨gl.sr.nd, by simp, fun b hb b' hb' => by rw [List.mem_singleton.mp hb']; exact fun z => hn (z ▸ hb)⟩
            · rw [List.getElem?_append_right (by rw [hlen]; simp; omega), hlen]
              have : (ω'.take ω.length).length = ω.length := by
                rw [List.length_take]; have := (List.getElem?_eq_some_iff.mp ec).1; omega
              rw [this]; simp
        · exact post.elim
  | bk ρ' ω' => exact post.elim
  | ct ρ' ω' => exact post.elim
  | exc d ρ' ω' =>
    intro cls dd σ' α' H' go rs hx
    exact post cls dd _ H' (Go.leave sr go) (XRep.mono (off_less (lv_take ω' α' _)) hx)
  | bad => exact post.elim
theorem dok_of (F : FunD K x qual params body scope dvs kws f fd) (S : FnScope N ps scope)
    (hb : ∀ (cdv : Value) (A : Around) (outer : List PySem.Env) (s : Shared) (H : Hp) (E : XK), RoomG k (A.deeper (envOfC qual scope s.heap.objs.size f cdv)) →
      BX T (cxOf (L2.CX P w) P w K mg bs N qual scope f cdv A outer s H E) (fun c d _ H => E c d H) body fb) : DOk P w ⟨K, mg, T⟩ bs (k + 1) f fd ps (fnD N.length fb) := by
  obtain ⟨oc, od, dV, kV, doc, pm, an, cdv, ct, osl, rfl, lk, hcd, _, _⟩ := F.ex
  refine ⟨fun A outer s H args us vs Q E hr e0 hbd r ⟨hl, xs, ω, α, sr, rx, post⟩ => LamX.run_ofS (N := N) lk hcd S hr.1 e0 hbd r hl fun hr' => ⟨_, hb cdv A outer s H E ⟨hr', hr.2⟩, ?_⟩⟩
  refine ⟨xs.map some ++ List.replicate (N.length - xs.length) none, ω, α, sr, ?_, ?_⟩
  · unfold L2.start
    rw [rx.len]
    exact RS.start rx _
  · exact leave_post sr post
/-- .. and the def's code object is told -/
theorem dok_ofC (F : FunD K x qual params body scope dvs kws f fd) (S : FnScope N ps scope)
    (hb : ∀ (cdv : Value) (A : Around) (outer : List PySem.Env) (s : Shared) (H : Hp) (E : XK), fd.code = cdv → RoomG k (A.deeper (envOfC qual scope s.heap.objs.size f cdv)) →
      BX T (cxOf (L2.CX P w) P w K mg bs N qual scope f cdv A outer s H E) (fun c d _ H => E c d H) body fb) : DOk P w ⟨K, mg, T⟩ bs (k + 1) f fd ps (fnD N.length fb) := by
  obtain ⟨oc, od, dV, kV, doc, pm, an, cdv, ct, osl, rfl, lk, hcd, _, _⟩ := F.ex
  refine ⟨fun A outer s H args us vs Q E hr e0 hbd r ⟨hl, xs, ω, α, sr, rx, post⟩ => LamX.run_ofS (N := N) lk hcd S hr.1 e0 hbd r hl fun hr' => ⟨_, hb cdv A outer s H E rfl ⟨hr', hr.2⟩, ?_⟩⟩
  refine ⟨xs.map some ++ List.replicate (N.length - xs.length) none, ω, α, sr, ?_, ?_⟩
  · unfold L2.start
    rw [rx.len]
    exact RS.start rx _
  · exact leave_post sr post
end
end DL

/-! The D-layer: items, slices, ==, in, is, isinstance, built-in functions. -/
namespace DL
open PySem PySem.Spec PyProof.Rows L2

/-! ### items -/
def keyOf : D → Option Key
  | .int i => some (.inl i)
  | .str x => some (.inr x)
  | _ => none
theorem keyOf_keyD : ∀ k : Key, keyOf (keyD k) = some k
  | .inl _ => rfl
  | .inr _ => rfl
theorem keyD_of {d : D} {k : Key} (h : keyOf d = some k) : d = keyD k := by
  unfold keyOf at h
  split at h <;> first | (cases h; rfl) | cases h
/-- what a dict holds at a key (ints and texts) -/
def getK : List (D × D) → Key → Option D
  | [], _ => none
  | (d, v) :: r, k => if keyOf d = some k then some v else getK r k
theorem RepK.val {g : Gd} {B : Hp} {k : Key} : ∀ {kvs : List (Key × V)} {ds : List (D × D)}, RepK g B kvs ds → (getK ds k = none ∧ valV kvs k = none) ∨ ∃ v d, getK ds k = some d ∧ valV kvs k = some v ∧ Rep g B v d
  | _, _, .nil => .inl ⟨rfl, rfl⟩
  | _, _, .cons (k := k') h r => by
    unfold getK
    rw [keyOf_keyD]
    by_cases e : k' = k
    · rw [if_pos (congrArg some e), valV_pos e]; exact .inr ⟨_, _, rfl, rfl, h⟩
    · rw [if_neg (fun z => e (Option.some.inj z)), valV_neg e]; exact RepK.val r
theorem RepK.len {g : Gd} {B : Hp} : ∀ {kvs : List (Key × V)} {ds : List (D × D)}, RepK g B kvs ds → kvs.length = ds.length
  | _, _, .nil => rfl
  | _, _, .cons h r => congrArg (· + 1) (RepK.len r)
def ixD : D → D → Option D
  | .lst ds, .int i => atI ds i
  | .tup ds, .int i => atI ds i
  | .frl ds, .int i => atI ds i
  | .str z, .int i => if z.length ≤ sizeLine then (atI z.cps.toList i).map fun c => .str ⟨#[c]⟩ else none
  | .dct kvs, k => (keyOf k).bind fun k => getK kvs k
  | _, _ => none
theorem RepL.at_ {g : Gd} {B : Hp} {vs : List V} {ds : List D} {i : Int} {d : D} (r : RepL g B vs ds) (h : atI ds i = some d) : ∃ v, atI vs i = some v ∧ Rep g B v d := by
  unfold atI at h ⊢
  rw [r.len]
  obtain ⟨j, h1, h2⟩ := Option.bind_eq_some_iff.mp h
  obtain ⟨v, h3, h4⟩ := r.get h2
  exact ⟨v, by rw [h1]; exact h3, h4⟩
def rIxD : R2 := fun x y H Q => ∃ a v, x = .ref a ∧ DGet H a y (some v) ∧ Q v H
abbrev rIxA (K : PySem.W.Frag) : R2 := fun x y H Q => rIx K x y H Q ∨ rIxD x y H Q
theorem ix_dct {X : Cx} (hu : X.A.units + 1 < cLine) : IxR X rIxD := by
  intro value slice pins s σ H x y v u Q I rx ry h hs
  obtain ⟨a, z, rfl, g, q⟩ := h
  obtain rfl : v = Value.ref a := rx
  exact tail_any (dict_typeIs I g) PySem.F.slot_dict_getitem.lookup (d_getItem hu I g ry fun w' s3 I3 rw' => ⟨z, H, I3, rw', q⟩) hs
theorem ix_all {X : Cx} (hu : X.A.units + 1 < cLine) : IxR X (rIxA X.K) := ix_seq.or (ix_dct hu)
section
variable {g : Gd}
theorem o_ix : Op2 g (rIxA g.K) ixD := by
  intro l H x y dx dy z Q lvs bx by_ hz k
  unfold ixD at hz
  split at hz
  · obtain rfl := by_.intE
    obtain ⟨a, vs, rfl, h1, r⟩ := bx.lstE
    obtain ⟨v, h2, h3⟩ := r.at_ hz
    exact .inl (.inl ⟨_, _, _, _, rfl, rfl, SqL.of h1, h2, k _ _ .refl h3⟩)
  · obtain rfl := by_.intE
    obtain ⟨a, vs, rfl, h1, r⟩ := bx.tupE
    obtain ⟨v, h2, h3⟩ := r.at_ hz
    exact .inl (.inr (.inl ⟨_, _, _, _, rfl, rfl, h1, h2, k _ _ .refl h3⟩))
  · obtain rfl := by_.intE
    obtain ⟨a, vs, rfl, h1, r⟩ := bx.frlE
    obtain ⟨v, h2, h3⟩ := r.at_ hz
    exact .inl (.inl ⟨_, _, _, _, rfl, rfl, h1, h2, k _ _ .refl h3⟩)
  · split at hz
    · rename_i hl
      obtain rfl := by_.intE
      obtain rfl := bx.strE
      obtain ⟨c, h1, rfl⟩ := Option.map_eq_some_iff.mp hz
      exact .inl (.inr (.inr ⟨_, _, _, rfl, rfl, hl, h1, k _ _ .refl (.str _)⟩))
    · cases hz
  · obtain ⟨kk, h1, h2⟩ := Option.bind_eq_some_iff.mp hz
    have e := keyD_of h1
    subst e
    obtain ⟨a, vs, rfl, h3, r⟩ := bx.dctE
    rcases r.val (k := kk) with ⟨h4, _⟩ | ⟨v, d, h4, h5, h6⟩
    · rw [h2] at h4; cases h4
    · rw [h2] at h4; cases h4
      refine .inr ⟨a, v, rfl, ?_, k _ _ .refl h6⟩
      have : y = kV kk := by cases kk with
        | inl i => exact by_.intE
        | inr x => exact by_.strE
      rw [this, ← h5]
      exact DGet.k h3
  · cases hz
end
section
variable {T : List (Addr × Str)} {X : Cx} {W : WX} {e a b c lo hi : Expr} {es : List Expr} {f fa fb fl fh : Fx Val} {fs : Fx (List Val)} {pos p p2 : Pos}
theorem ex_ix (hu : X.A.units + 1 < cLine) (ha : EX T X W a fa) (hb : EX T X W b fb) (hs : PlainIx b := by exact fun _ _ => rfl) : EX T X W (.Subscript a b pos) (eOp ixD fa fb) := PE.imp (pe_ix (ix_all hu) ha hb hs) fun _ _ _ h => tOp_of o_ix h
/-! ### slices -/
def oNo : Fx (Option Int) := fun _ ω => .ok none ω
def oSome (f : Fx Val) : Fx (Option Int) := fun ρ ω => (f ρ ω).bind fun x ω => match x with
  | .d (.int i) => .ok (some i) ω
  | _ => .bad
def relO (B : Hp) (α : List Addr) (a b : Option Int) : Prop := a = b
abbrev OX (T : List (Addr × Str)) (X : Cx) (W : WX) (e : Option Expr) (f : Fx (Option Int)) : Prop := PO X e (tG (gX T X) W relO f)
theorem ox_none : OX T X W none oNo := ⟨fun pins s σ H Q I ⟨ρ, ω, α, sr, rs, p⟩ => po_none.run pins s σ H Q I (p.here sr rfl)⟩
theorem ox_some (h : EX T X W e f) : OX T X W (some e) (oSome f) := ⟨fun pins s σ H Q I ⟨ρ, ω, α, sr, rs, p⟩ => (po_some h).run pins s σ H Q I (tG_step sr rs p fun v H1 x ω1 α1 go1 rx sr1 rs1 p1 => by
  split at p1
  · cases rx; exact ⟨_, rfl, p1.here sr1 rfl⟩
  · exact p1.elim)⟩
def cutD (xs : List D) (lo hi : Option Int) : List D := (xs.drop (HT.sIx xs.length 0 lo)).take (HT.sIx xs.length xs.length hi - HT.sIx xs.length 0 lo)
def slD : D → Option Int → Option Int → Option D
  | .lst ds, lo, hi => some (.lst (cutD ds lo hi))
  | .frl ds, lo, hi => some (.lst (cutD ds lo hi))
  | .tup ds, lo, hi => some (.tup (cutD ds lo hi))
  | .str z, lo, hi => if z.length ≤ sizeLine then some (.str (cutS z lo hi)) else none
  | _, _, _ => none
theorem RepL.cut {g : Gd} {B : Hp} {vs : List V} {ds : List D} (r : RepL g B vs ds) (lo hi : Option Int) : RepL g B (cutV vs lo hi) (cutD ds lo hi) := by
  unfold cutV cutD
  rw [r.len]
  exact (r.drop _).take _
abbrev rSlAll (K : PySem.W.Frag) : V → Option Int → Option Int → Hp → VK → Prop := fun x lo hi H Q => rSlL K x lo hi H Q ∨ rSlA K x lo hi H Q ∨ rSlS x lo hi H Q
def eSl (f : Fx Val) (l h : Fx (Option Int)) : Fx Val := fun ρ ω => (f ρ ω).bind fun x ω => (l ρ ω).bind fun lo ω => (h ρ ω).bind fun hi ω => match x.look ω with
  | some d => (match slD d lo hi with | some z => .ok (.d z) ω | none => .bad)
  | none => .bad
theorem sl_post {g : Gd} {l : List Addr} {H : Hp} {v : V} {d z : D} {lo hi : Option Int} {Q : VK} (lvs : Lv l H) (br : BR g l H v d) (hz : slD d lo hi = some z) (k : ∀ v H', Grow H H' → Rep g (off l H') v z → Q v H') : rSlAll g.K v lo hi H Q := by
  unfold slD at hz
  split at hz
  · cases hz
    obtain ⟨a, vs, rfl, h1, r⟩ := br.lstE
    exact .inl ⟨a, vs, rfl, SqL.of h1, fun p hp => k _ _ (.new hp) (rep_lst hp (lvs.no hp) (r.cut _ _))⟩
  · cases hz
    obtain ⟨a, vs, rfl, h1, r⟩ := br.frlE
    exact .inl ⟨a, vs, rfl, h1, fun p hp => k _ _ (.new hp) (rep_lst hp (lvs.no hp) (r.cut _ _))⟩
  · cases hz
    obtain ⟨a, vs, rfl, h1, r⟩ := br.tupE
    refine .inr (.inl ⟨a, vs, rfl, h1, fun hw => ?_, fun _ p hp => k _ _ (.new hp) (rep_tup hp (lvs.no hp) (r.cut _ _))⟩)
    refine k _ _ .refl ?_
    cases br with
    | of h =>
      have e : ∀ xs : List D, HT.sIx xs.length 0 lo = 0 ∧ HT.sIx xs.length xs.length hi = xs.length → cutD xs lo hi = xs := fun xs q => by
        unfold cutD; rw [q.1, q.2]; simp
      rw [e _ (by rw [← r.len]; exact hw)]
      exact h
  · split at hz
    · rename_i hl
      cases hz
      obtain rfl := br.strE
      exact .inr (.inr ⟨_, rfl, hl, k _ _ .refl (.str _)⟩)
    · cases hz
  · cases hz
theorem ex_sl (he : EX T X W e f) {fl fh : Fx (Option Int)} {lo hi : Option Expr} (hl : OX T X W lo fl) (hh : OX T X W hi fh) : EX T X W (.Subscript e (.Slice lo hi none p2) pos) (eSl f fl fh) :=
  PE.imp (pe_slice (sl_list.or (sl_tupA.or sl_str)) he hl hh) fun σ H Q ⟨ρ, ω, α, sr, rs, p⟩ => by
    refine tG_step sr rs p fun v H1 x ω1 α1 go1 rx sr1 rs1 p1 => ?_
    refine tG_step sr1 rs1 p1 fun lo H2 lo' ω2 α2 go2 e2 sr2 rs2 p2 => ?_
    cases e2
    refine tG_step sr2 rs2 p2 fun hi H3 hi' ω3 α3 go3 e3 sr3 rs3 p3 => ?_
    cases e3
    split at p3
    · rename_i d ed
      split at p3
      · rename_i z ez
        exact sl_post sr3.there (look_br sr3 (go3.rv (go2.rv rx)) ed) ez fun v' H' k hv => p3.grown (rel := RepV (gX T X)) (x := .d z) sr3 k hv
      · exact p3.elim
    · exact p3.elim
end

/-! ### == and != -/
mutual
def D.pd : D → Option PyData
  | .non => some .none
  | .bl b => some (.bool b)
  | .int i => some (.int i)
  | .str x => some (.str x)
  | .tup xs => (pdL xs).map .tuple
  | .lst xs => (pdL xs).map .list
  | .frl xs => (pdL xs).map .list
  | _ => none
def pdL : List D → Option (List PyData)
  | [] => some []
  | d :: ds => (D.pd d).bind fun p => (pdL ds).map fun ps => p :: ps
end
mutual
theorem Rep.dp {g : Gd} {B H : Hp} (e : Ext B H) : ∀ (d : D) (v : V) (p : PyData), Rep g B v d → d.pd = some p → Dp g.K H v p
  | .non, _, _, h, q => by cases h; cases q; exact .non
  | .bl b, _, _, h, q => by cases h; cases q; exact .bl b
  | .int i, _, _, h, q => by cases h; cases q; exact .int i
  | .str x, _, _, h, q => by cases h; cases q; exact .str x
  | .tup ds, _, _, h, q => by
    cases h with
    | tup h r =>
      unfold D.pd at q
      obtain ⟨ps, h1, rfl⟩ := Option.map_eq_some_iff.mp q
      exact .tup (h.ext e).sq (RepL.dp e ds _ ps r h1)
  | .lst ds, _, _, h, q => by
    cases h with
    | lst h r =>
      unfold D.pd at q
      obtain ⟨ps, h1, rfl⟩ := Option.map_eq_some_iff.mp q
      exact .lst (SqL.of (e _ _ h (fun ps z => by cases z))) (RepL.dp e ds _ ps r h1)
  | .frl ds, _, _, h, q => by
    cases h with
    | frl h r =>
      unfold D.pd at q
      obtain ⟨ps, h1, rfl⟩ := Option.map_eq_some_iff.mp q
      exact .lst (sqL_ext e h) (RepL.dp e ds _ ps r h1)
  | .ty _, _, _, _, q => by cases q
  | .glo _, _, _, _, q => by cases q
  | .dct _, _, _, _, q => by cases q
  | .obj _ _, _, _, _, q => by cases q
  | .exc _ _, _, _, _, q => by cases q
theorem RepL.dp {g : Gd} {B H : Hp} (e : Ext B H) : ∀ (ds : List D) (vs : List V) (ps : List PyData), RepL g B vs ds → pdL ds = some ps → DpAll g.K H vs ps
  | [], _, _, r, q => by cases r; unfold pdL at q; cases q; exact .nil
  | d :: ds, _, _, r, q => by
    cases r with
    | cons h r =>
      unfold pdL at q
      obtain ⟨p, h1, h2⟩ := Option.bind_eq_some_iff.mp q
      obtain ⟨ps, h3, rfl⟩ := Option.map_eq_some_iff.mp h2
      exact .cons (Rep.dp e d _ p h h1) (RepL.dp e ds _ ps r h3)
end
theorem BR.dp {g : Gd} {l : List Addr} {H : Hp} {v : V} {d : D} {p : PyData} (b : BR g l H v d) (h : d.pd = some p) : Dp g.K H v p := by
  cases b with
  | of r => exact Rep.dp ext_off d v p r h
  | lst h1 r =>
    unfold D.pd at h
    obtain ⟨ps, h2, rfl⟩ := Option.map_eq_some_iff.mp h
    exact .lst (SqL.of h1) (RepL.dp ext_off _ _ ps r h2)
  | dct h1 r => cases h
def eqP (a b : D) : Option Bool := match a.pd, b.pd with
  | some p, some q => if SeqAt.shaped p = true ∧ SeqAt.shaped q = true then some (PyData.eqv p q) else none
  | _, _ => none
/-- texts of any length; else data -/
def eqB (a b : D) : Option Bool := match a, b with
  | .str x, .str y => some (x == y)
  | a, b => eqP a b
def eqD (a b : D) : Option D := (eqB a b).map .bl
def neD (a b : D) : Option D := (eqB a b).map fun k => .bl (!k)
abbrev rEqA (K : PySem.W.Frag) : R2 := fun x y H Q => rEqD K x y H Q ∨ rEq x y H Q
abbrev rNeA (K : PySem.W.Frag) : R2 := fun x y H Q => rNeD K x y H Q ∨ rNe x y H Q
theorem op_eqA {X : Cx} (hu : X.A.units + 64 < cLine) : OpR X (compareOp .Eq) (rEqA X.K) := (op_eqD hu).or op_eq
theorem op_neA {X : Cx} (hu : X.A.units + 64 < cLine) : OpR X (compareOp .NotEq) (rNeA X.K) := (op_neD hu).or op_ne
section
variable {g : Gd}
theorem eqP_inv {a b : D} {k : Bool} (h : eqP a b = some k) : ∃ p q, a.pd = some p ∧ b.pd = some q ∧ SeqAt.shaped p = true ∧ SeqAt.shaped q = true ∧ k = PyData.eqv p q := by
  unfold eqP at h
  split at h
  · split at h
    · rename_i c
      cases h
      exact ⟨_, _, by assumption, by assumption, c.1, c.2, rfl⟩
    · cases h
  · cases h
theorem eqB_inv {a b : D} {k : Bool} (h : eqB a b = some k) : (∃ x y, a = .str x ∧ b = .str y ∧ k = (x == y)) ∨ ∃ p q, a.pd = some p ∧ b.pd = some q ∧ SeqAt.shaped p = true ∧ SeqAt.shaped q = true ∧ k = PyData.eqv p q := by
  unfold eqB at h
  split at h
  · cases h; exact .inl ⟨_, _, rfl, rfl, rfl⟩
  · exact .inr (eqP_inv h)
theorem o_eq : Op2 g (rEqA g.K) eqD := by
  intro l H x y dx dy z Q lvs bx by_ hz k
  obtain ⟨b, h1, rfl⟩ := Option.map_eq_some_iff.mp hz
  rcases eqB_inv h1 with ⟨a, c, rfl, rfl, rfl⟩ | ⟨p, q, h2, h3, h4, h5, rfl⟩
  · obtain rfl := bx.strE
    obtain rfl := by_.strE
    exact .inr ⟨rfl, by rw [dec_str]; exact k _ _ .refl (.bl _)⟩
  · exact .inl ⟨p, q, bx.dp h2, by_.dp h3, h4, h5, k _ _ .refl (.bl _)⟩
theorem o_ne : Op2 g (rNeA g.K) neD := by
  intro l H x y dx dy z Q lvs bx by_ hz k
  obtain ⟨b, h1, rfl⟩ := Option.map_eq_some_iff.mp hz
  rcases eqB_inv h1 with ⟨a, c, rfl, rfl, rfl⟩ | ⟨p, q, h2, h3, h4, h5, rfl⟩
  · obtain rfl := bx.strE
    obtain rfl := by_.strE
    exact .inr ⟨rfl, by rw [dec_str]; exact k _ _ .refl (.bl _)⟩
  · exact .inl ⟨p, q, bx.dp h2, by_.dp h3, h4, h5, k _ _ .refl (.bl _)⟩
/-! ### is None; is True -/
def isNonD (a b : D) : Option D := match b with
  | .non => (match a with | .non => some (.bl true) | .glo _ => none | .ty _ => none | _ => some (.bl false))
  | _ => none
def isNotNonD (a b : D) : Option D := match b with
  | .non => (match a with | .non => some (.bl false) | .glo _ => none | .ty _ => none | _ => some (.bl true))
  | _ => none
theorem BR.notNon {l : List Addr} {H : Hp} {v : V} {d : D} (h : BR g l H v d) (n : d ≠ .non) : v ≠ .non := by
  intro e
  subst e
  cases h with
  | of h => cases h; exact n rfl
theorem o_isN : Op2 g (fun x y H Q => y = .non ∧ Q (.bl (decide (x = .non))) H) isNonD := by
  intro l H x y dx dy z Q lvs bx by_ hz k
  unfold isNonD at hz
  split at hz
  · refine ⟨by_.nonE, ?_⟩
    split at hz
    · cases hz; cases bx.nonE; exact k _ _ .refl (.bl _)
    · cases hz
    · cases hz
    · rename_i h1 h2 h3
      cases hz
      rw [decide_eq_false (bx.notNon h1)]
      exact k _ _ .refl (.bl _)
  · cases hz
theorem o_notN : Op2 g (fun x y H Q => y = .non ∧ Q (.bl (!decide (x = .non))) H) isNotNonD := by
  intro l H x y dx dy z Q lvs bx by_ hz k
  unfold isNotNonD at hz
  split at hz
  · refine ⟨by_.nonE, ?_⟩
    split at hz
    · cases hz; cases bx.nonE; exact k _ _ .refl (.bl _)
    · cases hz
    · cases hz
    · rename_i h1 h2 h3
      cases hz
      rw [decide_eq_false (bx.notNon h1)]
      exact k _ _ .refl (.bl _)
  · cases hz
def isBD : D → D → Option D
  | .bl a, .bl b => some (.bl (decide (a = b)))
  | _, _ => none
def isNotBD : D → D → Option D
  | .bl a, .bl b => some (.bl (!decide (a = b)))
  | _, _ => none
theorem o_isB : Op2 g rIsB isBD := by
  intro l H x y dx dy z Q lvs bx by_ hz k
  unfold isBD at hz
  split at hz
  · cases hz; cases bx.blE; cases by_.blE; exact ⟨_, _, rfl, rfl, k _ _ .refl (.bl _)⟩
  · cases hz
theorem o_isNotB : Op2 g rNotB isNotBD := by
  intro l H x y dx dy z Q lvs bx by_ hz k
  unfold isNotBD at hz
  split at hz
  · cases hz; cases bx.blE; cases by_.blE; exact ⟨_, _, rfl, rfl, k _ _ .refl (.bl _)⟩
  · cases hz
/-! ### in (flat things) -/
def flatD : D → Option V
  | .non => some .non
  | .bl b => some (.bl b)
  | .int i => some (.int i)
  | .str x => some (.str x)
  | _ => none
def flats : List D → Option (List V)
  | [] => some []
  | d :: ds => (flatD d).bind fun v => (flats ds).map fun vs => v :: vs
theorem Rep.flat {B : Hp} {v u : V} {d : D} (h : Rep g B v d) (f : flatD d = some u) : v = u ∧ flatV v = true := by
  cases d <;> first | (cases f; cases h; exact ⟨rfl, rfl⟩) | cases f
theorem RepL.flat {B : Hp} : ∀ {vs us : List V} {ds : List D}, RepL g B vs ds → flats ds = some us → vs = us ∧ vs.all flatV = true
  | _, _, _, .nil, f => by cases f; exact ⟨rfl, rfl⟩
  | _, _, _, .cons h r, f => by
    unfold flats at f
    obtain ⟨v, h1, h2⟩ := Option.bind_eq_some_iff.mp f
    obtain ⟨vs, h3, rfl⟩ := Option.map_eq_some_iff.mp h2
    obtain ⟨rfl, h4⟩ := h.flat h1
    obtain ⟨rfl, h5⟩ := RepL.flat r h3
    exact ⟨rfl, by rw [List.all_cons, h4, h5]; rfl⟩
def inB (a b : D) : Option Bool := match b with
  | .lst ds => (flatD a).bind fun v => (flats ds).map fun vs => inV v vs
  | .frl ds => (flatD a).bind fun v => (flats ds).map fun vs => inV v vs
  | .tup ds => (flatD a).bind fun v => (flats ds).map fun vs => inV v vs
  | _ => none
def inD (a b : D) : Option D := (inB a b).map .bl
def notInD (a b : D) : Option D := (inB a b).map fun k => .bl (!k)
theorem in_post {l : List Addr} {H : Hp} {x y : V} {dx dy : D} {k : Bool} (bx : BR g l H x dx) (by_ : BR g l H y dy) (h : inB dx dy = some k) : ∃ p xs, y = .ref p ∧ (SqL g.K H p xs ∨ SqT g.K H p xs) ∧ flatV x = true ∧ xs.all flatV = true ∧ k = inV x xs := by
  have go : ∀ ds vs, RepL g (off l H) vs ds → ((flatD dx).bind fun v => (flats ds).map fun vs => inV v vs) = some k → flatV x = true ∧ vs.all flatV = true ∧ k = inV x vs := fun ds vs r h => by
    obtain ⟨v, h1, h2⟩ := Option.bind_eq_some_iff.mp h
    obtain ⟨us, h3, rfl⟩ := Option.map_eq_some_iff.mp h2
    obtain ⟨rfl, h5⟩ := r.flat h3
    cases bx with
    | of h => obtain ⟨rfl, h6⟩ := h.flat h1; exact ⟨h6, h5, rfl⟩
    | lst _ _ => cases h1
    | dct _ _ => cases h1
  unfold inB at h
  split at h
  · obtain ⟨a, vs, rfl, h1, r⟩ := by_.lstE
    exact ⟨a, vs, rfl, .inl (SqL.of h1), go _ _ r h⟩
  · obtain ⟨a, vs, rfl, h1, r⟩ := by_.frlE
    exact ⟨a, vs, rfl, .inl h1, go _ _ r h⟩
  · obtain ⟨a, vs, rfl, h1, r⟩ := by_.tupE
    exact ⟨a, vs, rfl, .inr h1, go _ _ r h⟩
  · cases h
theorem o_in : Op2 g (rIn g.K false) inD := by
  intro l H x y dx dy z Q lvs bx by_ hz k
  obtain ⟨b, h1, rfl⟩ := Option.map_eq_some_iff.mp hz
  obtain ⟨p, xs, h2, h3, h4, h5, rfl⟩ := in_post bx by_ h1
  exact ⟨p, xs, h2, h3, h4, h5, k _ _ .refl (.bl _)⟩
theorem o_notIn : Op2 g (rIn g.K true) notInD := by
  intro l H x y dx dy z Q lvs bx by_ hz k
  obtain ⟨b, h1, rfl⟩ := Option.map_eq_some_iff.mp hz
  obtain ⟨p, xs, h2, h3, h4, h5, rfl⟩ := in_post bx by_ h1
  exact ⟨p, xs, h2, h3, h4, h5, k _ _ .refl (.bl _)⟩
end

/-! ### built-in functions -/
section
variable {g : Gd}
theorem BRs.one {l : List Addr} {H : Hp} {vs : List V} {d : D} (h : BRs g l H vs [d]) : ∃ v, vs = [v] ∧ BR g l H v d := by
  cases h with
  | cons h r => cases r; exact ⟨_, rfl, h⟩
theorem BRs.two {l : List Addr} {H : Hp} {vs : List V} {d e : D} (h : BRs g l H vs [d, e]) : ∃ v u, vs = [v, u] ∧ BR g l H v d ∧ BR g l H u e := by
  cases h with
  | cons h r => cases r with
    | cons h2 r => cases r; exact ⟨_, _, rfl, h, h2⟩
def lenD : List D → Option D
  | [.lst ds] => some (.int ds.length)
  | [.frl ds] => some (.int ds.length)
  | [.tup ds] => some (.int ds.length)
  | [.str x] => if x.length ≤ sizeLine then some (.int x.length) else none
  | _ => none
theorem c_len : Cb g (fun xs H Q => ∃ x n, xs = [x] ∧ LenV g.K x H n ∧ Q (.int n) H) lenD := by
  intro l H vs ds z Q lvs br hz k
  unfold lenD at hz
  split at hz
  · cases hz
    obtain ⟨v, rfl, b⟩ := br.one
    obtain ⟨a, vs, rfl, h1, r⟩ := b.lstE
    exact ⟨_, _, rfl, .inl ⟨vs, SqL.of h1, rfl⟩, by rw [r.len]; exact k _ _ .refl (.int _)⟩
  · cases hz
    obtain ⟨v, rfl, b⟩ := br.one
    obtain ⟨a, vs, rfl, h1, r⟩ := b.frlE
    exact ⟨_, _, rfl, .inl ⟨vs, h1, rfl⟩, by rw [r.len]; exact k _ _ .refl (.int _)⟩
  · cases hz
    obtain ⟨v, rfl, b⟩ := br.one
    obtain ⟨a, vs, rfl, h1, r⟩ := b.tupE
    exact ⟨_, _, rfl, .inr ⟨vs, h1, rfl⟩, by rw [r.len]; exact k _ _ .refl (.int _)⟩
  · split at hz
    · rename_i hl
      cases hz
      obtain ⟨v, rfl, b⟩ := br.one
      obtain rfl := b.strE
      exact ⟨_, _, rfl, ⟨hl, rfl⟩, k _ _ .refl (.int _)⟩
    · cases hz
  · cases hz
def listD : List D → Option D
  | [.lst ds] => some (.lst ds)
  | [.frl ds] => some (.lst ds)
  | [.tup ds] => some (.lst ds)
  | _ => none
theorem c_list : Cb g (fun xs H Q => ∃ p ys, xs = [.ref p] ∧ (SqL g.K H p ys ∨ SqT g.K H p ys) ∧ ∀ l, H l = none → Q (.ref l) (upd H l (.lst ys))) listD := by
  intro l H vs ds z Q lvs br hz k
  unfold listD at hz
  split at hz
  · cases hz
    obtain ⟨v, rfl, b⟩ := br.one
    obtain ⟨a, vs, rfl, h1, r⟩ := b.lstE
    exact ⟨_, _, rfl, .inl (SqL.of h1), fun p hp => k _ _ (.new hp) (rep_lst hp (lvs.no hp) r)⟩
  · cases hz
    obtain ⟨v, rfl, b⟩ := br.one
    obtain ⟨a, vs, rfl, h1, r⟩ := b.frlE
    exact ⟨_, _, rfl, .inl h1, fun p hp => k _ _ (.new hp) (rep_lst hp (lvs.no hp) r)⟩
  · cases hz
    obtain ⟨v, rfl, b⟩ := br.one
    obtain ⟨a, vs, rfl, h1, r⟩ := b.tupE
    exact ⟨_, _, rfl, .inr h1, fun p hp => k _ _ (.new hp) (rep_lst hp (lvs.no hp) r)⟩
  · cases hz
def tupD : List D → Option D
  | [.lst ds] => some (.tup ds)
  | [.frl ds] => some (.tup ds)
  | [.tup ds] => some (.tup ds)
  | _ => none
theorem c_tup : Cb g (fun xs H Q => ∃ p ys, xs = [.ref p] ∧ ((SqL g.K H p ys ∧ ∀ l, H l = none → Q (.ref l) (upd H l (.tup ys))) ∨ (SqT g.K H p ys ∧ Q (.ref p) H))) tupD := by
  intro l H vs ds z Q lvs br hz k
  unfold tupD at hz
  split at hz
  · cases hz
    obtain ⟨v, rfl, b⟩ := br.one
    obtain ⟨a, vs, rfl, h1, r⟩ := b.lstE
    exact ⟨_, _, rfl, .inl ⟨SqL.of h1, fun p hp => k _ _ (.new hp) (rep_tup hp (lvs.no hp) r)⟩⟩
  · cases hz
    obtain ⟨v, rfl, b⟩ := br.one
    obtain ⟨a, vs, rfl, h1, r⟩ := b.frlE
    exact ⟨_, _, rfl, .inl ⟨h1, fun p hp => k _ _ (.new hp) (rep_tup hp (lvs.no hp) r)⟩⟩
  · cases hz
    obtain ⟨v, rfl, b⟩ := br.one
    cases b with
    | of h => cases h with
      | tup h r => exact ⟨_, _, rfl, .inr ⟨(h.ext ext_off).sq, k _ _ .refl (.tup h r)⟩⟩
  · cases hz
def intD : List D → Option D
  | [.int i] => some (.int i)
  | [.bl b] => some (.int (if b then 1 else 0))
  | _ => none
theorem c_int : Cb g (fun xs H Q => (∃ i, xs = [.int i] ∧ Q (.int i) H) ∨ ∃ k, xs = [.bl k] ∧ Q (.int (if k then 1 else 0)) H) intD := by
  intro l H vs ds z Q lvs br hz k
  unfold intD at hz
  split at hz
  · cases hz
    obtain ⟨v, rfl, b⟩ := br.one
    obtain rfl := b.intE
    exact .inl ⟨_, rfl, k _ _ .refl (.int _)⟩
  · cases hz
    obtain ⟨v, rfl, b⟩ := br.one
    obtain rfl := b.blE
    exact .inr ⟨_, rfl, k _ _ .refl (.int _)⟩
  · cases hz
def boolD : List D → Option D
  | [.int i] => some (.bl (i != 0))
  | [.bl b] => some (.bl b)
  | _ => none
theorem c_bool : Cb g (fun xs H Q => (∃ i, xs = [.int i] ∧ Q (.bl (i != 0)) H) ∨ ∃ k, xs = [.bl k] ∧ Q (.bl k) H) boolD := by
  intro l H vs ds z Q lvs br hz k
  unfold boolD at hz
  split at hz
  · cases hz
    obtain ⟨v, rfl, b⟩ := br.one
    obtain rfl := b.intE
    exact .inl ⟨_, rfl, k _ _ .refl (.bl _)⟩
  · cases hz
    obtain ⟨v, rfl, b⟩ := br.one
    obtain rfl := b.blE
    exact .inr ⟨_, rfl, k _ _ .refl (.bl _)⟩
  · cases hz
def absD : List D → Option D
  | [.int i] => some (.int (if i < 0 then -i else i))
  | _ => none
theorem c_abs : Cb g (fun xs H Q => ∃ i, xs = [.int i] ∧ Q (.int (if i < 0 then -i else i)) H) absD := by
  intro l H vs ds z Q lvs br hz k
  unfold absD at hz
  split at hz
  · cases hz
    obtain ⟨v, rfl, b⟩ := br.one
    obtain rfl := b.intE
    exact ⟨_, rfl, k _ _ .refl (.int _)⟩
  · cases hz
def intsD : List D → Option (List Int)
  | [] => some []
  | .int i :: ds => (intsD ds).map fun l => i :: l
  | _ :: _ => none
theorem RepL.intsD {B : Hp} : ∀ {vs : List V} {ds : List D} {ns : List Int}, RepL g B vs ds → intsD ds = some ns → vs = ns.map V.int
  | _, _, _, .nil, h => by cases h; rfl
  | _, _, _, .cons (d := d) h r, e => by
    unfold DL.intsD at e
    cases d <;> first | cases e | skip
    obtain ⟨l, h1, rfl⟩ := Option.map_eq_some_iff.mp e
    cases h
    rw [RepL.intsD r h1]; rfl
def sumD : List D → Option D
  | [.lst ds] => (intsD ds).map fun l => .int l.sum
  | _ => none
theorem c_sum : Cb g (rSum g.K) sumD := by
  intro l H vs ds z Q lvs br hz k
  unfold sumD at hz
  split at hz
  · obtain ⟨ns, h1, rfl⟩ := Option.map_eq_some_iff.mp hz
    obtain ⟨v, rfl, b⟩ := br.one
    obtain ⟨a, vs, rfl, h2, r⟩ := b.lstE
    exact ⟨a, ns, rfl, SqL.of (by rw [← r.intsD h1]; exact h2), k _ _ .refl (.int _)⟩
  · cases hz
/-! ### isinstance of data -/
def tyName : D → Option String
  | .non => some "NoneType"
  | .bl _ => some "bool"
  | .int _ => some "int"
  | .str _ => some "str"
  | .tup _ => some "tuple"
  | .lst _ => some "list"
  | .frl _ => some "list"
  | .dct _ => some "dict"
  | _ => none
theorem BR.ty {l : List Addr} {H : Hp} {v : V} {d : D} {n : String} (b : BR g l H v d) (h : tyName d = some n) : TyX g.K H v (.type n) := by
  cases d <;> first | cases h | skip
  · cases b.nonE; exact .base .non
  · cases b.blE; exact .base (.bl _)
  · cases b.intE; exact .base (.int _)
  · cases b.strE; exact .base (.str _)
  · obtain ⟨a, vs, rfl, h1, r⟩ := b.tupE
    rcases h1 with (h1 | ⟨o, h1⟩) | ⟨o, its, n, h1, h2, _⟩
    · exact .base (.tup h1)
    · exact .fTuple h1
    · exact .kTuple h1 h2
  · obtain ⟨a, vs, rfl, h1, r⟩ := b.lstE
    exact .base (.lst h1)
  · obtain ⟨a, vs, rfl, h1, r⟩ := b.frlE
    rcases h1 with (h1 | ⟨o, h1⟩) | ⟨o, its, n, h1, h2, _⟩
    · exact .base (.lst h1)
    · exact .base (.frz h1)
    · exact .kList h1 h2
  · obtain ⟨a, vs, rfl, h1, r⟩ := b.dctE
    exact .base (.dK h1)
def tysD : List D → Option (List String)
  | [] => some []
  | .ty c :: r => (tysD r).map fun l => c :: l
  | _ :: _ => none
def kitAnyN (t : String) : List String → Option Bool
  | [] => some false
  | c :: r => match kitB t c with
    | some true => some true
    | some false => kitAnyN t r
    | none => none
def isiD : List D → Option D
  | [x, .ty c] => (tyName x).bind fun t => (kitB t c).map .bl
  | [x, .tup cs] => (tyName x).bind fun t => (tysD cs).bind fun ns => (kitAnyN t ns).map .bl
  | _ => none
theorem tys_of {B : Hp} : ∀ {cs : List D} {vs : List V} {ns : List String}, RepL g B vs cs → tysD cs = some ns → Paired ClsV vs (ns.map Value.type)
  | _, _, _, .nil, h => by cases h; exact .nil
  | _, _, _, .cons (d := d) hv r, h => by
    cases d <;> first | cases h | skip
    unfold tysD at h
    obtain ⟨l, h1, rfl⟩ := Option.map_eq_some_iff.mp h
    cases hv
    exact .cons (.ty _) (tys_of r h1)
theorem kitAny_of {t : String} : ∀ {ns : List String} {b : Bool}, kitAnyN t ns = some b → PySem.W.kitAny g.K (.type t) (ns.map Value.type) = some b
  | [], _, h => by cases h; rfl
  | c :: r, b, h => by
    unfold kitAnyN at h
    split at h
    · rename_i e
      cases h
      have e2 : PySem.W.kitOne g.K (.type t) (.type c) = some true := kit_ty e
      rw [List.map_cons]
      unfold PySem.W.kitAny
      rw [e2]
    · rename_i e
      have e2 : PySem.W.kitOne g.K (.type t) (.type c) = some false := kit_ty e
      rw [List.map_cons]
      unfold PySem.W.kitAny
      rw [e2]
      exact kitAny_of h
    · cases h
abbrev rIsiA (K : PySem.W.Frag) : List V → Hp → VK → Prop := fun xs H Q => rIsi K xs H Q ∨ rIsiT K xs H Q ∨ rIsiK K xs H Q
theorem h_isi {X : Cx} : CallR X (.builtin "isinstance") (rIsiA X.K) := call_isi.or (call_isiT.or call_isiK)
theorem c_isi : Cb g (rIsiA g.K) isiD := by
  intro l H vs ds z Q lvs br hz k
  unfold isiD at hz
  split at hz
  · obtain ⟨t, h1, h2⟩ := Option.bind_eq_some_iff.mp hz
    obtain ⟨b, h3, rfl⟩ := Option.map_eq_some_iff.mp h2
    obtain ⟨v, u, rfl, bv, bu⟩ := br.two
    obtain rfl := bu.tyE
    exact .inl ⟨v, _, _, _, b, rfl, .ty _, bv.ty h1, kit_ty h3, k _ _ .refl (.bl _)⟩
  · obtain ⟨t, h1, h2⟩ := Option.bind_eq_some_iff.mp hz
    obtain ⟨ns, h3, h4⟩ := Option.bind_eq_some_iff.mp h2
    obtain ⟨b, h5, rfl⟩ := Option.map_eq_some_iff.mp h4
    obtain ⟨v, u, rfl, bv, bu⟩ := br.two
    obtain ⟨a, ws, rfl, h6, r⟩ := bu.tupA
    have hp := tys_of r h3
    rcases h6 with h6 | ⟨⟨oc, od, dt, sl⟩, its, n, h7, h8, h9, _, h10⟩
    · exact .inr (.inl ⟨v, a, ws, _, _, b, rfl, h6, hp, bv.ty h1, kitAny_of h5, k _ _ .refl (.bl _)⟩)
    · dsimp only at h8 h9
      subst h8 h9
      have e := ClsV.all hp h10
      exact .inr (.inr ⟨v, a, od, its.toList, n, sl, _, b, rfl, h7, bv.ty h1, by rw [e]; exact kitAny_of h5, k _ _ .refl (.bl _)⟩)
  · cases hz
end
end DL

/-! The D-layer: changing objects. -/
namespace DL
open PySem PySem.Spec PyProof.Rows L2
section
variable {g : Gd} {B H : Hp} {ω : Store} {α : List Addr}
theorem lv_set : ∀ {ω : Store} {α : List Addr} {n : Nat} {m m' : MO}, ω[n]? = some (some m) → lv (ω.set n (some m')) α = lv ω α
  | [], _, _, _, _, h => by simp at h
  | o :: ω, [], n, _, _, h => by cases n <;> cases o <;> simp [lv]
  | o :: ω, a :: α, 0, m, m', h => by simp at h; subst h; rfl
  | some o :: ω, a :: α, n + 1, m, m', h => by
    rw [List.set_cons_succ, lv_some, lv_some, lv_set (ω := ω) (α := α) (n := n) (m := m) (m' := m') (by simpa using h)]
  | none :: ω, a :: α, n + 1, m, m', h => by
    rw [List.set_cons_succ, lv_none, lv_none, lv_set (ω := ω) (α := α) (n := n) (m := m) (m' := m') (by simpa using h)]
theorem lv_kill : ∀ (ω : Store) (α : List Addr) (n : Nat), ∀ a ∈ lv (ω.set n none) α, a ∈ lv ω α
  | [], _, _, a, h => by rw [List.set_nil] at h; exact h
  | o :: ω, [], n, a, h => by cases n <;> cases o <;> exact absurd h (by simp [lv])
  | some o :: ω, b :: α, 0, a, h => by rw [List.set_cons_zero, lv_none] at h; rw [lv_some]; exact List.mem_cons_of_mem _ h
  | none :: ω, b :: α, 0, a, h => by rw [List.set_cons_zero, lv_none] at h; rw [lv_none]; exact h
  | some o :: ω, b :: α, n + 1, a, h => by
    rw [List.set_cons_succ, lv_some] at h; rw [lv_some]
    rcases List.mem_cons.mp h with e | h
    · rw [e]; exact List.mem_cons_self
    · exact List.mem_cons_of_mem _ (lv_kill ω α n a h)
  | none :: ω, b :: α, n + 1, a, h => by
    rw [List.set_cons_succ, lv_none] at h; rw [lv_none]
    exact lv_kill ω α n a h
theorem nodup_kill : ∀ (ω : Store) (α : List Addr) (n : Nat), (lv ω α).Nodup → (lv (ω.set n none) α).Nodup
  | [], _, _, h => by rw [List.set_nil]; exact h
  | o :: ω, [], n, h => by cases n <;> cases o <;> simp [lv]
  | some o :: ω, b :: α, 0, h => by rw [List.set_cons_zero, lv_none]; rw [lv_some] at h; exact (List.nodup_cons.mp h).2
  | none :: ω, b :: α, 0, h => by rw [List.set_cons_zero, lv_none]; rw [lv_none] at h; exact h
  | some o :: ω, b :: α, n + 1, h => by
    rw [List.set_cons_succ, lv_some]; rw [lv_some] at h
    obtain ⟨h1, h2⟩ := List.nodup_cons.mp h
    exact List.nodup_cons.mpr ⟨fun q => h1 (lv_kill ω α n b q), nodup_kill ω α n h2⟩
  | none :: ω, b :: α, n + 1, h => by
    rw [List.set_cons_succ, lv_none]; rw [lv_none] at h
    exact nodup_kill ω α n h
theorem not_lv_kill : ∀ {ω : Store} {α : List Addr} {n : Nat} {m : MO} {a : Addr}, (lv ω α).Nodup → ω[n]? = some (some m) → α[n]? = some a → a ∉ lv (ω.set n none) α
  | [], _, _, _, _, _, h, _ => by simp at h
  | _ :: _, [], _, _, _, _, _, h => by simp at h
  | o :: ω, b :: α, 0, m, a, nd, h, k => by
    simp at h k; subst h; subst k
    rw [List.set_cons_zero, lv_none]; rw [lv_some] at nd
    exact (List.nodup_cons.mp nd).1
  | some o :: ω, b :: α, n + 1, m, a, nd, h, k => by
    rw [List.set_cons_succ, lv_some]; rw [lv_some] at nd
    obtain ⟨h1, h2⟩ := List.nodup_cons.mp nd
    have h' : ω[n]? = some (some m) := by simpa using h
    have k' : α[n]? = some a := by simpa using k
    intro q
    rcases List.mem_cons.mp q with e | q
    · subst e; exact h1 (lv_mem h' k')
    · exact not_lv_kill h2 h' k' q
  | none :: ω, b :: α, n + 1, m, a, nd, h, k => by
    rw [List.set_cons_succ, lv_none]; rw [lv_none] at nd
    exact not_lv_kill nd (by simpa using h) (by simpa using k)
theorem lv_mem' : ∀ {ω : Store} {α : List Addr} {a : Addr}, a ∈ lv ω α → ∃ (n : Nat) (m : MO), ω[n]? = some (some m) ∧ α[n]? = some a
  | [], _, _, h => absurd h (by simp [lv])
  | o :: _, [], _, h => absurd h (by cases o <;> simp [lv])
  | some m :: ω, b :: α, a, h => by
    rw [lv_some] at h
    rcases List.mem_cons.mp h with e | h
    · exact ⟨0, m, rfl, by rw [e]; rfl⟩
    · obtain ⟨n, m', h1, h2⟩ := lv_mem' h
      exact ⟨n + 1, m', by simpa using h1, by simpa using h2⟩
  | none :: ω, b :: α, a, h => by
    rw [lv_none] at h
    obtain ⟨n, m', h1, h2⟩ := lv_mem' h
    exact ⟨n + 1, m', by simpa using h1, by simpa using h2⟩
theorem SRl.write {a : Addr} {o : HO} {m' : MO} (hm : MRep g B o m') : ∀ {ω : Store} {α : List Addr} {n : Nat} {m : MO}, (lv ω α).Nodup → ω[n]? = some (some m) → α[n]? = some a → SRl g B H ω α → SRl g B (upd H a o) (ω.set n (some m')) α
  | [], _, _, _, _, h, _, _ => by simp at h
  | _ :: _, [], _, _, _, _, h, _ => by simp at h
  | _ :: ω, b :: α, 0, m, nd, h, k, s => by
    simp at h k; subst h; subst k
    rw [lv_some] at nd
    obtain ⟨h1, h2⟩ := List.nodup_cons.mp nd
    cases s with
    | live hh hm' r => exact .live upd_same hm (r.mono (LamX.ExtN.refl _) fun c u hc e => by rw [upd_ne (fun z => h1 (by rw [← z]; exact hc))]; exact e)
  | some o' :: ω, b :: α, n + 1, m, nd, h, k, s => by
    rw [lv_some] at nd
    obtain ⟨h1, h2⟩ := List.nodup_cons.mp nd
    have h' : ω[n]? = some (some m) := by simpa using h
    have k' : α[n]? = some a := by simpa using k
    cases s with
    | live hh hm' r => exact .live (by rw [upd_ne (fun z => h1 (by rw [z]; exact lv_mem h' k'))]; exact hh) hm' (SRl.write hm h2 h' k' r)
  | none :: ω, b :: α, n + 1, m, nd, h, k, s => by
    rw [lv_none] at nd
    cases s with
    | dead r => exact .dead (SRl.write hm nd (by simpa using h) (by simpa using k) r)
theorem SRl.kill : ∀ {ω : Store} {α : List Addr} (n : Nat), SRl g B H ω α → SRl g B H (ω.set n none) α
  | _, _, _, .nil => .nil
  | _, _, 0, .dead r => .dead r
  | _, _, 0, .live h hm r => .dead r
  | _, _, n + 1, .dead r => .dead (SRl.kill n r)
  | _, _, n + 1, .live h hm r => .live h hm (SRl.kill n r)
theorem notTbl {o : HO} {m : MO} (h : MRep g B o m) : ∀ ps, o ≠ .tbl ps := fun ps z => by subst z; cases h
/-- tables stand where another object is written -/
theorem tabs_write {T : List (Addr × Str)} {a : Addr} {o o' : HO} (t : LamX.Tabs T H) (h : H a = some o) (n1 : ∀ ps, o ≠ .tbl ps) (n2 : ∀ c q, o ≠ LamX.CodeO c q) : LamX.Tabs T (upd H a o') := fun p hp => by
  obtain ⟨ps, h1, h2, h3⟩ := t p hp
  refine ⟨ps, by rw [upd_ne (fun z => n1 ps (by rw [z, h] at h1; exact Option.some.inj h1))]; exact h1, h2, fun pos cv hc => ?_⟩
  obtain ⟨c, e1, e2⟩ := h3 pos cv hc
  exact ⟨c, e1, by rw [upd_ne (fun z => n2 a p.2 (by rw [z, h] at e2; exact Option.some.inj e2))]; exact e2⟩
theorem notCode {o : HO} {m : MO} (h : MRep g B o m) : ∀ c q, o ≠ LamX.CodeO c q := fun c q z => by
  subst z
  unfold LamX.CodeO at h
  cases h
/-- a changing object is written -/
theorem Go.write {n : Nat} {m m' : MO} {a : Addr} {o o' : HO} (s : SR g ω α H) (e : ω[n]? = some (some m)) (ha : α[n]? = some a) (ho : H a = some o) (hm : MRep g (base ω α H) o m) (hm' : MRep g (base ω α H) o' m') : Go g ω α H (ω.set n (some m')) α (upd H a o') := by
  have hlv := lv_set (α := α) (m' := m') e
  have hb : base (ω.set n (some m')) α (upd H a o') = base ω α H := by
    unfold base
    rw [hlv]
    funext b
    by_cases hb : b ∈ lv ω α
    · rw [off_in hb, off_in hb]
    · rw [off_of hb, off_of hb, upd_ne (fun z => hb (by rw [z]; exact lv_mem e ha))]
  refine ⟨⟨by rw [hb]; exact SRl.write hm' s.nd e ha s.at_, by rw [hlv]; exact s.nd, tabs_write s.tabs ho (notTbl hm) (notCode hm)⟩, List.prefix_refl _, by rw [hb]; exact LamX.ExtN.refl _⟩
/-- a new changing object -/
theorem Go.newLoc {p : Addr} {o : HO} {m : MO} (s : SR g ω α H) (hp : H p = none) (hm : MRep g (base ω α H) o m) : Go g ω α H (ω ++ [some m]) (α ++ [p]) (upd H p o) := by
  have hlv : lv (ω ++ [some m]) (α ++ [p]) = lv ω α ++ [p] := by rw [lv_append _ _ _ _ s.len]; rfl
  have np : p ∉ lv ω α := Lv.no s.there hp
  have hb : Ext (base ω α H) (base (ω ++ [some m]) (α ++ [p]) (upd H p o)) := fun b u e _ => by
    obtain ⟨h1, h2⟩ := off_some e
    have nb : b ≠ p := ne_of_none h2 hp
    unfold base
    rw [hlv, off_of (by simp [h1, nb]), upd_ne nb]
    exact h2
  refine ⟨⟨SRl.append (s.at_.mono hb fun b u _ e => by rw [upd_ne (ne_of_none e hp)]; exact e) (.live upd_same (hm.mono hb) .nil), ?_, s.tabs.ext (Grow.new hp)⟩, List.prefix_append _ _, hb⟩
  rw [hlv]
  exact List.nodup_append.mpr ⟨s.nd, by simp, fun b hb b' hb' => by rw [List.mem_singleton.mp hb']; exact fun z => np (z ▸ hb)⟩
/-- a changing object changes no more -/
theorem Go.freeze {n : Nat} (s : SR g ω α H) : Go g ω α H (ω.set n none) α H := by
  have hx : Ext (base ω α H) (base (ω.set n none) α H) := off_less (lv_kill ω α n)
  exact ⟨⟨(s.at_.kill n).mono hx fun _ _ _ e => e, nodup_kill ω α n s.nd, s.tabs⟩, List.prefix_refl _, hx⟩
end
/-- as data, for good -/
def frz (x : Val) (ω : Store) : Res Val := match x with
  | .d d => .ok (.d d) ω
  | .loc n => match ω[n]? with
    | some (some (.lst ds)) => .ok (.d (.lst ds)) (ω.set n none)
    | some (some (.dct ds)) => .ok (.d (.dct ds)) (ω.set n none)
    | some (some (.ins c fs)) => .ok (.d (.obj c fs)) (ω.set n none)
    | _ => .bad
def eFrz (f : Fx Val) : Fx Val := fun ρ ω => (f ρ ω).bind frz
/-- a new changing list -/
def eNewL (fs : Fx (List Val)) : Fx Val := fun ρ ω => (fs ρ ω).bind fun xs ω => match plain xs with
  | some ds => if ds.length ≤ sizeLine then .ok (.loc ω.length) (ω ++ [some (.lst ds)]) else .bad
  | none => .bad
/-- o[i] = v -/
def setIx (x o i : Val) (ω : Store) : Option Store := match x, o, i with
  | .d z, .loc n, .d (.int k) => (match ω[n]? with
    | some (some (.lst ds)) => (ixN ds.length k).map fun j => ω.set n (some (.lst (ds.set j z)))
    | _ => none)
  | _, _, _ => none
def sSetIx (fv fo fi : Fx Val) : Sx := fun ρ ω => sBind (fv ρ ω) ρ fun x ω => sBind (fo ρ ω) ρ fun o ω => sBind (fi ρ ω) ρ fun i ω => match setIx x o i ω with
  | some ω' => .nx ρ ω'
  | none => .bad
section
variable {T : List (Addr × Str)} {X : Cx} {W : WX} {e a b c o i : Expr} {st : Stmt} {sts sts' : List Stmt} {es : List Expr} {f fa fb fv fo fi : Fx Val} {ft : Fx Bool} {fs : Fx (List Val)} {s1 s2 : Sx} {pos pos' p apos : Pos}
theorem frz_post {g : Gd} {σ : L2.St} {ω : Store} {α : List Addr} {H : Hp} {v : V} {x : Val} {Q : VK} (sr : SR g ω α H) (r : RepV g (base ω α H) α v x) (p : Post g W σ ω α H (RepV g) Q (frz x ω)) : Q v H := by
  unfold frz at p
  split at p
  · exact p.here sr r
  · rename_i n
    obtain ⟨a, h1, rfl⟩ := r
    have fz : ∀ {m : MO} {d : D}, ω[n]? = some (some m) → (∀ o, H a = some o → MRep g (base ω α H) o m → Rep g (base (ω.set n none) α H) (.ref a) d) → Post g W σ ω α H (RepV g) Q (.ok (.d d) (ω.set n none)) → Q (.ref a) H := fun {m d} e k p => by
      obtain ⟨a', o, h2, h3, h4, h5⟩ := sr.get e
      rw [h1] at h2; cases h2
      exact p _ α H (Go.freeze sr) (k o h4 h5)
    have nb : ∀ {m : MO}, ω[n]? = some (some m) → a ∉ lv (ω.set n none) α := fun e => not_lv_kill sr.nd e h1
    split at p
    · rename_i ds e
      refine fz e (fun o h4 h5 => ?_) p
      cases h5 with
      | lst r => exact .lst ((off_of (nb e)).trans h4) (r.mono (off_less (lv_kill ω α n)))
    · rename_i ds e
      refine fz e (fun o h4 h5 => ?_) p
      cases h5 with
      | dct r => exact .dct ((off_of (nb e)).trans h4) (r.mono (off_less (lv_kill ω α n)))
    · rename_i c fs e
      refine fz e (fun o h4 h5 => ?_) p
      cases h5 with
      | ins hc r => exact .obj ((off_of (nb e)).trans h4) hc (r.mono (off_less (lv_kill ω α n)))
    · exact p.elim
theorem ex_frz (h : EX T X W e f) : EX T X W e (eFrz f) := PE.imp h fun σ H Q ⟨ρ, ω, α, sr, rs, p⟩ => tG_step sr rs p fun v H1 x ω1 α1 go1 rx sr1 rs1 p1 => frz_post sr1 rx p1
theorem ex_newL (h : AX T X W es fs) : EX T X W (.List es pos) (eNewL fs) := PE.imp (pe_lst h) fun σ H Q ⟨ρ, ω, α, sr, rs, p⟩ =>
  tG_step sr rs p fun vs H1 xs ω1 α1 go1 rx sr1 rs1 p1 => by
    split at p1
    · rename_i ds e
      split at p1
      · rename_i hl
        have r := plain_rep rx e
        exact ⟨by rw [r.len]; exact hl, fun q hq => p1 _ _ _ (Go.newLoc sr1 hq (.lst r)) ⟨q, by rw [List.getElem?_append_right (by rw [sr1.len]; exact Nat.le_refl _), sr1.len]; simp, rfl⟩⟩
      · exact p1.elim
    · exact p1.elim
theorem setIx_post {g : Gd} {ω ω' : Store} {α : List Addr} {H : Hp} {vx vo vi : V} {x o i : Val} (sr : SR g ω α H) (rx : RepV g (base ω α H) α vx x) (ro : RepV g (base ω α H) α vo o) (ri : RepV g (base ω α H) α vi i) (h : setIx x o i ω = some ω') {Q : Hp → Prop} (q : ∀ H', Go g ω α H ω' α H' → Q H') :
    rSetL vo vi vx H Q := by
  unfold setIx at h
  split at h
  · split at h
    · rename_i ds e
      obtain ⟨j, h1, rfl⟩ := Option.map_eq_some_iff.mp h
      obtain ⟨a, h2, rfl⟩ := ro
      obtain ⟨a', ob, h3, _, h4, h5⟩ := sr.get e
      rw [h2] at h3; cases h3
      cases ri
      have h5' := h5
      cases h5 with
      | lst r => exact ⟨a, _, _, j, rfl, rfl, h4, by rw [r.len]; exact h1, q _ (Go.write sr e h2 h4 h5' (.lst (r.set j rx)))⟩
    · cases h
  · cases h
theorem sx_setIx (hv : EX T X W e fv) (ho : EX T X W o fo) (hi : EX T X W i fi) (ha : ∀ v, assign (.Subscript o i pos') X.env v = (do
      let ov ← holding [v] (eval o X.env)
      let iv ← holding [v, ov] (eval i X.env)
      standAt pos'
      holding [v, ov, iv] (setItem ov iv v)
      release [v, ov, iv] []) := by intro _; rfl) (hs : swapsWithSole [.Subscript o i pos'] e pos.line X.env = pure false := by rfl) (hw : swappedStores [.Subscript o i pos'] e X.env = pure none := by rfl)
    (h1 : (assignEach [.Subscript o i pos'] X.env).map (·.2) = [assign (.Subscript o i pos') X.env] := by rfl) : SX T X W (.Assign [.Subscript o i pos'] e pos) (sSetIx fv fo fi) :=
  PS.imp (ps_asg hv (pg_sub ho hi set_list ha) hs hw h1) fun De σ H ⟨ρ, ω, α, sr, rs, p⟩ => by
    refine sG_step sr rs p fun v H1 x ω1 α1 go1 rx sr1 rs1 p1 => ?_
    refine sG_step sr1 rs1 p1 fun vo H2 o' ω2 α2 go2 ro sr2 rs2 p2 => ?_
    refine sG_step sr2 rs2 p2 fun vi H3 i' ω3 α3 go3 ri sr3 rs3 p3 => ?_
    split at p3
    · rename_i ω' e'
      exact setIx_post sr3 (go3.rv (go2.rv rx)) (go3.rv ro) ri e' fun H' go => p3 σ α3 H' go (go.rs rs3)
    · exact p3.elim
end
end DL

/-! The D-layer: list comprehensions. -/
namespace DL
open PySem PySem.Spec PyProof.Rows L2
/-- no error passes -/
abbrev W0 : WX := fun _ _ _ _ => False
theorem takes0X {X : Cx} : L2.Takes X (fun _ _ _ _ => False) := fun _ _ ⟨_, _, _, _, _, _, _, _, _, _, _, _, _, _, _, _, w⟩ => w.elim
theorem tk0 {X : Cx} : L2.Takes X W0 := takes0X
def Res.calm {γ : Type} : Res γ → Res γ
  | .ok x ω => .ok x ω
  | _ => .bad
def wipeD (ρ : Env) : List Nat → Env
  | [] => ρ
  | v :: vs => (wipeD ρ vs).set v none
theorem RS.wipe {g : Gd} {B : Hp} {α : List Addr} {σ : L2.St} {ρ : Env} (h : RS g B α σ ρ) : ∀ vs : List Nat, RS g B α (L2.wipe σ vs) (wipeD ρ vs)
  | [] => h
  | v :: vs => by unfold L2.wipe wipeD; exact (RS.wipe h vs).unset
/-- one item behind another; n: the new list's place -/
def lcL (n : Nat) (G : Tg) (ft : Fx Bool) (fe : Fx Val) (ρ : Env) : List D → Store → Res Val
  | [], ω => match ω[n]? with
    | some (some (.lst acc)) => .ok (.d (.lst acc)) (ω.take n)
    | _ => .bad
  | d :: ds, ω => match G d ρ with
    | none => .bad
    | some ρ1 => (ft ρ1 ω).calm.bind fun b ω => if b then (fe ρ1 ω).calm.bind fun y ω => (match y, ω[n]? with
      | .d z, some (some (.lst acc)) => if acc.length < sizeLine then lcL n G ft fe ρ ds (ω.set n (some (.lst (acc ++ [z])))) else .bad
      | _, _ => .bad) else lcL n G ft fe ρ ds ω
/-- [fe for G in f if ft] -/
def eLc (vs : List Nat) (f : Fx Val) (G : Tg) (ft : Fx Bool) (fe : Fx Val) : Fx Val := fun ρ ω => (f ρ ω).bind fun x ω => match x with
  | .d d => (match seqD d with | some ds => lcL ω.length G ft fe (wipeD ρ vs) ds (ω ++ [some (.lst [])]) | none => .bad)
  | .loc _ => .bad
/-- [fe for G in range(f) if ft] -/
def eLcR1 (vs : List Nat) (f : Fx Val) (G : Tg) (ft : Fx Bool) (fe : Fx Val) : Fx Val := fun ρ ω => (f ρ ω).bind fun x ω => match x with
  | .d (.int j) => if -(2 ^ 62) ≤ j ∧ j < 2 ^ 62 then lcL ω.length G ft fe (wipeD ρ vs) (rangeD 0 j.toNat) (ω ++ [some (.lst [])]) else .bad
  | _ => .bad
def eLcR2 (vs : List Nat) (f h : Fx Val) (G : Tg) (ft : Fx Bool) (fe : Fx Val) : Fx Val := fun ρ ω => (f ρ ω).bind fun x ω => (h ρ ω).bind fun y ω => match x, y with
  | .d (.int i), .d (.int j) => if -(2 ^ 62) ≤ i ∧ i < 2 ^ 62 ∧ -(2 ^ 62) ≤ j ∧ j < 2 ^ 62 then lcL ω.length G ft fe (wipeD ρ vs) (rangeD i (j - i).toNat) (ω ++ [some (.lst [])]) else .bad
  | _, _ => .bad
def tYesD : Fx Bool := fun _ ω => .ok true ω

/-! ### a block's targets -/
def GW (T : List (Addr × Str)) (X : Cx) (js : List Nat) (t : Expr) (G : Tg) : Prop := ∀ (pins : List (Addr × Obj)) (s : Shared) (σ : L2.St) (H : Hp) (v : V) (u : Value) (Q : L2.St → Hp → Prop), L2.Inv X pins σ H s → RelV v u →
  (∃ (ρ ρ' : Env) (l : List Addr) (α : List Addr) (d : D), RS (gX T X) (off l H) α σ ρ ∧ Rep (gX T X) (off l H) v d ∧ G d ρ = some ρ' ∧ ∀ σ', RS (gX T X) (off l H) α σ' ρ' → L2.wipe σ' js = L2.wipe σ js → Q σ' H) →
  wpAny (model X.prog X.w) X.A (assign t X.env u) (fun _ s' => ∃ σ' H', L2.Inv X pins σ' H' s' ∧ Q σ' H') X.xe s
def GWs (T : List (Addr × Str)) (X : Cx) (js : List Nat) (ts : List Expr) (G : List D → Env → Option Env) : Prop := ∀ (pins : List (Addr × Obj)) (s : Shared) (σ : L2.St) (H : Hp) (vs : List V) (us : List Value) (Q : L2.St → Hp → Prop), L2.Inv X pins σ H s → Vals vs us →
  (∃ (ρ ρ' : Env) (l : List Addr) (α : List Addr) (ds : List D), RS (gX T X) (off l H) α σ ρ ∧ RepL (gX T X) (off l H) vs ds ∧ G ds ρ = some ρ' ∧ ∀ σ', RS (gX T X) (off l H) α σ' ρ' → L2.wipe σ' js = L2.wipe σ js → Q σ' H) →
  wpAny (model X.prog X.w) X.A (assignInOrder ((assignEach ts X.env).map (·.2)) us) (fun _ s' => ∃ σ' H', L2.Inv X pins σ' H' s' ∧ Q σ' H') X.xe s
theorem wipe_get {σ : L2.St} {js : List Nat} {i : Nat} (h : i ∈ js) : (L2.wipe σ js)[i]? = if i < σ.length then some none else none := by
  induction js with
  | nil => cases h
  | cons j js ih =>
    unfold L2.wipe
    by_cases e : j = i
    · subst e
      rw [List.getElem?_set]
      simp [L2.wipe_length]
    · rw [List.getElem?_set_ne e]
      rcases List.mem_cons.mp h with q | q
      · exact (e q.symm).elim
      · exact ih q
theorem wipe_set {σ : L2.St} {js : List Nat} {i : Nat} {v : Option V} (h : i ∈ js) : L2.wipe (σ.set i v) js = L2.wipe σ js := by
  refine List.ext_getElem? fun k => ?_
  by_cases hk : k ∈ js
  · rw [wipe_get hk, wipe_get hk, List.length_set]
  · rw [L2.wipe_out hk, L2.wipe_out hk, List.getElem?_set_ne (fun z => hk (by rw [← z]; exact h))]
theorem wipe_wipe (σ : L2.St) (js : List Nat) : L2.wipe (L2.wipe σ js) js = L2.wipe σ js := by
  refine List.ext_getElem? fun k => ?_
  by_cases hk : k ∈ js
  · rw [wipe_get hk, wipe_get hk, L2.wipe_length]
  · rw [L2.wipe_out hk]
section
variable {T : List (Addr × Str)} {X : Cx} {W : WX} {t : Expr} {ts : List Expr} {G : Tg} {R : List D → Env → Option Env} {pos : Pos} {i n k : Nat} {x : Str} {js : List Nat}
theorem gw_name (hN : X.N.Nodup) (hi : X.N[i]? = some x) (hx : Loc X.env.scope x) (hj : i ∈ js := by decide) (hf : X.fn x = true ∨ X.env.scope.names.lookup x = some .local := by first | exact .inl rfl | exact .inr rfl | assumption) : GW T X js (.Name x pos) (gNm i) :=
  fun pins s σ H v u Q I r ⟨ρ, ρ', l, α, d, rs, rep, e, q⟩ => by
    cases e
    exact (pg_name hN hi hx hf).run pins s σ H v u Q I r (q _ (rs.set (x := .d d) rep) (wipe_set hj))
theorem gws_nil : GWs T X js [] gsNil := fun pins s σ H vs us Q I r ⟨ρ, ρ', l, α, ds, rs, rep, e, q⟩ => by
  cases rep with
  | nil => cases e; exact pgs_nil.run pins s σ H [] us Q I r ⟨rfl, q _ rs rfl⟩
  | cons h r' => cases e
theorem gws_cons (h1 : GW T X js t G) (h2 : GWs T X js ts R) (hs : (assignEach (t :: ts) X.env).map (·.2) = assign t X.env :: (assignEach ts X.env).map (·.2) := by rfl) : GWs T X js (t :: ts) (gsCons G R) :=
  fun pins s σ H vs us Q I r ⟨ρ, ρ', l, α, ds, rs, rep, e, q⟩ => by
    cases rep with
    | nil => cases e
    | cons hv rr =>
      cases r with
      | cons r rv =>
        rw [hs]
        unfold gsCons at e
        obtain ⟨ρ1, e1, e2⟩ := Option.bind_eq_some_iff.mp e
        refine assignInOrder_cons (thn (h1 pins s σ H _ _ (fun σ1 H1 => H1 = H ∧ RS (gX T X) (off l H) α σ1 ρ1 ∧ L2.wipe σ1 js = L2.wipe σ js) I r ⟨ρ, ρ1, l, α, _, rs, hv, e1, fun σ' h w => ⟨rfl, h, w⟩⟩) fun _ s1 ⟨σ1, H1, I1, eH, rs1, w1⟩ => ?_)
        subst eH
        exact h2 pins s1 σ1 _ _ _ Q I1 rv ⟨ρ1, ρ', l, α, _, rs1, rr, e2, fun σ' h w => q σ' h (w.trans w1)⟩
theorem gw_seq (hc : X.calm = true) (h : GWs T X js ts R) (hn : (assignEach ts X.env).length = n := by rfl) (hst : (assignEach ts X.env).findIdx? (·.1) = none := by rfl) : GW T X js (.Tuple ts k pos) (gSeq n R) :=
  fun pins s σ H v u Q I r ⟨ρ, ρ', l, α, d, rs, rep, e, q⟩ => by
    unfold gSeq at e
    split at e
    · split at e
      · rename_i hl
        cases rep with
        | tup hq rr =>
          refine (pg_tup (t := fun vs σ H Q => ∃ (ρ ρ' : Env) (l : List Addr) (α : List Addr) (ds : List D), RS (gX T X) (off l H) α σ ρ ∧ RepL (gX T X) (off l H) vs ds ∧ R ds ρ = some ρ' ∧ ∀ σ', RS (gX T X) (off l H) α σ' ρ' → L2.wipe σ' js = L2.wipe σ js → Q σ' H) hc ⟨h⟩ hn hst).run pins s σ H _ u Q I r ?_
          exact ⟨_, _, rfl, (hq.ext ext_off).sq, by rw [rr.len]; exact hl, ρ, ρ', l, α, _, rs, rr, e, q⟩
      · cases e
    · split at e
      · rename_i hl
        cases rep with
        | lst hq rr =>
          refine (pg_lst (t := fun vs σ H Q => ∃ (ρ ρ' : Env) (l : List Addr) (α : List Addr) (ds : List D), RS (gX T X) (off l H) α σ ρ ∧ RepL (gX T X) (off l H) vs ds ∧ R ds ρ = some ρ' ∧ ∀ σ', RS (gX T X) (off l H) α σ' ρ' → L2.wipe σ' js = L2.wipe σ js → Q σ' H) hc ⟨h⟩ hn hst).run pins s σ H _ u Q I r ?_
          exact ⟨_, _, rfl, SqL.of (off_some hq).2, by rw [rr.len]; exact hl, ρ, ρ', l, α, _, rs, rr, e, q⟩
      · cases e
    · cases e
/-- a block's store -/
abbrev gWOf (T : List (Addr × Str)) (X : Cx) (js : List Nat) (G : Tg) : TG := fun v σ H Q => ∃ (ρ ρ' : Env) (l : List Addr) (α : List Addr) (d : D), RS (gX T X) (off l H) α σ ρ ∧ Rep (gX T X) (off l H) v d ∧ G d ρ = some ρ' ∧ ∀ σ', RS (gX T X) (off l H) α σ' ρ' → L2.wipe σ' js = L2.wipe σ js → Q σ' H
end

/-! ### the loop -/
section
variable {T : List (Addr × Str)} {X : Cx} {W : WX} {e a b c elt tg iter : Expr} {ifs : List Expr} {f h fe : Fx Val} {ft : Fx Bool} {pos pos' p : Pos} {i j : Nat} {x y : Str} {G : Tg} {js : List Nat}
theorem Post.calm {g : Gd} {σ σ2 : L2.St} {ω1 ω : Store} {α1 α : List Addr} {H1 H : Hp} {β γ δ ε : Type} {rel : Hp → List Addr → β → γ → Prop} {rel' : Hp → List Addr → δ → ε → Prop} {R : δ → Hp → Prop} {r : Res γ} {k : γ → Store → Res ε}
    (h : Post g W σ ω1 α1 H1 rel' R (r.calm.bind k)) : Post g W0 σ2 ω α H rel (fun v H' => ∃ x ω' α', Go g ω α H ω' α' H' ∧ rel (base ω' α' H') α' v x ∧ Post g W σ ω1 α1 H1 rel' R (k x ω')) r := by
  cases r with
  | ok x ω' => exact fun v α' H' go hv => ⟨x, ω', α', go, hv, h⟩
  | exc e ω' => exact h.elim
  | bad => exact h
/-- the block's state ahead of a turn -/
def LcP (g : Gd) (W : WX) (σ : L2.St) (ω1 : Store) (α1 : List Addr) (H1 : Hp) (D0 : Addr) (G : Tg) (ft : Fx Bool) (fe : Fx Val) (ρ : Env) (Q : VK) (ds : List D) (i : Nat) : Hp → Prop := fun H =>
  ∃ ω α, Go g ω1 α1 H1 ω α H ∧ α[ω1.length]? = some D0 ∧ Post g W σ ω1 α1 H1 (RepV g) Q (lcL ω1.length G ft fe ρ (ds.drop i) ω)
theorem pre_at {α α' : List Addr} {n : Nat} {a : Addr} (p : α <+: α') (h : α[n]? = some a) : α'[n]? = some a := by
  obtain ⟨r, rfl⟩ := p
  rw [List.getElem?_append_left (List.getElem?_eq_some_iff.mp h).1]; exact h
theorem lc_start {g : Gd} {σ : L2.St} {ω1 : Store} {α1 : List Addr} {H1 : Hp} {D0 : Addr} {ρ : Env} {Q : VK} {ds : List D} (sr1 : SR g ω1 α1 H1) (hD : H1 D0 = none) (p : Post g W σ ω1 α1 H1 (RepV g) Q (lcL ω1.length G ft fe ρ ds (ω1 ++ [some (.lst [])]))) :
    LcP g W σ ω1 α1 H1 D0 G ft fe ρ Q ds 0 (upd H1 D0 (.lst [])) := ⟨_, _, Go.newLoc sr1 hD (.lst .nil), by rw [List.getElem?_append_right (by rw [sr1.len]; exact Nat.le_refl _), sr1.len]; simp, by rw [List.drop_zero]; exact p⟩
theorem lc_end {g : Gd} {σ : L2.St} {ω1 : Store} {α1 : List Addr} {H1 H : Hp} {D0 : Addr} {ρ : Env} {Q : VK} {ds : List D} {i : Nat} (sr1 : SR g ω1 α1 H1) (hi : ds.length ≤ i) (p : LcP g W σ ω1 α1 H1 D0 G ft fe ρ Q ds i H) : Q (.ref D0) H := by
  obtain ⟨ω, α, go, hD, p⟩ := p
  rw [List.drop_eq_nil_of_le hi] at p
  unfold lcL at p
  split at p
  · rename_i acc e
    obtain ⟨a', o, h1, h2, h3, h4⟩ := go.sr.get e
    rw [hD] at h1; cases h1
    have gl := Go.leave sr1 go
    have hx : Ext (base ω α H) (base (ω.take ω1.length) (α.take ω1.length) H) := off_less (lv_take ω α _)
    have hn := lv_apart go.sr.len go.sr.nd e hD (Nat.le_refl _)
    refine p _ _ H gl ?_
    cases h4 with
    | lst r => exact .lst ((off_of hn).trans h3) (r.mono hx)
  · exact p.elim
theorem lc_turn {σ : L2.St} {ω1 : Store} {α1 : List Addr} {H1 H : Hp} {D0 : Addr} {ρ : Env} {Q : VK} {ds : List D} {d : D} {i : Nat} {v : V} (rs1 : RS (gX T X) (base ω1 α1 H1) α1 (L2.wipe σ js) ρ) (hd : ds[i]? = some d)
    (rv : ∀ B, Ext (base ω1 α1 H1) B → Rep (gX T X) B v d) (p : LcP (gX T X) W σ ω1 α1 H1 D0 G ft fe ρ Q ds i H) :
    gWOf T X js G v (L2.wipe σ js) H fun σ2 H2 => L2.wipe σ2 js = L2.wipe σ js ∧ tT (gX T X) W0 ft σ2 H2 fun b H3 =>
      if b = true then tE (gX T X) W0 fe σ2 H3 fun y H4 => ∃ acc, H4 D0 = some (.lst acc) ∧ acc.length < sizeLine ∧ LcP (gX T X) W σ ω1 α1 H1 D0 G ft fe ρ Q ds (i + 1) (upd H4 D0 (.lst (acc ++ [y]))) else LcP (gX T X) W σ ω1 α1 H1 D0 G ft fe ρ Q ds (i + 1) H3 := by
  obtain ⟨ω, α, go, hD, p⟩ := p
  rw [drop_cons hd] at p
  unfold lcL at p
  split at p
  · exact p.elim
  · rename_i ρ1 e
    refine ⟨ρ, ρ1, lv ω α, α, d, go.rs rs1, rv _ go.ext, e, fun σ2 rs2 w2 => ⟨by rw [w2, wipe_wipe], ρ1, ω, α, go.sr, rs2, ?_⟩⟩
    refine (Post.calm p).imp fun bv H3 ⟨bx, ω3, α3, go3, rb, p3⟩ => ?_
    cases rb
    have goT := go.trans go3
    have hD3 := pre_at go3.pre hD
    cases bv with
    | false => exact ⟨ω3, α3, goT, hD3, p3⟩
    | true =>
      simp only [if_true] at p3 ⊢
      refine ⟨ρ1, ω3, α3, go3.sr, go3.rs rs2, ?_⟩
      refine (Post.calm p3).imp fun yv H4 ⟨y, ω4, α4, go4, ry, p4⟩ => ?_
      have hD4 := pre_at go4.pre hD3
      split at p4
      · rename_i z acc eacc
        split at p4
        · rename_i hl
          obtain ⟨a', o, h1, h2, h3, h4⟩ := go4.sr.get eacc
          rw [hD4] at h1; cases h1
          have h4' := h4
          cases h4 with
          | lst r =>
            exact ⟨_, h3, by rw [r.len]; exact hl, _, α4, (goT.trans go4).trans (Go.write go4.sr eacc hD4 h3 h4' (.lst (r.append (.one ry)))), hD4, p4⟩
        · exact p4.elim
      · exact p4.elim
theorem lc_of {ρ : Env} {σ : L2.St} {ω1 : Store} {α1 : List Addr} {H1 : Hp} {Q : VK} {v : V} {d : D} {ds : List D} (sr1 : SR (gX T X) ω1 α1 H1) (rs1 : RS (gX T X) (base ω1 α1 H1) α1 σ ρ) (rx : Rep (gX T X) (base ω1 α1 H1) v d) (eds : seqD d = some ds)
    (p : Post (gX T X) W σ ω1 α1 H1 (RepV (gX T X)) Q (lcL ω1.length G ft fe (wipeD ρ js) ds (ω1 ++ [some (.lst [])]))) :
    ∃ a, v = .ref a ∧ ∀ (WW : It → Prop), (∀ J, ((∃ xs, SqL X.K H1 a xs) ∧ J = Itl X.K a) ∨ ((∃ xs, SqT X.K H1 a xs) ∧ J = Itt X.K a) → (∀ D0, H1 D0 = none → ∃ W' : Nat → Nat → Hp → Prop, (∃ m, W' 0 m (upd H1 D0 (.lst []))) ∧ ∀ i m H, W' i m H →
      (J.stop i H ∧ Q (.ref D0) H) ∨ (J.go i H ∧ ∃ Nx : Hp → Prop, (∀ H', Nx H' → ∃ m', m' < m ∧ W' (i + 1) m' H') ∧ ∀ x H', J.yld i H x H' → gWOf T X js G x (L2.wipe σ js) H' fun σ2 H2 => L2.wipe σ2 js = L2.wipe σ js ∧ tT (gX T X) W0 ft σ2 H2 fun b H3 =>
        if b = true then tE (gX T X) W0 fe σ2 H3 fun y H4 => ∃ acc, H4 D0 = some (.lst acc) ∧ acc.length < sizeLine ∧ Nx (upd H4 D0 (.lst (acc ++ [y]))) else Nx H3)) → WW J) →
      ((∃ xs, SqL X.K H1 a xs) ∧ WW (Itl X.K a)) ∨ ((∃ xs, SqT X.K H1 a xs) ∧ WW (Itt X.K a)) := by
  have rsw := RS.wipe rs1 js
  unfold seqD at eds
  have turn : ∀ {vs : List V}, RepL (gX T X) (base ω1 α1 H1) vs ds → ∀ D0 i x H, vs[i]? = some x → LcP (gX T X) W σ ω1 α1 H1 D0 G ft fe (wipeD ρ js) Q ds i H → gWOf T X js G x (L2.wipe σ js) H fun σ2 H2 => L2.wipe σ2 js = L2.wipe σ js ∧ tT (gX T X) W0 ft σ2 H2 fun b H3 =>
      if b = true then tE (gX T X) W0 fe σ2 H3 fun y H4 => ∃ acc, H4 D0 = some (.lst acc) ∧ acc.length < sizeLine ∧ LcP (gX T X) W σ ω1 α1 H1 D0 G ft fe (wipeD ρ js) Q ds (i + 1) (upd H4 D0 (.lst (acc ++ [y]))) else LcP (gX T X) W σ ω1 α1 H1 D0 G ft fe (wipeD ρ js) Q ds (i + 1) H3 := fun r D0 i x H hx q => by
    obtain ⟨d', hd', rd'⟩ := r.getV hx
    exact lc_turn rsw hd' (fun B e => rd'.mono e) q
  split at eds
  · cases eds
    cases rx with
    | lst h r => exact ⟨_, rfl, fun WW k => .inl ⟨⟨_, SqL.of (off_some h).2⟩, k _ (.inl ⟨⟨_, SqL.of (off_some h).2⟩, rfl⟩) fun D0 hD => lc_list (LcP (gX T X) W σ ω1 α1 H1 D0 G ft fe (wipeD ρ js) Q _) (lc_start sr1 hD p) (fun i H _ ⟨ω, α, go, _⟩ => SqL.of (off_some (go.ext _ _ h (fun ps z => by cases z))).2) (fun i x H hx q => turn r D0 i x H hx q) fun H q => lc_end sr1 (by rw [r.len]; exact Nat.le_refl _) q⟩⟩
  · cases eds
    cases rx with
    | tup h r => exact ⟨_, rfl, fun WW k => .inr ⟨⟨_, (h.ext ext_off).sq⟩, k _ (.inr ⟨⟨_, (h.ext ext_off).sq⟩, rfl⟩) fun D0 hD => lc_tup (LcP (gX T X) W σ ω1 α1 H1 D0 G ft fe (wipeD ρ js) Q _) (lc_start sr1 hD p) (fun i H _ ⟨ω, α, go, _⟩ => (h.ext (LamX.ExtN.trans go.ext ext_off)).sq) (fun i x H hx q => turn r D0 i x H hx q) fun H q => lc_end sr1 (by rw [r.len]; exact Nat.le_refl _) q⟩⟩
  · cases eds
    cases rx with
    | frl h r => exact ⟨_, rfl, fun WW k => .inl ⟨⟨_, sqL_ext ext_off h⟩, k _ (.inl ⟨⟨_, sqL_ext ext_off h⟩, rfl⟩) fun D0 hD => lc_list (LcP (gX T X) W σ ω1 α1 H1 D0 G ft fe (wipeD ρ js) Q _) (lc_start sr1 hD p) (fun i H _ ⟨ω, α, go, _⟩ => sqL_ext (LamX.ExtN.trans go.ext ext_off) h) (fun i x H hx q => turn r D0 i x H hx q) fun H q => lc_end sr1 (by rw [r.len]; exact Nat.le_refl _) q⟩⟩
  · cases eds
theorem tLc_of {σ : L2.St} {H : Hp} {Q : VK} (h : tE (gX T X) W (eLc js f G ft fe) σ H Q) : L2.tLc (iAny X.K (tE (gX T X) W f)) (gWOf T X js G) (tT (gX T X) W0 ft) (tE (gX T X) W0 fe) js σ H Q := by
  obtain ⟨ρ, ω, α, sr, rs, p⟩ := h
  refine tG_step sr rs p fun v H1 x ω1 α1 go1 rx sr1 rs1 p1 => ?_
  cases x with
  | loc n => exact p1.elim
  | d d =>
    dsimp only at p1
    split at p1
    · rename_i ds eds
      obtain ⟨a, rfl, k⟩ := lc_of sr1 rs1 rx eds p1
      exact ⟨a, rfl, k _ fun J _ q => q⟩
    · exact p1.elim
theorem lcR_of {ρ : Env} {σ : L2.St} {ω1 : Store} {α1 : List Addr} {H1 : Hp} {Q : VK} {lo : Int} {n : Nat} (sr1 : SR (gX T X) ω1 α1 H1) (rs1 : RS (gX T X) (base ω1 α1 H1) α1 σ ρ)
    (p : Post (gX T X) W σ ω1 α1 H1 (RepV (gX T X)) Q (lcL ω1.length G ft fe (wipeD ρ js) (rangeD lo n) (ω1 ++ [some (.lst [])]))) : ∀ D0, H1 D0 = none → ∃ W' : Nat → Nat → Hp → Prop, (∃ m, W' 0 m (upd H1 D0 (.lst []))) ∧ ∀ i m H, W' i m H →
      ((Itr lo n).stop i H ∧ Q (.ref D0) H) ∨ ((Itr lo n).go i H ∧ ∃ Nx : Hp → Prop, (∀ H', Nx H' → ∃ m', m' < m ∧ W' (i + 1) m' H') ∧ ∀ x H', (Itr lo n).yld i H x H' → gWOf T X js G x (L2.wipe σ js) H' fun σ2 H2 => L2.wipe σ2 js = L2.wipe σ js ∧ tT (gX T X) W0 ft σ2 H2 fun b H3 =>
        if b = true then tE (gX T X) W0 fe σ2 H3 fun y H4 => ∃ acc, H4 D0 = some (.lst acc) ∧ acc.length < sizeLine ∧ Nx (upd H4 D0 (.lst (acc ++ [y]))) else Nx H3) := fun D0 hD =>
  lc_range (LcP (gX T X) W σ ω1 α1 H1 D0 G ft fe (wipeD ρ js) Q (rangeD lo n)) (lc_start sr1 hD p) (fun i H hi q => lc_turn (RS.wipe rs1 js) (range_get hi) (fun _ _ => .int _) q) fun H q => lc_end sr1 (by unfold rangeD; simp) q
theorem tLcR1_of {σ : L2.St} {H : Hp} {Q : VK} (h : tE (gX T X) W (eLcR1 js f G ft fe) σ H Q) : L2.tLc (iRng1 (tA (gX T X) W (aCons f aNil))) (gWOf T X js G) (tT (gX T X) W0 ft) (tE (gX T X) W0 fe) js σ H Q := by
  obtain ⟨ρ, ω, α, sr, rs, p⟩ := h
  refine ⟨ρ, ω, α, sr, rs, ?_⟩
  unfold eLcR1 at p
  unfold aCons aNil
  cases e : f ρ ω with
  | exc x ω' => rw [e] at p; exact p
  | bad => rw [e] at p; exact p
  | ok x ω1 =>
    rw [e] at p
    intro vs α1 H1 go1 rx
    have rs1 := go1.rs rs
    have p1 := Post.rebase go1 p
    dsimp only [Res.bind] at p1
    split at p1
    · split at p1
      · rename_i j hj
        cases rx with
        | cons h r => cases r; cases h; exact ⟨_, rfl, hj.1, hj.2, lcR_of go1.sr rs1 p1⟩
      · exact p1.elim
    · exact p1.elim
theorem tLcR2_of {σ : L2.St} {H : Hp} {Q : VK} (k : tE (gX T X) W (eLcR2 js f h G ft fe) σ H Q) : L2.tLc (iRng2 (tA (gX T X) W (aCons f (aCons h aNil)))) (gWOf T X js G) (tT (gX T X) W0 ft) (tE (gX T X) W0 fe) js σ H Q := by
  obtain ⟨ρ, ω, α, sr, rs, p⟩ := k
  refine ⟨ρ, ω, α, sr, rs, ?_⟩
  unfold eLcR2 at p
  unfold aCons aNil
  cases e : f ρ ω with
  | exc x ω' => rw [e] at p; exact p
  | bad => rw [e] at p; exact p
  | ok x ω1 =>
    rw [e] at p
    dsimp only [Res.bind] at p ⊢
    cases e2 : h ρ ω1 with
    | exc x ω' => rw [e2] at p; exact p
    | bad => rw [e2] at p; exact p
    | ok y ω2 =>
      rw [e2] at p
      intro vs α1 H1 go1 rx
      have rs1 := go1.rs rs
      have p1 := Post.rebase go1 p
      dsimp only [Res.bind] at p1
      split at p1
      · split at p1
        · rename_i i j hj
          cases rx with
          | cons h r => cases r with
            | cons h2 r2 => cases r2; cases h; cases h2; exact ⟨_, _, rfl, hj, lcR_of go1.sr rs1 p1⟩
        · exact p1.elim
      · exact p1.elim
/-! ### the rules -/
abbrev jsOf (own : List (Str × Nat)) : List Nat := own.map (·.2)
abbrev BX1 (T : List (Addr × Str)) (X : Cx) (scope : Scope) (e : Expr) (f : Fx Val) : Prop := ∀ (s : Shared) (H : Hp) (C : Addr) (cl : List (Str × Addr)) (fp : List Addr), EX T (X.blk s H scope (compEnvC scope cl C X.env) fp) W0 e f
abbrev BT1 (T : List (Addr × Str)) (X : Cx) (scope : Scope) (ifs : List Expr) (f : Fx Bool) : Prop := ∀ (s : Shared) (H : Hp) (C : Addr) (cl : List (Str × Addr)) (fp : List Addr), L2.PTs (X.blk s H scope (compEnvC scope cl C X.env) fp) ifs (tT (gX T X) W0 f)
abbrev BG1 (T : List (Addr × Str)) (X : Cx) (scope : Scope) (js : List Nat) (t : Expr) (G : Tg) : Prop := ∀ (s : Shared) (H : Hp) (C : Addr) (cl : List (Str × Addr)) (fp : List Addr), GW T (X.blk s H scope (compEnvC scope cl C X.env) fp) js t G
variable {scope : Scope} {own : List (Str × Nat)}
theorem bt_nil : BT1 T X scope [] tYesD := fun s H C cl fp => ⟨fun pins s σ H Q I ⟨ρ, ω, α, sr, rs, p⟩ => pts_nil.run pins s σ H Q I (p.here sr rfl)⟩
theorem bt_one {c : Expr} (h : ∀ (s : Shared) (H : Hp) (C : Addr) (cl : List (Str × Addr)) (fp : List Addr), TX T (X.blk s H scope (compEnvC scope cl C X.env) fp) W0 c ft) : BT1 T X scope [c] ft := fun s H C cl fp => pts_one (h s H C cl fp)
theorem ex_lc (hc : X.calm = true) (hN : X.N.Nodup) (hi : EX T X W iter f) (ok : BlkOk X.N X.env.scope scope own) (hg : BG1 T X scope (own.map (·.2)) tg G) (ht : BT1 T X scope ifs ft) (he : BX1 T X scope elt fe) (hs : ∀ x, foldedSetIterable iter X.env x = pure x := by intro _; rfl) :
    EX T X W (.ListComp elt [⟨tg, iter, ifs, 0⟩] scope pos) (eLc (own.map (·.2)) f G ft fe) :=
  PE.imp (L2.pe_lc (g := gWOf T X (jsOf own) G) hc hN (pi_any hi) ok (fun s H C cl fp => ⟨hg s H C cl fp⟩) ht he hs) fun _ _ _ h => tLc_of h
theorem ex_lcR1 (hc : X.calm = true) (hN : X.N.Nodup) (hgl : Gl X "range") (hm : X.mg "range" = none) (hi : EX T X W a f) (ok : BlkOk X.N X.env.scope scope own) (hg : BG1 T X scope (own.map (·.2)) tg G) (ht : BT1 T X scope ifs ft) (he : BX1 T X scope elt fe)
    (hst : starEach [a] X.env = [(false, eval a X.env)] := by rfl) (hs : ∀ x, foldedSetIterable (.Call (.Name "range" p) [a] [] pos') X.env x = pure x := by intro _; rfl) :
    EX T X W (.ListComp elt [⟨tg, .Call (.Name "range" p) [a] [] pos', ifs, 0⟩] scope pos) (eLcR1 (own.map (·.2)) f G ft fe) :=
  PE.imp (L2.pe_lc (g := gWOf T X (jsOf own) G) hc hN (pi_range1 hgl hm (ax_cons hi ax_nil hst) hst) ok (fun s H C cl fp => ⟨hg s H C cl fp⟩) ht he hs) fun _ _ _ h => tLcR1_of h
theorem ex_lcR2 (hc : X.calm = true) (hN : X.N.Nodup) (hgl : Gl X "range") (hm : X.mg "range" = none) (hi : EX T X W a f) (hj : EX T X W b h) (ok : BlkOk X.N X.env.scope scope own) (hg : BG1 T X scope (own.map (·.2)) tg G) (ht : BT1 T X scope ifs ft) (he : BX1 T X scope elt fe)
    (hst : starEach [a, b] X.env = [(false, eval a X.env), (false, eval b X.env)] := by rfl) (hst2 : starEach [b] X.env = [(false, eval b X.env)] := by rfl) (hs : ∀ x, foldedSetIterable (.Call (.Name "range" p) [a, b] [] pos') X.env x = pure x := by intro _; rfl) :
    EX T X W (.ListComp elt [⟨tg, .Call (.Name "range" p) [a, b] [] pos', ifs, 0⟩] scope pos) (eLcR2 (own.map (·.2)) f h G ft fe) :=
  PE.imp (L2.pe_lc (g := gWOf T X (jsOf own) G) hc hN (pi_range2 hgl hm (ax_cons hi (ax_cons hj ax_nil hst2) (hst.trans (congrArg _ hst2.symm))) hst hst2) ok (fun s H C cl fp => ⟨hg s H C cl fp⟩) ht he hs) fun _ _ _ h => tLcR2_of h
/-- name = [..] -/
theorem sx_setLc {py spos : Pos} (hc : X.calm = true) (hN : X.N.Nodup) (hy : X.N[i]? = some y) (hyl : X.env.scope.names.lookup y = some .local) (hsw : swapsWith (.ListComp elt [⟨tg, iter, ifs, 0⟩] scope pos) (some (.Name y py)) spos.line X.env = pure true)
    (hi : EX T X W iter f) (ok : BlkOk X.N X.env.scope scope own) (hg : BG1 T X scope (own.map (·.2)) tg G) (ht : BT1 T X scope ifs ft) (he : BX1 T X scope elt fe) (hs : ∀ x, foldedSetIterable iter X.env x = pure x := by intro _; rfl) :
    SX T X W (.Assign [.Name y py] (.ListComp elt [⟨tg, iter, ifs, 0⟩] scope pos) spos) (sSet i (eLc (own.map (·.2)) f G ft fe)) :=
  PS.imp (L2.ps_setLc (g := gWOf T X (jsOf own) G) hc hN hy hyl hsw (pi_any hi) ok (fun s H C cl fp => ⟨hg s H C cl fp⟩) ht he hs) fun D σ H ⟨ρ, ω, α, sr, rs, p⟩ => tLc_of (sG_step sr rs p fun v H1 x ω1 α1 go1 rx sr1 rs1 p1 => p1.nxHere sr1 (rs1.set rx))
theorem sx_setLcR1 {py spos : Pos} (hc : X.calm = true) (hN : X.N.Nodup) (hy : X.N[i]? = some y) (hyl : X.env.scope.names.lookup y = some .local) (hsw : swapsWith (.ListComp elt [⟨tg, .Call (.Name "range" p) [a] [] pos', ifs, 0⟩] scope pos) (some (.Name y py)) spos.line X.env = pure true)
    (hgl : Gl X "range") (hm : X.mg "range" = none) (hi : EX T X W a f) (ok : BlkOk X.N X.env.scope scope own) (hg : BG1 T X scope (own.map (·.2)) tg G) (ht : BT1 T X scope ifs ft) (he : BX1 T X scope elt fe)
    (hst : starEach [a] X.env = [(false, eval a X.env)] := by rfl) (hs : ∀ x, foldedSetIterable (.Call (.Name "range" p) [a] [] pos') X.env x = pure x := by intro _; rfl) :
    SX T X W (.Assign [.Name y py] (.ListComp elt [⟨tg, .Call (.Name "range" p) [a] [] pos', ifs, 0⟩] scope pos) spos) (sSet i (eLcR1 (own.map (·.2)) f G ft fe)) :=
  PS.imp (L2.ps_setLc (g := gWOf T X (jsOf own) G) hc hN hy hyl hsw (pi_range1 hgl hm (ax_cons hi ax_nil hst) hst) ok (fun s H C cl fp => ⟨hg s H C cl fp⟩) ht he hs) fun D σ H ⟨ρ, ω, α, sr, rs, p⟩ => tLcR1_of (sG_step sr rs p fun v H1 x ω1 α1 go1 rx sr1 rs1 p1 => p1.nxHere sr1 (rs1.set rx))
end
end DL

/-! The D-layer: an own exception's __init__: super().__init__(..), then fields. -/
namespace DL
open PySem PySem.Spec PyProof.Rows L2

/-- the method-wrapper called -/
theorem call_mw {X : Cx} {pins : List (Addr × Obj)} {σ : L2.St} {H : Hp} {s : Shared} {a C u : Addr} {us : List Value} {Q : Value → Shared → Prop} {E : Value → Shared → Prop} {A : Around} (T : L2.OexC X.K C) (I : L2.Inv X pins σ H s) (e : H a = some (exo a C none))
    (hu : s.heap.get? u = some (PySem.W.kxs_mw "ValueError.__init__" a)) (hl : us.length ≤ sizeLine) (h : ∀ s', L2.Inv X pins σ H s' → Q .none s') : wpAny (model X.prog X.w) A (call (.ref u) us) Q E s := by
  obtain ⟨nm, q, N, bs, bm, sn, sub, ab, col, dd, k0, k1, k2, k3, k5, hC, hbm⟩ := T.cls
  obtain ⟨t1, ho⟩ := exo_at I.hok e
  obtain ⟨hp, g, d, t, os⟩ := s
  refine wpAny_call (codeAny_of_tree ?_)
  show wpAny _ A.in1 (callAny (.ref u) ⟨us, []⟩) _ _ _
  simp only [callAny]
  refine wpAny_bind (wpAny_load hu ?_)
  simp only [PySem.W.kxs_mw, show (Value.type "method-wrapper" == Value.type "method" || Value.type "method-wrapper" == Value.type "builtin_function_or_method" || Value.type "method-wrapper" == Value.type "method-wrapper") = true by decide, if_true]
  refine PySem.W.KFB.if_so (by decide) ?_
  refine wpAny_bind (PySem.W.check_bound_init F.excBase_ValueError.toExcCallFacts (I.kIn _ _ hC) ho rfl ?_)
  refine wpAny_bind (wpAny_pure (wpAny_pure ?_))
  refine ⟨plainId_quiet F.excBase_ValueError.init.plain _, codeAny_builtin F.excBase_ValueError.initEntry ?_⟩
  refine PySem.W.exc_init_tree (cls := .ref C) (t0 := t1) (dv := none) (c2 := .none) (c3 := .none) (b4 := .bool false) ho hl fun h' k hx _ => ?_
  have J := I.write (t' := t) (x := a) (e := a) (o := exo a C none) (by rw [e]; exact True.intro) (.inl rfl) k ⟨_, hx⟩ (exo_ok hx)
  have eu : upd H a (exo a C none) = H := by
    funext b
    by_cases hb : b = a
    · rw [hb, upd_same, e]
    · rw [upd_ne hb]
  rw [eu] at J
  exact h _ J

/-- names: the parameters first; only __class__ is free -/
structure FnScopeS (N P : List Str) (sc : Scope) : Prop where
  kind : sc.kind = .function
  co : sc.isCoroutine = false
  gen : sc.isGenerator = false
  nd : N.Nodup
  pre : N.take P.length = P
  par : ∀ x ∈ P, sc.names.lookup x = some .local
  nocell : ∀ y ∈ sc.names, y.2 ≠ .cell
  free : ∀ y ∈ sc.names, y.2 = .free → y.1 = "__class__"
abbrev envS (qual : Str) (scope : Scope) (L a : Addr) (cd : Value) (cc : Addr) : PySem.Env := PySem.W.envX qual scope L a cd [("__class__", cc)]
def cxS (CX : L2.CXT) (P : Program) (w : World) (K : PySem.W.Frag) (mg : Str → Option Value) (base : Heap) (N : List Str) (qual : Str) (scope : Scope) (f : Addr) (cd : Value) (cc : Addr) (A : Around) (outer : List PySem.Env) (s : Shared) (H : Hp) (E : XK) : Cx where
  prog := P
  w := w
  K := K
  mg := mg
  base := base
  A := A.deeper (envS qual scope s.heap.objs.size f cd cc)
  N := N
  s_0 := s
  H_0 := H
  env := envS qual scope s.heap.objs.size f cd cc
  outer := outer
  stack := envS qual scope s.heap.objs.size f cd cc :: outer
  ex := []
  calm := true
  fn := fun _ => false
  pn := []
  xe := fun e s' => wpAny (model P w) (A.deeper (envS qual scope s.heap.objs.size f cd cc)) (leaving (envS qual scope s.heap.objs.size f cd cc) e) (fun _ s'' => CX outer H s E e s'') (fun e' s'' => CX outer H s E e' s'') s'
theorem inv_startS {CX : L2.CXT} {P : Program} {w : World} {K : PySem.W.Frag} {mg : Str → Option Value} {base h1 : Heap} {N ps : List Str} {qual : Str} {scope : Scope} {f cc : Addr} {cd : Value} {A : Around} {outer : List PySem.Env} {s : Shared} {tk : Nat} {H : Hp} {E : XK} {us : List Value} {vs : List V} {v0 : Option Value}
    (S : FnScopeS N ps scope) (hd : A.handled = none) (e0 : L2.Env0 P w K mg base A outer s H) (hl : vs.length = ps.length) (r : Vals vs us) (hcc : base.IsCell cc v0) (hns : h1.Ns s.heap.objs.size (fun x => (ps.zip us).reverse.lookup x)) (hk : ∀ b o, s.heap.get? b = some o → h1.get? b = some o) :
    L2.Inv (cxS CX P w K mg base N qual scope f cd cc A outer s H E) [] (L2.start N vs) H { s with heap := h1, toks := tk } := by
  have hpl : ps.length ≤ N.length := by have := congrArg List.length S.pre; rw [List.length_take] at this; omega
  have noA : ∀ b : Addr, b ∉ (cxS CX P w K mg base N qual scope f cd cc A outer s H E).ex := fun b z => absurd (show b ∈ ([] : List Addr) from z) (by simp)
  have one : ∀ {y : Str} {c : Addr}, (cxS CX P w K mg base N qual scope f cd cc A outer s H E).env.cells.lookup y = some c → y = "__class__" ∧ c = cc := fun {y c} h => by
    have h' : List.lookup y [(("__class__" : Str), cc)] = some c := h
    rw [List.lookup_cons] at h'
    cases e : y == ("__class__" : Str) with
    | true => rw [e] at h'; cases h'; exact ⟨beq_iff_eq.mp e, rfl⟩
    | false => rw [e] at h'; cases h'
  obtain ⟨oc, hoc, hvc⟩ := hcc
  have hob := e0.bs _ _ hoc
  refine ⟨⟨e0.mod, S.kind, rfl, rfl, Nat.le_refl _, fun y z c h1 h2 => ?_, fun y hy => ?_, fun y c z _ => absurd (show false = true from z) Bool.false_ne_true, fun _ => hd, Around.frames_deeper e0.frames, .inr ⟨rfl, rfl⟩, fun b z => absurd z (noA b), e0.bs, e0.bsz, fun b _ _ => noA b, fun b z => absurd z (noA b), e0.funs, e0.frf⟩,
    rfl, e0.bare, Un.kept hk, ⟨_, hns, fun i y v h1 h2 h3 => ?_⟩, fun y c h => ?_, e0.hok.fresh (Nat.le_refl _), fun y c h => ?_, fun p hp => absurd (show p ∈ ([] : List (Addr × Obj)) from hp) (by simp), e0.hok.kept hk, ?_⟩
  · exact (one h1).1.trans (one h2).1.symm
  · have hy : scope.names.lookup y = some .cell ∨ scope.names.lookup y = some .free := hy
    rcases hy with hy | hy
    · exact absurd rfl (S.nocell _ (PySem.mem_of_lookup hy))
    · have q := S.free _ (PySem.mem_of_lookup hy) rfl
      dsimp only at q
      subst q
      exact ⟨cc, rfl⟩
  · have hi : i < vs.length := by
      unfold L2.start at h2
      by_cases hi : i < vs.length
      · exact hi
      · rw [List.getElem?_append_right (by simpa using hi)] at h2
        rw [List.getElem?_replicate] at h2
        split at h2 <;> cases h2
    have ha : vs[i]? = some v := by
      unfold L2.start at h2
      rw [List.getElem?_append_left (by simpa using hi), List.getElem?_map] at h2
      cases e : vs[i]? with
      | none => rw [e] at h2; cases h2
      | some a => rw [e] at h2; cases h2; rfl
    obtain ⟨u, hu, rv⟩ := r.get ha
    have hp : ps[i]? = some y := by
      rw [← S.pre, List.getElem?_take_of_lt (by omega)]; exact h1
    have ndP : ps.Nodup := by rw [← S.pre]; exact S.nd.sublist (List.take_sublist _ _)
    exact ⟨u, rv, .inl ⟨S.par y (List.mem_of_getElem? hp), NdefX.zip_look ndP hp hu⟩⟩
  · obtain ⟨rfl, rfl⟩ := one h
    exact ⟨v0, oc, hk _ _ hob.1, hvc⟩
  · obtain ⟨rfl, rfl⟩ := one h
    exact hob.2
  · unfold L2.start
    show _ = N.length
    rw [List.length_append, List.length_map, List.length_replicate]
    omega

/-! ### the promise -/
/-- __init__ called at a new exception: each field as it was passed, the last one first -/
def spI (C : Addr) (fields : List Str) : Sp := fun vs H Q E => ∃ (a : Addr) (ws : List V), vs = .ref a :: ws ∧ ws.length = fields.length ∧ H a = some (exo a C none) ∧
  ∀ (d : Addr) (H' : Hp), H d = none → d ≠ a → H' a = some (exo a C (some d)) → H' d = some (exd d (fields.zip ws).reverse) → (∀ b, b ≠ a → b ≠ d → H' b = H b) → Q .non H'
/-- self.f = parameter j, one behind another -/
def tSets (K : PySem.W.Frag) : List (Str × Nat) → TS
  | [] => tNext
  | (f, j) :: l => L2.tSeq (tOst K f (tVar 0) (tVar j)) (tSets K l)
theorem sets_more {K : PySem.W.Frag} {C a d : Addr} {σ : L2.St} {De : Ends} (T : OexC K C) (h0 : σ[0]? = some (some (.ref a))) : ∀ (l : List (Str × Nat × V)) (fs : List (Str × V)) (H : Hp), H a = some (exo a C (some d)) → d ≠ a → H d = some (exd d fs) → fs.length + l.length ≤ 900 →
    (∀ p ∈ l, PySem.W.findIn K (.ref C) p.1 = some none ∧ σ[p.2.1]? = some (some p.2.2)) → (∀ H', H' a = some (exo a C (some d)) → H' d = some (exd d ((l.map fun p => (p.1, p.2.2)).reverse ++ fs)) → (∀ b, b ≠ d → H' b = H b) → De.nx σ H') →
    tSets K (l.map fun p => (p.1, p.2.1)) De σ H
  | [], fs, H, ha, hne, hd, _, _, q => q H ha hd fun _ _ => rfl
  | (f, j, w) :: l, fs, H, ha, hne, hd, hl, hp, q => by
    obtain ⟨hno, hw⟩ := hp _ List.mem_cons_self
    refine ⟨w, hw, .ref a, h0, a, C, rfl, T, hno, .inr ⟨d, fs, ha, hd, by simp at hl; omega, ?_⟩⟩
    refine sets_more T h0 l ((f, w) :: fs) _ (by rw [upd_ne (Ne.symm hne)]; exact ha) hne upd_same (by simp at hl ⊢; omega) (fun p hm => hp p (List.mem_cons_of_mem _ hm)) fun H' e1 e2 e3 => q H' e1 ?_ fun b hb => (e3 b hb).trans (upd_ne hb)
    rw [e2, List.map_cons, List.reverse_cons, List.append_assoc]; rfl
theorem sets_all {K : PySem.W.Frag} {C a : Addr} {σ : L2.St} {De : Ends} {H : Hp} (T : OexC K C) (h0 : σ[0]? = some (some (.ref a))) (ha : H a = some (exo a C none)) : ∀ (l : List (Str × Nat × V)), l ≠ [] → l.length ≤ 900 →
    (∀ p ∈ l, PySem.W.findIn K (.ref C) p.1 = some none ∧ σ[p.2.1]? = some (some p.2.2)) → (∀ d H', H d = none → d ≠ a → H' a = some (exo a C (some d)) → H' d = some (exd d (l.map fun p => (p.1, p.2.2)).reverse) → (∀ b, b ≠ a → b ≠ d → H' b = H b) → De.nx σ H') →
    tSets K (l.map fun p => (p.1, p.2.1)) De σ H
  | [], h, _, _, _ => absurd rfl h
  | (f, j, w) :: l, _, hl, hp, q => by
    obtain ⟨hno, hw⟩ := hp _ List.mem_cons_self
    refine ⟨w, hw, .ref a, h0, a, C, rfl, T, hno, .inl ⟨ha, fun d hd hne => ?_⟩⟩
    refine sets_more (d := d) T h0 l [(f, w)] _ upd_same hne (by rw [upd_ne hne]; exact upd_same) (by simp at hl ⊢; omega) (fun p hm => hp p (List.mem_cons_of_mem _ hm)) fun H' e1 e2 e3 => q d H' hd hne e1 ?_ fun b hb hb' => (e3 b hb').trans ((upd_ne hb).trans (upd_ne hb'))
    rw [e2, List.map_cons, List.reverse_cons]
/-- what the written part says of the class's __init__ -/
structure InitD (P : Program) (K : PySem.W.Frag) (C : Addr) (x qual : Str) (params : Arguments) (body : List Stmt) (scope : Scope) (f : Addr) (fd : FuncData) : Prop where
  ex : ∃ (oc : Value) (od : Option Addr) (dV kV doc pm : Value) (an : Option Addr) (cda cc : Addr) (ct : Value) (osl : Array (Option Value)), fd = PySem.W.fnX x qual params body scope [("__class__", cc)] dV kV doc pm an (.ref cda) ct ∧ K.lookup f = some ⟨oc, od, .func fd, osl⟩ ∧
    PySem.W.codeIn K (.ref cda) qual = true ∧ (∃ ccl cdd vs ccs file tf, K.lookup cda = some ⟨ccl, cdd, .fields vs, ccs⟩ ∧ vs[2]? = some (.str file tf) ∧ ((P.main.file : Str) == file) = true) ∧ ∃ cl cld csl, K.lookup cc = some ⟨cl, cld, .cell (some (.ref C)), csl⟩
  oex : OexC K C
  sup : PySem.W.ks_superIn K C C "__init__" = some (some (.builtin "ValueError.__init__"))
  thi : PySem.W.nsIn K cStatics "thirdparty.any" = some none
  sub : PySem.W.subIn K (.ref C) (.type "ValueError") = some true
  mro : PySem.W.mroIn K C (.ref C) = some true
  top : (P.main.scope.names.lookup ("super" : Str)).isSome = false
section
variable {P : Program} {w : World} {K : PySem.W.Frag} {mg : Str → Option Value} {bs : Heap} {x qual : Str} {params : Arguments} {scope : Scope} {f C : Addr} {fd : FuncData} {N ps fields : List Str} {k : Nat}
theorem init_ok {CX : L2.CXT} {e : Expr} {es : List Expr} {rest : List Stmt} {p0 p1 p2 p3 p4 : Pos} {ar : Arg} {js : List Nat} (F : InitD P K C x qual params (.Expr (.Call (.Attribute (.Call (.Name "super" p0) [] [] p1) "__init__" p2) (e :: es) [] p3) p4 :: rest) scope f fd) (S : FnScopeS N ps scope)
    (hp : (params.posonlyargs ++ params.args).head? = some ar) (hps : ps.head? = some ar.arg) (hks : scope.names.lookup ("super" : Str) = some .globalImplicit) (hkc : scope.names.lookup ("__class__" : Str) = some .free) (hms : mg "super" = none)
    (hn : ps.length = fields.length + 1) (hne : fields ≠ []) (hlen : fields.length ≤ 100) (hno : ∀ y ∈ fields, PySem.W.findIn K (.ref C) y = some none) (hes : (e :: es).length = js.length) (hj : ∀ j ∈ js, j < ps.length)
    (he : ∃ pl : PySem.Env → Sem Bool, ∀ env, eval (.Call (.Attribute (.Call (.Name "super" p0) [] [] p1) "__init__" p2) (e :: es) [] p3) env = (do
      let ov ← attributeBase (.Call (.Name "super" p0) [] [] p1) "__init__" env (eval (.Call (.Name "super" p0) [] [] p1) env)
      standAt p2.atName
      let (f, first) ← holding [ov] (getMethod ov "__init__" (pl env))
      callWith p3 f first (backTo p3 (starEach (e :: es) env)) []))
    (hsw : ∀ env, swapsWith (.Call (.Attribute (.Call (.Name "super" p0) [] [] p1) "__init__" p2) (e :: es) [] p3) none p4.line env = pure false)
    (hes2 : (e :: es).length ≤ 100) (hst2 : ∀ env, starEach (e :: es) env = (false, eval e env) :: starEach es env) (hpl : ∀ env, (backTo p3 (starEach es env)).any (·.1) = false)
    (ha : ∀ (cdv : Value) (cc : Addr) (A : Around) (outer : List PySem.Env) (s : Shared) (H : Hp) (E : XK), ∃ ta : TA, PA (cxS CX P w K mg bs N qual scope f cdv cc A outer s H E) (e :: es) ta ∧ ∀ σ H Q, (∀ j ∈ js, ∃ v, σ[j]? = some (some v)) → (∀ vs, vs.length = js.length → Q vs H) → ta σ H Q)
    (hb : ∀ (cdv : Value) (cc : Addr) (A : Around) (outer : List PySem.Env) (s : Shared) (H : Hp) (E : XK), PSs (cxS CX P w K mg bs N qual scope f cdv cc A outer s H E) rest (tSets K (fields.zip (List.range' 1 fields.length)))) :
    FnOk P w K mg bs CX (k + 1) f fd ps (spI C fields) := by
  obtain ⟨pl, hev⟩ := he
  obtain ⟨oc, od, dV, kV, doc, pm, an, cda, cc, ct, osl, rfl, lk, hcd, ⟨ccl, cdd, cvs, ccs, file, tf, lc, hc2, hfile⟩, cl, cld, csl, lcc⟩ := F.ex
  refine ⟨fun vs H Q E ⟨a, ws, e1, e2, _⟩ => by rw [e1, hn, List.length_cons, e2], fun A outer s H args us vs Q E hr e0 hb' r hsp => ?_⟩
  obtain ⟨a, ws, rfl, hws, ea, q⟩ := hsp
  have hl : (V.ref a :: ws).length = ps.length := by rw [hn, List.length_cons, hws]
  have KX : K.In s.heap := e0.mod.kin.keeps fun b o e => (e0.bs b o e).1
  have lim : s.heap.NoLimit := e0.mod.nolimit.keeps fun b o e => (e0.bs b o e).1
  refine PySem.ks_codeAny_call_defAt (body := .Expr (.Call (.Attribute (.Call (.Name "super" p0) [] [] p1) "__init__" p2) (e :: es) [] p3) p4 :: rest) hr.depth (KX _ _ lk) rfl lim (PySem.W.codeRec_of KX hcd) rfl hb' S.nocell (fun y hy => S.par _ (List.of_mem_zip hy).1) (fun h1 hns hk1 => ?_) S.co S.gen S.kind
  have I : L2.Inv (cxS CX P w K mg bs N qual scope f (.ref cda) cc A outer s H E) [] (L2.start N (.ref a :: ws)) H { s with heap := h1, toks := s.toks + (ps.zip us).length } := inv_startS S hr.hd e0 hl r ⟨_, e0.mod.kin _ _ lcc, rfl⟩ hns hk1
  have hxe : ∀ e' s', (cxS CX P w K mg bs N qual scope f (.ref cda) cc A outer s H E).xe e' s' → wpAny (model P w) (A.deeper (envS qual scope s.heap.objs.size f (.ref cda) cc)) (leaving (envS qual scope s.heap.objs.size f (.ref cda) cc) e') (fun _ s'' => CR CX outer P w H s Q E (.error e') s'') (fun e'' s'' => CR CX outer P w H s Q E (.error e'') s'') s' := fun _ _ z => z
  generalize hX : cxS CX P w K mg bs N qual scope f (.ref cda) cc A outer s H E = X at I hxe
  have eP : X.prog = P := by rw [← hX]; rfl
  have ew : X.w = w := by rw [← hX]; rfl
  have eA : X.A = A.deeper (envS qual scope s.heap.objs.size f (.ref cda) cc) := by rw [← hX]; rfl
  have eE : X.env = envS qual scope s.heap.objs.size f (.ref cda) cc := by rw [← hX]; rfl
  have eK : X.K = K := by rw [← hX]; rfl
  have eN : X.N = N := by rw [← hX]; rfl
  have em : X.mg = mg := by rw [← hX]; rfl
  obtain ⟨ta, hta, hq⟩ := ha (.ref cda) cc A outer s H E
  have hbb := hb (.ref cda) cc A outer s H E
  rw [hX] at hta hbb
  show _root_.PySem.wpAt (model P w) (A.deeper (envS qual scope s.heap.objs.size f (.ref cda) cc)) (.func _ (envS qual scope s.heap.objs.size f (.ref cda) cc)) (execs _ (envS qual scope s.heap.objs.size f (.ref cda) cc)) _ _ _
  refine PySem.ks_wpAt_mono (E := X.xe) (Q := fun fl s' => SP X [] { nx := fun _ H' => Q .non H', rt := Q } fl s') ?_ (fun fl s' hs => ?_) (fun e' s' z => hxe e' s' z)
  · rw [← eA, ← eE, ← eP, ← ew]
    have hsr : N.length ≥ ps.length := by have := congrArg List.length S.pre; rw [List.length_take] at this; omega
    have h0 : (L2.start N (.ref a :: ws))[0]? = some (some (.ref a)) := rfl
    have hst : ∀ j (hj : j < ps.length), ∃ v, (L2.start N (.ref a :: ws))[j]? = some (some v) := fun j hj => by
      unfold L2.start
      rw [List.getElem?_append_left (by rw [List.length_map, hl]; exact hj), List.getElem?_map]
      exact ⟨(V.ref a :: ws)[j]'(by rw [hl]; exact hj), by rw [List.getElem?_eq_getElem (by rw [hl]; exact hj)]; rfl⟩
    have hpn : ps[0]? = some ar.arg := by rw [← hps]; cases ps <;> rfl
    have hN0 : X.N[0]? = some ar.arg := by
      rw [eN, ← hpn, ← S.pre, List.getElem?_take_of_lt (by omega)]
    have hal : scope.names.lookup ar.arg = some .local := S.par _ (List.mem_of_getElem? hpn)
    have kE : ∀ y, X.env.kindOf y = scope.names.lookup y := fun y => by rw [eE]; rfl
    obtain ⟨cd, hcd2⟩ : ∃ cd, PySem.W.clsIn K C = some cd := by
      cases h : PySem.W.clsIn K C with
      | none => have := F.sup; unfold PySem.W.ks_superIn at this; rw [h] at this; cases this
      | some cd => exact ⟨cd, rfl⟩
    have along : PySem.W.alongIn K "__init__" ((cd.mro.dropWhile (· != .ref C)).drop 1) = some (some (.builtin "ValueError.__init__")) := by
      have := F.sup; unfold PySem.W.ks_superIn at this; rw [hcd2] at this; exact this
    refine PySem.ks_wpAt_execs_cons (PySem.ks_wpAt_Expr_any (PySem.ks_wpAt_MethodCall (pl := pl X.env) ?_ (hev X.env)) (by unfold interactive; rw [I.ok.kind]; rfl) (hsw X.env))
    have I0 := I
    obtain ⟨m, hm, hlk⟩ := id I.loc
    obtain ⟨u0, ru0, l0⟩ := hlk 0 ar.arg (.ref a) hN0 h0 (by rw [eE]; exact .inl hal)
    obtain rfl : u0 = Value.ref a := ru0
    have ml : m ar.arg = some (.ref a) := by
      rcases l0 with ⟨_, z⟩ | ⟨z, _⟩
      · exact z
      · rw [kE, hal] at z; rcases z with z | z <;> cases z
    obtain ⟨mb, hb1, hb2⟩ := I.mod.blt
    generalize hs1 : ({ s with heap := h1, toks := s.toks + (ps.zip us).length } : Shared) = s1 at I hm ⊢
    obtain ⟨hp1, g1, d1, t1, os1⟩ := s1
    have KX1 : K.In hp1 := by have := I.kIn; rw [eK] at this; exact this
    obtain ⟨te, hoe⟩ := exo_at I.hok (by exact ea)
    obtain ⟨oD, hD1, hD2⟩ : ∃ oD, hp1.get? C = some oD ∧ oD.data = .cls cd := by
      unfold PySem.W.clsIn at hcd2
      split at hcd2
      · rename_i c d cd' sl ho
        cases hcd2
        exact ⟨_, KX1 _ _ ho, rfl⟩
      · cases hcd2
    have IA : PySem.W.InstAt hp1 a _ C none := ⟨hoe, rfl, rfl, trivial⟩
    refine PySem.ks_wpAt_super_base (fd := PySem.W.fnX x qual params (.Expr (.Call (.Attribute (.Call (.Name "super" p0) [] [] p1) "__init__" p2) (e :: es) [] p3) p4 :: rest) scope [("__class__", cc)] dV kV doc pm an (.ref cda) ct) (by rw [kE]; exact hks) (by rw [kE]; exact hkc) (by decide) (by rw [eE]) (KX1 _ _ lk) rfl hp (by rw [eE]) (KX1 _ _ lc) rfl hc2 (by rw [eP]; exact hfile) (by rw [eP]; exact F.top) ?_
    refine PySem.W.ks_loadName_global I.ok.kind (by rw [kE]; exact hks) (Calls.loadGlobal_builtin (by rw [I.ok.glob]; exact I.mod.glob.keeps I.bk) (by rw [em]; exact hms) (by rw [I.ok.blt]; exact hb1.keeps I.bk) ((hb2 _ (by decide)).trans (by rfl)) ⟨rfl, ?_⟩)
    refine wpAny_loadName_free I.ok.kind (by rw [kE]; exact hkc) (by rw [eE]; rfl) ⟨_, KX1 _ _ lcc, rfl⟩ ?_
    refine wpAny_loadName_local I.ok.kind (by rw [kE]; exact hal) hm ml ?_
    refine PySem.ks_wpAny_isType_cls hD1 hD2 ⟨rfl, ?_⟩
    refine PySem.ks_wpAny_call_super hD1 hD2 hoe rfl (fun c z => by cases z) (PySem.W.looks_mroIn KX1 F.mro) (fun h2 e2 k2 => ?_)
    have I2 : L2.Inv X [] (L2.start N (.ref a :: ws)) H ⟨h2, g1, d1, t1, os1⟩ := I.kept (t' := t1) k2
    have KX2 : K.In h2 := KX1.keeps k2
    have IA2 : PySem.W.InstAt h2 a _ C none := ⟨k2 _ _ hoe, rfl, rfl, trivial⟩
    refine PySem.W.kxs_getMethod PySem.W.kxs_ValueError (K := K) e2 (PySem.W.looks_opaque KX2 F.thi) (l₀ := cd.mro) (fun A Q E s k q => wpAny_bind ((PySem.W.looks_clsIn KX2 hcd2) A _ E s k (wpAny_pure q))) rfl KX2 along (IA2.type.andThen (PySem.W.looks_subIn KX2 F.sub)) (PySem.W.ks_ne KX2 IA2 hcd2) (by decide) ?_
    have hu : (h2.push (PySem.W.kxs_mw "ValueError.__init__" a)).get? h2.objs.size = some (PySem.W.kxs_mw "ValueError.__init__" a) := Heap.get?_push_at rfl rfl
    have I3 : L2.Inv X [] (L2.start N (.ref a :: ws)) H ⟨h2.push (PySem.W.kxs_mw "ValueError.__init__" a), g1, d1, t1 + 1, os1⟩ := I2.kept (t' := t1 + 1) fun b o z => Heap.get?_push_of_some _ z
    have fp := I2.fpOk (b := h2.objs.size) (H' := H) (Nat.le_refl _) (I2.hok.fresh (Nat.le_refl _))
    have I4 : L2.Inv X [(h2.objs.size, PySem.W.kxs_mw "ValueError.__init__" a)] (L2.start N (.ref a :: ws)) H ⟨h2.push (PySem.W.kxs_mw "ValueError.__init__" a), g1, d1, t1 + 1, os1⟩ := I3.pins_of fun p hp => by
      rw [List.mem_singleton.mp hp]
      exact ⟨hu, fp.1, fp.2.1, fp.2.2.1, fun v z => by cases z⟩
    refine PySem.W.kxs_callWith (i := "ValueError.__init__") (x := a) ?_ ?_
    · rw [hst2 X.env]
      show (false || (backTo p3 (starEach es X.env)).any (·.1)) = false
      rw [hpl X.env]; rfl
    · have run := hta.run p3 _ _ _ _ (fun vs H' => H' = H ∧ vs.length = js.length) I4 (hq _ _ _ (fun j hj' => hst j (hj j hj')) fun vs hv => ⟨rfl, hv⟩)
      rw [hst2 X.env] at run ⊢
      refine Calls.evalArgs_plain (thn run fun us2 s5 ⟨vs2, H5, I5, r5, eH, hv5⟩ => ?_)
      subst eH
      obtain ⟨hu5, _⟩ := I5.pin _ (List.mem_append_right _ (List.mem_singleton.mpr rfl))
      refine ⟨hu5, ?_⟩
      have I6 : L2.Inv X [] (L2.start N (.ref a :: ws)) H5 s5 := I5.pins_of fun p hp => by cases hp
      have ox : OexC X.K C := by rw [eK]; exact F.oex
      have hl5 : us2.length ≤ sizeLine := by
        rw [← r5.length, hv5, ← hes, sizeLine_eq]
        have := hes2
        omega
      rw [List.nil_append]
      refine call_mw ox I6 ea hu5 hl5 fun s7 I7 => ?_
      refine wpAt_of_wpAny (hbb.run [] s7 _ _ _ I7 ?_)
      have hz : fields.zip (List.range' 1 fields.length) = ((fields.zip ((List.range' 1 fields.length).zip ws)).map fun p => (p.1, p.2.1)) := by
        refine List.ext_getElem? fun i => ?_
        simp only [List.getElem?_map, List.getElem?_zip_eq_some, List.zip, List.getElem?_zipWith]
        cases h1 : fields[i]? with
        | none => rfl
        | some y =>
          have hi : i < fields.length := (List.getElem?_eq_some_iff.mp h1).1
          rw [List.getElem?_range' (by omega), List.getElem?_eq_getElem (by rw [hws]; exact hi)]
          rfl
      rw [hz]
      refine sets_all (C := C) F.oex h0 ea _ (fun z => ?_) ?_ (fun p hp => ?_) fun d H' hd hn' e1 e2 e3 => ?_
      · have := congrArg List.length z
        simp [hws] at this
        exact hne this
      · simp; omega
      · obtain ⟨i, hi⟩ := List.mem_iff_getElem?.mp hp
        obtain ⟨y, j, v⟩ := p
        obtain ⟨h1, h2⟩ := List.getElem?_zip_eq_some.mp hi
        obtain ⟨h3, h4⟩ := List.getElem?_zip_eq_some.mp h2
        dsimp only at h1 h2 h3 h4 ⊢
        refine ⟨hno _ (List.mem_of_getElem? h1), ?_⟩
        have hif : i < fields.length := (List.getElem?_eq_some_iff.mp h1).1
        rw [List.getElem?_range' (by omega)] at h3
        cases h3
        unfold L2.start
        rw [List.getElem?_append_left (by rw [List.length_map, List.length_cons, hws]; omega), List.getElem?_map, Nat.one_mul, Nat.add_comm 1 i, List.getElem?_cons_succ, h4]
        rfl
      · refine q d H' hd hn' e1 ?_ e3
        rw [e2]
        refine congrArg (fun l => some (exd d (List.reverse l))) ?_
        refine List.ext_getElem? fun i => ?_
        simp only [List.getElem?_map, List.zip, List.getElem?_zipWith]
        cases h1 : fields[i]? with
        | none => rfl
        | some y =>
          have hi : i < fields.length := (List.getElem?_eq_some_iff.mp h1).1
          rw [List.getElem?_range' (by omega), List.getElem?_eq_getElem (by rw [hws]; exact hi)]
          rfl
  · have fin : ∀ {σ' : L2.St} {H' : Hp} {v : V} {u : Value}, L2.Inv X [] σ' H' s' → RelV v u → Q v H' → CE outer P w H s Q u s' :=
      fun {σ' H' v u} J rv q => by
        have J' : L2.Inv (cxS CX P w K mg bs N qual scope f (.ref cda) cc A outer s H E) [] σ' H' s' := by rw [hX]; exact J
        exact ⟨v, H', J'.os, J'.bare, J'.base, J'.hok, rv, q⟩
    cases fl with
    | ret u =>
      obtain ⟨v, σ', H', J, rv, q⟩ := hs
      exact fin J rv q
    | next =>
      obtain ⟨σ', H', J, q⟩ := hs
      exact fin (v := V.non) (u := Value.none) J rfl q
    | brk =>
      obtain ⟨_, _, _, q⟩ := hs
      exact False.elim q
    | cont =>
      obtain ⟨_, _, _, q⟩ := hs
      exact False.elim q
end
end DL

/-! The D-layer: raise, try/except, isinstance of a caught exception, its fields. -/
namespace DL
open PySem PySem.Spec PyProof.Rows L2

/-! ### raise -/
theorem RepF.append {g : Gd} {B : Hp} : ∀ {vs ws : List (Str × V)} {ds es : List (Str × D)}, RepF g B vs ds → RepF g B ws es → RepF g B (vs ++ ws) (ds ++ es)
  | _, _, _, _, .nil, s => s
  | _, _, _, _, .cons h r, s => .cons h (RepF.append r s)
theorem RepF.rev {g : Gd} {B : Hp} : ∀ {vs : List (Str × V)} {ds : List (Str × D)}, RepF g B vs ds → RepF g B vs.reverse ds.reverse
  | _, _, .nil => .nil
  | _, _, .cons h r => by rw [List.reverse_cons, List.reverse_cons]; exact (RepF.rev r).append (.cons h .nil)
theorem RepF.zip {g : Gd} {B : Hp} : ∀ (ns : List Str) {vs : List V} {ds : List D}, RepL g B vs ds → RepF g B (ns.zip vs) (ns.zip ds)
  | [], _, _, _ => .nil
  | _ :: _, _, _, .nil => .nil
  | _ :: ns, _, _, .cons h r => .cons h (RepF.zip ns r)
/-- C(..) of an own exception: each field as it is passed -/
def eMk (c : Str) (names : List Str) (fs : Fx (List Val)) : Fx D := fun ρ ω => (fs ρ ω).bind fun xs ω => match plain xs with
  | some ds => if ds.length = names.length then .ok (.exc c (names.zip ds).reverse) ω else .bad
  | none => .bad
def sRaise (m : Fx D) : Sx := fun ρ ω => match m ρ ω with
  | .ok d ω' => .exc d ρ ω'
  | _ => .bad
section
variable {T : List (Addr × Str)} {X : Cx} {W : WX} {e a b c : Expr} {es : List Expr} {fs : Fx (List Val)} {pos pos' p : Pos} {k : Nat} {C fI : Addr} {fd : FuncData} {ps fields : List Str} {x : Str}
theorem sx_raise (hc : X.calm = true) (tk : L2.Takes X W) (O : OexC X.K C) (iC : PySem.W.findIn X.K (.ref C) "__init__" = some (some (.ref fI))) (tI : PySem.W.typeIn X.K (.ref fI) = some (.type "function"))
    (F1 : FnOk X.prog X.w X.K X.mg X.base (L2.CX X.prog X.w) k fI fd ps (spI C fields)) (hf : fields.length ≤ 100) (hr : Room (k + 1) X.A) (hb : Binds X.K fd ps []) (hg : Gl X x) (hm : X.mg x = some (.ref C)) (ha : AX T X W0 (e :: es) fs)
    (hdb : (x == ("__debug__" : Str)) = false := by decide) (he : starEach (e :: es) X.env = (false, eval e X.env) :: starEach es X.env := by rfl) (hpl : (backTo pos (starEach es X.env)).any (·.1) = false := by rfl) :
    SX T X W (.Raise (some (.Call (.Name x p) (e :: es) [] pos)) none pos') (sRaise (eMk x fields fs)) :=
  PS.imp (L2.ps_raise hc tk (L2.pmk_oex (dvs := []) O iC tI F1 hr hb .nil (L2.passes_call tk0 fun _ _ _ _ z => z) hg hm ha hdb he hpl)) fun De σ H ⟨ρ, ω, α, sr, rs, p⟩ => by
    refine ⟨ρ, ω, α, sr, rs, ?_⟩
    unfold sRaise eMk at p
    cases e1 : fs ρ ω with
    | exc y ω' => rw [e1] at p; exact p.elim
    | bad => rw [e1] at p; exact p.elim
    | ok xs ω1 =>
      rw [e1] at p
      intro vs α1 H1 go1 rx
      dsimp only [Res.bind] at p
      split at p
      · rename_i d ω2 e2
        split at e2
        · rename_i ds ep
          split at e2
          · rename_i hl
            cases e2
            have r := plain_rep rx ep
            have hlv : vs.length = fields.length := by rw [r.len, hl]
            refine ⟨by omega, fun a ha => ⟨a, vs, by rw [List.append_nil], hlv, upd_same, fun d H' hd hne q1 q2 q3 => ?_⟩⟩
            rw [upd_ne hne] at hd
            refine ⟨rfl, d, _, q1, q2, hd, ?_⟩
            have eH : upd (del H' a) d (.xd (fields.zip vs).reverse) = upd H1 d (.xd (fields.zip vs).reverse) := by
              funext b
              by_cases hbd : b = d
              · rw [hbd, upd_same, upd_same]
              · rw [upd_ne hbd, upd_ne hbd]
                by_cases hba : b = a
                · rw [hba, del_same, ha]
                · rw [del_ne hba, q3 b hba hbd, upd_ne hba]
            rw [eH]
            have go2 := Go.grow go1.sr (Grow.new (p := d) (o := .xd (fields.zip vs).reverse) hd)
            have np : d ∉ lv ω1 α1 := Lv.no go1.sr.there hd
            refine p _ _ σ α1 _ (go1.trans go2) ((go1.trans go2).rs rs) ⟨C, hm, rfl, d, _, rfl, (off_of np).trans upd_same, ?_⟩
            exact ((RepF.zip fields r).rev).mono go2.ext
          · cases e2
        · cases e2
      · exact p.elim
end

/-! ### isinstance of a caught exception -/
end DL
namespace PySem.W
open PySem PySem.Spec PySem.Calls PyProof.Rows
section
variable {prog : Program} {w : World} {A : Around} {E : Value → Shared → Prop} {s : Shared} {K : Frag} {x D : Addr} {ox : Obj} {od : Option Obj}
theorem dl_findObj {C : Addr} {name : Str} {a g : Value} (hc : (clsIn K C).isSome = true) (ha : findIn K (.ref C) name = some (some a)) (hg : specialIn K a "__get__" = some (some g)) (ht : takesIn K a = some true) : findObj K C od name = some (.bind g a) := by
  obtain ⟨cd, hc⟩ := Option.isSome_iff_exists.mp hc
  unfold findObj
  rw [hc, Option.bind_some, ha, Option.bind_some]
  simp [hg, ht]
theorem dl_class {Q : Option Value → Shared → Prop} (hga : findIn K (.ref D) "__getattribute__" = some (some (.builtin "BaseException.__getattribute__"))) (hgt : findIn K (.ref D) "__getattr__" = some none) (hsub : subIn K (.ref D) (.type "BaseException") = some true)
    (hdct : hasDictIn K D = true) (ha : findIn K (.ref D) "__class__" = some (some (.builtin "object.__class__")))
    (hn : specialIn K (.builtin "object.__class__") "__get__" = some (some (.builtin "getset_descriptor.__get__"))) (htk : takesIn K (.builtin "object.__class__") = some true) (hm : mroIn K D (.type "object") = some true)
    (X : K.In s.heap) (I : InstAt s.heap x ox D od) (h : Q (some (.ref D)) { s with toks := s.toks + 1 }) : wpAny (model prog w) A (getAttr? (.ref x) "__class__") Q E s := by
  have hf : findObj K D od "__class__" = some (.bind (.builtin "getset_descriptor.__get__") (.builtin "object.__class__")) := dl_findObj (by obtain ⟨cd, hc, _⟩ := any_some hdct; rw [hc]; rfl) ha hn htk
  obtain ⟨hp, g, d, t, os⟩ := s
  have L0 := I.type (M := model prog w)
  have L1 := looks_findIn (M := model prog w) X hga
  have L2 := looks_findIn (M := model prog w) X hgt
  have L3 := looks_find (M := model prog w) X I hf
  have sub : Looks (model prog w) hp (isInstance (.ref x) (.type "BaseException")) true := L0.andThen (looks_subIn X hsub)
  have hx0 : (false && onTheHeap (Value.builtin "BaseException.__getattribute__")) = false := rfl
  have hx2 : (Value.builtin "BaseException.__getattribute__" == Value.builtin "object.__getattribute__") = false := by decide +kernel
  have hx1 : (onTheHeap (Value.ref D) && Value.builtin "BaseException.__getattribute__" == Value.builtin "object.__getattribute__") = false := by rw [hx2]; rfl
  unfold getAttr? getAttrBy? getAttrBy
  refine wpAny_bind (wpAny_mkText (wpAny_bind (wpAny_attempt (wpAny_holding (wpAny_bind (L0.at (wpAny_bind (L1.at ?_))))))))
  show wpAny _ _ (if (onTheHeap (Value.ref D) && Value.builtin "BaseException.__getattribute__" == Value.builtin "object.__getattribute__") = true then _ else _) _ _ _
  rw [hx1, if_neg Bool.false_ne_true]
  unfold getAttrByItsOwn hookBefore
  refine wpAny_bind ?_
  rw [if_pos (show onTheHeap (Value.ref D) = true from rfl)]
  refine L2.at ?_
  refine wpAny_bind (wpAny_attempt (wpAny_holding ?_))
  unfold callGetattribute
  rw [hx0, if_neg Bool.false_ne_true]
  unfold boundAndCalled
  rw [PySem.F.excAttr_ValueError.ga.bind (.ref x)]
  refine wpAny_bind (wpAny_pure ?_)
  show wpAny _ _ (call (.builtin "BaseException.__getattribute__") [.ref x, .str "__class__" t]) _ _ _
  refine wpAny_call (codeAny_call_builtin PySem.F.excAttr_ValueError.ga.plain PySem.F.entry_bexc_ga ?_)
  refine @check_slot (model prog w) _ _ ⟨hp, g, d, t + 1, os⟩ "BaseException.__getattribute__" "BaseException" "__getattribute__" (.ref x) [.str "__class__" t] [] _ (by decide +kernel) (by decide +kernel) sub (PySem.F.args_bexc_ga (.ref x) (.str "__class__" t)) ?_
  unfold Builtin.«object.__getattribute__»
  refine wpAny_bind (wpAny_of_eq (a := ((Value.ref x : Value), [Value.str "__class__" t])) (by first | rfl | (simp only [slotArgs]; rfl)) ?_)
  refine wpAny_bind (wpAny_pure (wpAny_bind (L0.at (wpAny_bind (L3.at ?_)))))
  show wpAny _ _ (holding [Value.builtin "object.__class__"] (call (.builtin "getset_descriptor.__get__") [.builtin "object.__class__", .ref x, .ref D]) >>= ret) _ _ _
  refine wpAny_bind (wpAny_holding (wpAny_call (class_get (s := ⟨hp, g, d, t + 1, os⟩) (ox := ox) (od := od) X I hm ?_)))
  refine wpAny_pure ?_
  show wpAny _ _ (handedOut (.ref D)) _ _ _
  rw [handedOut_of (v := .ref D) rfl]
  first
    | exact wpAny_pure (wpAny_pure h)
    | exact wpAny_pure h
    | exact wpAny_pure (wpAny_bind (wpAny_pure (wpAny_pure h)))
theorem dl_kitx (C : _root_.L2.ExcC K D) : KitX K (.ref x) (.ref D) (fun h => ∃ ox od, InstAt h x ox D od) where
  ty := fun _ _ _ ⟨_, _, I⟩ => I.type
  it := fun _ _ X _ => by
    obtain ⟨cdD, hcD, _⟩ := any_some C.hd
    unfold clsIn at hcD
    split at hcD
    · rename_i c' d' cd' sl' ho
      intro A' Q' E' s' k q
      unfold isType loadHead
      exact wpAny_bind (wpAny_loadPart (k _ _ (X _ _ ho)) (wpAny_pure q))
    · cases hcD
  ne := fun h tp dd its n sl X htp => by
    obtain ⟨cdD, hcD, _⟩ := any_some C.hd
    refine Bool.eq_false_iff.mpr fun q => ?_
    have e : D = tp := Value.ref.inj (beq_iff_eq.mp q)
    subst e
    unfold clsIn at hcD
    split at hcD
    · rename_i c' d' cd' sl' ho
      have z := (X _ _ ho).symm.trans htp
      cases z
    · cases hcD
  ca := fun X ⟨_, _, I⟩ k => dl_class C.hg C.hk C.hs C.hd C.ha C.hn C.ht C.hm X I k
end
end PySem.W
namespace DL
open PySem PySem.Spec PyProof.Rows L2
/-- the exception at a is an instance -/
theorem exh_inst {P : Program} {w : World} {H : Hp} {h : Heap} {a C d : Addr} {fvs : List (Str × V)} (hok : HOk P w H h) (ha : H a = some (exh a (.ref C) (some d))) (hd : H d = some (.xd fvs)) : ∃ ox od, PySem.W.InstAt h a ox C (some od) ∧ ∃ mA, h.Ns1 d mA ∧ (∀ f, RelO (fvs.lookup f) (mA f)) ∧ ∀ y, PySem.W.lookIn y od = some (mA y) := by
  have x : ObjOk P w H h a (.ext fun h => ∃ (oe : Obj) (vs : Array Value), h.get? a = some oe ∧ L2.Zc (.ref C) (some d) oe ∧ oe.data = .fields vs) := hok a _ ha
  obtain ⟨⟨oe, vs, he, hz, hv⟩, _⟩ := x
  have hx : ObjOk P w H h d (.xd fvs) := hok d _ hd
  obtain ⟨mA, hns, hr⟩ := hx
  obtain ⟨od, ho, hl⟩ := lookIn_ns hns
  exact ⟨oe, od, ⟨he, hz.1, by unfold PySem.W.notCls; rw [hv], by rw [hz.2]; exact ho⟩, mA, hns, hr, hl⟩
/-- isinstance(e, c), isinstance(e, (c, ..)), e caught -/
def rIsX (K : PySem.W.Frag) : List V → Hp → VK → Prop := fun xs H Q => ∃ (a C d : Addr) (fvs : List (Str × V)) (b : Bool), H a = some (exh a (.ref C) (some d)) ∧ H d = some (.xd fvs) ∧ ExcC K C ∧
  ((∃ c u, xs = [.ref a, c] ∧ ClsV c u ∧ PySem.W.kitOne K (.ref C) u = some b ∧ Q (.bl b) H) ∨ (∃ tp cs us, xs = [.ref a, .ref tp] ∧ H tp = some (.tup cs) ∧ Paired ClsV cs us ∧ PySem.W.kitAny K (.ref C) us = some b ∧ Q (.bl b) H) ∨
    ∃ tp dd us n sl, xs = [.ref a, .ref tp] ∧ K.lookup tp = some ⟨.type "tuple", dd, .seq (List.toArray us) n, sl⟩ ∧ PySem.W.kitAny K (.ref C) us = some b ∧ Q (.bl b) H)
theorem call_isX {X : Cx} : CallR X (.builtin "isinstance") (rIsX X.K) := by
  intro pins s σ H xs us Q I r h
  obtain ⟨a, C, d, fvs, b, ha, hd, hC, h⟩ := h
  obtain ⟨ox, od, J, _⟩ := exh_inst I.hok ha hd
  rcases h with ⟨c, u, rfl, k, e, q⟩ | ⟨tp, cs, ws, rfl, hT, k, e, q⟩ | ⟨tp, dd, ws, n, sl, rfl, hk, e, q⟩
  · obtain ⟨u1, u2, rfl, r1, r2⟩ := vals2 r
    have e2 := k.eq r2
    subst e2
    cases (show u1 = Value.ref a from r1)
    exact PySem.W.kia_one (PySem.W.dl_kitx hC) I.kIn ⟨_, _, J⟩ e (fun z => nomatch z) fun tk => ⟨.bl b, H, I.tok tk, rfl, q⟩
  · obtain ⟨u1, u2, rfl, r1, r2⟩ := vals2 r
    cases (show u1 = Value.ref a from r1)
    cases (show u2 = Value.ref tp from r2)
    obtain ⟨_, its, rv, o, h1, h2, n, h3⟩ := (show ObjOk X.prog X.w H s.heap tp (.tup cs) from I.hok tp _ hT)
    have e3 := ClsV.all k rv
    subst e3
    obtain ⟨oc, od, dt, sl⟩ := o
    simp only at h2 h3
    subst h2 h3
    exact PySem.W.kia_tup (PySem.W.dl_kitx hC) I.kIn ⟨_, _, J⟩ h1 e (fun z => nomatch z) fun tk => ⟨.bl b, H, I.tok tk, rfl, q⟩
  · obtain ⟨u1, u2, rfl, r1, r2⟩ := vals2 r
    cases (show u1 = Value.ref a from r1)
    cases (show u2 = Value.ref tp from r2)
    exact PySem.W.kia_tup (PySem.W.dl_kitx hC) I.kIn ⟨_, _, J⟩ (I.kIn _ _ hk) e (fun z => nomatch z) fun tk => ⟨.bl b, H, I.tok tk, rfl, q⟩
/-- what is known of the program's exception classes: sub is who is whose instance, fld which fields there are -/
structure XTab (g : Gd) (sub : Str → Str → Option Bool) (fld : Str → Str → Bool) : Prop where
  sub : ∀ c y b, sub c y = some b → ∃ C Y, g.mg c = some (.ref C) ∧ g.mg y = some (.ref Y) ∧ ExcC g.K C ∧ PySem.W.kitOne g.K (.ref C) (.ref Y) = some b ∧ PySem.W.exmOne g.K (.ref C) (.ref Y) = some b
  fld : ∀ c f, fld c f = true → ∃ C, g.mg c = some (.ref C) ∧ XfC g.K C ∧ PySem.W.findIn g.K (.ref C) f = some none
/-- glos as names -/
def glosD : List D → Option (List Str)
  | [] => some []
  | .glo y :: r => (glosD r).map (y :: ·)
  | _ => none
def subAny (sub : Str → Str → Option Bool) (c : Str) : List Str → Option Bool
  | [] => some false
  | y :: r => match sub c y with
    | some true => some true
    | some false => subAny sub c r
    | none => none
def isxD (sub : Str → Str → Option Bool) : List D → Option D
  | [.exc c _, .glo y] => (sub c y).map .bl
  | [.exc c _, .tup (q :: cs)] => (glosD (q :: cs)).bind fun ys => (subAny sub c ys).map .bl
  | _ => none
def isaD (sub : Str → Str → Option Bool) (xs : List D) : Option D := match isxD sub xs with
  | some z => some z
  | none => isiD xs
abbrev rIsAll (K : PySem.W.Frag) : List V → Hp → VK → Prop := fun xs H Q => rIsiA K xs H Q ∨ rIsX K xs H Q
theorem h_isa {X : Cx} : CallR X (.builtin "isinstance") (rIsAll X.K) := h_isi.or call_isX
theorem BR.excE {g : Gd} {l : List Addr} {H : Hp} {v : V} {c : Str} {fs : List (Str × D)} (h : BR g l H v (.exc c fs)) : ∃ a C d fvs, v = .ref a ∧ H a = some (exh a (.ref C) (some d)) ∧ H d = some (.xd fvs) ∧ g.mg c = some (.ref C) ∧ RepF g (off l H) fvs fs := by
  cases h with
  | of h => cases h with
    | exc h hd hc r => exact ⟨_, _, _, _, rfl, (off_some h).2, (off_some hd).2, hc, r⟩
section
variable {g : Gd} {sub : Str → Str → Option Bool} {fld : Str → Str → Bool}
theorem glo_pair {B : Hp} : ∀ {cs : List D} {vs : List V} {ys : List Str}, RepL g B vs cs → glosD cs = some ys → ∃ us, Paired ClsV vs us
  | _, _, _, .nil, _ => ⟨[], .nil⟩
  | _, _, _, .cons (d := d) hv r, h => by
    unfold glosD at h
    split at h
    · rename_i e; cases e
    · rename_i y r' e
      cases e
      obtain ⟨l, h1, h2⟩ := Option.map_eq_some_iff.mp h
      obtain ⟨us, hp⟩ := glo_pair r h1
      cases hv with
      | glo hm => exact ⟨_, .cons (.own _) hp⟩
    · cases h
theorem glo_any (tab : XTab g sub fld) {B : Hp} {c : Str} {C : Addr} (hc : g.mg c = some (.ref C)) : ∀ {cs : List D} {vs : List V} {ys : List Str} {b : Bool}, RepL g B vs cs → glosD cs = some ys → subAny sub c ys = some b → ∃ us, Paired ClsV vs us ∧ PySem.W.kitAny g.K (.ref C) us = some b
  | _, _, _, _, .nil, h, k => by
    cases h
    cases k
    exact ⟨[], .nil, rfl⟩
  | _, _, _, b, .cons (d := d) hv r, h, k => by
    unfold glosD at h
    split at h
    · rename_i e; cases e
    · rename_i y r' e
      cases e
      obtain ⟨l, h1, h2⟩ := Option.map_eq_some_iff.mp h
      subst h2
      cases hv with
      | @glo _ A hm =>
        unfold subAny at k
        split at k
        · rename_i eb
          cases k
          obtain ⟨C', Y, m1, m2, _, m3, _⟩ := tab.sub _ _ _ eb
          rw [hc] at m1; cases m1
          rw [hm] at m2; cases m2
          obtain ⟨us, hp⟩ := glo_pair r h1
          exact ⟨_, .cons (.own _) hp, by unfold PySem.W.kitAny; rw [m3]⟩
        · rename_i eb
          obtain ⟨C', Y, m1, m2, _, m3, _⟩ := tab.sub _ _ _ eb
          rw [hc] at m1; cases m1
          rw [hm] at m2; cases m2
          obtain ⟨us, hp, q⟩ := glo_any tab hc r h1 k
          exact ⟨_, .cons (.own _) hp, by unfold PySem.W.kitAny; rw [m3]; exact q⟩
        · cases k
    · cases h
theorem subAny_some {c y : Str} {ys : List Str} {b : Bool} (h : subAny sub c (y :: ys) = some b) : ∃ b', sub c y = some b' := by
  unfold subAny at h
  split at h
  · exact ⟨_, by assumption⟩
  · exact ⟨_, by assumption⟩
  · cases h
theorem c_isa (tab : XTab g sub fld) : Cb g (rIsAll g.K) (isaD sub) := by
  intro l H vs ds z Q lvs br hz k
  unfold isaD at hz
  cases e : isxD sub ds with
  | none => rw [e] at hz; exact .inl (c_isi l H vs ds z Q lvs br hz k)
  | some z' =>
    rw [e] at hz
    cases hz
    refine .inr ?_
    unfold isxD at e
    split at e
    · obtain ⟨b, h3, rfl⟩ := Option.map_eq_some_iff.mp e
      obtain ⟨v, u, rfl, bv, bu⟩ := br.two
      obtain ⟨a, C, d, fvs, rfl, ha, hd, hc, _⟩ := bv.excE
      obtain ⟨A, rfl, hm⟩ := bu.gloE
      obtain ⟨C', Y, m1, m2, m3, m4, _⟩ := tab.sub _ _ _ h3
      rw [hc] at m1; cases m1
      rw [hm] at m2; cases m2
      exact ⟨a, _, d, fvs, b, ha, hd, m3, .inl ⟨_, _, rfl, .own _, m4, k _ _ .refl (.bl _)⟩⟩
    · rename_i c fs q cs
      obtain ⟨ys, h1, h2⟩ := Option.bind_eq_some_iff.mp e
      obtain ⟨b, h3, rfl⟩ := Option.map_eq_some_iff.mp h2
      obtain ⟨v, u, rfl, bv, bu⟩ := br.two
      obtain ⟨a, C, d, fvs, rfl, ha, hd, hc, _⟩ := bv.excE
      obtain ⟨tp, ws, rfl, hT, r⟩ := bu.tupA
      obtain ⟨us, hp, hk⟩ := glo_any tab hc r h1 h3
      have hC : ExcC g.K C := by
        unfold glosD at h1
        split at h1
        · rename_i e'; cases e'
        · rename_i y r' e'
          cases e'
          obtain ⟨l', h4, h5⟩ := Option.map_eq_some_iff.mp h1
          subst h5
          obtain ⟨b', hb'⟩ := subAny_some h3
          obtain ⟨C', Y, m1, _, m3, _⟩ := tab.sub _ _ _ hb'
          rw [hc] at m1; cases m1
          exact m3
        · cases h1
      rcases hT with hT | ⟨⟨oc, od, dt, sl⟩, its, n, h7, h8, h9, _, h10⟩
      · exact ⟨a, C, d, fvs, b, ha, hd, hC, .inr (.inl ⟨tp, ws, us, rfl, hT, hp, hk, k _ _ .refl (.bl _)⟩)⟩
      · dsimp only at h8 h9
        subst h8 h9
        have e2 := ClsV.all hp h10
        exact ⟨a, C, d, fvs, b, ha, hd, hC, .inr (.inr ⟨tp, od, its.toList, n, sl, rfl, h7, by rw [e2]; exact hk, k _ _ .refl (.bl _)⟩)⟩
    · cases e
end

/-! ### e.f, e caught -/
def eXf (fld : Str → Str → Bool) (f : Str) (fe : Fx Val) : Fx Val := fun ρ ω => (fe ρ ω).bind fun x ω => match x with
  | .d (.exc c fs) => if fld c f then (match fs.lookup f with | some z => .ok (.d z) ω | none => .bad) else .bad
  | _ => .bad
theorem ex_xf {T : List (Addr × Str)} {X : Cx} {W : WX} {e : Expr} {fe : Fx Val} {f : Str} {pos : Pos} {sub : Str → Str → Option Bool} {fld : Str → Str → Bool} (tab : XTab (gX T X) sub fld) (he : EX T X W e fe) (hb : attributeBase e f X.env (eval e X.env) = eval e X.env := by rfl) : EX T X W (.Attribute e f pos) (eXf fld f fe) := by
  refine ⟨fun pins s σ H Q I ⟨ρ, ω, α, sr, rs, p⟩ => ?_⟩
  refine attr_of hb (thn (he.run pins s σ H _ I (tG_car sr rs p)) fun u s1 ⟨v, H1, I1, rv, x, ω1, α1, sr1, rs1, rx, p1⟩ => ?_)
  dsimp only at p1
  split at p1
  · rename_i c fs
    split at p1
    · rename_i hk
      split at p1
      · rename_i z ez
        obtain ⟨a, C, d, fvs, rfl, ha, hd, hc, r⟩ := (BR.of rx).excE
        obtain ⟨w, hw, rw'⟩ := r.look ez
        obtain ⟨C', m1, T', hno⟩ := tab.fld _ _ hk
        rw [hc] at m1; cases m1
        obtain rfl : u = Value.ref a := rv
        obtain ⟨ox, od, J, mA, hns, hr, hl⟩ := exh_inst I1.hok ha hd
        obtain ⟨u, hu, ru⟩ := RelO.some_of (v := w) (o := mA f) (by rw [← hw]; exact hr f)
        exact HandSPX.exc_get I1.kIn J T'.ga T'.gg T'.exC (PySem.W.findObj_own T'.hdC hno rfl (by rw [hl, hu])) (handed_of ru) ⟨w, H1, I1.tok _, ru, p1.here sr1 rw'⟩
      · exact p1.elim
    · exact p1.elim
  · exact p1.elim
end DL

/-! The D-layer: try: body, except C as n: suite; what is caught is known from then on. -/
namespace DL
open PySem PySem.Spec PyProof.Rows L2
theorem exh_own {a x : Addr} {cls : Value} {d : Option Addr} : exh a cls d ≠ .own x := fun z => by
  have z' : HO.ext _ = HO.own x := z
  cases z'
theorem exh_ok {P : Program} {w : World} {H : Hp} {h : Heap} {a : Addr} {cls : Value} {d : Option Addr} {oe : Obj} {vs : Array Value} (he : h.get? a = some oe) (hz : L2.Zc cls d oe) (hd : oe.data = .fields vs) : ObjOk P w H h a (exh a cls d) :=
  ⟨⟨oe, vs, he, hz, hd⟩, ⟨_, he⟩, fun h1 h2 z k => by
    obtain ⟨o, v, q1, q2, q3⟩ := z
    exact ⟨o, v, k _ q1, q2, q3⟩⟩
section
variable {X : Cx} {pins : List (Addr × Obj)} {σ : L2.St} {H : Hp} {s : Shared}
/-- an exception is tracked from here on -/
theorem Inv.track {a : Addr} {cls : Value} {d : Option Addr} {oe : Obj} {vs : Array Value} (I : L2.Inv X pins σ H s) (he : s.heap.get? a = some oe) (hz : L2.Zc cls d oe) (hd : oe.data = .fields vs) (na : H a = none) (n0 : X.s_0.heap.get? a = none) (nL : a ≠ X.env.locals)
    (hp : ∀ p ∈ X.pn ++ pins, p.1 ≠ a) : L2.Inv X pins σ (upd H a (exh a cls d)) s := by
  have nt : ∀ {b : Addr} {o : HO}, H b = some o → b ≠ a := fun {b o} e z => by rw [z, na] at e; cases e
  refine ⟨I.ok, I.os, I.bare, ⟨I.base.keep, I.base.slot, fun b o e n hx => ?_, I.base.there, fun b xs q => ?_, fun b o u q => ?_, fun b ps q => ?_⟩, I.loc, I.cell, ?_, fun x c e => ?_, fun p hm => ?_, fun b o q => ?_, I.len⟩
  · rw [upd_ne (fun z => by rw [z, n0] at e; cases e)]; exact I.base.free b o e n hx
  · have q' := I.base.tups b xs q
    rw [upd_ne (nt q')]; exact q'
  · have q' := I.base.frzs b o u q
    rw [upd_ne (nt q')]; exact q'
  · obtain ⟨m, q'⟩ := I.base.tbls b ps q
    exact ⟨m, by rw [upd_ne (nt q')]; exact q'⟩
  · rw [upd_ne (Ne.symm nL)]; exact I.free
  · obtain ⟨v, oc, q1, q2⟩ := I.cell x c e
    rw [upd_ne (fun z => by rw [z, he] at q1; cases q1; rw [hd] at q2; cases q2)]
    exact I.freeC x c e
  · obtain ⟨q1, q2, q3⟩ := I.pin p hm
    exact ⟨q1, by rw [upd_ne (hp p hm)]; exact q2, q3⟩
  · by_cases hb : b = a
    · subst hb
      rw [upd_same] at q
      cases q
      exact exh_ok he hz hd
    · rw [upd_ne hb] at q
      exact (I.hok b o q).stay (fun c v _ z => z) (fun c hc => by rw [upd_ne (nt hc)]; exact hc) fun c xs hc => by rw [upd_ne (nt hc)]; exact hc
/-- the context of an except suite: what is caught is tracked -/
abbrev suiteT (X : Cx) (a : Addr) : Cx := { X with A := X.A.mark (some (.ref a)), calm := false, xe := fun _ _ => False }
theorem Ok.suiteT (ok : X.Ok) (a : Addr) : (DL.suiteT X a).Ok :=
  ⟨ok.mod, ok.kind, ok.glob, ok.blt, ok.above, ok.inj, ok.has, ok.cab, (fun z => absurd (show false = true from z) Bool.false_ne_true), ok.frames, ok.stk, ok.exf, ok.bs, ok.bsz, ok.noex, ok.exfs, ok.funs, ok.frf⟩
theorem Inv.suiteT (I : L2.Inv X pins σ H s) (a : Addr) : L2.Inv (DL.suiteT X a) pins σ H s := ⟨Ok.suiteT I.ok a, I.os, I.bare, I.base, I.loc, I.cell, I.free, I.freeC, I.pin, I.hok, I.len⟩
theorem Inv.unsuiteT {a : Addr} (I : L2.Inv (DL.suiteT X a) pins σ H s) (ok : X.Ok) : L2.Inv X pins σ H s := ⟨ok, I.os, I.bare, I.base, I.loc, I.cell, I.free, I.freeC, I.pin, I.hok, I.len⟩
end
/-- what the clause 'except x as n' wishes of an exception of the body: slot i is n's -/
def wAsT (K : PySem.W.Frag) (c : Value) (i : Nat) (ts : TS) (Wout : WX) (De : Ends) : WX := fun cls d σ H =>
  ∃ b, PySem.W.exmOne K cls c = some b ∧ (b = true → ∀ a, H a = none → ts { nx := fun σ' H' => De.nx (σ'.set i none) H', rt := De.rt, bk := fun σ' H' => De.bk (σ'.set i none) H', ct := fun σ' H' => De.ct (σ'.set i none) H' } (σ.set i (some (.ref a))) (upd H a (exh a cls d))) ∧
    (b = false → Wout cls d σ H)
section
variable {X : Cx} {x n : Str} {c : Value} {i : Nat} {body suite : List Stmt} {b₀ : Stmt} {np pos pos' : Pos} {tb : WX → TS} {ts : TS} {Wout : WX}
theorem ps_try_asT (hs : X.stack = X.env :: X.outer) (hf : X.env.frame = some X.env.locals) (hex : X.ex = []) (hN : X.N.Nodup) (hi : X.N[i]? = some n) (hln : X.env.kindOf n = some .local) (hc : Names X x c) (tk : L2.Takes X Wout)
    (hb : ∀ (W : WX) (pn : List (Addr × Obj)) (xe : Value → Shared → Prop), L2.Takes (X.tr pn xe) W → PassesOwn (model X.prog X.w) X.A X.env xe → PSs (X.tr pn xe) body (tb W))
    (hsu : ∀ (a : Addr), PSs (suiteT X a) (b₀ :: suite) ts) :
    PS X (.Try body [.ExceptHandler (some (.Name x np)) (some n) (b₀ :: suite) pos'] [] [] pos) (fun D σ H => tb (wAsT X.K c i ts Wout D) D σ H) := by
  refine ⟨fun pins s σ H D I h => ?_⟩
  have ok := I.ok
  have hfr : X.A.frames = some (X.env :: X.outer) := by rw [ok.frames, hs]
  have hloc : Loc X.env.scope n := .inl hln
  refine wpAny_Try_except ?_
  refine wpAny_mono ((hb (wAsT X.K c i ts Wout D) (X.pn ++ pins) (fun e s₁ => wpAny (model X.prog X.w) X.A (noteFrame e X.env) (fun _ s₂ => wpAny (model X.prog X.w) X.A (setFlight e none) (fun _ s₃ =>
    wpAny (model X.prog X.w) X.A (handleBy e X.env [.ExceptHandler (some (.Name x np)) (some n) (b₀ :: suite) pos']) (SP X pins D) X.xe s₃) X.xe s₂) X.xe s₁) (fun u s' xx => ?_) PassesOwn.looking).run [] s σ H D (I.toTry _) h) (fun f s1 hsp => ?_) (fun e s1 he => he)
  · obtain ⟨a, B, sI, pins', σ', H', cls, d, rfl, J', nb, up, sky, na, os, ag, b, hb1, hyes, hno⟩ := xx
    have J : L2.Inv X pins σ' H' sI := J'.ofTry ok
    have sky' : Sky B (X.env :: X.outer) a (Zc cls d) X.env.locals s'.heap := by rw [← hs]; exact sky
    have hBa : B.get? a = none := by
      rcases sky' with ⟨_, q, _⟩ | q | q
      · exact q
      · exact q.2.1
      · exact q.2.1
    show wpAny (model X.prog X.w) X.A (noteFrame (.ref a) X.env) _ _ _
    refine Sky.land Zc.steady hfr hf sky' fun h3 fl3 up3 => ?_
    have J3 : L2.Inv X pins σ' H' { s' with heap := h3 } := J.landed nb fl3.1 (up.trans up3) os ag
    obtain ⟨oe3, vs3, he3, hz3, hd3⟩ := fl3.there
    have notFr : ∀ {h : Heap} {o : Obj} {vs : Array Value}, h.FunFrames B (X.env :: X.outer) → h.get? a = some o → o.data = .fields vs → a ∉ frs (X.env :: X.outer) := fun {h o vs} ff e dd hm => by
      obtain ⟨_, o', e', hnf⟩ := ff.mem hm
      rw [e] at e'; cases e'
      exact hnf _ dd
    have nfr := notFr fl3.2.2.1 he3 hd3
    have nL : a ≠ X.env.locals := fun z => nfr (List.mem_filterMap.mpr ⟨X.env, List.mem_cons_self, by rw [hf, z]⟩)
    have nF : a ∉ X.fs := fun hm => by
      obtain ⟨e, he, q⟩ := List.mem_filterMap.mp hm
      exact nfr (List.mem_filterMap.mpr ⟨e, List.mem_cons_of_mem _ he, q⟩)
    have nI : sI.heap.get? a = none := by
      cases e : sI.heap.get? a with
      | none => rfl
      | some o => have := nb a o e (by rw [hs]; exact nfr); rw [hBa] at this; cases this
    have n0 : X.s_0.heap.get? a = none := by
      cases e : X.s_0.heap.get? a with
      | none => rfl
      | some o =>
        obtain ⟨o', q⟩ := J.base.there a o e (by rw [hex]; exact fun z => nomatch z)
        rw [nI] at q; cases q
    have npin : ∀ p ∈ X.pn ++ pins, p.1 ≠ a := fun p hp z => by
      have q := (J.pin p hp).1
      rw [z, nI] at q; cases q
    have S3 := J3.suite he3 hd3 na nL nF
    refine wpAny_handleBy_cons (codeAny_handlers_test ?_) (by intro q; cases q)
    have LT : PySem.W.Looks (model X.prog X.w) h3 (typeOf (.ref a)) cls := fun A Q E s k q => wpAny_typeOf_ref (k _ _ he3) (by rw [hz3.1]; exact q)
    have LM := PySem.W.exm_one (M := model X.prog X.w) (J3.kIn) LT hb1
    have test : ∀ {Q : Value → Shared → Prop} {E : Value → Shared → Prop}, Q c { s' with heap := h3 } → wpAny (model X.prog X.w) (X.A.mark (some (.ref a))) (eval (.Name x np) X.env) Q E { s' with heap := h3 } := fun {Q E} q => by
      obtain ⟨hg, hdbg, hm | ⟨hm, hv, hnn⟩⟩ := hc
      · exact ld_glob (X := X.suite a ((a, oe3) :: (X.pn ++ pins))) S3 hg hm q hdbg
      · exact ld_blt (X := X.suite a ((a, oe3) :: (X.pn ++ pins))) S3 hg hm hv q hnn hdbg
    refine test (LM.here ?_)
    cases b with
    | true =>
      refine codeAny_handlers_suite_as ?_
      refine HandSPX.lands_againZ fl3 fun h4 fl4 up4 => ?_
      have J4 : L2.Inv X pins σ' H' { s' with heap := h4 } := J.landed nb fl4.1 ((up.trans up3).trans up4) os ag
      obtain ⟨oe4, vs4, he4, hz4, hd4⟩ := fl4.there
      have S4 := Inv.suiteT (Inv.track J4 he4 hz4 hd4 na n0 nL npin) a
      refine store_ok (X := suiteT X a) (v := .ref a) S4 hN hi hloc rfl (fun s5 S5 => ?_) (.inr hln)
      refine wpAny_mono ((hsu a).run pins s5 _ _ _ S5 (hyes rfl a na)) (fun f s6 hsp => ?_) (fun _ _ z => False.elim z)
      have end_ : ∀ {σ6 : L2.St} {H6 : Hp} {Q : Shared → Prop}, L2.Inv (suiteT X a) pins σ6 H6 s6 → (∀ s7, L2.Inv X pins (σ6.set i none) H6 s7 → Q s7) →
          wpAny (model X.prog X.w) X.A (do bindName X.env n .none; unbindBehindTheSuite X.env n pos') (fun _ s7 => Q s7) X.xe s6 := fun {σ6 H6 Q} S6 hq => gone_ok (Inv.unsuiteT S6 ok) hN hi hln hq
      cases f with
      | next =>
        obtain ⟨σ6, H6, S6, q6⟩ := hsp
        exact end_ S6 fun s7 J7 => ⟨_, _, J7, q6⟩
      | brk =>
        obtain ⟨σ6, H6, S6, q6⟩ := hsp
        exact end_ S6 fun s7 J7 => ⟨_, _, J7, q6⟩
      | cont =>
        obtain ⟨σ6, H6, S6, q6⟩ := hsp
        exact end_ S6 fun s7 J7 => ⟨_, _, J7, q6⟩
      | ret u =>
        obtain ⟨v6, σ6, H6, S6, r6, q6⟩ := hsp
        exact end_ S6 fun s7 J7 => ⟨_, _, _, J7, r6, q6⟩
    | false =>
      show wpAny _ X.A (handleBy (.ref a) X.env []) _ _ _
      refine wpAny_handleBy_nil ?_
      obtain ⟨k1, k2, k3, oe, vs, T, oT, ts', he, hz, hd, h1, hr⟩ := id fl3
      unfold PySem.passOn
      refine wpAny_bind (wpAny_field he hd h1 ?_)
      rw [if_neg (show ¬ ((Value.ref T == Value.none) = true) from by simp)]
      have fin : wpAny (model X.prog X.w) X.A (setFlight (.ref a) X.env.frame) (fun _ s4 => wpAny (model X.prog X.w) X.A (throw (.ref a) : Sem Flow) (SP X pins D) X.xe s4) X.xe { s' with heap := h3 } := by
        rw [hf]
        refine HandSPX.setFlight_upZ fl3 fun h4 hh4 up4 => wpAny_throw (tk _ _ ?_)
        exact ⟨a, B, sI, pins, σ', H', cls, d, rfl, J, nb, (up.trans up3).trans up4, .inr (.inr (by rw [hs]; exact hh4)), na, os, ag, hno rfl⟩
      first
        | exact wpAny_bind (wpAny_pure (wpAny_bind fin))
        | exact wpAny_bind fin
  · cases f with
    | next =>
      obtain ⟨σ', H', J', q⟩ := hsp
      exact wpAny_execs_nil ⟨σ', H', J'.ofTry ok, q⟩
    | brk =>
      obtain ⟨σ', H', J', q⟩ := hsp
      exact ⟨σ', H', J'.ofTry ok, q⟩
    | cont =>
      obtain ⟨σ', H', J', q⟩ := hsp
      exact ⟨σ', H', J'.ofTry ok, q⟩
    | ret u =>
      obtain ⟨v, σ', H', J', r, q⟩ := hsp
      exact ⟨v, σ', H', J'.ofTry ok, r, q⟩
end
/-- try: body, except c as n: suite -/
def sTry (sub : Str → Str → Option Bool) (c : Str) (i : Nat) (body suite : Sx) : Sx := fun ρ ω => match body ρ ω with
  | .exc (.exc cn fs) ρ' ω' => (match sub cn c with
    | some true => (match suite (ρ'.set i (some (.d (.exc cn fs)))) ω' with
      | .nx ρ2 ω2 => .nx (ρ2.set i none) ω2
      | .bk ρ2 ω2 => .bk (ρ2.set i none) ω2
      | .ct ρ2 ω2 => .ct (ρ2.set i none) ω2
      | .rt x ω2 => .rt x ω2
      | _ => .bad)
    | some false => .exc (.exc cn fs) ρ' ω'
    | none => .bad)
  | .exc _ _ _ => .bad
  | r => r
theorem sx_try {T : List (Addr × Str)} {X : Cx} {W : WX} {x n : Str} {C : Addr} {i : Nat} {body suite : List Stmt} {b₀ : Stmt} {np pos pos' : Pos} {fb fs : Sx} {sub : Str → Str → Option Bool} {fld : Str → Str → Bool} (tab : XTab (gX T X) sub fld)
    (hs : X.stack = X.env :: X.outer) (hf : X.env.frame = some X.env.locals) (hex : X.ex = []) (hN : X.N.Nodup) (hi : X.N[i]? = some n) (hln : X.env.kindOf n = some .local) (hg : Gl X x) (hm : X.mg x = some (.ref C)) (tk : L2.Takes X W)
    (hb : ∀ (W : WX) (pn : List (Addr × Obj)) (xe : Value → Shared → Prop), L2.Takes (X.tr pn xe) W → PassesOwn (model X.prog X.w) X.A X.env xe → BX T (X.tr pn xe) W body fb)
    (hsu : ∀ (a : Addr), BX T (suiteT X a) W0 (b₀ :: suite) fs) (hdb : (x == ("__debug__" : Str)) = false := by decide) :
    SX T X W (.Try body [.ExceptHandler (some (.Name x np)) (some n) (b₀ :: suite) pos'] [] [] pos) (sTry sub x i fb fs) :=
  PS.imp (ps_try_asT (tb := fun W => tS (gX T X) W fb) (ts := tS (gX T X) W0 fs) hs hf hex hN hi hln ⟨hg, hdb, .inl hm⟩ tk hb hsu) fun De σ H ⟨ρ, ω, α, sr, rs, p⟩ => by
    refine ⟨ρ, ω, α, sr, rs, ?_⟩
    unfold sTry at p
    cases e : fb ρ ω with
    | nx ρ' ω' => rw [e] at p; exact p
    | bk ρ' ω' => rw [e] at p; exact p
    | ct ρ' ω' => rw [e] at p; exact p
    | rt y ω' => rw [e] at p; exact p
    | bad => rw [e] at p; exact p
    | exc d ρ' ω' =>
      rw [e] at p
      intro cls dd σ' α' H' go rs' hx
      cases d with
      | exc cn fls =>
        dsimp only at p
        obtain ⟨C', hc', rfl, d, fvs, rfl, hd, r⟩ := hx
        cases es : sub cn x with
        | none => rw [es] at p; exact p.elim
        | some b =>
          rw [es] at p
          obtain ⟨C2, Y, m1, m2, _, _, m3⟩ := tab.sub _ _ _ es
          rw [hc'] at m1; cases m1
          have m2 : X.mg x = some (.ref Y) := m2
          rw [hm] at m2; cases m2
          cases b with
          | false => exact ⟨false, m3, ⟨fun z => Bool.noConfusion z, fun _ => p _ _ σ' α' H' go rs' ⟨_, hc', rfl, d, fvs, rfl, hd, r⟩⟩⟩
          | true =>
            refine ⟨true, m3, ⟨fun _ a na => ?_, fun z => Bool.noConfusion z⟩⟩
            dsimp only at p
            have g2 := Go.grow go.sr (Grow.new (p := a) (o := exh a (.ref C') (some d)) na)
            have np : a ∉ lv ω' α' := Lv.no go.sr.there na
            have rp : Rep (gX T X) (base ω' α' (upd H' a (exh a (.ref C') (some d)))) (.ref a) (.exc cn fls) :=
              .exc ((off_of np).trans upd_same) (g2.ext _ _ hd (fun ps z => by cases z)) hc' (r.mono g2.ext)
            have goT := go.trans g2
            refine ⟨ρ'.set i (some (.d (.exc cn fls))), ω', α', g2.sr, (g2.rs rs').set (x := .d (.exc cn fls)) rp, ?_⟩
            cases q : fs (ρ'.set i (some (.d (.exc cn fls)))) ω' with
            | nx ρ2 ω2 => rw [q] at p; exact fun σ2 α2 H2 go2 r2 => p (σ2.set i none) α2 H2 (goT.trans go2) r2.unset
            | bk ρ2 ω2 => rw [q] at p; exact fun σ2 α2 H2 go2 r2 => p (σ2.set i none) α2 H2 (goT.trans go2) r2.unset
            | ct ρ2 ω2 => rw [q] at p; exact fun σ2 α2 H2 go2 r2 => p (σ2.set i none) α2 H2 (goT.trans go2) r2.unset
            | rt y ω2 => rw [q] at p; exact fun v α2 H2 go2 hv => p v α2 H2 (goT.trans go2) hv
            | exc y ρ2 ω2 => rw [q] at p; exact p.elim
            | bad => rw [q] at p; exact p.elim
      | _ => exact hx.elim
end DL

/-! The D-layer: dicts. -/
namespace DL
open PySem PySem.Spec PyProof.Rows L2

def putD (ds : List (D × D)) (k : Key) (z : D) : List (D × D) :=
  if (ds.any fun kv => decide (keyOf kv.1 = some k)) = true then ds.map (fun kv => if keyOf kv.1 = some k then (kv.1, z) else kv) else ds ++ [(keyD k, z)]
section
variable {g : Gd} {B : Hp}
theorem RepK.append : ∀ {vs ws : List (Key × V)} {ds es : List (D × D)}, RepK g B vs ds → RepK g B ws es → RepK g B (vs ++ ws) (ds ++ es)
  | _, _, _, _, .nil, s => s
  | _, _, _, _, .cons h r, s => .cons h (RepK.append r s)
theorem RepK.any {k : Key} : ∀ {kvs : List (Key × V)} {ds : List (D × D)}, RepK g B kvs ds → (kvs.any fun kv => decide (kv.1 = k)) = (ds.any fun kv => decide (keyOf kv.1 = some k))
  | _, _, .nil => rfl
  | _, _, .cons (k := k') h r => by
    rw [List.any_cons, List.any_cons, RepK.any r, keyOf_keyD]
    by_cases e : k' = k
    · subst e; simp
    · have e2 : ¬ (some k' = some k) := fun z => e (Option.some.inj z)
      simp [e]
theorem RepK.mapk {k : Key} {v : V} {z : D} (hv : Rep g B v z) : ∀ {kvs : List (Key × V)} {ds : List (D × D)}, RepK g B kvs ds → RepK g B (kvs.map fun kv => if kv.1 = k then (kv.1, v) else kv) (ds.map fun kv => if keyOf kv.1 = some k then (kv.1, z) else kv)
  | _, _, .nil => .nil
  | _, _, .cons (k := k') h r => by
    rw [List.map_cons, List.map_cons]
    dsimp only
    rw [keyOf_keyD]
    by_cases e : k' = k
    · rw [if_pos e, if_pos (congrArg some e)]; exact .cons hv (RepK.mapk hv r)
    · rw [if_neg e, if_neg (fun z => e (Option.some.inj z))]; exact .cons h (RepK.mapk hv r)
theorem RepK.put {kvs : List (Key × V)} {ds : List (D × D)} {k : Key} {v : V} {z : D} (r : RepK g B kvs ds) (hv : Rep g B v z) : RepK g B (putK kvs k v) (putD ds k z) := by
  unfold putK putD
  rw [r.any (k := k)]
  split
  · exact RepK.mapk hv r
  · exact r.append (.cons hv .nil)
end
/-- the pairs of a display -/
def pairsF : List (Fx Val × Fx Val) → Fx (List (Val × Val))
  | [] => fun _ ω => .ok [] ω
  | (fk, fv) :: r => fun ρ ω => (fk ρ ω).bind fun x ω => (fv ρ ω).bind fun y ω => (pairsF r ρ ω).bind fun ps ω => .ok ((x, y) :: ps) ω
/-- as keys and data -/
def keyed : List (Val × Val) → Option (List (Key × D))
  | [] => some []
  | (.d x, .d z) :: r => (keyOf x).bind fun k => (keyed r).map ((k, z) :: ·)
  | _ => none
def mergeD (ds : List (D × D)) (kzs : List (Key × D)) : List (D × D) := kzs.foldl (fun acc kz => putD acc kz.1 kz.2) ds
/-- {k: v, ..}; it changes no more -/
def eDisp (l : List (Fx Val × Fx Val)) : Fx Val := fun ρ ω => (pairsF l ρ (ω ++ [some (.dct [])])).bind fun ps ω' => match keyed ps, ω'[ω.length]? with
  | some kzs, some (some (.dct [])) => if kzs.length ≤ 15 then .ok (.d (.dct (mergeD [] kzs))) (ω'.take ω.length) else .bad
  | _, _ => .bad
def eDisp0 : Fx Val := fun _ ω => .ok (.d (.dct [])) ω
def eNewD : Fx Val := fun _ ω => .ok (.loc ω.length) (ω ++ [some (.dct [])])
section
variable {T : List (Addr × Str)} {X : Cx} {W : WX} {pos : Pos} {e a : Expr}
inductive RepPs (g : Gd) (B : Hp) (α : List Addr) : List (V × V) → List (Val × Val) → Prop
  | nil : RepPs g B α [] []
  | cons {v w : V} {x y : Val} {ps : List (V × V)} {qs : List (Val × Val)} (h : RepV g B α v x) (k : RepV g B α w y) (r : RepPs g B α ps qs) : RepPs g B α ((v, w) :: ps) ((x, y) :: qs)
theorem RepPs.mono {g : Gd} {B B' : Hp} {α α' : List Addr} (e : Ext B B') (p : α <+: α') {vs : List (V × V)} {xs : List (Val × Val)} (h : RepPs g B α vs xs) : RepPs g B' α' vs xs := by
  induction h with
  | nil => exact .nil
  | cons h k r ih => exact .cons (h.mono e p) (k.mono e p) ih
inductive PPD (T : List (Addr × Str)) (X : Cx) (W : WX) (pos : Pos) : List (Option Expr) → List Expr → List (Fx Val × Fx Val) → Prop
  | nil : PPD T X W pos [] [] []
  | cons {k v : Expr} {ks : List (Option Expr)} {vs : List Expr} {fk fv : Fx Val} {l : List (Fx Val × Fx Val)} (hk : EX T X W k fk) (hv : EX T X W v fv) (r : PPD T X W pos ks vs l) : PPD T X W pos (some k :: ks) (v :: vs) ((fk, fv) :: l)
abbrev trsOf (g : Gd) (W : WX) (l : List (Fx Val × Fx Val)) : List (TE × TE) := l.map fun p => (tE g W p.1, tE g W p.2)
theorem PPD.pps {ks : List (Option Expr)} {vs : List Expr} {l : List (Fx Val × Fx Val)} (h : PPD T X W pos ks vs l) : PPs X pos ks vs (trsOf (gX T X) W l) := by
  induction h with
  | nil => exact pps_nil
  | cons hk hv r ih => exact pps_cons hk hv ih
theorem PPD.all {ks : List (Option Expr)} {vs : List Expr} {l : List (Fx Val × Fx Val)} (h : PPD T X W pos ks vs l) : ks.all (·.isSome) = true ∧ ks.length = vs.length := by
  induction h with
  | nil => exact ⟨rfl, rfl⟩
  | cons hk hv r ih => exact ⟨by rw [List.all_cons, ih.1]; rfl, by rw [List.length_cons, List.length_cons, ih.2]⟩
theorem pairs_of {g : Gd} {σ : L2.St} : ∀ (l : List (Fx Val × Fx Val)) {H : Hp} {Q : List (V × V) → Hp → Prop}, tG g W (RepPs g) (pairsF l) σ H Q → tPairs (trsOf g W l) σ H Q
  | [], H, Q, ⟨ρ, ω, α, sr, rs, p⟩ => p.here sr .nil
  | (fk, fv) :: l, H, Q, ⟨ρ, ω, α, sr, rs, p⟩ => by
    refine tG_step sr rs p fun v H1 x ω1 α1 go1 rx sr1 rs1 p1 => ?_
    refine tG_step sr1 rs1 p1 fun w H2 y ω2 α2 go2 ry sr2 rs2 p2 => ?_
    refine pairs_of l (tG_step sr2 rs2 p2 fun ps H3 qs ω3 α3 go3 rz sr3 rs3 p3 => ?_)
    exact p3.here sr3 (.cons (go3.rv (go2.rv rx)) (go3.rv ry) rz)
theorem keyed_of {g : Gd} {B : Hp} {α : List Addr} : ∀ {ps : List (V × V)} {qs : List (Val × Val)} {kzs : List (Key × D)}, RepPs g B α ps qs → keyed qs = some kzs → ∃ kvs : List (Key × V), ps = kvs.map (fun kv => (kV kv.1, kv.2)) ∧ kvs.length = kzs.length ∧
    ∀ (acc : List (Key × V)) (dacc : List (D × D)), RepK g B acc dacc → RepK g B (mergeK acc kvs) (mergeD dacc kzs)
  | _, _, _, .nil, h => by cases h; exact ⟨[], rfl, rfl, fun acc dacc r => r⟩
  | _, _, _, .cons (v := v) (w := w) (x := x) (y := y) hx hy r, h => by
    unfold keyed at h
    split at h
    · rename_i e; cases e
    · rename_i x' z r' e
      cases e
      obtain ⟨k, h1, h2⟩ := Option.bind_eq_some_iff.mp h
      obtain ⟨l', h3, rfl⟩ := Option.map_eq_some_iff.mp h2
      obtain ⟨kvs, e1, e2, e3⟩ := keyed_of r h3
      have hk : v = kV k := by
        have := keyD_of h1
        subst this
        cases k with
        | inl i => cases hx; rfl
        | inr s => cases hx; rfl
      exact ⟨(k, w) :: kvs, by rw [List.map_cons, ← e1, hk], by simp [e2], fun acc dacc q => e3 _ _ (RepK.put q hy)⟩
    · cases h
theorem ex_disp {ks : List (Option Expr)} {vs : List Expr} {l : List (Fx Val × Fx Val)} (h : PPD T X W pos ks vs l) (h0 : ks ≠ []) (h15 : ks.length ≤ 15) : EX T X W (.Dict ks vs pos) (eDisp l) :=
  PE.imp (pe_disp h.pps h.all.1 h.all.2 h0 h15) fun σ H Q ⟨ρ, ω, α, sr, rs, p⟩ D0 hD => by
    have go := Go.newLoc (m := .dct []) (o := .dK []) sr hD (.dct .nil)
    have hat : (α ++ [D0])[ω.length]? = some D0 := by rw [List.getElem?_append_right (by rw [sr.len]; exact Nat.le_refl _), sr.len]; simp
    refine pairs_of l ⟨ρ, _, _, go.sr, go.rs rs, ?_⟩
    unfold eDisp at p
    cases e : pairsF l ρ (ω ++ [some (.dct [])]) with
    | exc x ω' => rw [e] at p; exact fun c d α' H' go' hv => p c d α' H' (go.trans go') hv
    | bad => rw [e] at p; exact p
    | ok qs ω' =>
      rw [e] at p
      intro ps α' H' go' rp
      dsimp only [Res.bind] at p
      have goT := go.trans go'
      have hat' := pre_at go'.pre hat
      split at p
      · rename_i kzs ek eo
        split at p
        rotate_left
        · exact p.elim
        rename_i hk15
        obtain ⟨a', o, h1, h2, h3, h4⟩ := goT.sr.get eo
        rw [hat'] at h1; cases h1
        have h4' := h4
        obtain ⟨kvs, e1, e2, e3⟩ := keyed_of rp ek
        cases h4 with
        | dct r0 =>
          cases r0
          have hl : kvs.length ≤ 15 := by omega
          refine ⟨h3, kvs, e1, hl, ?_⟩
          have gw := Go.write (m' := .dct (mergeD [] kzs)) (o' := .dK (mergeK [] kvs)) goT.sr eo hat' h3 h4' (.dct (e3 _ _ .nil))
          have goF := goT.trans gw
          have gl := Go.leave sr goF
          have et : (ω'.set ω.length (some (.dct (mergeD [] kzs)))).take ω.length = ω'.take ω.length := by
            rw [List.take_set]
            exact List.set_eq_of_length_le (by rw [List.length_take]; exact Nat.min_le_left _ _)
          have hlv := lv_apart (m := ω.length) (n := ω.length) goF.sr.len goF.sr.nd (by rw [List.getElem?_set_self (List.getElem?_eq_some_iff.mp eo).1]) hat' (Nat.le_refl _)
          rw [et] at gl hlv
          refine p _ _ _ gl ?_
          refine .dct ((off_of hlv).trans upd_same) ?_
          have hx : Ext (base (ω'.set ω.length (some (.dct (mergeD [] kzs)))) α' (upd H' D0 (.dK (mergeK [] kvs)))) (base (ω'.take ω.length) (α'.take ω.length) (upd H' D0 (.dK (mergeK [] kvs)))) := by
            rw [← et]; exact off_less (lv_take _ _ _)
          exact ((e3 _ _ .nil).mono gw.ext).mono hx
      · exact p.elim
theorem ex_disp0 : EX T X W (.Dict [] [] pos) eDisp0 := PE.imp pe_dnewK fun σ H Q ⟨ρ, ω, α, sr, rs, p⟩ D0 hD => p.grown sr (.new hD) (.dct ((off_of (Lv.no sr.there hD)).trans upd_same) .nil)
theorem ex_newD : EX T X W (.Dict [] [] pos) eNewD := PE.imp pe_dnewK fun σ H Q ⟨ρ, ω, α, sr, rs, p⟩ D0 hD =>
  p _ _ _ (Go.newLoc sr hD (.dct .nil)) ⟨D0, by rw [List.getElem?_append_right (by rw [sr.len]; exact Nat.le_refl _), sr.len]; simp, rfl⟩
end
end DL

/-! The D-layer: methods. -/
namespace DL
open PySem PySem.Spec PyProof.Rows L2

/-! ### methods by values -/
def tyD (T : String) : D → Bool
  | .str _ => T == "str"
  | .lst _ => T == "list"
  | .frl _ => T == "list"
  | .dct _ => T == "dict"
  | _ => false
theorem tyD_of {g : Gd} {l : List Addr} {H : Hp} {v : V} {d : D} {T : String} (b : BR g l H v d) (h : tyD T d = true) : tyV g.K T v H := by
  unfold tyD at h
  split at h
  · obtain rfl := b.strE; exact beq_iff_eq.mp h
  · obtain ⟨a, vs, rfl, e, _⟩ := b.lstE; exact .inl ⟨beq_iff_eq.mp h, vs, SqL.of e⟩
  · obtain ⟨a, vs, rfl, e, _⟩ := b.frlE; exact .inl ⟨beq_iff_eq.mp h, vs, e⟩
  · obtain ⟨a, vs, rfl, e, _⟩ := b.dctE; exact .inr (.inr (.inl ⟨beq_iff_eq.mp h, .inl ⟨vs, e⟩⟩))
  · cases h
/-- x.m(..), no object changed -/
def callM (T : String) (F : D → List D → Option D) (fo : Fx Val) (fs : Fx (List Val)) : Fx Val := fun ρ ω => (fo ρ ω).bind fun x ω => match x.look ω with
  | some d => if tyD T d = true then (fs ρ ω).bind fun xs ω => (match x.look ω, looks ω xs with
    | some d, some ds => (match F d ds with | some z => .ok (.d z) ω | none => .bad)
    | _, _ => .bad) else .bad
  | none => .bad
def Mb (g : Gd) (r : V → List V → Hp → VK → Prop) (F : D → List D → Option D) : Prop := ∀ (l : List Addr) (H : Hp) (v : V) (vs : List V) (d : D) (ds : List D) (z : D) (Q : VK), Lv l H → BR g l H v d → BRs g l H vs ds → F d ds = some z →
  (∀ v H', Grow H H' → Rep g (off l H') v z → Q v H') → r v vs H Q
section
variable {T : List (Addr × Str)} {X : Cx} {W : WX} {e o : Expr} {es : List Expr} {f fo : Fx Val} {fs : Fx (List Val)} {pos p apos cpos : Pos} {r : V → List V → Hp → VK → Prop} {F : D → List D → Option D} {Ty id : String} {name : Str}
theorem Mb.post {g : Gd} (m : Mb g r F) {σ : L2.St} {ω : Store} {α : List Addr} {H : Hp} {v : V} {x : Val} {vs : List V} {xs : List Val} {Q : VK} (sr : SR g ω α H) (rv : RepV g (base ω α H) α v x) (rx : RepVs g (base ω α H) α vs xs)
    (p : Post g W σ ω α H (RepV g) Q (match x.look ω, looks ω xs with | some d, some ds => (match F d ds with | some z => .ok (.d z) ω | none => .bad) | _, _ => .bad)) : r v vs H Q := by
  split at p
  · rename_i d ds e1 e2
    split at p
    · rename_i z ez
      exact m _ H v vs d ds z Q sr.there (look_br sr rv e1) (looks_br sr rx e2) ez fun v H' k hv => p.grown (rel := RepV g) (x := .d z) sr k hv
    · exact p.elim
  · exact p.elim
theorem ex_m (pa : PlainAttrs Ty) (slot : Slot Ty name id) (hty : typeOf (.builtin id) = pure (.type "method_descriptor")) (hm : MtR X id r) (m : Mb (gX T X) r F) (ho : EX T X W o fo) (ha : AX T X W (e :: es) fs)
    (hbase : attributeBase o name X.env (eval o X.env) = eval o X.env := by rfl)
    (hfew : ((backTo cpos (starEach (e :: es) X.env)).all (fun x => !x.1) && (backToKw cpos (keywordEach [] X.env)).all (fun x => x.1.isSome)
      && decide ((e :: es).length + ([] : List Keyword).length + (if ([] : List Keyword).isEmpty then 0 else 1) < 30)) = true := by rfl)
    (hline : (apos.endLine == cpos.line) = true := by rfl) (hs : starEach (e :: es) X.env = (false, eval e X.env) :: starEach es X.env := by rfl) (hplain : (backTo cpos (starEach es X.env)).any (·.1) = false := by rfl) :
    EX T X W (.Call (.Attribute o name apos) (e :: es) [] cpos) (callM Ty F fo fs) :=
  PE.imp (pe_bm pa slot hty hm ho ha hbase hfew hline hs hplain) fun σ H Q ⟨ρ, ω, α, sr, rs, p⟩ =>
    tG_step sr rs p fun v H1 x ω1 α1 go1 rx sr1 rs1 p1 => by
      split at p1
      · rename_i d ed
        split at p1
        · rename_i ht
          exact ⟨tyD_of (look_br sr1 rx ed) ht, tG_step sr1 rs1 p1 fun vs H2 xs ω2 α2 go2 rxs sr2 rs2 p2 => m.post sr2 (go2.rv rx) rxs p2⟩
        · exact p1.elim
      · exact p1.elim
theorem ex_m0 (pa : PlainAttrs Ty) (slot : Slot Ty name id) (hty : typeOf (.builtin id) = pure (.type "method_descriptor")) (hm : MtR X id r) (m : Mb (gX T X) r F) (ho : EX T X W o fo)
    (hbase : attributeBase o name X.env (eval o X.env) = eval o X.env := by rfl) (hline : (apos.endLine == cpos.line) = true := by rfl) : EX T X W (.Call (.Attribute o name apos) [] [] cpos) (callM Ty F fo aNil) :=
  PE.imp (pe_bm0 pa slot hty hm ho hbase hline) fun σ H Q ⟨ρ, ω, α, sr, rs, p⟩ =>
    tG_step sr rs p fun v H1 x ω1 α1 go1 rx sr1 rs1 p1 => by
      split at p1
      · rename_i d ed
        split at p1
        · rename_i ht
          exact ⟨tyD_of (look_br sr1 rx ed) ht, m.post sr1 rx .nil p1⟩
        · exact p1.elim
      · exact p1.elim
end

/-! ### count, index -/
def cntD : D → List D → Option D
  | .lst ds, [x] => (D.pd (.lst ds)).bind fun p => match p with
    | .list ps => (D.pd x).bind fun q => if SeqAt.shaped (.list ps) = true ∧ SeqAt.shaped q = true then some (.int ((ps.countP fun z => PyData.eqv z q) : Nat)) else none
    | _ => none
  | _, _ => none
def idxD : D → List D → Option D
  | .lst ds, [x] => (D.pd (.lst ds)).bind fun p => match p with
    | .list ps => (D.pd x).bind fun q => if SeqAt.shaped (.list ps) = true ∧ SeqAt.shaped q = true then (match ps.findIdx? fun z => PyData.eqv z q with | some j => some (.int (j : Nat)) | none => none) else none
    | _ => none
  | _, _ => none
/-- l.count(x) -/
def rCountD (K : PySem.W.Frag) : V → List V → Hp → VK → Prop := fun x xs H Q => ∃ (a : Addr) (y : V) (d : PyData) (ds : List PyData), x = V.ref a ∧ xs = [y] ∧ Dp K H (V.ref a) (.list ds) ∧ Dp K H y d ∧
  SeqAt.shaped (.list ds) = true ∧ SeqAt.shaped d = true ∧ Q (.int ((ds.countP fun z => PyData.eqv z d) : Nat)) H
theorem mt_countD {X : Cx} (hu : X.A.units + 65 < cLine) : MtR X "list.count" (rCountD X.K) := by
  intro pins s σ H x xs v us Q I rx rxs h
  obtain ⟨a, y, d, ds, rfl, rfl, hl, hy, sl, sd, q⟩ := h
  cases rx
  cases rxs with
  | cons ry rt =>
    rename_i uy ut
    cases rt
    obtain ⟨bs, r1⟩ := Dp.reads I d y uy hy ry
    have hxs : PyData.canLayAll0 ds = true := SeqAt.canLay_of_shaped sl
    have hroom : X.A.units + 1 + min (PyData.depthAll ds) d.depth < cLine := room_in_shaped sd hu
    cases hl with
    | lst hs ha =>
      obtain ⟨its, rv, ⟨⟨cls, dd, data, sls⟩, n, ho, hc, hdn, hdt⟩, hlen⟩ := I.list hs
      simp only at hc hdt
      subst hc hdt
      obtain ⟨as, h4⟩ := Dp.readsAll I ds _ its ha rv
      have hmap : its.map (SeqAt.readOf s.heap) = ds := SeqAt.readsAll_map ds its as hxs h4
      refine call_meets PySem.F.slot_list_count ⟨_, ho, rfl⟩ PySem.F.entry_list_count (PySem.F.args_list_count_2 _ _)
        (SeqAt.list_countAt a its.toArray n dd sls uy (fun u => PyData.eqv (SeqAt.readOf s.heap u) d)) ⟨ho, SeqAt.items_eqAt (vs := its.toArray) (show ReadsAll s.heap its.toArray.toList ds as from h4) r1 hxs (SeqAt.canLay_of_shaped sd) hroom, ?_⟩
      refine ⟨.int _, H, I.tok _, ⟨_, rfl⟩, ?_⟩
      have e : its.toArray.toList.countP (fun u => PyData.eqv (SeqAt.readOf s.heap u) d) = ds.countP fun z => PyData.eqv z d := by
        rw [← hmap, List.countP_map]; rfl
      rw [e]
      exact q
section
variable {g : Gd}
theorem BRs.oneE {l : List Addr} {H : Hp} {vs : List V} {d : D} (h : BRs g l H vs [d]) : ∃ v, vs = [v] ∧ BR g l H v d := h.one
theorem m_count : Mb g (rCountD g.K) cntD := by
  intro l H v vs d ds z Q lvs b bs hz k
  unfold cntD at hz
  split at hz
  · rename_i ds x
    obtain ⟨p, h1, h2⟩ := Option.bind_eq_some_iff.mp hz
    split at h2
    · rename_i ps
      obtain ⟨q, h3, h4⟩ := Option.bind_eq_some_iff.mp h2
      split at h4
      · rename_i hs
        cases h4
        obtain ⟨y, rfl, by_⟩ := bs.one
        obtain ⟨a, ws, rfl, _⟩ := b.lstE
        exact ⟨a, y, q, ps, rfl, rfl, b.dp h1, by_.dp h3, hs.1, hs.2, k _ _ .refl (.int _)⟩
      · cases h4
    · cases h2
  · cases hz
theorem m_index : Mb g (rIndexD g.K) idxD := by
  intro l H v vs d ds z Q lvs b bs hz k
  unfold idxD at hz
  split at hz
  · rename_i ds x
    obtain ⟨p, h1, h2⟩ := Option.bind_eq_some_iff.mp hz
    split at h2
    · rename_i ps
      obtain ⟨q, h3, h4⟩ := Option.bind_eq_some_iff.mp h2
      split at h4
      · rename_i hs
        split at h4
        · rename_i j ej
          cases h4
          obtain ⟨y, rfl, by_⟩ := bs.one
          obtain ⟨a, ws, rfl, _⟩ := b.lstE
          obtain ⟨hj, h5, h6⟩ := List.findIdx?_eq_some_iff_getElem.mp ej
          exact ⟨a, y, q, ps, j, ps[j], rfl, rfl, b.dp h1, by_.dp h3, hs.1, hs.2, List.getElem?_eq_getElem hj, h5, fun m z' hm hz' => by
            obtain ⟨hm', e⟩ := List.getElem?_eq_some_iff.mp hz'
            rw [← e]
            exact Bool.eq_false_iff.mpr (h6 m hm), k _ _ .refl (.int _)⟩
        · cases h4
      · cases h4
    · cases h2
  · cases hz
end
/-! ### append, pop -/
/-- x.append(v) -/
def eApp (fo fv : Fx Val) : Fx Val := fun ρ ω => (fo ρ ω).bind fun x ω => match x, x.look ω with
  | .loc n, some (.lst _) => (fv ρ ω).bind fun y ω => (match y, ω[n]? with
    | .d z, some (some (.lst ds)) => if ds.length < sizeLine then .ok (.d .non) (ω.set n (some (.lst (ds ++ [z])))) else .bad
    | _, _ => .bad)
  | _, _ => .bad
/-- x.pop() -/
def ePop (fo : Fx Val) : Fx Val := fun ρ ω => (fo ρ ω).bind fun x ω => match x with
  | .loc n => (match ω[n]? with
    | some (some (.lst ds)) => (match ds[ds.length - 1]? with
      | some z => .ok (.d z) (ω.set n (some (.lst ds.dropLast)))
      | none => .bad)
    | _ => .bad)
  | _ => .bad
section
variable {T : List (Addr × Str)} {X : Cx} {W : WX} {e o : Expr} {f fo fv : Fx Val} {apos cpos : Pos}
theorem loc_at {g : Gd} {ω : Store} {α : List Addr} {H : Hp} {v : V} {n : Nat} {ds : List D} (sr : SR g ω α H) (r : RepV g (base ω α H) α v (.loc n)) (e : ω[n]? = some (some (.lst ds))) : ∃ a vs, α[n]? = some a ∧ v = .ref a ∧ H a = some (.lst vs) ∧ RepL g (base ω α H) vs ds := by
  obtain ⟨a, h1, rfl⟩ := r
  obtain ⟨a', o, h2, _, h3, h4⟩ := sr.get e
  rw [h1] at h2; cases h2
  cases h4 with
  | lst r => exact ⟨a, _, h1, rfl, h3, r⟩
theorem RepL.dropLast {g : Gd} {B : Hp} : ∀ {vs : List V} {ds : List D}, RepL g B vs ds → RepL g B vs.dropLast ds.dropLast := fun {vs ds} r => by
  rw [List.dropLast_eq_take, List.dropLast_eq_take, r.len]; exact r.take _
theorem ex_app (ho : EX T X W o fo) (hv : EX T X W e fv) (hbase : attributeBase o "append" X.env (eval o X.env) = eval o X.env := by rfl)
    (hfew : ((backTo cpos (starEach [e] X.env)).all (fun x => !x.1) && (backToKw cpos (keywordEach [] X.env)).all (fun x => x.1.isSome)
      && decide (([e] : List Expr).length + ([] : List Keyword).length + (if ([] : List Keyword).isEmpty then 0 else 1) < 30)) = true := by rfl)
    (hline : (apos.endLine == cpos.line) = true := by rfl) (hs : starEach [e] X.env = (false, eval e X.env) :: starEach [] X.env := by rfl) :
    EX T X W (.Call (.Attribute o "append" apos) [e] [] cpos) (eApp fo fv) :=
  PE.imp (pe_bm PySem.F.plainAttrs_list PySem.F.slot_list_append PySem.F.type_list_append mt_append ho (ax_cons hv ax_nil hs) hbase hfew hline hs rfl) fun σ H Q ⟨ρ, ω, α, sr, rs, p⟩ =>
    tG_step sr rs p fun v H1 x ω1 α1 go1 rx sr1 rs1 p1 => by
      split at p1
      · rename_i n ds0 el
        refine ⟨tyD_of (look_br sr1 rx el) (by rfl), ρ, ω1, α1, sr1, rs1, ?_⟩
        unfold aCons aNil
        cases e1 : fv ρ ω1 with
        | exc y ω' => rw [e1] at p1; exact p1
        | bad => rw [e1] at p1; exact p1
        | ok y ω2 =>
          rw [e1] at p1
          intro vs α2 H2 go2 rxs
          have p2 := Post.rebase go2 p1
          dsimp only [Res.bind] at p2
          split at p2
          · rename_i z ds eo
            split at p2
            · rename_i hl
              cases rxs with
              | cons h r =>
                cases r
                obtain ⟨a, ws, h1, rfl, h3, rl⟩ := loc_at go2.sr (go2.rv rx) eo
                obtain ⟨a', o, h1', _, h3', h4'⟩ := go2.sr.get eo
                rw [h1] at h1'; cases h1'
                exact ⟨a, ws, _, rfl, rfl, h3, by rw [rl.len]; exact hl, p2 _ α2 _ (Go.write go2.sr eo h1 h3' h4' (.lst (rl.append (.one h)))) (show RepV _ _ _ _ (.d .non) from .non)⟩
            · exact p2.elim
          · exact p2.elim
      · exact p1.elim
theorem ex_pop (ho : EX T X W o fo) (hbase : attributeBase o "pop" X.env (eval o X.env) = eval o X.env := by rfl) (hline : (apos.endLine == cpos.line) = true := by rfl) : EX T X W (.Call (.Attribute o "pop" apos) [] [] cpos) (ePop fo) :=
  PE.imp (pe_bm0 PySem.F.plainAttrs_list PySem.F.slot_list_pop PySem.F.type_list_pop mt_pop ho hbase hline) fun σ H Q ⟨ρ, ω, α, sr, rs, p⟩ =>
    tG_step sr rs p fun v H1 x ω1 α1 go1 rx sr1 rs1 p1 => by
      split at p1
      · rename_i n
        split at p1
        · rename_i ds eo
          split at p1
          · rename_i z ez
            obtain ⟨a, ws, h1, rfl, h3, rl⟩ := loc_at sr1 rx eo
            obtain ⟨a', o, h1', _, h3', h4'⟩ := sr1.get eo
            rw [h1] at h1'; cases h1'
            obtain ⟨y, hy, ry⟩ := rl.get ez
            have gw := Go.write sr1 eo h1 h3' h4' (.lst rl.dropLast)
            exact ⟨.inl ⟨rfl, ws, SqL.of h3⟩, a, ws, y, rfl, rfl, h3, by rw [rl.len]; exact hy, p1 _ α1 _ gw (ry.mono gw.ext)⟩
          · exact p1.elim
        · exact p1.elim
      · exact p1.elim
end
end DL

/-! The D-layer: a lambda handed to a def that calls it. -/
namespace DL
open PySem PySem.Spec PyProof.Rows L2

/-- the slots that a lambda sees, as data -/
def capD (cap : List Nat) (ρ : Env) : List (Nat × D) := cap.filterMap fun i => match (ρ[i]? : Option (Option Val)) with
  | some (some (Val.d d)) => some (i, d)
  | _ => none
def envN (n : Nat) (ρl : List (Nat × D)) : Env := ρl.foldr (fun p ρ => ρ.set p.1 (some (.d p.2))) (List.replicate n none)
theorem capD_rep {g : Gd} {B : Hp} {α : List Addr} {σ : L2.St} {ρ : Env} (rs : RS g B α σ ρ) : ∀ cap : List Nat, RepN g B σ (capD cap ρ)
  | [] => .nil
  | i :: cap => by
    have ih := capD_rep rs cap
    unfold capD at ih ⊢
    rw [List.filterMap_cons]
    split
    · exact ih
    · rename_i p e
      split at e
      · rename_i d ed
        cases e
        obtain ⟨v, h1, h2⟩ := rs.at_ i _ ed
        exact .cons h1 h2 ih
      · cases e
theorem envN_len : ∀ (n : Nat) (ρl : List (Nat × D)), (envN n ρl).length = n
  | n, [] => by unfold envN; simp
  | n, p :: r => by
    have ih := envN_len n r
    unfold envN at ih ⊢
    rw [List.foldr_cons, List.length_set]; exact ih
theorem envN_rs {g : Gd} {B : Hp} {α : List Addr} {σ : L2.St} : ∀ {ρl : List (Nat × D)}, RepN g B σ ρl → RS g B α σ (envN σ.length ρl)
  | _, .nil => ⟨by unfold envN; simp, fun i x e => by
      unfold envN at e
      rw [List.foldr_nil, List.getElem?_replicate] at e
      split at e <;> cases e⟩
  | _, .cons (i := i) (v := v) (d := d) e h r => by
    have ih := envN_rs (α := α) r
    have e2 : σ.set i (some v) = σ := List.ext_getElem? fun k => by
      by_cases hk : i = k
      · subst hk
        rw [List.getElem?_set_self (List.getElem?_eq_some_iff.mp e).1, e]
      · rw [List.getElem?_set_ne hk]
    have := ih.set (i := i) (v := v) (x := .d d) h
    rw [e2] at this
    exact this
theorem Go.extN {g : Gd} {ω : Store} {α : List Addr} {H H1 : Hp} (s : SR g ω α H) (e : LamX.ExtN H H1) (t : LamX.Tabs g.T H1) : Go g ω α H ω α H1 := by
  have hb : Ext (base ω α H) (base ω α H1) := fun b o h n => by
    obtain ⟨h1, h2⟩ := off_some h
    exact (off_of h1).trans (e _ _ h2 n)
  refine ⟨⟨s.at_.mono hb fun a o hm ho => ?_, s.nd, t⟩, List.prefix_refl _, hb⟩
  refine e _ _ ho fun ps z => ?_
  obtain ⟨n, m, hn, hm'⟩ : ∃ (n : Nat) (m : MO), ω[n]? = some (some m) ∧ α[n]? = some a := lv_mem' hm
  obtain ⟨a', o', h1, _, h3, h4⟩ := s.get hn
  rw [hm'] at h1; cases h1
  rw [ho] at h3; cases h3
  exact notTbl h4 ps z
open Classical in
/-- a(): what the lambda in slot i does -/
noncomputable def eAct (i : Nat) (lm : D) (act : Store → Res Val) : Fx Val := fun ρ ω => if ρ[i]? = some (some (.d lm)) then act ω else .bad
/-- the def that gets the lambda -/
def fnL (N : Nat) (fb : D → (Store → Res Val) → Sx) (lm : D) (act : Store → Res Val) (ω : Store) : Res Val := leave ω.length (fb lm act ([some (.d lm)] ++ List.replicate (N - 1) none) ω)
open Classical in
/-- x(lambda: fl) -/
noncomputable def eLam (N : Nat) (fb : D → (Store → Res Val) → Sx) (n : Nat) (cap : List Nat) (fl : Fx Val) : Fx Val := fun ρ ω =>
  if h : ∃ r, ∀ f c q σ, fnL N fb (.lam f c q σ (capD cap ρ)) (fun ω => fl (envN n (capD cap ρ)) ω) ω = r then h.choose else .bad
theorem eLam_eq {N : Nat} {fb : D → (Store → Res Val) → Sx} {n : Nat} {cap : List Nat} {fl : Fx Val} {ρ : Env} {ω : Store} {r : Res Val} (h : ∀ f c q σ, fnL N fb (.lam f c q σ (capD cap ρ)) (fun ω => fl (envN n (capD cap ρ)) ω) ω = r) : eLam N fb n cap fl ρ ω = r := by
  unfold eLam
  have e : ∃ r, ∀ f c q σ, fnL N fb (.lam f c q σ (capD cap ρ)) (fun ω => fl (envN n (capD cap ρ)) ω) ω = r := ⟨r, h⟩
  rw [dif_pos e]
  exact (e.choose_spec 0 0 Str.empty []).symm.trans (h 0 0 Str.empty [])
section
variable {T : List (Addr × Str)} {X : Cx} {W : WX}
/-- x(lambda: body) -/
theorem ex_lam {x a : Str} {g c P : Addr} {k : Nat} {pg : Arguments} {bg : List Stmt} {sg : Scope} {dV kV doc pm cdv ct oc : Value} {an od : Option Addr} {osl : Array (Option Value)} {Ng : List Str} {fbG : D → (Store → Res Val) → Sx} {cap : List Nat} {fl : Fx Val}
    {params : Arguments} {body : Expr} {scope : Scope} {p lpos pos : Pos} (hg : Gl X x) (hm : X.mg x = some (.ref g)) (hk : PySem.W.keepIn X.K (.ref g) = true)
    (lk : X.K.lookup g = some ⟨oc, od, .func (PySem.W.fnOf x x pg bg sg dV kV doc pm an cdv ct), osl⟩) (hcg : PySem.W.codeIn X.K cdv x = true) (hb : L2.Binds X.K (PySem.W.fnOf x x pg bg sg dV kV doc pm an cdv ct) [a] []) (Sg : FnScope Ng [a] sg) (hNg : Ng[0]? = some a) (hva : Vis sg a)
    (hG : ∀ (cdv : Value) (A : Around) (outer : List PySem.Env) (s : Shared) (H : Hp) (E : XK) (lm : D) (act : Store → Res Val), RoomG (k + 1) (A.deeper (envOfC x sg s.heap.objs.size g cdv)) →
      (∀ (W : WX) (pn : List (Addr × Obj)) (xe : Value → Shared → Prop) (p1 p2 : Pos), L2.Takes ((cxOf (L2.CX X.prog X.w) X.prog X.w X.K X.mg X.base Ng x sg g cdv A outer s H E).tr pn xe) W →
        EX T ((cxOf (L2.CX X.prog X.w) X.prog X.w X.K X.mg X.base Ng x sg g cdv A outer s H E).tr pn xe) W (.Call (.Name a p1) [] [] p2) (eAct 0 lm act)) →
      BX T (cxOf (L2.CX X.prog X.w) X.prog X.w X.K X.mg X.base Ng x sg g cdv A outer s H E) (fun c d _ H => E c d H) bg (fbG lm act))
    (TB : LamX.TabB X.base X.mg c P) (hcode : X.env.code = .ref c) (hmT : (P, X.env.qual ++ "<lambda>") ∈ T) (hu : ∀ p ∈ T, p.1 = P → p.2 = X.env.qual ++ "<lambda>") (hr : RoomG (k + 2) X.A) (L : LamX.LamS X.env.scope scope) (hdef : defaultsOf params X.env = ([], []))
    (hbind : ∀ (q : Str) (cl : List (Str × Addr)) (pm cv ctv : Value), bindArgs (PySem.W.kla_fn "<lambda>" q params body scope cl pm cv ctv) ⟨[], []⟩ = pure [])
    (hbody : ∀ (A : Around) (outer : List PySem.Env) (s : Shared) (H : Hp) (E : XK) (f c' : Addr), RoomG k (A.deeper (LamX.lamEnv X scope s.heap.objs.size f c')) → EX T (LamX.lamCx X A outer s H E scope f c') (fun c d _ H => E c d H) body fl) (tk : L2.Takes X W)
    (hdb : (x == ("__debug__" : Str)) = false := by decide) (hd : (a == ("__debug__" : Str)) = false := by decide) (hcd : (a == ("__classdict__" : Str)) = false := by decide) :
    EX T X W (.Call (.Name x p) [.Lambda params body scope lpos] [] pos) (eLam Ng.length fbG X.N.length cap fl) := by
  refine ⟨fun pins s σ H Q I ⟨ρ, ω, α, sr, rs, post⟩ => ?_⟩
  have hr1 : RoomG (k + 1) X.A := ⟨hr.1.mono (Nat.le_succ _), hr.2⟩
  refine wpAny_Call_Name_kw (ld_glob I hg hm ?_ hdb)
  refine PySem.W.callWith_K (h₀ := X.base) I.ok.mod.kin hk ?_ (by rfl) (by rfl)
  show wpAny _ _ (spliced ((false, eval (.Lambda params body scope lpos) X.env) :: backTo pos (starEach [] X.env))) _ _ s
  refine Calls.spliced_cons (LamX.lam_make2 I TB hcode hmT hu sr.tabs hdef (L.has I.ok) fun f c' pm' ctv H1 s' I1 eN T1 hf hfn hfr hco => ?_)
  refine Calls.spliced_nil ⟨I1.kIn, ?_⟩
  have go1 := Go.extN sr eN T1
  have p1 := Post.rebase go1 post
  have rs1 := go1.rs rs
  obtain ⟨r, hres, hpr⟩ : ∃ r, (∀ f c q σ, fnL Ng.length fbG (.lam f c q σ (capD cap ρ)) (fun ω => fl (envN X.N.length (capD cap ρ)) ω) ω = r) ∧ Post (gX T X) W σ ω α H1 (RepV (gX T X)) Q r := by
    unfold eLam at p1
    split at p1
    · rename_i h
      exact ⟨_, h.choose_spec, p1⟩
    · exact p1.elim
  have rN := capD_rep rs1 cap
  have nco : c' ∉ lv ω α := fun z => by
    obtain ⟨n, m, hn, hm'⟩ := lv_mem' z
    obtain ⟨a', o', h1, _, h3, h4⟩ := go1.sr.get hn
    rw [hm'] at h1; cases h1
    rw [hco] at h3; cases h3
    exact notCode h4 _ _ rfl
  have rl : Rep (gX T X) (base ω α H1) (.ref f) (.lam f c' (X.env.qual ++ "<lambda>") σ (capD cap ρ)) := .lam ((off_of nco).trans hco) rN
  have rc : codeAny (model X.prog X.w) X.A (.call (.ref g) ⟨[.ref f], []⟩) (CR (L2.CX X.prog X.w) X.stack X.prog X.w H1 s' Q (fun c d H => W c d σ H)) s' := by
    refine LamX.run_ofS (N := Ng) (ps := [a]) (us := [.ref f]) (vs := [.ref f]) lk hcg Sg hr.1 I1.env0 (hb s' [.ref f] I1.kIn rfl) (.cons rfl .nil) rfl fun hr' => ?_
    refine ⟨_, hG cdv X.A X.stack s' H1 (fun c d H => W c d σ H) (.lam f c' (X.env.qual ++ "<lambda>") σ (capD cap ρ)) (fun ω => fl (envN X.N.length (capD cap ρ)) ω) ⟨hr', hr.2⟩ fun WZ pn xe q1 q2 tkZ => ?_, ?_⟩
    · refine ⟨fun pinsZ sZ σZ HZ QZ IZ ⟨ρZ, ωZ, αZ, srZ, rsZ, pZ⟩ => ?_⟩
      unfold eAct at pZ
      split at pZ
      rotate_left
      · exact pZ.elim
      rename_i hslot
      dsimp only at pZ
      obtain ⟨vZ, hv1, hv2⟩ := rsZ.at_ 0 _ hslot
      obtain ⟨rfl, hcZ, hrZ⟩ : vZ = .ref f ∧ HZ c' = some (LamX.CodeO c' (X.env.qual ++ "<lambda>")) ∧ RepN (gX T X) (base ωZ αZ HZ) σ (capD cap ρ) := by
        cases (show Rep _ _ vZ _ from hv2) with
        | lam h r => exact ⟨rfl, (off_some h).2, r⟩
      refine wpAny_Call_Name_kw (thn ((pe_var (pos := q1) (i := 0) hNg hva hd hcd).run pinsZ sZ σZ HZ (fun v H1 => v = .ref f ∧ H1 = HZ) IZ ⟨.ref f, hv1, rfl, rfl⟩) fun u s1 ⟨v, H1', I1', r1, q1'⟩ => ?_)
      obtain ⟨ev, eH⟩ := q1'
      subst ev
      rw [eH] at I1'
      obtain rfl : u = Value.ref f := r1
      have of1 := I1'.base.keep f _ hf hfn hfr (fun z => nomatch (show f ∈ ([] : List Addr) from z))
      refine PySem.W.callWith_F0 ⟨_, _, _, _, of1⟩ ?_
      have un : Un (frs X.stack) [] H1 HZ s'.heap s1.heap := I1'.base
      obtain ⟨⟨oc', vs, t, hoc, hdc, hvc⟩, _, _⟩ := I1'.hok c' _ hcZ
      have rcL : codeAny (model X.prog X.w) (X.A.deeper (envOfC x sg s'.heap.objs.size g cdv)) (.call (.ref f) ⟨[], []⟩) (CR (L2.CX X.prog X.w) (envOfC x sg s'.heap.objs.size g cdv :: X.stack) X.prog X.w HZ s1 QZ (fun c d H => WZ c d σZ H)) s1 := by
        refine PySem.W.kla_callFunE hr'.depth of1 rfl L.co L.gen rfl ⟨c', oc', vs, t, rfl, hoc, hdc, hvc⟩ ?_
        rw [hbind]
        refine wpAny_pure (wpAny_newFunctionEnv (fun y hy => (L.own y hy).2) (fun y hy => absurd hy (by simp)) (fun h₁ hns hsb => ⟨I1'.nolimit.fresh _ hsb, ?_⟩) L.kind)
        show codeAny _ _ (.expr body (LamX.lamEnv X scope s1.heap.objs.size f c')) _ _
        have kp : ∀ b o, s1.heap.get? b = some o → h₁.get? b = some o := fun b o e => hsb.extBut b o (Nat.ne_of_lt (Heap.lt_size e)) (Heap.get?_push_of_some _ e)
        have J : L2.Inv (LamX.lamCx X (X.A.deeper (envOfC x sg s'.heap.objs.size g cdv)) (envOfC x sg s'.heap.objs.size g cdv :: X.stack) s1 HZ (fun c d H => WZ c d σZ H) scope f c') [] σ HZ { s1 with heap := h₁, toks := s1.toks + ([] : List (Str × Value)).length } :=
          LamX.lam_start2 I1 L I1'.env0 hr'.hd un hns kp
        have hlen : σ.length = X.N.length := I1.len
        have rsL := envN_rs (α := αZ) hrZ
        rw [hlen] at rsL
        refine PySem.W.kla_codeExpr (wpAny_mono ((hbody _ _ s1 HZ (fun c d H => WZ c d σZ H) f c' ⟨hr'.deeper _, hr.2⟩).run [] _ _ HZ QZ J ⟨_, ωZ, αZ, srZ, rsL, ?_⟩) (fun v s2 hq => ?_) fun e s2 hq => hq)
        · cases e : fl (envN X.N.length (capD cap ρ)) ωZ with
          | ok y ω' => rw [e] at pZ; exact pZ
          | exc y ω' => rw [e] at pZ; exact pZ
          | bad => rw [e] at pZ; exact pZ
        · obtain ⟨w', H', J', rv, q⟩ := hq
          exact ⟨w', H', J'.os, J'.bare, J'.base, J'.hok, rv, q⟩
      refine wpAny_call (codeAny_mono rcL fun r s2 hq => ?_)
      cases r with
      | error e => exact passAt tkZ σZ pinsZ HZ s1 e s2 I1' hq
      | ok fl' =>
        cases fl' with
        | ret u => exact I1'.after hq
        | next => exact False.elim hq
        | brk => exact False.elim hq
        | cont => exact False.elim hq
    · have e := hres f c' (X.env.qual ++ "<lambda>") σ
      refine ⟨[some (.d (.lam f c' (X.env.qual ++ "<lambda>") σ (capD cap ρ)))] ++ List.replicate (Ng.length - 1) none, ω, α, go1.sr, ?_, ?_⟩
      · exact RS.start (vs := [.ref f]) (xs := [.d (.lam f c' (X.env.qual ++ "<lambda>") σ (capD cap ρ))]) (.cons (x := .d (.lam f c' (X.env.qual ++ "<lambda>") σ (capD cap ρ))) rl .nil) _
      · refine leave_post go1.sr ?_
        unfold fnL at e
        rw [e]
        exact hpr.cpost
  refine wpAny_call (codeAny_mono rc fun r s2 hq => ?_)
  cases r with
  | error e => exact passAt tk σ pins H1 s' e s2 I1 hq
  | ok fl' =>
    cases fl' with
    | ret u => exact I1.after hq
    | next => exact False.elim hq
    | brk => exact False.elim hq
    | cont => exact False.elim hq
theorem ex_lamF {x a : Str} {g c P : Addr} {fd : FuncData} {k : Nat} {pg : Arguments} {bg : List Stmt} {sg : Scope} {Ng : List Str} {fbG : D → (Store → Res Val) → Sx} {cap : List Nat} {fl : Fx Val}
    {params : Arguments} {body : Expr} {scope : Scope} {p lpos pos : Pos} (F : FunD X.K x x pg bg sg [] [] g fd) (hg : Gl X x) (hm : X.mg x = some (.ref g)) (hb : L2.Binds X.K fd [a] []) (Sg : FnScope Ng [a] sg) (hNg : Ng[0]? = some a) (hva : Vis sg a)
    (hG : ∀ (cdv : Value) (A : Around) (outer : List PySem.Env) (s : Shared) (H : Hp) (E : XK) (lm : D) (act : Store → Res Val), RoomG (k + 1) (A.deeper (envOfC x sg s.heap.objs.size g cdv)) →
      (∀ (W : WX) (pn : List (Addr × Obj)) (xe : Value → Shared → Prop) (p1 p2 : Pos), L2.Takes ((cxOf (L2.CX X.prog X.w) X.prog X.w X.K X.mg X.base Ng x sg g cdv A outer s H E).tr pn xe) W →
        EX T ((cxOf (L2.CX X.prog X.w) X.prog X.w X.K X.mg X.base Ng x sg g cdv A outer s H E).tr pn xe) W (.Call (.Name a p1) [] [] p2) (eAct 0 lm act)) →
      BX T (cxOf (L2.CX X.prog X.w) X.prog X.w X.K X.mg X.base Ng x sg g cdv A outer s H E) (fun c d _ H => E c d H) bg (fbG lm act))
    (TB : LamX.TabB X.base X.mg c P) (hcode : X.env.code = .ref c) (hmT : (P, X.env.qual ++ "<lambda>") ∈ T) (hu : ∀ p ∈ T, p.1 = P → p.2 = X.env.qual ++ "<lambda>") (hr : RoomG (k + 2) X.A) (L : LamX.LamS X.env.scope scope) (hdef : defaultsOf params X.env = ([], []))
    (hbind : ∀ (q : Str) (cl : List (Str × Addr)) (pm cv ctv : Value), bindArgs (PySem.W.kla_fn "<lambda>" q params body scope cl pm cv ctv) ⟨[], []⟩ = pure [])
    (hbody : ∀ (A : Around) (outer : List PySem.Env) (s : Shared) (H : Hp) (E : XK) (f c' : Addr), RoomG k (A.deeper (LamX.lamEnv X scope s.heap.objs.size f c')) → EX T (LamX.lamCx X A outer s H E scope f c') (fun c d _ H => E c d H) body fl) (tk : L2.Takes X W)
    (hdb : (x == ("__debug__" : Str)) = false := by decide) (hd : (a == ("__debug__" : Str)) = false := by decide) (hcd : (a == ("__classdict__" : Str)) = false := by decide) :
    EX T X W (.Call (.Name x p) [.Lambda params body scope lpos] [] pos) (eLam Ng.length fbG X.N.length cap fl) := by
  obtain ⟨oc, od, dV, kV, doc, pm, an, cdv, ct, osl, rfl, lk, hcg, _, _⟩ := F.ex
  exact ex_lam hg hm F.kp lk hcg hb Sg hNg hva hG TB hcode hmT hu hr L hdef hbind hbody tk hdb hd hcd
/-- takes of a lambda's context -/
theorem tkL {scope : Scope} {f c' : Addr} {A : Around} {outer : List PySem.Env} {s : Shared} {H : Hp} {E : XK} : L2.Takes (LamX.lamCx X A outer s H E scope f c') (fun c d _ H => E c d H) := L2.takes_of rfl rfl rfl rfl
end
end DL

/-! The D-layer: repr. -/
namespace DL
open PySem PySem.Spec PyProof.Rows L2
def rRepr (K : PySem.W.Frag) : List V → Hp → VK → Prop := fun xs H Q => ∃ (x : V) (d : PyData), xs = [x] ∧ Dp K H x d ∧ d.showable = true ∧ d.hasDict = false ∧ d.depth ≤ 100 ∧ d.shown.length ≤ sizeLine ∧ Q (.str d.shown) H
theorem call_repr {X : Cx} (hg : X.A.guards = some []) (hu : X.A.units + 110 < cLine) : CallR X (.builtin "repr") (rRepr X.K) := by
  intro pins s σ H xs us Q I r h
  obtain ⟨x, d, rfl, hd, hs, hn, hdp, hsz, q⟩ := h
  cases r with
  | cons rx rt =>
    rename_i v vt
    cases rt
    obtain ⟨as, rd⟩ := Dp.reads I d x v hd rx
    cases hd with
    | non => cases rx; exact PySem.P.repr_of_none ⟨.str _, H, I.tok _, ⟨_, rfl⟩, q⟩
    | bl b => cases rx; exact PySem.P.repr_of_bool ⟨.str _, H, I.tok _, ⟨s.toks, by simp only [PyData.shown]⟩, q⟩
    | int i =>
      obtain ⟨t, rfl⟩ := rx
      exact PySem.P.repr_of_int (by simpa [PyData.showable] using hs) ⟨.str _, H, I.tok _, ⟨s.toks, by simp only [PyData.shown]⟩, q⟩
    | str y =>
      obtain ⟨t, rfl⟩ := rx
      exact PySem.P.repr_of_str ⟨.str _, H, I.tok _, ⟨s.toks, by simp only [PyData.shown]⟩, q⟩ (by simpa only [PyData.shown] using hsz)
    | lst h1 h2 =>
      cases rx
      exact repr_of_reads' rd hs (PyData.noDict_hsm hn) hg (by omega) (fun _ _ e => e) (fun h' u tk k => ⟨.str _, H, I.kept (t' := tk) k, ⟨u, rfl⟩, q⟩) hsz
    | tup h1 h2 =>
      cases rx
      exact repr_of_reads' rd hs (PyData.noDict_hsm hn) hg (by omega) (fun _ _ e => e) (fun h' u tk k => ⟨.str _, H, I.kept (t' := tk) k, ⟨u, rfl⟩, q⟩) hsz
def reprD : List D → Option D
  | [x] => (D.pd x).bind fun p => if p.showable = true ∧ p.hasDict = false ∧ p.depth ≤ 100 ∧ p.shown.length ≤ sizeLine then some (.str p.shown) else none
  | _ => none
theorem c_repr {g : Gd} : Cb g (rRepr g.K) reprD := by
  intro l H vs ds z Q lvs br hz k
  unfold reprD at hz
  split at hz
  · rename_i x
    obtain ⟨p, h1, h2⟩ := Option.bind_eq_some_iff.mp hz
    split at h2
    · rename_i h
      cases h2
      obtain ⟨v, rfl, bv⟩ := br.one
      exact ⟨v, p, rfl, bv.dp h1, h.1, h.2.1, h.2.2.1, h.2.2.2, k _ _ .refl (.str _)⟩
    · cases h2
  · cases hz
end DL

/-! The D-layer: texts times numbers. -/
namespace DL
open PySem PySem.Spec PyProof.Rows L2
def strRep (x : Str) (n : Int) : Str := if n < 1 then Str.empty else if (n == 1 || x.length == 0) = true then x else ⟨(List.replicate n.toNat x.cps).foldl (· ++ ·) #[]⟩
def RepOk (x : Str) (n : Int) : Prop := -(2 ^ 62) ≤ n ∧ n ≤ 1000000 ∧ x.length ≤ 1000000 ∧ x.length * n.toNat ≤ sizeLine
theorem repOk_facts {x : Str} {n : Int} (h : RepOk x n) : (decide (n < -(2 ^ 63 : Int)) || decide (n ≥ 2 ^ 63)) = false ∧ (¬ n < 1 → (n == 1 || x.length == 0) = false → ¬ ((x.length : Int) > (2 ^ 63 - 1) / n)) ∧ (¬ n < 1 → (n == 1 || x.length == 0) = false → Builtin.Str.tooLong (x.length * n.toNat) = false) := by
  obtain ⟨h1, h2, h3, h4⟩ := h
  refine ⟨?_, fun q _ => ?_, fun _ _ => ?_⟩
  · have : ¬ n < -(2 ^ 63 : Int) := by omega
    have h5 : ¬ n ≥ 2 ^ 63 := by omega
    rw [decide_eq_false this, decide_eq_false h5]; rfl
  · have q1 : (1000000 : Int) ≤ (2 ^ 63 - 1) / n := by
      rw [Int.le_ediv_iff_mul_le (by omega)]
      have : 1000000 * n ≤ 1000000 * 1000000 := by omega
      omega
    omega
  · unfold Builtin.Str.tooLong
    exact decide_eq_false (by omega)
theorem size_rep {α : Type} (a : Array α) : ∀ (m : Nat) (acc : Array α), ((List.replicate m a).foldl (· ++ ·) acc).size = acc.size + m * a.size
  | 0, acc => by simp
  | m + 1, acc => by
    rw [List.replicate_succ, List.foldl_cons, size_rep a m]
    rw [Array.size_append, Nat.succ_mul]; omega
theorem mul_is {prog : Program} {w : World} {A : Around} {E : Value → Shared → Prop} {s : Shared} {x : Str} {n : Int} {t u : Tok} {Q : Value → Shared → Prop} (h : RepOk x n) (q : ∀ s' k, (∃ tk, s' = { s with toks := tk }) → Q (.str (strRep x n) k) s') :
    wpAny (model prog w) A (binaryOp .Mult (.int n u) (.str x t)) Q E s := by
  obtain ⟨h1, h2, h3⟩ := repOk_facts h
  refine lm_binaryOp_repeat_right (T := "str") (U := "int") (by decide) (fun s' => typeIs_int s' n u) (typeIs_str s x t) F.fills_int_mul noFill_str_mul F.slot_int_mul lm_noRepeat_int repeat_str F.slot_int_index.lookup ?_
  refine call_gives F.slot_int_mul (typeIs_int s n u) F.entry_int_mul (F.args_int_mul_2 _ _) (AutoIntG3.int___mul___int_str_0 n u x t) ⟨rfl, typeIs_str s x t, ?_⟩
  refine call_gives F.slot_str_mul (typeIs_str s x t) F.entry_str_mul (F.args_str_mul_2 _ _) (gives_str_mul x n t u h1 h2 h3) ?_
  unfold strRep at q
  split
  · rename_i c
    rw [if_pos c] at q
    exact ⟨by decide, q _ _ ⟨_, rfl⟩⟩
  · rename_i c
    rw [if_neg c] at q
    split
    · rename_i c2
      rw [if_pos c2] at q
      exact q _ _ ⟨s.toks, rfl⟩
    · rename_i c2
      rw [if_neg c2] at q
      exact ⟨by
        show ((List.replicate n.toNat x.cps).foldl (· ++ ·) #[]).size ≤ sizeLine
        rw [size_rep]
        have h4 : x.cps.size * n.toNat ≤ sizeLine := h.2.2.2
        rw [Nat.mul_comm] at h4
        simpa using h4, q _ _ ⟨_, rfl⟩⟩
theorem mul_si {prog : Program} {w : World} {A : Around} {E : Value → Shared → Prop} {s : Shared} {x : Str} {n : Int} {t u : Tok} {Q : Value → Shared → Prop} (h : RepOk x n) (q : ∀ s' k, (∃ tk, s' = { s with toks := tk }) → Q (.str (strRep x n) k) s') :
    wpAny (model prog w) A (binaryOp .Mult (.str x t) (.int n u)) Q E s := by
  obtain ⟨h1, h2, h3⟩ := repOk_facts h
  refine PySem.P.mul_str h1 h2 h3 ?_
  unfold strRep at q
  split
  · rename_i c
    rw [if_pos c] at q
    exact ⟨by decide, q _ _ ⟨_, rfl⟩⟩
  · rename_i c
    rw [if_neg c] at q
    split
    · rename_i c2
      rw [if_pos c2] at q
      exact q _ _ ⟨s.toks, rfl⟩
    · rename_i c2
      rw [if_neg c2] at q
      exact ⟨by
        show ((List.replicate n.toNat x.cps).foldl (· ++ ·) #[]).size ≤ sizeLine
        rw [size_rep]
        have h4 : x.cps.size * n.toNat ≤ sizeLine := h.2.2.2
        rw [Nat.mul_comm] at h4
        simpa using h4, q _ _ ⟨_, rfl⟩⟩
def rMulS : R2 := fun x y H Q => ∃ n z, ((x = .int n ∧ y = .str z) ∨ (x = .str z ∧ y = .int n)) ∧ RepOk z n ∧ Q (.str (strRep z n)) H
theorem op_mulS {X : Cx} : OpR X (binaryOp .Mult) rMulS := by
  intro pins s σ H x y v u Q I rx ry h
  obtain ⟨n, z, h, hr, q⟩ := h
  rcases h with ⟨rfl, rfl⟩ | ⟨rfl, rfl⟩
  · obtain ⟨t, rfl⟩ := rx
    obtain ⟨t', rfl⟩ := ry
    exact mul_is hr fun s' k ⟨tk, e⟩ => by subst e; exact ⟨.str _, H, I.tok _, ⟨k, rfl⟩, q⟩
  · obtain ⟨t, rfl⟩ := rx
    obtain ⟨t', rfl⟩ := ry
    exact mul_si hr fun s' k ⟨tk, e⟩ => by subst e; exact ⟨.str _, H, I.tok _, ⟨k, rfl⟩, q⟩
/-- * of any kind -/
def mulA (a b : D) : Option D := match a, b with
  | .int n, .str z => if -(2 ^ 62) ≤ n ∧ n ≤ 1000000 ∧ z.length ≤ 1000000 ∧ z.length * n.toNat ≤ sizeLine then some (.str (strRep z n)) else none
  | .str z, .int n => if -(2 ^ 62) ≤ n ∧ n ≤ 1000000 ∧ z.length ≤ 1000000 ∧ z.length * n.toNat ≤ sizeLine then some (.str (strRep z n)) else none
  | a, b => mulD a b
abbrev rMulZ : R2 := fun x y H Q => rMulA x y H Q ∨ rMulS x y H Q
theorem h_mulA {X : Cx} : OpR X (binaryOp .Mult) rMulZ := h_mul.or op_mulS
theorem o_mulA {g : Gd} : Op2 g rMulZ mulA := by
  intro l H x y dx dy z Q lvs bx by_ hz k
  unfold mulA at hz
  split at hz
  · split at hz
    · rename_i h
      cases hz
      obtain rfl := bx.intE
      obtain rfl := by_.strE
      exact .inr ⟨_, _, .inl ⟨rfl, rfl⟩, h, k _ _ .refl (.str _)⟩
    · cases hz
  · split at hz
    · rename_i h
      cases hz
      obtain rfl := bx.strE
      obtain rfl := by_.intE
      exact .inr ⟨_, _, .inr ⟨rfl, rfl⟩, h, k _ _ .refl (.str _)⟩
    · cases hz
  · exact .inl (o_mul l H x y _ _ z Q lvs bx by_ hz k)
end DL

/-! The D-layer: short words for what a program prints. -/
namespace DL
open PySem PySem.Spec PyProof.Rows L2
theorem bnd_of {K : PySem.W.Frag} {x qual : Str} {params : Arguments} {body : List Stmt} {scope : Scope} {kws : List (Str × V)} {f : Addr} {fd : FuncData} {ps ks : List Str} {n : Nat} {ix : List Nat} (F : FunD K x qual params body scope [] kws f fd)
    (h : ∀ (kV doc pm : Value) (an : Option Addr) (cdv ct : Value) (us ws : List Value), us.length = n → ws.length = ks.length → bindArgs (PySem.W.fnOf x qual params body scope .none kV doc pm an cdv ct) ⟨us, ks.zip ws⟩ = pure (ps.zip (pick ix (us ++ ws))))
    (hlen : ∀ {α : Type} (xs : List α), xs.length = n + ks.length → (pick ix xs).length = ps.length) : Bnd K fd ps n ks ix [] := by
  obtain ⟨oc, od, dV, kV, doc, pm, an, cdv, ct, osl, rfl, lk, hcd, hD, hK⟩ := F.ex
  rcases hD with ⟨_, rfl⟩ | ⟨e, _⟩
  · refine ⟨⟨[], .nil, fun s us ws _ h1 h2 => ?_⟩, fun xs hx => hlen xs (by simpa using hx)⟩
    rw [List.append_nil]
    exact .of_eq (h kV doc pm an cdv ct us ws h1 h2)
  · exact absurd rfl e
theorem no_d {g : Gd} : ∀ (B : Hp) (α : List Addr), RepVs g B α [] [] := fun _ _ => .nil
theorem RoomG.mono {j k : Nat} {A : Around} (r : RoomG k A) (h : j ≤ k) : RoomG j A := ⟨r.1.mono h, r.2⟩
theorem RoomG.u {k : Nat} {A : Around} (r : RoomG k A) : A.units + 110 < cLine := by have := r.1.un; omega
theorem RoomG.u64 {k : Nat} {A : Around} (r : RoomG k A) : A.units + 64 < cLine := by have := r.1.un; omega
theorem RoomG.u65 {k : Nat} {A : Around} (r : RoomG k A) : A.units + 65 < cLine := by have := r.1.un; omega
theorem RoomG.u1 {k : Nat} {A : Around} (r : RoomG k A) : A.units + 1 < cLine := by have := r.1.un; omega
/-- takes of a def's context -/
theorem tkC {P : Program} {w : World} {K : PySem.W.Frag} {mg : Str → Option Value} {bs : Heap} {N : List Str} {qual : Str} {scope : Scope} {f : Addr} {cdv : Value} {A : Around} {outer : List PySem.Env} {s : Shared} {H : Hp} {E : XK} :
    L2.Takes (cxOf (L2.CX P w) P w K mg bs N qual scope f cdv A outer s H E) (fun c d _ H => E c d H) := L2.takes_of rfl rfl rfl rfl
/-- .. and of its loops -/
theorem poC {P : Program} {w : World} {K : PySem.W.Frag} {mg : Str → Option Value} {bs : Heap} {N : List Str} {qual : Str} {scope : Scope} {f : Addr} {cdv : Value} {A : Around} {outer : List PySem.Env} {s : Shared} {H : Hp} {E : XK} :
    PassesOwn (model P w) (A.deeper (envOfC qual scope s.heap.objs.size f cdv)) (envOfC qual scope s.heap.objs.size f cdv) (cxOf (L2.CX P w) P w K mg bs N qual scope f cdv A outer s H E).xe := PassesOwn.leaving
theorem tx_bool {T : List (Addr × Str)} {X : Cx} {W : WX} {e : Expr} {f : Fx Bool} (h : WTX T X W e f) : TX T X W e f := PW.pt h
end DL

/-! The D-layer: a lambda with one default of its own that it doesn't read (lambda a1=0: ..). -/
namespace DL
open PySem PySem.Spec PyProof.Rows L2
section
variable {X : Cx} {pins : List (Addr × Obj)} {σ : L2.St} {H : Hp} {s : Shared}
abbrev lamObj (X : Cx) (params : Arguments) (body : Expr) (scope : Scope) (t0 : Addr) (doc pm : Value) (c' : Addr) (ctv : Value) : Obj :=
  PySem.W.kdv_obj "<lambda>" (X.env.qual ++ "<lambda>") params (.expr body) scope (cloFrom X.env.cells scope.names []) (.ref t0) doc pm c' ctv
/-- the lambda is made: its default's tuple, its code object (new, or found in the table) -/
theorem lam_makeD {T : List (Addr × Str)} {c P : Addr} {params : Arguments} {e : Expr} {body : Expr} {scope : Scope} {pos : Pos} {Q : Value → Shared → Prop} {v : V} (I : L2.Inv X pins σ H s) (TB : LamX.TabB X.base X.mg c P) (hcode : X.env.code = .ref c)
    (hm : (P, X.env.qual ++ "<lambda>") ∈ T) (hu : ∀ p ∈ T, p.1 = P → p.2 = X.env.qual ++ "<lambda>") (hT : LamX.Tabs T H) (hd : params.defaults = [e]) (hk0 : params.kw_defaults = []) (hfree : ∀ y ∈ scope.names, y.2 = .free → ∃ c, X.env.cells.lookup y.1 = some c)
    (he : PE X e (tC v))
    (h : ∀ (f c' t0 : Addr) (u doc pm ctv : Value) (H1 : Hp) (s' : Shared), L2.Inv X pins σ H1 s' → LamX.ExtN H H1 → LamX.Tabs T H1 →
      s'.heap.get? f = some (lamObj X params body scope t0 doc pm c' ctv) → H1 f = none → f ∉ frs X.stack → s'.heap.get? t0 = some (PySem.W.kdv_tup [u]) → H1 t0 = none → t0 ∉ frs X.stack → H1 c' = some (LamX.CodeO c' (X.env.qual ++ "<lambda>")) → Q (.ref f) s') :
    wpAny (model X.prog X.w) X.A (eval (.Lambda params body scope pos) X.env) Q X.xe s := by
  refine PySem.W.kdv_lam (by rw [hd]; rfl) hk0 ?_
  rw [hd]
  refine PySem.W.kdv_all1 (thn (he.run pins s σ H (fun v' H' => v' = v ∧ H' = H) I ⟨rfl, rfl⟩) fun u s1 ⟨v', H', I1, rv, e1, e2⟩ => PySem.W.kdv_all0 ?_)
  subst e2
  rw [makeFunction_eq]
  simp only [List.zip_nil_right, List.filterMap_nil, List.isEmpty_nil, if_true, pure_bind, List.isEmpty_cons, Bool.false_eq_true, if_false]
  refine wpAny_bind (wpAny_newTextTuple ?_)
  have I2 : L2.Inv X pins σ H' { s1 with heap := s1.heap.push (PySem.W.kdv_tup [u]) } := I1.kept (t' := s1.toks) fun b o q => Heap.get?_push_of_some _ q
  have ht0 : (s1.heap.push (PySem.W.kdv_tup [u])).get? s1.heap.objs.size = some (PySem.W.kdv_tup [u]) := Heap.get?_push_size _ rfl
  have nt0 : H' s1.heap.objs.size = none := I1.hok.fresh (Nat.le_refl _)
  have nofr : ∀ (t : Shared), L2.Inv X pins σ H' t → ∀ f, t.heap.objs.size ≤ f → f ∉ frs X.stack := fun t J f hf z => by
    rcases List.mem_cons.mp (J.stkSub _ z) with e | e
    · have h1 := J.lt
      rw [← e] at h1
      exact Nat.lt_irrefl _ (Nat.lt_of_lt_of_le h1 hf)
    · exact J.nofs hf e
  have ft0 := nofr _ I1 _ (Nat.le_refl _)
  generalize hs2 : ({ s1 with heap := s1.heap.push (PySem.W.kdv_tup [u]) } : Shared) = s2 at I2
  have ht2 : s2.heap.get? s1.heap.objs.size = some (PySem.W.kdv_tup [u]) := by rw [← hs2]; exact ht0
  show wpAny _ _ (makeTail _ _ _ _ _ _ _ _ _ _ _) _ _ s2
  obtain ⟨ps, hP, ht, ha⟩ := hT _ hm
  have bP : s2.heap.BuiltinsAt X.mg P := TB.bm.keeps I2.bk
  have hP' : s2.heap.get? P = some { cls := .none, data := .fields ps } := I2.hok P _ hP
  have npT : s1.heap.objs.size ≠ P := fun z => by rw [z, hP] at nt0; cases nt0
  cases hc : codeAmong pos ps.toList with
  | none =>
    refine PySem.W.kdv_makeTail (mg := X.mg) (c := c) (P := P) (ps := ps) (closure_ok hfree) I2.ok.glob (I2.mod.glob.keeps I2.bk) hcode (TB.code.keeps I2.bk) hP' ht hc TB.gP bP fun c' ctv doc h' tk hx hge hlt hrec htb => ?_
    obtain ⟨c2, oc, vs, t, e2, hoc, hd, hv⟩ := hrec
    cases e2
    have hsz : s2.heap.objs.size ≤ h'.objs.size := Nat.le_trans hge (Nat.le_of_lt hlt)
    have nC : H' c' = none := I2.hok.fresh hge
    have I3 := LamX.inv_table (t' := tk) (more := #[rawInt pos.line, rawInt pos.col, .ref c']) (h' := h'.push (lamObj X params body scope s1.heap.objs.size doc ((X.mg "__name__").getD .none) c' ctv)) I2 hP
      (fun b o hb e => Heap.get?_push_of_some _ (hx b o hb e)) (Heap.get?_push_of_some _ htb) hge ⟨oc, vs, t, Heap.get?_push_of_some _ hoc, hd, hv⟩
    have hE : LamX.ExtN H' (upd (upd H' P (.tbl (ps ++ #[rawInt pos.line, rawInt pos.col, .ref c']))) c' (LamX.CodeO c' (X.env.qual ++ "<lambda>"))) := fun b o e n => by
      rw [upd_ne (ne_of_none e nC), upd_ne (fun z => n ps (Option.some.inj (e.symm.trans (by rw [z]; exact hP))))]
      exact e
    have eL : (ps ++ #[rawInt pos.line, rawInt pos.col, .ref c']).toList = ps.toList ++ [rawInt pos.line, rawInt pos.col, .ref c'] := by simp
    have nt1 : s1.heap.objs.size ≠ c' := Nat.ne_of_lt (Nat.lt_of_lt_of_le (Heap.lt_size ht2) hge)
    refine h h'.objs.size c' s1.heap.objs.size u doc ((X.mg "__name__").getD .none) ctv _ _ I3 hE (fun p hp => ?_) (Heap.get?_push_size _ rfl) ?_ (nofr _ I2 _ hsz) (Heap.get?_push_of_some _ (hx _ _ npT ht2)) (by rw [upd_ne nt1, upd_ne npT]; exact nt0) ft0 upd_same
    · by_cases hb : p.1 = P
      · rw [hu p hp hb, hb]
        refine ⟨_, by rw [upd_ne (ne_of_none hP nC), upd_same], by rw [eL]; exact PySem.TriplesOk_snoc _ _ _ _ ht, fun p' cv hcv => ?_⟩
        rw [eL] at hcv
        rcases LamX.among_app _ ht hcv with z | z
        · obtain ⟨c0, e1, e2⟩ := ha p' cv z
          exact ⟨c0, e1, hE _ _ e2 LamX.codeO_ne⟩
        · exact ⟨c', z, upd_same⟩
      · obtain ⟨ps', a1, a2, a3⟩ := hT p hp
        refine ⟨ps', by rw [upd_ne (ne_of_none a1 nC), upd_ne hb]; exact a1, a2, fun p' cv hcv => ?_⟩
        obtain ⟨c0, e1, e2⟩ := a3 p' cv hcv
        exact ⟨c0, e1, hE _ _ e2 LamX.codeO_ne⟩
    · have n1 : h'.objs.size ≠ c' := Nat.ne_of_gt hlt
      have n2 : h'.objs.size ≠ P := Nat.ne_of_gt (Nat.lt_of_lt_of_le (Heap.lt_size hP') hsz)
      rw [upd_ne n1, upd_ne n2]
      exact I2.hok.fresh hsz
  | some cv =>
    obtain ⟨c', e, hco⟩ := ha pos cv hc
    subst e
    refine PySem.W.kdv_makeTailHit (mg := X.mg) (c := c) (P := P) (ps := ps) (closure_ok hfree) I2.ok.glob (I2.mod.glob.keeps I2.bk) hcode (TB.code.keeps I2.bk) hP' ht hc bP fun ctv doc h' tk hx hsz => ?_
    have I3 : L2.Inv X pins σ H' { s2 with heap := h'.push (lamObj X params body scope s1.heap.objs.size doc ((X.mg "__name__").getD .none) c' ctv), toks := tk } := I2.kept fun b o e => Heap.get?_push_of_some _ (hx b o e)
    exact h h'.objs.size c' s1.heap.objs.size u doc ((X.mg "__name__").getD .none) ctv H' _ I3 (LamX.ExtN.refl H') hT (Heap.get?_push_size _ rfl) (I2.hok.fresh hsz) (nofr _ I2 _ hsz) (Heap.get?_push_of_some _ (hx _ _ ht2)) nt0 ft0 hco
/-- one parameter of its own, that is no name of the maker's; captured ones and globals -/
structure LamSD (N : List Str) (a1 : Str) (sc scope : Scope) : Prop where
  kind : scope.kind = .function
  co : scope.isCoroutine = false
  gen : scope.isGenerator = false
  own : ∀ y ∈ scope.names, y.2 ≠ .cell ∧ (y.2 = .local → y.1 = a1)
  free : ∀ y ∈ scope.names, y.2 = .free → sc.names.lookup y.1 = some .cell ∨ sc.names.lookup y.1 = some .free
  par : scope.names.lookup a1 = some .local
  no : a1 ∉ N
def lamSDB (N : List Str) (a1 : Str) (sc scope : Scope) : Bool :=
  decide (scope.kind = .function) && (!scope.isCoroutine && (!scope.isGenerator && (decide (scope.names.lookup a1 = some .local) && (decide (a1 ∉ N) && scope.names.all fun y => !decide (y.2 = .cell) && ((!decide (y.2 = .local) || decide (y.1 = a1)) && ((!decide (y.2 = .free) || decide (sc.names.lookup y.1 = some .cell)) || decide (sc.names.lookup y.1 = some .free)))))))
theorem lamSD_by {N : List Str} {a1 : Str} {sc scope : Scope} (h : lamSDB N a1 sc scope = true) : LamSD N a1 sc scope := by
  unfold lamSDB at h
  simp only [Bool.and_eq_true, Bool.or_eq_true, Bool.not_eq_true', decide_eq_true_eq, decide_eq_false_iff_not, List.all_eq_true] at h
  obtain ⟨h1, h2, h3, h4, h5, h6⟩ := h
  refine ⟨h1, h2, h3, fun y hy => ⟨(h6 y hy).1, fun e => ?_⟩, fun y hy e => ?_, h4, h5⟩
  · rcases (h6 y hy).2.1 with z | z
    · exact absurd e z
    · exact z
  · rcases (h6 y hy).2.2 with (z | z) | z
    · exact absurd e z
    · exact .inl z
    · exact .inr z
theorem LamSD.has {N : List Str} {a1 : Str} {scope : Scope} (L : LamSD N a1 X.env.scope scope) (ok : X.Ok) : ∀ y ∈ scope.names, y.2 = .free → ∃ c, X.env.cells.lookup y.1 = some c := fun y hy e => by
  rcases L.free y hy e with k | k
  · exact ok.has _ (.inl k)
  · exact ok.has _ (.inr k)
theorem lam_startD {a1 : Str} {HZ : Hp} {s1 : Shared} {A : Around} {outer : List PySem.Env} {E : XK} {scope : Scope} {f c' : Addr} {h₁ : Heap} {tk : Nat} {m1 : Str → Option Value} (I : L2.Inv X pins σ H s) (L : LamSD X.N a1 X.env.scope scope) (e0 : L2.Env0 X.prog X.w X.K X.mg X.base A outer s1 HZ) (hd : A.handled = none)
    (un : Un (frs X.stack) [] H HZ s.heap s1.heap) (hns : h₁.Ns s1.heap.objs.size m1) (kp : ∀ b o, s1.heap.get? b = some o → h₁.get? b = some o) :
    L2.Inv (LamX.lamCx X A outer s1 HZ E scope f c') [] σ HZ { s1 with heap := h₁, toks := tk } := by
  have hfree := L.has I.ok
  have cm : ∀ {y c}, (cloFrom X.env.cells scope.names []).lookup y = some c → X.env.cells.lookup y = some c := fun {y c} e => by
    rcases cloFrom_mem (PySem.mem_of_lookup e) with hm | ⟨h1, h2⟩
    · cases hm
    · obtain ⟨c1, hc⟩ := hfree _ h1 rfl
      have hc : X.env.cells.lookup y = some c1 := hc
      have e2 : c = c1 := by
        rw [h2, hc] <;> rfl
      rw [e2]
      exact hc
  have look : ∀ {y}, scope.names.lookup y = some .free → ∃ c, (cloFrom X.env.cells scope.names []).lookup y = some c := fun {y} hl => by
    have hy : (y, NameKind.free) ∈ scope.names := PySem.mem_of_lookup hl
    exact mem_lookup (cloFrom_has (cells := X.env.cells) (acc := []) hy)
  have cellK : ∀ {c : Addr} {v : Option Value}, H c = none → s.heap.IsCell c v → h₁.IsCell c v := fun {c v} n ⟨o, ho, hd⟩ => by
    obtain ⟨sl, q⟩ := un.any ho n (by simp)
    exact ⟨_, kp _ _ q, hd⟩
  have noA : ∀ b : Addr, b ∉ (LamX.lamCx X A outer s1 HZ E scope f c').ex := fun b z => absurd (show b ∈ ([] : List Addr) from z) (by simp)
  refine ⟨⟨e0.mod, L.kind, rfl, rfl, Nat.le_refl _, fun y z c e1 e2 => I.ok.inj y z c (cm e1) (cm e2), fun y hy => ?_, fun y c z _ => ?_, fun _ => hd, Around.frames_deeper e0.frames, .inr ⟨rfl, rfl⟩, fun b z => absurd z (noA b), e0.bs, e0.bsz, fun b _ _ => noA b,
      fun b z => absurd z (noA b), e0.funs, e0.frf⟩,
    rfl, e0.bare, Un.kept kp, ⟨_, hns, fun i y v e1 e2 e3 => ?_⟩, fun y c e => ?_, e0.hok.fresh (Nat.le_refl _), fun y c e => ?_, fun q hq => absurd (show q ∈ ([] : List (Addr × Obj)) ++ [] from hq) (by simp), e0.hok.kept kp, I.len⟩
  · have hy : scope.names.lookup y = some .cell ∨ scope.names.lookup y = some .free := hy
    rcases hy with hy | hy
    · exact absurd rfl (L.own _ (PySem.mem_of_lookup hy)).1
    · exact look hy
  · have z : false = true := z
    cases z
  · have e3 : Vis scope y := e3
    rcases e3 with k | k | k
    · have ey := (L.own _ (PySem.mem_of_lookup k)).2 rfl
      dsimp only at ey
      exact absurd (List.mem_of_getElem? e1) (by rw [ey]; exact L.no)
    · exact absurd rfl (L.own _ (PySem.mem_of_lookup k)).1
    · obtain ⟨m, hn, hl⟩ := I.loc
      have hvis : Vis X.env.scope y := (L.free _ (PySem.mem_of_lookup k) rfl).elim (fun k => .inr (.inl k)) (fun k => .inr (.inr k))
      obtain ⟨w', r, q⟩ := hl i y v e1 e2 hvis
      obtain ⟨c2, h2⟩ := look k
      refine ⟨w', r, .inr ⟨.inr k, c2, h2, ?_⟩⟩
      have c1 := cm h2
      rcases q with ⟨k', _⟩ | ⟨_, c3, e', z⟩
      · have k' : X.env.scope.names.lookup y = some .local := k'
        rcases L.free _ (PySem.mem_of_lookup k) rfl with k2 | k2 <;> rw [show X.env.scope.names.lookup y = _ from k2] at k' <;> cases k'
      · rw [c1] at e'
        cases e'
        exact cellK (I.freeC y _ c1) z
  · obtain ⟨w', z⟩ := I.cell y c (cm e)
    exact ⟨w', cellK (I.freeC y c (cm e)) z⟩
  · obtain ⟨v, o, ho, hd⟩ := I.cell y c (cm e)
    exact un.free c o ho (I.freeC y c (cm e)) (by simp)
end
section
variable {T : List (Addr × Str)} {X : Cx} {W : WX}
/-- x(lambda a1=e: body) -/
theorem ex_lamD {x a a1 : Str} {g c P : Addr} {fd : FuncData} {k : Nat} {pg : Arguments} {bg : List Stmt} {sg : Scope} {Ng : List Str} {fbG : D → (Store → Res Val) → Sx} {cap : List Nat} {fl : Fx Val} {e : Expr} {ve : V}
    {params : Arguments} {body : Expr} {scope : Scope} {p lpos pos : Pos} (FG : FunD X.K x x pg bg sg [] [] g fd) (hg : Gl X x) (hm : X.mg x = some (.ref g)) (hb : L2.Binds X.K fd [a] []) (Sg : FnScope Ng [a] sg) (hNg : Ng[0]? = some a) (hva : Vis sg a)
    (hG : ∀ (cdv : Value) (A : Around) (outer : List PySem.Env) (s : Shared) (H : Hp) (E : XK) (lm : D) (act : Store → Res Val), RoomG (k + 1) (A.deeper (envOfC x sg s.heap.objs.size g cdv)) →
      (∀ (W : WX) (pn : List (Addr × Obj)) (xe : Value → Shared → Prop) (p1 p2 : Pos), L2.Takes ((cxOf (L2.CX X.prog X.w) X.prog X.w X.K X.mg X.base Ng x sg g cdv A outer s H E).tr pn xe) W →
        EX T ((cxOf (L2.CX X.prog X.w) X.prog X.w X.K X.mg X.base Ng x sg g cdv A outer s H E).tr pn xe) W (.Call (.Name a p1) [] [] p2) (eAct 0 lm act)) →
      BX T (cxOf (L2.CX X.prog X.w) X.prog X.w X.K X.mg X.base Ng x sg g cdv A outer s H E) (fun c d _ H => E c d H) bg (fbG lm act))
    (TB : LamX.TabB X.base X.mg c P) (hcode : X.env.code = .ref c) (hmT : (P, X.env.qual ++ "<lambda>") ∈ T) (hu : ∀ p ∈ T, p.1 = P → p.2 = X.env.qual ++ "<lambda>") (hr : RoomG (k + 2) X.A) (L : LamSD X.N a1 X.env.scope scope) (hdd : params.defaults = [e]) (hk0 : params.kw_defaults = []) (hve : PE X e (tC ve))
    (hbind : ∀ (q : Str) (cl : List (Str × Addr)) (t0 : Addr) (doc pm cv ctv u : Value), ∃ kk : Option (Array Value) → Sem (List (Str × Value)), bindArgs (PySem.W.kdv_fn "<lambda>" q params (.expr body) scope cl (.ref t0) doc pm cv ctv) ⟨[], []⟩ = seqItems? (.ref t0) >>= kk ∧ kk (some #[u]) = pure [(a1, u)])
    (hbody : ∀ (A : Around) (outer : List PySem.Env) (s : Shared) (H : Hp) (E : XK) (f c' : Addr), RoomG k (A.deeper (LamX.lamEnv X scope s.heap.objs.size f c')) → EX T (LamX.lamCx X A outer s H E scope f c') (fun c d _ H => E c d H) body fl) (tk : L2.Takes X W)
    (hdb : (x == ("__debug__" : Str)) = false := by decide) (hd : (a == ("__debug__" : Str)) = false := by decide) (hcd : (a == ("__classdict__" : Str)) = false := by decide) :
    EX T X W (.Call (.Name x p) [.Lambda params body scope lpos] [] pos) (eLam Ng.length fbG X.N.length cap fl) := by
  obtain ⟨oc, od, dV, kV, doc, pm, an, cdv, ct, osl, rfl, lk, hcg, _, _⟩ := FG.ex
  have hk := FG.kp
  refine ⟨fun pins s σ H Q I ⟨ρ, ω, α, sr, rs, post⟩ => ?_⟩
  refine wpAny_Call_Name_kw (ld_glob I hg hm ?_ hdb)
  refine PySem.W.callWith_K (h₀ := X.base) I.ok.mod.kin hk ?_ (by rfl) (by rfl)
  show wpAny _ _ (spliced ((false, eval (.Lambda params body scope lpos) X.env) :: backTo pos (starEach [] X.env))) _ _ s
  refine Calls.spliced_cons (lam_makeD I TB hcode hmT hu sr.tabs hdd hk0 (L.has I.ok) hve fun f c' t0 u0 doc' pm' ctv H1 s' I1 eN T1 hf hfn hfr ht0 ht0n ht0f hco => ?_)
  refine Calls.spliced_nil ⟨I1.kIn, ?_⟩
  have go1 := Go.extN sr eN T1
  have p1 := Post.rebase go1 post
  have rs1 := go1.rs rs
  obtain ⟨r, hres, hpr⟩ : ∃ r, (∀ f c q σ, fnL Ng.length fbG (.lam f c q σ (capD cap ρ)) (fun ω => fl (envN X.N.length (capD cap ρ)) ω) ω = r) ∧ Post (gX T X) W σ ω α H1 (RepV (gX T X)) Q r := by
    unfold eLam at p1
    split at p1
    · rename_i h
      exact ⟨_, h.choose_spec, p1⟩
    · exact p1.elim
  have rN := capD_rep rs1 cap
  have nco : c' ∉ lv ω α := fun z => by
    obtain ⟨n, m, hn, hm'⟩ := lv_mem' z
    obtain ⟨a', o', h1, _, h3, h4⟩ := go1.sr.get hn
    rw [hm'] at h1; cases h1
    rw [hco] at h3; cases h3
    exact notCode h4 _ _ rfl
  have rl : Rep (gX T X) (base ω α H1) (.ref f) (.lam f c' (X.env.qual ++ "<lambda>") σ (capD cap ρ)) := .lam ((off_of nco).trans hco) rN
  have rc : codeAny (model X.prog X.w) X.A (.call (.ref g) ⟨[.ref f], []⟩) (CR (L2.CX X.prog X.w) X.stack X.prog X.w H1 s' Q (fun c d H => W c d σ H)) s' := by
    refine LamX.run_ofS (N := Ng) (ps := [a]) (us := [.ref f]) (vs := [.ref f]) lk hcg Sg hr.1 I1.env0 (hb s' [.ref f] I1.kIn rfl) (.cons rfl .nil) rfl fun hr' => ?_
    refine ⟨_, hG cdv X.A X.stack s' H1 (fun c d H => W c d σ H) (.lam f c' (X.env.qual ++ "<lambda>") σ (capD cap ρ)) (fun ω => fl (envN X.N.length (capD cap ρ)) ω) ⟨hr', hr.2⟩ fun WZ pn xe q1 q2 tkZ => ?_, ?_⟩
    · refine ⟨fun pinsZ sZ σZ HZ QZ IZ ⟨ρZ, ωZ, αZ, srZ, rsZ, pZ⟩ => ?_⟩
      unfold eAct at pZ
      split at pZ
      rotate_left
      · exact pZ.elim
      rename_i hslot
      dsimp only at pZ
      obtain ⟨vZ, hv1, hv2⟩ := rsZ.at_ 0 _ hslot
      obtain ⟨rfl, hcZ, hrZ⟩ : vZ = .ref f ∧ HZ c' = some (LamX.CodeO c' (X.env.qual ++ "<lambda>")) ∧ RepN (gX T X) (base ωZ αZ HZ) σ (capD cap ρ) := by
        cases (show Rep _ _ vZ _ from hv2) with
        | lam h r => exact ⟨rfl, (off_some h).2, r⟩
      refine wpAny_Call_Name_kw (thn ((pe_var (pos := q1) (i := 0) hNg hva hd hcd).run pinsZ sZ σZ HZ (fun v H1 => v = .ref f ∧ H1 = HZ) IZ ⟨.ref f, hv1, rfl, rfl⟩) fun u s1 ⟨v, H1', I1', r1, q1'⟩ => ?_)
      obtain ⟨ev, eH⟩ := q1'
      subst ev
      rw [eH] at I1'
      obtain rfl : u = Value.ref f := r1
      have of1 := I1'.base.keep f _ hf hfn hfr (fun z => nomatch (show f ∈ ([] : List Addr) from z))
      have ot1 := I1'.base.keep t0 _ ht0 ht0n ht0f (fun z => nomatch (show t0 ∈ ([] : List Addr) from z))
      refine PySem.W.callWith_F0 ⟨_, _, _, _, of1⟩ ?_
      have un : Un (frs X.stack) [] H1 HZ s'.heap s1.heap := I1'.base
      obtain ⟨⟨oc', vs, t, hoc, hdc, hvc⟩, _, _⟩ := I1'.hok c' _ hcZ
      have rcL : codeAny (model X.prog X.w) (X.A.deeper (envOfC x sg s'.heap.objs.size g cdv)) (.call (.ref f) ⟨[], []⟩) (CR (L2.CX X.prog X.w) (envOfC x sg s'.heap.objs.size g cdv :: X.stack) X.prog X.w HZ s1 QZ (fun c d H => WZ c d σZ H)) s1 := by
        obtain ⟨kk, hk1, hk2⟩ := hbind (X.env.qual ++ "<lambda>") (cloFrom X.env.cells scope.names []) t0 doc' pm' (.ref c') ctv u0
        refine PySem.W.kla_callFunE hr'.depth of1 rfl L.co L.gen rfl ⟨c', oc', vs, t, rfl, hoc, hdc, hvc⟩ ?_
        refine (BindsTo.of_defaults (fd := PySem.W.kdv_fn "<lambda>" (X.env.qual ++ "<lambda>") params (.expr body) scope (cloFrom X.env.cells scope.names []) (.ref t0) doc' pm' (.ref c') ctv) (args := ⟨[], []⟩) (binds := [(a1, u0)]) (items := #[u0]) rfl ot1 rfl hk1 hk2) _ _ _ _ ?_
        refine wpAny_newFunctionEnv (fun y hy => (L.own y hy).1) (fun y hy => by rw [List.mem_singleton.mp hy]; exact L.par) (fun h₁ hns hsb => ⟨I1'.nolimit.fresh _ hsb, ?_⟩) L.kind
        show codeAny _ _ (.expr body (LamX.lamEnv X scope s1.heap.objs.size f c')) _ _
        have kp : ∀ b o, s1.heap.get? b = some o → h₁.get? b = some o := fun b o e => hsb.extBut b o (Nat.ne_of_lt (Heap.lt_size e)) (Heap.get?_push_of_some _ e)
        have J : L2.Inv (LamX.lamCx X (X.A.deeper (envOfC x sg s'.heap.objs.size g cdv)) (envOfC x sg s'.heap.objs.size g cdv :: X.stack) s1 HZ (fun c d H => WZ c d σZ H) scope f c') [] σ HZ { s1 with heap := h₁, toks := s1.toks + ([(a1, u0)] : List (Str × Value)).length } :=
          lam_startD I1 L I1'.env0 hr'.hd un hns kp
        have hlen : σ.length = X.N.length := I1.len
        have rsL := envN_rs (α := αZ) hrZ
        rw [hlen] at rsL
        refine PySem.W.kla_codeExpr (wpAny_mono ((hbody _ _ s1 HZ (fun c d H => WZ c d σZ H) f c' ⟨hr'.deeper _, hr.2⟩).run [] _ _ HZ QZ J ⟨_, ωZ, αZ, srZ, rsL, ?_⟩) (fun v s2 hq => ?_) fun e s2 hq => hq)
        · cases e : fl (envN X.N.length (capD cap ρ)) ωZ with
          | ok y ω' => rw [e] at pZ; exact pZ
          | exc y ω' => rw [e] at pZ; exact pZ
          | bad => rw [e] at pZ; exact pZ
        · obtain ⟨w', H', J', rv, q⟩ := hq
          exact ⟨w', H', J'.os, J'.bare, J'.base, J'.hok, rv, q⟩
      refine wpAny_call (codeAny_mono rcL fun r s2 hq => ?_)
      cases r with
      | error e => exact passAt tkZ σZ pinsZ HZ s1 e s2 I1' hq
      | ok fl' =>
        cases fl' with
        | ret u => exact I1'.after hq
        | next => exact False.elim hq
        | brk => exact False.elim hq
        | cont => exact False.elim hq
    · have e := hres f c' (X.env.qual ++ "<lambda>") σ
      refine ⟨[some (.d (.lam f c' (X.env.qual ++ "<lambda>") σ (capD cap ρ)))] ++ List.replicate (Ng.length - 1) none, ω, α, go1.sr, ?_, ?_⟩
      · exact RS.start (vs := [.ref f]) (xs := [.d (.lam f c' (X.env.qual ++ "<lambda>") σ (capD cap ρ))]) (.cons (x := .d (.lam f c' (X.env.qual ++ "<lambda>") σ (capD cap ρ))) rl .nil) _
      · refine leave_post go1.sr ?_
        unfold fnL at e
        rw [e]
        exact hpr.cpost
  refine wpAny_call (codeAny_mono rc fun r s2 hq => ?_)
  cases r with
  | error e => exact passAt tk σ pins H1 s' e s2 I1 hq
  | ok fl' =>
    cases fl' with
    | ret u => exact I1.after hq
    | next => exact False.elim hq
    | brk => exact False.elim hq
    | cont => exact False.elim hq
end
end DL

/-! The D-layer: the head's Hook, with exception classes. -/
namespace DL
open PySem PySem.Spec PyProof.Rows L2
/-- an exception class of the text: its name, its __init__'s row, its fields -/
structure XcD where
  cls : Str
  qual : Str
  params : Arguments
  body : List Stmt
  scope : Scope
  flds : List Str
abbrev IW : Type := Option (Str × Str × Arguments × FuncBody × Scope × Addr × List Str × Addr)
def iAd (K : PySem.W.Frag) (d : XcD) : Addr := He.ma K (He.ga K d.cls) "__init__"
def iW (K : PySem.W.Frag) (d : XcD) : IW := match K.lookup (iAd K d) with
  | some ⟨_, _, .func fd, _⟩ => some (fd.name, fd.qualname, fd.params, fd.body, fd.scope, fd.globals, fd.closure.map (·.1), fd.builtins)
  | _ => none
def XcD.val (d : XcD) : IW := some ("__init__", d.qual, d.params, .stmts d.body, d.scope, mainGlobals, ["__class__"], builtinsNs)
def fileB (file : Str) : Option Value → Bool
  | some (.str x _) => file == x
  | _ => false
def codeB (K : PySem.W.Frag) (file : Str) (cv : Value) : Bool := match cv with
  | .ref a => (match K.lookup a with
    | some ⟨_, _, .fields vs, _⟩ => fileB file vs[2]?
    | _ => false)
  | _ => false
def cellB (K : PySem.W.Frag) (C : Addr) (cl : List (Str × Addr)) : Bool := match cl with
  | [(_, cc)] => (match K.lookup cc with
    | some ⟨_, _, .cell (some (.ref D)), _⟩ => D == C
    | _ => false)
  | _ => false
/-- an exception class over ValueError -/
def oexB (K : PySem.W.Frag) (C : Addr) : Bool := (match K.lookup C with
  | some ⟨.type "type", _, .cls cd, sl⟩ => (match cd.mro, sl.toList with
    | .ref C' :: bm, [_, _, _, _, some (.builtin n), _] => C' == C && (n == "ValueError.__new__" && (!cd.hasDel && (cd.hasDict && PySem.HandSPX.refsVE bm)))
    | _, _ => false)
  | _ => false) && (He.eqO (PySem.W.findIn K (.ref C) "__setattr__") (some (some (.builtin "object.__setattr__"))) && (decide (PySem.W.subIn K (.ref C) (.type "BaseException") = some true) && (decide (PySem.W.typeIn K (.ref C) = some (.type "type")) && PySem.W.keepIn K (.ref C))))
theorem oexB_ok {K : PySem.W.Frag} {C : Addr} (h : oexB K C = true) : OexC K C := by
  obtain ⟨h1, h⟩ := He.ba h
  obtain ⟨h2, h⟩ := He.ba h
  obtain ⟨h3, h⟩ := He.ba h
  obtain ⟨h4, h5⟩ := He.ba h
  refine ⟨?_, He.eqO_ok h2, of_decide_eq_true h3, of_decide_eq_true h4, h5⟩
  split at h1
  · rename_i dd cd sl ho
    split at h1
    · rename_i C' bm k0 k1 k2 k3 n k5 hm hs
      simp only [Bool.and_eq_true, beq_iff_eq, Bool.not_eq_true'] at h1
      obtain ⟨rfl, rfl, hdel, hd, ht⟩ := h1
      obtain ⟨nm, bs, mro, ns, qn, hd', sn, sub, ab, col, del⟩ := cd
      dsimp only at hm hdel hd
      subst hm hdel hd
      have hsl : sl = #[k0, k1, k2, k3, some (.builtin "ValueError.__new__"), k5] := by
        obtain ⟨l⟩ := sl
        simp only at hs
        rw [hs]
      subst hsl
      exact ⟨nm, qn, ns, bs, bm, sn, sub, ab, col, dd, k0, k1, k2, k3, k5, ho, ht⟩
    · cases h1
  · cases h1
/-- what isinstance and e.f ask of it -/
def excB (K : PySem.W.Frag) (C : Addr) : Bool := He.eqO (PySem.W.findIn K (.ref C) "__getattribute__") (some (some (.builtin "BaseException.__getattribute__"))) && (He.eqO (PySem.W.findIn K (.ref C) "__getattr__") (some none) && (decide (PySem.W.subIn K (.ref C) (.type "BaseException") = some true) && (PySem.W.hasDictIn K C &&
  (He.eqO (PySem.W.findIn K (.ref C) "__class__") (some (some (.builtin "object.__class__"))) && (He.eqO (PySem.W.specialIn K (.builtin "object.__class__") "__get__") (some (some (.builtin "getset_descriptor.__get__"))) && (decide (PySem.W.takesIn K (.builtin "object.__class__") = some true) && decide (PySem.W.mroIn K C (.type "object") = some true)))))))
theorem excB_ok {K : PySem.W.Frag} {C : Addr} (h : excB K C = true) : ExcC K C ∧ XfC K C := by
  obtain ⟨h1, h⟩ := He.ba h
  obtain ⟨h2, h⟩ := He.ba h
  obtain ⟨h3, h⟩ := He.ba h
  obtain ⟨h4, h⟩ := He.ba h
  obtain ⟨h5, h⟩ := He.ba h
  obtain ⟨h6, h⟩ := He.ba h
  obtain ⟨h7, h8⟩ := He.ba h
  exact ⟨⟨He.eqO_ok h1, He.eqO_ok h2, of_decide_eq_true h3, h4, He.eqO_ok h5, He.eqO_ok h6, of_decide_eq_true h7, of_decide_eq_true h8⟩, ⟨He.eqO_ok h1, He.eqO_ok h2, of_decide_eq_true h3, h4⟩⟩
/-- all of one class -/
def XcD.ok (K : PySem.W.Frag) (file : Str) (d : XcD) : Bool :=
  He.eqO (PySem.W.nsIn K mainGlobals d.cls) (some (some (.ref (He.ga K d.cls)))) && (oexB K (He.ga K d.cls) && (excB K (He.ga K d.cls) &&
  (decide (PySem.W.ks_superIn K (He.ga K d.cls) (He.ga K d.cls) "__init__" = some (some (.builtin "ValueError.__init__"))) && (He.eqO (PySem.W.nsIn K cStatics "thirdparty.any") (some none) && (decide (PySem.W.subIn K (.ref (He.ga K d.cls)) (.type "ValueError") = some true) && (decide (PySem.W.mroIn K (He.ga K d.cls) (.ref (He.ga K d.cls)) = some true) &&
  (He.eqO (PySem.W.findIn K (.ref (He.ga K d.cls)) "__init__") (some (some (.ref (iAd K d)))) && (decide (PySem.W.typeIn K (.ref (iAd K d)) = some (.type "function")) && ((d.flds.all fun f => He.eqO (PySem.W.findIn K (.ref (He.ga K d.cls)) f) (some none)) &&
  (match K.lookup (iAd K d) with
    | some ⟨_, _, .func fd, _⟩ => PySem.W.codeIn K fd.code d.qual && (codeB K file fd.code && (cellB K (He.ga K d.cls) fd.closure && (decide (fd.defaults = .none) && decide (fd.kwdefaults = .none))))
    | _ => false))))))))))
structure XcOk (P : Program) (K : PySem.W.Frag) (d : XcD) (fd : FuncData) : Prop where
  init : InitD P K (He.ga K d.cls) "__init__" d.qual d.params d.body d.scope (iAd K d) fd
  nd : fd.defaults = .none ∧ fd.kwdefaults = .none
  glo : PySem.W.nsIn K mainGlobals d.cls = some (some (.ref (He.ga K d.cls)))
  exc : ExcC K (He.ga K d.cls) ∧ XfC K (He.ga K d.cls)
  iC : PySem.W.findIn K (.ref (He.ga K d.cls)) "__init__" = some (some (.ref (iAd K d)))
  tI : PySem.W.typeIn K (.ref (iAd K d)) = some (.type "function")
  fl : ∀ f ∈ d.flds, PySem.W.findIn K (.ref (He.ga K d.cls)) f = some none
theorem XcD.of {P : Program} {K : PySem.W.Frag} {d : XcD} (hf : (P.main.scope.names.lookup ("super" : Str)).isSome = false) (h : d.ok K P.main.file = true) (e : iW K d = d.val) : ∃ fd, XcOk P K d fd := by
  obtain ⟨h1, h⟩ := He.ba h
  obtain ⟨h2, h⟩ := He.ba h
  obtain ⟨h3, h⟩ := He.ba h
  obtain ⟨h4, h⟩ := He.ba h
  obtain ⟨h5, h⟩ := He.ba h
  obtain ⟨h6, h⟩ := He.ba h
  obtain ⟨h7, h⟩ := He.ba h
  obtain ⟨h8, h⟩ := He.ba h
  obtain ⟨h9, h⟩ := He.ba h
  obtain ⟨h10, h⟩ := He.ba h
  unfold iW at e
  split at h
  · rename_i oc od fd osl lk
    rw [lk] at e
    obtain ⟨k1, h⟩ := He.ba h
    obtain ⟨k2, h⟩ := He.ba h
    obtain ⟨k3, h⟩ := He.ba h
    obtain ⟨k4, k5⟩ := He.ba h
    obtain ⟨n1, n2, n3, n4, n5, n6, n7, n8, n9, n10, n11, n12, n13, n14, n15⟩ := fd
    have e2 : (some (n1, n2, n3, n4, n5, n6, n7.map (·.1), n15) : IW) = some (("__init__" : Str), d.qual, d.params, FuncBody.stmts d.body, d.scope, mainGlobals, [("__class__" : Str)], builtinsNs) := e
    simp only [Option.some.injEq, Prod.mk.injEq] at e2
    obtain ⟨q1, q2, q3, q4, q5, q6, q7, q8⟩ := e2
    subst q1 q2 q3 q4 q5 q6 q8
    dsimp only at k1 k2 k3 k4 k5
    cases n7 with
    | nil => cases q7
    | cons p r =>
      cases r with
      | cons p2 r2 => simp at q7
      | nil =>
        obtain ⟨y, cc⟩ := p
        simp at q7
        subst q7
        unfold cellB at k3
        dsimp only at k3
        split at k3
        · rename_i cl cld D csl lcc
          have eD : D = He.ga K d.cls := by simpa using k3
          subst eD
          obtain ⟨cda, rfl⟩ : ∃ a, n13 = Value.ref a := by cases n13 <;> first | exact ⟨_, rfl⟩ | cases k2
          unfold codeB at k2
          dsimp only at k2
          split at k2
          · rename_i ccl cdd vs ccs lc
            obtain ⟨x, t, ev, k2⟩ : ∃ (x : Str) (t : Tok), vs[2]? = some (.str x t) ∧ (P.main.file == x) = true := by
              unfold fileB at k2
              split at k2
              · rename_i x t ev
                exact ⟨x, t, ev, k2⟩
              · cases k2
            exact ⟨_, ⟨⟨⟨oc, od, n8, n9, n10, n11, n12, cda, cc, n14, osl, rfl, lk, k1, ⟨ccl, cdd, vs, ccs, x, t, lc, ev, k2⟩, cl, cld, csl, lcc⟩, oexB_ok h2, of_decide_eq_true h4, He.eqO_ok h5, of_decide_eq_true h6, of_decide_eq_true h7, hf⟩,
              ⟨of_decide_eq_true k4, of_decide_eq_true k5⟩, He.eqO_ok h1, excB_ok h3, He.eqO_ok h8, of_decide_eq_true h9, fun f hf' => He.eqO_ok (List.all_eq_true.mp h10 f hf')⟩⟩
          · cases k2
        · cases k3
  · cases h
/-- the answers of the table: who is whose instance -/
def subB (K : PySem.W.Frag) (c y : Str) (b : Bool) : Bool := decide (PySem.W.kitOne K (.ref (He.ga K c)) (.ref (He.ga K y)) = some b) && decide (PySem.W.exmOne K (.ref (He.ga K c)) (.ref (He.ga K y)) = some b)
/-! ### the Hook -/
abbrev AlX : Type := He.AlD × Bool × List IW
def obsX (file : Str) (fa : List He.Fa) (fn : List He.DefD) (xs : List XcD) (ss : List (Str × Str × Bool)) (K : PySem.W.Frag) : AlX := (He.obsD fa fn K, (xs.all fun d => d.ok K file) && ss.all fun p => subB K p.1 p.2.1 p.2.2, xs.map fun d => iW K d)
def valX (fn : List He.DefD) (xs : List XcD) : AlX := (He.valD fn, true, xs.map XcD.val)
def SaysX (file : Str) (fa : List He.Fa) (fn : List He.DefD) (xs : List XcD) (ss : List (Str × Str × Bool)) (K : PySem.W.Frag) : Prop := obsX file fa fn xs ss K = valX fn xs
/-- a table of code objects -/
def isTab : Obj → Bool
  | ⟨.none, none, .fields _, _⟩ => true
  | _ => false
def noTab (g : Addr → Option Obj) : Addr → Option Obj := fun a => (g a).bind fun o => if isTab o = true then none else some o
theorem noTab_some {g : Addr → Option Obj} {a : Addr} {o : Obj} (h : noTab g a = some o) : g a = some o ∧ isTab o = false := by
  unfold noTab at h
  obtain ⟨o', h1, h2⟩ := Option.bind_eq_some_iff.mp h
  split at h2
  · cases h2
  · rename_i q
    cases h2
    exact ⟨h1, by simpa using q⟩
def asX (g : Addr → Option Obj) (n : Nat) : List Addr := cStatics :: He.asD g n
def obsXG (n : Nat) (file : Str) (fa : List He.Fa) (fn : List He.DefD) (xs : List XcD) (ss : List (Str × Str × Bool)) (g : Addr → Option Obj) : AlX := obsX file fa fn xs ss (He.frG (noTab g) (asX g n))
def hookX (n : Nat) (file : Str) (fa : List He.Fa) (fn : List He.DefD) (xs : List XcD) (ss : List (Str × Str × Bool)) : PySem.W.Hook where
  α := AlX
  obs := fun s => obsXG n file fa fn xs ss s.heap.get?
  val := fun _ => valX fn xs
  says := fun _ h => ∃ K : PySem.W.Frag, K.In h ∧ SaysX file fa fn xs ss K ∧ ∀ a o, K.lookup a = some o → isTab o = false
  of := fun _ _ e => ⟨_, fun a o q => (noTab_some (He.frG_at _ q)).1, e, fun a o q => (noTab_some (He.frG_at _ q)).2⟩
  keeps := fun _ _ _ ⟨K, hK, c, t⟩ k => ⟨K, PySem.W.Frag.In.keeps hK k, c, t⟩
theorem obsXG_eq {n : Nat} {file : Str} {fa : List He.Fa} {fn : List He.DefD} {xs : List XcD} {ss : List (Str × Str × Bool)} {g : Addr → Option Obj} {s : Shared} (h : ∀ a, g a = s.heap.get? a) : obsXG n file fa fn xs ss g = (hookX n file fa fn xs ss).obs s := by
  have e : g = s.heap.get? := funext h
  rw [e] <;> rfl
section
variable {P : Program} {fa : List He.Fa} {fn : List He.DefD} {xs : List XcD} {ss : List (Str × Str × Bool)} {K : PySem.W.Frag}
theorem SaysX.d {file : Str} (c : SaysX file fa fn xs ss K) : He.SaysD fa fn K := congrArg (fun z : AlX => z.1) c
theorem SaysX.cls (c : SaysX P.main.file fa fn xs ss K) (hf : (P.main.scope.names.lookup ("super" : Str)).isSome = false) (i : Nat) {d : XcD} (h : xs[i]? = some d := by rfl) : ∃ fd, XcOk P K d fd := by
  have c1 := (He.ba (show ((xs.all fun d => d.ok K P.main.file) && ss.all fun p => subB K p.1 p.2.1 p.2.2) = true from congrArg (fun z : AlX => z.2.1) c)).1
  have e : xs.map (fun d => iW K d) = xs.map XcD.val := congrArg (fun z : AlX => z.2.2) c
  have e2 : (xs.map fun d => iW K d)[i]? = (xs.map XcD.val)[i]? := by rw [e]
  rw [List.getElem?_map, List.getElem?_map, h] at e2
  exact XcD.of hf (List.all_eq_true.mp c1 d (List.mem_of_getElem? h)) (Option.some.inj e2)
theorem SaysX.clsM (c : SaysX P.main.file fa fn xs ss K) (hf : (P.main.scope.names.lookup ("super" : Str)).isSome = false) {d : XcD} (h : d ∈ xs) : ∃ fd, XcOk P K d fd := by
  obtain ⟨i, hi⟩ := List.mem_iff_getElem?.mp h
  exact c.cls hf i hi
theorem SaysX.factM {file : Str} (c : SaysX file fa fn xs ss K) {f : He.Fa} (h : f ∈ fa) : f.ok K = true := by
  have c1 := (He.ba (show ((fa.all fun f => f.ok K) && fn.all fun d => d.ok K) = true from congrArg (fun z : He.AlD => z.1) c.d)).1
  exact List.all_eq_true.mp c1 f h
theorem XcOk.binds {d : XcD} {fd : FuncData} {ps : List Str} (o : XcOk P K d fd)
    (h : ∀ (cl : List (Str × Addr)) (doc pm : Value) (an : Option Addr) (cdv ct : Value) (us : List Value), us.length = ps.length → bindArgs (PySem.W.fnX "__init__" d.qual d.params d.body d.scope cl .none .none doc pm an cdv ct) ⟨us, []⟩ = pure (ps.zip us)) : L2.Binds K fd ps [] := by
  obtain ⟨oc, od, dV, kV, doc, pm, an, cda, cc, ct, osl, rfl, _⟩ := o.init.ex
  obtain ⟨e1, e2⟩ := o.nd
  dsimp only at e1 e2
  subst e1 e2
  exact .all (h [("__class__", cc)] doc pm an (.ref cda) ct)
theorem SaysX.sub {file : Str} (c : SaysX file fa fn xs ss K) {x y : Str} {b : Bool} (h : (x, y, b) ∈ ss) : PySem.W.kitOne K (.ref (He.ga K x)) (.ref (He.ga K y)) = some b ∧ PySem.W.exmOne K (.ref (He.ga K x)) (.ref (He.ga K y)) = some b := by
  have c1 := (He.ba (show ((xs.all fun d => d.ok K file) && ss.all fun p => subB K p.1 p.2.1 p.2.2) = true from congrArg (fun z : AlX => z.2.1) c)).2
  obtain ⟨h1, h2⟩ := He.ba (List.all_eq_true.mp c1 _ h)
  exact ⟨of_decide_eq_true h1, of_decide_eq_true h2⟩
/-- the table of an exception package: every class is over one base -/
theorem xtab {h : Heap} {mg : Str → Option Value} {T : List (Addr × Str)} {sub : Str → Str → Option Bool} {fld : Str → Str → Bool} (X : K.In h) (G : h.Ns mainGlobals mg) (c : SaysX P.main.file fa fn xs ss K) (hf : (P.main.scope.names.lookup ("super" : Str)).isSome = false)
    (h1 : ∀ c y b, sub c y = some b → (c, y, b) ∈ ss ∧ c ∈ xs.map (·.cls) ∧ He.Fa.glo y ∈ fa) (h2 : ∀ c f, fld c f = true → ∃ d ∈ xs, d.cls = c ∧ f ∈ d.flds) : XTab ⟨K, mg, T⟩ sub fld where
  sub := fun x y b e => by
    obtain ⟨q1, q2, q3⟩ := h1 x y b e
    obtain ⟨d, hd, rfl⟩ := List.mem_map.mp q2
    obtain ⟨fd, o⟩ := c.clsM hf hd
    obtain ⟨k1, k2⟩ := c.sub q1
    exact ⟨_, _, PySem.W.mg_of X G o.glo, He.glo_ok X G (c.factM q3), o.exc.1, k1, k2⟩
  fld := fun x f e => by
    obtain ⟨d, hd, rfl, hfl⟩ := h2 x f e
    obtain ⟨fd, o⟩ := c.clsM hf hd
    exact ⟨_, PySem.W.mg_of X G o.glo, o.exc.2, o.fl f hfl⟩
end
end DL

/-! The D-layer: the end: a law's def called by the claim's caller, around whom no repr is under way. -/
namespace DL
open PySem PySem.Spec PyProof.Rows L2 LamX
/-- what is asked of the law's def: it runs from the claim's caller -/
def RunsC (P : Program) (w : World) (K : PySem.W.Frag) (mg : Str → Option Value) (base : Heap) (fa : Addr) (fd : FuncData) (x : Str) (sp : Sp) : Prop :=
  ∀ (s : Shared) (H : Hp) (us : List Value) (vs : List V) (Q : VK) (E : XK), L2.Env0 P w K mg base callerA [] s H → BindsTo s fd ⟨us, []⟩ ([x].zip us) → Vals vs us → sp vs H Q E → codeAny (model P w) callerA (.call (.ref fa) ⟨us, []⟩) (CR (L2.CX P w) [] P w H s Q E) s
theorem DOk.runsC {P : Program} {w : World} {K : PySem.W.Frag} {mg : Str → Option Value} {T : List (Addr × Str)} {bs : Heap} {k : Nat} {f : Addr} {fd : FuncData} {x : Str} {F : Fn} (o : DOk P w ⟨K, mg, T⟩ bs k f fd [x] F) (hr : Room k callerA) : RunsC P w K mg bs f fd x (spD ⟨K, mg, T⟩ 1 F) :=
  fun s H us vs Q E e0 hb r h => o.run callerA [] s H ⟨us, []⟩ us vs Q E ⟨hr, rfl⟩ e0 hb r h
end DL
namespace DL
open PySem PySem.Spec PyProof.Rows L2 LamX
section
variable {P : Program} {w : World} {K : PySem.W.Frag} {mg mb : Str → Option Value} {fa a : Addr} {cs : List (Addr × Addr)} {fd : FuncData} {x : Str} {sp : Sp} {s₁ : Shared} {vs : List Value} {ns : List Int}
/-- the script (where it is not written), the tables -/
def Hs (K : PySem.W.Frag) (a : Addr) (o : Obj) (ns : List Int) (L : List Addr) : Hp := fun b => if b = a ∧ K.lookup a = none then some (.frz o (.lst (ns.map V.int))) else if b ∈ L then some (.tbl #[]) else none
theorem hs_cases (o : Obj) (ns : List Int) (L : List Addr) (b : Addr) : (b = a ∧ K.lookup a = none ∧ Hs K a o ns L b = some (.frz o (.lst (ns.map V.int)))) ∨ (b ∈ L ∧ Hs K a o ns L b = some (.tbl #[])) ∨ Hs K a o ns L b = none := by
  unfold Hs
  by_cases h1 : b = a ∧ K.lookup a = none
  · exact .inl ⟨h1.1, h1.2, if_pos h1⟩
  · rw [if_neg h1]
    by_cases h2 : b ∈ L
    · exact .inr (.inl ⟨h2, if_pos h2⟩)
    · exact .inr (.inr (if_neg h2))
theorem law_callG (KX : K.In s₁.heap) (hns : s₁.heap.Ns mainGlobals mg) (hb : s₁.heap.Ns builtinsNs mb) (hbb : ∀ x : Str, x ≠ "__name__" → mb x = bootBuiltins x) (hlim : s₁.heap.NoLimit) (hg : s₁.gens = #[])
    (hT : ∀ p ∈ cs, s₁.heap.get? p.2 = some { cls := .none, data := .fields #[] }) (nT : ∀ p ∈ cs, K.lookup p.2 = none) (C : ∀ p ∈ cs, PySem.W.CodeHd s₁.heap p.1 p.2)
    (hbm : ∃ (bm : Addr) (ob : Obj), mg "__builtins__" = some (.ref bm) ∧ bm ≠ builtinsNs ∧ s₁.heap.get? bm = some ob ∧ ob.cls = .type "module" ∧ ob.dict = some builtinsNs ∧ ob.data = .plain)
    (ha : s₁.heap.get? a = some { cls := .type "list", data := .seq vs.toArray }) (hi : IntsAre vs ns) (hl : ns.length ≤ sizeLine)
    (F : ∀ base : Heap, K.In base → base.Ns mainGlobals mg → (∀ p ∈ cs, TabB base mg p.1 p.2) → RunsC P w K mg base fa fd x sp) (hbind : ∀ (s : Shared) (u : Value), BindsTo s fd ⟨[u], []⟩ [(x, u)])
    (hsp : ∀ H : Hp, (∀ p ∈ cs, H p.2 = some (.tbl #[])) → SqL K H a (ns.map V.int) → sp [.ref a] H (fun v _ => v = .bl true) fun _ _ _ => False) :
    codeAny (model P w) callerA (.call (.ref fa) ⟨[.ref a], []⟩) (fun r s' => r = .ok (.ret (.bool true)) ∧ OldK s₁.heap s'.heap ∧ s'.os = s₁.os ∧ AllBare s'.gens) s₁ := by
  have rv := vals_ints hi
  have lenV := hi.length
  generalize hO : ({ cls := .type "list", data := .seq vs.toArray } : Obj) = oS at ha
  generalize hL : cs.map (·.2) = L
  have isT : ∀ b ∈ L, s₁.heap.get? b = some { cls := .none, data := .fields #[] } := fun b hb => by
    rw [← hL] at hb
    obtain ⟨p, hp, e⟩ := List.mem_map.mp hb
    rw [← e]; exact hT p hp
  have memT : ∀ p ∈ cs, p.2 ∈ L := fun p hp => by rw [← hL]; exact List.mem_map.mpr ⟨p, hp, rfl⟩
  have aT : a ∉ L := fun z => by
    have q := isT a z
    rw [ha, ← hO] at q
    have z' : Data.seq vs.toArray _ = Data.fields #[] := congrArg Obj.data (Option.some.inj q)
    cases z'
  have hc := hs_cases (K := K) (a := a) oS ns L
  generalize hH : Hs K a oS ns L = H at hc
  have hTb : ∀ p ∈ cs, H p.2 = some (.tbl #[]) := fun p hp => by
    rcases hc p.2 with ⟨e, _, _⟩ | ⟨_, e⟩ | e
    · exact absurd (memT p hp) (by rw [e]; exact aT)
    · exact e
    · rw [← hH] at e
      unfold Hs at e
      rw [if_neg (fun z => aT (by rw [← z.1]; exact memT p hp)), if_pos (memT p hp)] at e
      cases e
  have hok : HOk P w H s₁.heap := fun b u q => by
    rcases hc b with ⟨e, _, e2⟩ | ⟨e, e2⟩ | e2
    · rw [e2] at q
      cases q
      rw [e]
      exact ⟨ha, by rw [List.length_map]; exact hl, vs, _, rv, by rw [ha, ← hO]⟩
    · rw [e2] at q
      cases q
      exact isT b e
    · rw [e2] at q; cases q
  have hS : SqL K H a (ns.map V.int) := by
    cases hk : K.lookup a with
    | some o =>
      have e := KX a o hk
      rw [ha] at e
      cases e
      subst hO
      exact .inr ⟨_, vs.toArray, _, hk, rfl, rfl, rfl, by rw [List.size_toArray, lenV]; exact hl, by simpa using rv⟩
    | none => exact .inl (.inr ⟨oS, by rw [← hH]; exact if_pos ⟨rfl, hk⟩⟩)
  have base_of : ∀ {b : Addr} {o : Obj}, s₁.heap.get? b = some o → H b = none → (hidT s₁.heap H).get? b = some o := fun e n => hidT_get e n
  have noD : ∀ {b : Addr} {o : Obj}, s₁.heap.get? b = some o → (∀ vs n, o.data ≠ .seq vs n) → o.data ≠ .fields #[] → H b = none := fun {b o} e h1 h2 => by
    rcases hc b with ⟨e', _, _⟩ | ⟨e', _⟩ | e'
    · rw [e', ha, ← hO] at e
      cases e
      exact (h1 _ _ rfl).elim
    · rw [isT b e'] at e
      cases e
      exact (h2 rfl).elim
    · exact e'
  have noA : ∀ {b : Addr} {o : Obj} {es : Array DictEntry} {ep : Nat}, s₁.heap.get? b = some o → o.data = .dict es ep → H b = none := fun {b o es ep} e d => noD e (fun vs n z => by rw [d] at z; cases z) fun z => by rw [d] at z; cases z
  have nsK : ∀ {b : Addr} {m : Str → Option Value}, s₁.heap.Ns b m → (hidT s₁.heap H).Ns b m := fun {b m} ⟨o, es, ep, e, d, r⟩ => ⟨o, es, ep, base_of e (noA e d), d, r⟩
  have hKb : K.In (hidT s₁.heap H) := fun b o e => base_of (KX b o e) (by
    rcases hc b with ⟨e', e2, _⟩ | ⟨e', _⟩ | e'
    · rw [e', e2] at e; cases e
    · rw [← hL] at e'
      obtain ⟨p, hp, ep⟩ := List.mem_map.mp e'
      rw [← ep, nT p hp] at e
      cases e
    · exact e')
  have hM : L2.Mod K mg (hidT s₁.heap H) := ⟨hKb, nsK hns, ⟨mb, nsK hb, hbb⟩, let ⟨mc, h1, h2⟩ := hlim; ⟨mc, nsK h1, h2⟩⟩
  have TB : ∀ p ∈ cs, TabB (hidT s₁.heap H) mg p.1 p.2 := fun p hp => by
    have hTp := hT p hp
    obtain ⟨oG, esG, epG, eG, dG, _⟩ := id hns
    refine ⟨?_, ?_, fun z => by rw [z, hTp] at eG; cases eG; cases dG⟩
    · obtain ⟨o, us, file, tf, flags, tg, inF, text, tt, e1, r1, r2, r3, r4, r5, r6, r7, r8, hne⟩ := C p hp
      exact ⟨o, us, file, tf, flags, tg, inF, text, tt, base_of e1 (noD e1 (fun vs n z => by rw [r2] at z; cases z) fun z => by rw [r2] at z; cases z; simp at r3), r1, r2, r3, r4, r5, r6, r7, r8, hne⟩
    · obtain ⟨bm, ob, b1, b2, b3, b4, b5, b6⟩ := hbm
      exact ⟨bm, ob, b1, b2, (fun q => by rw [q, eG] at b3; cases b3; rw [dG] at b6; cases b6), (fun q => by rw [q, hTp] at b3; cases b3; cases b6), base_of b3 (noD b3 (fun vs n z => by rw [b6] at z; cases z) fun z => by rw [b6] at z; cases z), b4, b5, b6⟩
  have e0 : L2.Env0 P w K mg (hidT s₁.heap H) callerA [] s₁ H := ⟨rfl, hM, fun b o e => of_hidT e, Nat.le_of_eq (hidT_size _ _), trivial, fun b hb => absurd (show b ∈ ([] : List Addr) from hb) (by simp), hok, .of_eq hg⟩
  refine codeAny_mono (F _ hKb (nsK hns) TB s₁ H [.ref a] [.ref a] _ _ e0 (hbind s₁ (.ref a)) (.cons rfl .nil) (hsp H hTb hS)) fun r s' h => ?_
  cases r with
  | error e =>
    obtain ⟨_, _, _, _, _, _, _, _, _, _, _, _, z⟩ := h
    exact z.elim
  | ok fl =>
    cases fl with
    | next => exact False.elim h
    | brk => exact False.elim h
    | cont => exact False.elim h
    | ret u =>
      obtain ⟨v, H', os, bare, un, hok', r', q⟩ := h
      obtain rfl : v = .bl true := q
      obtain rfl : u = Value.bool true := r'
      have key : ∀ b o, b ∉ L → s₁.heap.get? b = some o → s'.heap.get? b = some o := fun b o nb e => by
        rcases hc b with ⟨_, _, z⟩ | ⟨z, _⟩ | z
        · have z2 := un.frzs b oS _ z
          obtain ⟨e1, _⟩ := hok b _ z
          obtain ⟨e2, _⟩ := hok' b _ z2
          rw [e] at e1; cases e1
          exact e2
        · exact absurd z nb
        · exact un.keep b o e z (by intro z; exact absurd (show b ∈ ([] : List Addr) from z) (by simp)) (by simp)
      have grown : ∀ p ∈ cs, ∃ more : Array Value, s'.heap.get? p.2 = some { cls := .none, data := .fields more } := fun p hp => by
        obtain ⟨more, z⟩ := un.tbls p.2 #[] (hTb p hp)
        exact ⟨_, hok' p.2 _ z⟩
      refine ⟨rfl, ⟨fun b o e => ?_, fun b o e => ?_⟩, os, bare⟩
      · by_cases hb : b ∈ L
        · rw [← hL] at hb
          obtain ⟨p, hp, ep⟩ := List.mem_map.mp hb
          obtain ⟨more, hm⟩ := grown p hp
          rw [← ep] at e ⊢
          rw [hT p hp] at e
          cases e
          exact .inr (.inl ⟨((C p hp).tab (hT p hp)).isCodeTable, rfl, #[], more, rfl, by rw [Array.empty_append]; exact hm⟩)
        · exact .inl (key b o hb e)
      · by_cases hb : b ∈ L
        · rw [← hL] at hb
          obtain ⟨p, hp, ep⟩ := List.mem_map.mp hb
          obtain ⟨more, hm⟩ := grown p hp
          rw [← ep]
          exact ⟨_, hm⟩
        · exact ⟨o, key b o hb e⟩
end
end DL
namespace DL
open PySem PySem.Spec PyProof.Rows L2 LamX
/-- what is known of the law at the head's heap h -/
def LawG (l : PySem.W.OpenLaw) (w : World) (K : PySem.W.Frag) (n : Nat) (x : Str) (mg : Str → Option Value) (fa : Addr) (h : Heap) : Prop :=
  ∃ (fd : FuncData) (cs : List (Addr × Addr)) (sp : Sp), (∀ p ∈ cs, h.get? p.2 = some { cls := .none, data := .fields #[] }) ∧ (∀ p ∈ cs, K.lookup p.2 = none) ∧ (∀ p ∈ cs, PySem.W.CodeHd h p.1 p.2) ∧ (∀ (s : Shared) (u : Value), BindsTo s fd ⟨[u], []⟩ [(x, u)]) ∧
    (∀ (H : Hp) (a : Addr) (ns : List Int), ns.length ≤ n → (∀ z ∈ ns, Builtin.Int.intBits z ≤ 1048576) → (∀ p ∈ cs, H p.2 = some (.tbl #[])) → SqL K H a (ns.map V.int) → sp [.ref a] H (fun v _ => v = .bl true) fun _ _ _ => False) ∧
    ∀ base : Heap, K.In base → base.Ns mainGlobals mg → (∀ p ∈ cs, TabB base mg p.1 p.2) → RunsC l.prog w K mg base fa fd x sp
/-- the law's own code object and its empty table -/
def OwnC (fa : Addr) (h : Heap) : Prop := ∃ (o : Obj) (fd : FuncData) (c P : Addr), h.get? fa = some o ∧ o.data = .func fd ∧ fd.code = .ref c ∧ PySem.W.CodeHd h c P ∧ h.get? P = some { cls := .none, data := .fields #[] }
theorem walk_ofG {l : PySem.W.OpenLaw} {n : Nat} {q : Program} {loose : List Str} {XP : (Str → Option Value) → Heap → Prop} {YP : World → Heap → Prop} {d : DefRec} {x : Str}
    (hn : l.most = some n) (hn2 : n ≤ sizeLine) (hdf : d.params.defaults = []) (hrec : ((recsOf q).any fun e => e.name == d.name) = true)
    (F : ∀ (w : World) (mg : Str → Option Value) (fa : Addr) (h : Heap), YP w h → h.Ns mainGlobals mg → mg d.name = some (.ref fa) → OwnC fa h → ∃ K : PySem.W.Frag, K.In h ∧ LawG l w K n x mg fa h) :
    PySem.W.WalkO q loose XP YP l.row.toRowW d [] (fun f vs => PySem.call f vs) := by
  refine Att.attach_callB hn hdf fun w s₀ s₁ mg mb fa o pm cd doc a vs ns G Y ho hd hcd hmg hobj hints hlen hbits hg => ?_
  have own : OwnC fa s₁.heap := by
    obtain ⟨dL, hm, hn1⟩ := List.any_eq_true.mp hrec
    have hn2 : dL.name = d.name := beq_iff_eq.mp hn1
    obtain ⟨a', o', fd', c', P', h1, h2, h3, h4, h5, h6⟩ := G.T.tab dL hm
    rw [hn2, hmg] at h1
    cases h1
    have hP := h6.2
    exact ⟨o', fd', c', P', h2, h3, h4, PySem.W.CodeHd.of h5 h6, hP⟩
  obtain ⟨K, KX, fd, cs, sp, hT, nT, C, hb, hsp, hF⟩ := F w mg fa _ Y G.T.g hmg own
  exact law_callG KX G.T.g G.T.b G.T.builtins G.T.nolimit hg hT nT C G.T.bmain hobj hints (Nat.le_trans hlen hn2) hF hb fun H hH hS => hsp H a ns hlen hbits hH hS
end DL

/-! The D-layer: what is wanted behind a D-function, step by step (equations for simp). -/
namespace DL
open PySem PySem.Spec PyProof.Rows L2

def RW {γ : Type} (r : Res γ) (K : γ → Store → Prop) (E : D → Store → Prop) : Prop := match r with
  | .ok x ω => K x ω
  | .exc e ω => E e ω
  | .bad => False
abbrev Kn := Env → Store → Prop
def SW (r : SRes) (N : Kn) (R : Val → Store → Prop) (B C : Kn) (X : D → Env → Store → Prop) : Prop := match r with
  | .nx ρ ω => N ρ ω
  | .rt x ω => R x ω
  | .bk ρ ω => B ρ ω
  | .ct ρ ω => C ρ ω
  | .exc e ρ ω => X e ρ ω
  | .bad => False
def OW {α : Type} (o : Option α) (k : α → Prop) : Prop := match o with
  | some a => k a
  | none => False
/-- a test -/
def Br (c : Bool) (A B : Prop) : Prop := (c = true → A) ∧ (c = false → B)
theorem Br_t {A B : Prop} : Br true A B = A := by unfold Br; simp
theorem Br_f {A B : Prop} : Br false A B = B := by unfold Br; simp
theorem Br.mk' {c : Bool} {A B : Prop} (a : c = true → A) (b : c = false → B) : Br c A B := ⟨a, b⟩
theorem Br.tt {c : Bool} {A B : Prop} (h : c = true) (a : A) : Br c A B := by subst h; rw [Br_t]; exact a
theorem Br.ff {c : Bool} {A B : Prop} (h : c = false) (a : B) : Br c A B := by subst h; rw [Br_f]; exact a
theorem Br.dec {p : Prop} [Decidable p] {A B : Prop} (a : p → A) (b : ¬ p → B) : Br (decide p) A B := ⟨fun h => a (of_decide_eq_true h), fun h => b (of_decide_eq_false h)⟩
theorem Br.decT {p : Prop} [Decidable p] {A B : Prop} (h : p) (a : A) : Br (decide p) A B := .tt (decide_eq_true h) a
theorem Br.decF {p : Prop} [Decidable p] {A B : Prop} (h : ¬ p) (a : B) : Br (decide p) A B := .ff (decide_eq_false h) a
theorem Br.ndec {p : Prop} [Decidable p] {A B : Prop} (a : ¬ p → A) (b : p → B) : Br (!decide p) A B := ⟨fun h => a (by simpa using h), fun h => b (by simpa using h)⟩
section
variable {γ δ : Type} {K : γ → Store → Prop} {E : D → Store → Prop}
theorem OW_some {α : Type} {a : α} {k : α → Prop} : OW (some a) k = k a := rfl
theorem OW_none {α : Type} {k : α → Prop} : OW (none : Option α) k = False := rfl
theorem OW_ite {α : Type} {c : Prop} [Decidable c] {a : α} {k : α → Prop} : OW (if c then some a else none) k = (c ∧ k a) := by
  by_cases h : c
  · rw [if_pos h]; simp [OW_some, h]
  · rw [if_neg h]; simp [OW_none, h]
theorem OW_bind {α β : Type} {o : Option α} {f : α → Option β} {k : β → Prop} : OW (o.bind f) k = OW o fun a => OW (f a) k := by cases o <;> rfl
theorem OW_map {α β : Type} {o : Option α} {f : α → β} {k : β → Prop} : OW (o.map f) k = OW o fun a => k (f a) := by cases o <;> rfl
theorem OW_obt {α : Type} {o : Option α} {k : α → Prop} (h : OW o k) : ∃ a, o = some a ∧ k a := by
  cases o with
  | none => exact h.elim
  | some a => exact ⟨a, rfl, h⟩
theorem RW_ok {x : γ} {ω : Store} : RW (.ok x ω) K E = K x ω := rfl
theorem RW_exc {e : D} {ω : Store} : RW (.exc e ω : Res γ) K E = E e ω := rfl
theorem RW_bad : RW (.bad : Res γ) K E = False := rfl
theorem RW_bind {r : Res δ} {k : δ → Store → Res γ} : RW (r.bind k) K E = RW r (fun x ω => RW (k x ω) K E) E := by cases r <;> rfl
theorem RW_omatch {α : Type} {o : Option α} {f : α → Res γ} : RW (match o with | some a => f a | none => .bad) K E = OW o fun a => RW (f a) K E := by cases o <;> rfl
theorem RW_ite {c : Prop} [Decidable c] {a : Res γ} : RW (if c then a else .bad) K E = (c ∧ RW a K E) := by
  by_cases h : c
  · rw [if_pos h]; simp [h]
  · rw [if_neg h]; simp [h, RW_bad]
theorem RW.ok_of {r : Res γ} {v : γ} {ω' : Store} (h : RW r (fun x w => x = v ∧ w = ω') (fun _ _ => False)) : r = .ok v ω' := by
  cases r with
  | ok x w => obtain ⟨h1, h2⟩ := h; rw [h1, h2]
  | exc e w => exact h.elim
  | bad => exact h.elim
theorem RW.exc_of {r : Res γ} {e : D} {ω' : Store} (h : RW r (fun _ _ => False) (fun x w => x = e ∧ w = ω')) : r = .exc e ω' := by
  cases r with
  | ok x w => exact h.elim
  | exc e w => obtain ⟨h1, h2⟩ := h; rw [h1, h2]
  | bad => exact h.elim
theorem RW.imp {r : Res γ} {K' : γ → Store → Prop} {E' : D → Store → Prop} (h : RW r K E) (k : ∀ x ω, K x ω → K' x ω) (e : ∀ x ω, E x ω → E' x ω) : RW r K' E' := by
  cases r with
  | ok x w => exact k _ _ h
  | exc x w => exact e _ _ h
  | bad => exact h
theorem RW.obt {r : Res γ} (h : RW r K fun _ _ => False) : ∃ x ω, r = .ok x ω ∧ K x ω := by
  cases r with
  | ok x w => exact ⟨x, w, rfl, h⟩
  | exc e w => exact h.elim
  | bad => exact h.elim
end
theorem SW.imp {r : SRes} {N N' : Kn} {R R' : Val → Store → Prop} {B B' C C' : Kn} {X X' : D → Env → Store → Prop} (h : SW r N R B C X) (h1 : ∀ ρ ω, N ρ ω → N' ρ ω) (h2 : ∀ x ω, R x ω → R' x ω) (h3 : ∀ ρ ω, B ρ ω → B' ρ ω) (h4 : ∀ ρ ω, C ρ ω → C' ρ ω) (h5 : ∀ e ρ ω, X e ρ ω → X' e ρ ω) : SW r N' R' B' C' X' := by
  cases r with
  | nx ρ ω => exact h1 _ _ h
  | rt x ω => exact h2 _ _ h
  | bk ρ ω => exact h3 _ _ h
  | ct ρ ω => exact h4 _ _ h
  | exc e ρ ω => exact h5 _ _ _ h
  | bad => exact h
/-! ### values -/
def VW (o : Option (Option Val)) (k : Val → Prop) : Prop := match o with
  | some (some x) => k x
  | _ => False
def BW (x : Val) (k : Bool → Prop) : Prop := match x with
  | .d (.bl b) => k b
  | _ => False
def IWn (x : Val) (k : Int → Prop) : Prop := match x with
  | .d (.int i) => k i
  | _ => False
def NW (x : Val) (k : Nat → Prop) : Prop := match x with
  | .d _ => False
  | .loc n => k n
theorem NW_loc {n : Nat} {k : Nat → Prop} : NW (.loc n) k = k n := rfl
def DW (x : Val) (k : D → Prop) : Prop := match x with
  | .d d => k d
  | .loc _ => False
/-- a changing list -/
def LW (o : Option (Option MO)) (k : List D → Prop) : Prop := match o with
  | some (some (.lst ds)) => k ds
  | _ => False
def MW (o : Option (Option MO)) (k : MO → Prop) : Prop := match o with
  | some (some m) => k m
  | _ => False
theorem VW_some {x : Val} {k : Val → Prop} : VW (some (some x)) k = k x := rfl
theorem vw_go {o : Option (Option Val)} {x : Val} {k : Val → Prop} (h : o = some (some x)) (q : k x) : VW o k := by rw [h]; exact q
theorem lw_go {o : Option (Option MO)} {x : List D} {k : List D → Prop} (h : o = some (some (.lst x))) (q : k x) : LW o k := by rw [h]; exact q
theorem mw_go {o : Option (Option MO)} {x : MO} {k : MO → Prop} (h : o = some (some x)) (q : k x) : MW o k := by rw [h]; exact q
theorem ow_go {α : Type} {o : Option α} {x : α} {k : α → Prop} (h : o = some x) (q : k x) : OW o k := by rw [h]; exact q
theorem BW_bl {b : Bool} {k : Bool → Prop} : BW (.d (.bl b)) k = k b := rfl
theorem IWn_int {b : Int} {k : Int → Prop} : IWn (.d (.int b)) k = k b := rfl
theorem DW_d {b : D} {k : D → Prop} : DW (.d b) k = k b := rfl
theorem LW_lst {b : List D} {k : List D → Prop} : LW (some (some (.lst b))) k = k b := rfl
theorem MW_some {b : MO} {k : MO → Prop} : MW (some (some b)) k = k b := rfl
def lookM : Option (Option MO) → Option D
  | some (some (.lst ds)) => some (.lst ds)
  | some (some (.dct ds)) => some (.dct ds)
  | _ => none
theorem look_d {ω : Store} {x : D} : Val.look ω (.d x) = some x := rfl
theorem look_loc {ω : Store} {n : Nat} : Val.look ω (.loc n) = lookM ω[n]? := by unfold Val.look lookM; rfl
theorem lookM_lst {ds : List D} : lookM (some (some (.lst ds))) = some (.lst ds) := rfl
theorem lookM_dct {ds : List (D × D)} : lookM (some (some (.dct ds))) = some (.dct ds) := rfl
section
variable {K : Val → Store → Prop} {E : D → Store → Prop} {ρ : Env} {ω : Store} {f fa fb fc fv fo fi : Fx Val} {fs ks : Fx (List Val)} {t u : Fx Bool} {F G : D → D → Option D}
theorem w_var {i : Nat} : RW (eVar i ρ ω) K E = VW ρ[i]? fun x => K x ω := by
  unfold eVar VW
  cases ρ[i]? with
  | none => rfl
  | some o => cases o <;> rfl
theorem w_c {d : D} : RW (eC d ρ ω) K E = K (.d d) ω := rfl
theorem w_op2 {x y : Val} : RW (op2 F x y ω) K E = OW (x.look ω) fun a => OW (y.look ω) fun b => OW (F a b) fun z => K (.d z) ω := by
  unfold op2
  cases x.look ω with
  | none => rfl
  | some a =>
    cases y.look ω with
    | none => rfl
    | some b =>
      dsimp only [OW]
      cases F a b <;> rfl
theorem w_op1 {F : D → Option D} {x : Val} : RW (op1 F x ω) K E = OW (x.look ω) fun a => OW (F a) fun z => K (.d z) ω := by
  unfold op1
  cases x.look ω with
  | none => rfl
  | some a =>
    dsimp only [OW]
    cases F a <;> rfl
theorem w_op : RW (eOp F fa fb ρ ω) K E = RW (fa ρ ω) (fun x ω => RW (fb ρ ω) (fun y ω => OW (x.look ω) fun a => OW (y.look ω) fun b => OW (F a b) fun z => K (.d z) ω) E) E := by
  unfold eOp
  simp only [RW_bind, w_op2]
theorem w_un {F : D → Option D} : RW (eUn F fa ρ ω) K E = RW (fa ρ ω) (fun x ω => OW (x.look ω) fun a => OW (F a) fun z => K (.d z) ω) E := by
  unfold eUn
  simp only [RW_bind, w_op1]
theorem w_callB {F : List D → Option D} : RW (callB F fs ρ ω) K E = RW (fs ρ ω) (fun xs ω => OW (looks ω xs) fun ds => OW (F ds) fun z => K (.d z) ω) E := by
  unfold callB
  rw [RW_bind]
  congr 1
  funext xs ω
  cases looks ω xs with
  | none => rfl
  | some ds =>
    dsimp only [OW]
    cases F ds <;> rfl
theorem w_nil {K : List Val → Store → Prop} : RW (aNil ρ ω) K E = K [] ω := rfl
theorem w_cons {K : List Val → Store → Prop} : RW (aCons f fs ρ ω) K E = RW (f ρ ω) (fun x ω => RW (fs ρ ω) (fun xs ω => K (x :: xs) ω) E) E := by
  unfold aCons
  simp only [RW_bind, RW_ok]
theorem looks_nil {ω : Store} : looks ω [] = some [] := rfl
theorem looks_cons {ω : Store} {x : Val} {xs : List Val} : looks ω (x :: xs) = (x.look ω).bind fun d => (looks ω xs).map fun ds => d :: ds := by
  rw [looks]
  cases x.look ω with
  | none => rfl
  | some d => cases looks ω xs <;> rfl
theorem plain_nil : plain [] = some [] := rfl
theorem plain_cons {d : D} {xs : List Val} : plain (.d d :: xs) = (plain xs).map fun ds => d :: ds := by
  rw [plain]
  cases plain xs <;> rfl
theorem w_mk {F : List D → D} : RW (mk F fs ρ ω) K E = RW (fs ρ ω) (fun xs ω => OW (plain xs) fun ds => ds.length ≤ sizeLine ∧ K (.d (F ds)) ω) E := by
  unfold mk
  rw [RW_bind]
  congr 1
  funext xs ω
  cases plain xs with
  | none => rfl
  | some ds =>
    dsimp only [OW]
    rw [RW_ite]; rfl
theorem w_newL : RW (eNewL fs ρ ω) K E = RW (fs ρ ω) (fun xs ω => OW (plain xs) fun ds => ds.length ≤ sizeLine ∧ K (.loc ω.length) (ω ++ [some (.lst ds)])) E := by
  unfold eNewL
  rw [RW_bind]
  congr 1
  funext xs ω
  cases plain xs with
  | none => rfl
  | some ds =>
    dsimp only [OW]
    rw [RW_ite]; rfl
theorem w_no {K : Option Int → Store → Prop} : RW (oNo ρ ω) K E = K none ω := rfl
theorem w_some {K : Option Int → Store → Prop} : RW (oSome f ρ ω) K E = RW (f ρ ω) (fun x ω => IWn x fun i => K (some i) ω) E := by
  unfold oSome
  rw [RW_bind]
  congr 1
  funext x ω
  cases x with
  | loc n => rfl
  | d d => cases d <;> rfl
theorem w_sl {l h : Fx (Option Int)} : RW (eSl f l h ρ ω) K E = RW (f ρ ω) (fun x ω => RW (l ρ ω) (fun lo ω => RW (h ρ ω) (fun hi ω => OW (x.look ω) fun d => OW (slD d lo hi) fun z => K (.d z) ω) E) E) E := by
  unfold eSl
  simp only [RW_bind]
  congr 1; funext x ω
  congr 1; funext lo ω
  congr 1; funext hi ω
  cases x.look ω with
  | none => rfl
  | some d =>
    dsimp only [OW]
    cases slD d lo hi <;> rfl
theorem w_if : RW (eIf t fa fb ρ ω) K E = RW (t ρ ω) (fun c ω => Br c (RW (fa ρ ω) K E) (RW (fb ρ ω) K E)) E := by
  unfold eIf
  rw [RW_bind]
  congr 1; funext c ω
  cases c
  · rw [Br_f]; rfl
  · rw [Br_t]; rfl
theorem w_asB {x : Val} {γ : Type} {k : Bool → Store → Res γ} {K : γ → Store → Prop} : RW ((asB x ω).bind k) K E = BW x fun c => RW (k c ω) K E := by
  unfold asB BW
  cases x with
  | loc n => rfl
  | d d => cases d <;> rfl
theorem w_and : RW (eAnd fa fb ρ ω) K E = RW (fa ρ ω) (fun x ω => BW x fun c => Br c (RW (fb ρ ω) K E) (K (.d (.bl false)) ω)) E := by
  unfold eAnd
  rw [RW_bind, RW_bind]
  congr 1; funext x ω
  rw [← RW_bind, w_asB]
  congr 1; funext c
  cases c
  · rw [Br_f]; rfl
  · rw [Br_t]; rfl
theorem w_or : RW (eOr fa fb ρ ω) K E = RW (fa ρ ω) (fun x ω => BW x fun c => Br c (K (.d (.bl true)) ω) (RW (fb ρ ω) K E)) E := by
  unfold eOr
  rw [RW_bind, RW_bind]
  congr 1; funext x ω
  rw [← RW_bind, w_asB]
  congr 1; funext c
  cases c
  · rw [Br_f]; rfl
  · rw [Br_t]; rfl
theorem w_not : RW (eNot fa ρ ω) K E = RW (fa ρ ω) (fun x ω => BW x fun c => K (.d (.bl (!c))) ω) E := by
  unfold eNot
  rw [RW_bind, RW_bind]
  congr 1; funext x ω
  rw [← RW_bind, w_asB]
  rfl
theorem w_chain : RW (eChain F G fa fb fc ρ ω) K E = RW (fa ρ ω) (fun x ω => RW (fb ρ ω) (fun y ω => OW (x.look ω) fun a => OW (y.look ω) fun b => OW (F a b) fun z => BW (.d z) fun k => Br k (RW (fc ρ ω) (fun z ω => OW (y.look ω) fun b => OW (z.look ω) fun c => OW (G b c) fun z => K (.d z) ω) E) (K (.d (.bl false)) ω)) E) E := by
  unfold eChain
  rw [RW_bind]
  congr 1; funext x ω
  rw [RW_bind]
  congr 1; funext y ω
  rw [RW_bind, RW_bind, w_op2]
  congr 1; funext a
  congr 1; funext b
  congr 1; funext z
  rw [← RW_bind, w_asB]
  congr 1; funext c
  cases c
  · rw [Br_f]; rfl
  · rw [Br_t, if_pos rfl, RW_bind]
    congr 1; funext z ω
    rw [w_op2]
end
section
variable {K : Bool → Store → Prop} {E : D → Store → Prop} {ρ : Env} {ω : Store} {f : Fx Val} {t u : Fx Bool}
theorem w_tst : RW (tst f ρ ω) K E = RW (f ρ ω) (fun x ω => BW x fun c => K c ω) E := by
  unfold tst
  rw [RW_bind]
  congr 1; funext x ω
  unfold asB BW
  cases x with
  | loc n => rfl
  | d d => cases d <;> rfl
theorem w_truth : RW (truth f ρ ω) K E = RW (f ρ ω) (fun x ω => OW (x.look ω) fun d => OW (truD d) fun c => K c ω) E := by
  unfold truth
  rw [RW_bind]
  congr 1; funext x ω
  cases x.look ω with
  | none => rfl
  | some d =>
    dsimp only [OW]
    cases truD d <;> rfl
theorem w_tand : RW (tAndD t u ρ ω) K E = RW (t ρ ω) (fun c ω => Br c (RW (u ρ ω) K E) (K false ω)) E := by
  unfold tAndD
  rw [RW_bind]
  congr 1; funext c ω
  cases c
  · rw [Br_f]; rfl
  · rw [Br_t]; rfl
theorem w_tor : RW (tOrD t u ρ ω) K E = RW (t ρ ω) (fun c ω => Br c (K true ω) (RW (u ρ ω) K E)) E := by
  unfold tOrD
  rw [RW_bind]
  congr 1; funext c ω
  cases c
  · rw [Br_f]; rfl
  · rw [Br_t]; rfl
theorem w_tnot : RW (tNotD t ρ ω) K E = RW (t ρ ω) (fun c ω => K (!c) ω) E := by
  unfold tNotD
  rw [RW_bind]; rfl
theorem w_yes : RW (tYesD ρ ω) K E = K true ω := rfl
end
/-! ### statements -/
section
variable {N : Kn} {R : Val → Store → Prop} {B C : Kn} {X : D → Env → Store → Prop} {ρ : Env} {ω : Store} {f fv fo fi : Fx Val} {fs : Fx (List Val)} {t : Fx Bool} {a b : Sx} {γ : Type}
theorem SW_bind {r : Res γ} {h : γ → Store → SRes} : SW (sBind r ρ h) N R B C X = RW r (fun x ω => SW (h x ω) N R B C X) fun e ω => X e ρ ω := by cases r <;> rfl
theorem s_seq : SW (sSeq a b ρ ω) N R B C X = SW (a ρ ω) (fun ρ ω => SW (b ρ ω) N R B C X) R B C X := by
  unfold sSeq
  cases a ρ ω <;> rfl
theorem s_pass : SW (sPass ρ ω) N R B C X = N ρ ω := rfl
theorem s_brk : SW (sBreak ρ ω) N R B C X = B ρ ω := rfl
theorem s_cont : SW (sCont ρ ω) N R B C X = C ρ ω := rfl
theorem s_ret : SW (sRet f ρ ω) N R B C X = RW (f ρ ω) (fun x ω => R x ω) fun e ω => X e ρ ω := by unfold sRet; rw [SW_bind]; rfl
theorem s_retN : SW (sRetN ρ ω) N R B C X = R (.d .non) ω := rfl
theorem s_drop : SW (sDrop f ρ ω) N R B C X = RW (f ρ ω) (fun x ω => N ρ ω) fun e ω => X e ρ ω := by unfold sDrop; rw [SW_bind]; rfl
theorem s_set {i : Nat} : SW (sSet i f ρ ω) N R B C X = RW (f ρ ω) (fun x ω => N (ρ.set i (some x)) ω) fun e ω => X e ρ ω := by unfold sSet; rw [SW_bind]; rfl
theorem s_if : SW (sIf t a b ρ ω) N R B C X = RW (t ρ ω) (fun c ω => Br c (SW (a ρ ω) N R B C X) (SW (b ρ ω) N R B C X)) fun e ω => X e ρ ω := by
  unfold sIf
  rw [SW_bind]
  congr 1; funext c ω
  cases c
  · rw [Br_f]; rfl
  · rw [Br_t]; rfl
def PrW (xs : List Val) (k : Val → Val → Prop) : Prop := match xs with
  | [x, y] => k x y
  | _ => False
theorem PrW_mk {x y : Val} {k : Val → Val → Prop} : PrW [x, y] k = k x y := rfl
theorem s_par {i j : Nat} : SW (sPar i j fs ρ ω) N R B C X = RW (fs ρ ω) (fun xs ω => PrW xs fun x y => N ((ρ.set i (some x)).set j (some y)) ω) fun e ω => X e ρ ω := by
  unfold sPar
  rw [SW_bind]
  congr 1; funext xs ω
  match xs with
  | [] => rfl
  | [_] => rfl
  | [_, _] => rfl
  | _ :: _ :: _ :: _ => rfl
theorem s_asg {G : Tg} : SW (sAsg G f ρ ω) N R B C X = RW (f ρ ω) (fun x ω => DW x fun d => OW (G d ρ) fun ρ' => N ρ' ω) fun e ω => X e ρ ω := by
  unfold sAsg
  rw [SW_bind]
  congr 1; funext x ω
  cases x with
  | loc n => rfl
  | d d =>
    dsimp only [DW]
    cases G d ρ <;> rfl
theorem OW_setIx {z : D} {n : Nat} {i : Int} {k : Store → Prop} : OW (setIx (.d z) (.loc n) (.d (.int i)) ω) k = LW ω[n]? fun ds => OW (ixN ds.length i) fun j => k (ω.set n (some (.lst (ds.set j z)))) := by
  unfold setIx LW
  dsimp only
  cases ω[n]? with
  | none => rfl
  | some o =>
    cases o with
    | none => rfl
    | some m =>
      cases m with
      | lst ds => dsimp only; rw [OW_map]
      | _ => rfl
theorem s_setIx : SW (sSetIx fv fo fi ρ ω) N R B C X = RW (fv ρ ω) (fun x ω => RW (fo ρ ω) (fun o ω => RW (fi ρ ω) (fun i ω => OW (setIx x o i ω) fun ω' => N ρ ω') fun e ω => X e ρ ω) fun e ω => X e ρ ω) fun e ω => X e ρ ω := by
  unfold sSetIx
  rw [SW_bind]
  congr 1; funext x ω
  rw [SW_bind]
  congr 1; funext o ω
  rw [SW_bind]
  congr 1; funext i ω
  cases setIx x o i ω <;> rfl
theorem s_for {G : Tg} : SW (sFor f G a ρ ω) N R B C X = RW (f ρ ω) (fun x ω => DW x fun d => OW (seqD d) fun ds => SW (loopL G a ds ρ ω) N R B C X) fun e ω => X e ρ ω := by
  unfold sFor
  rw [SW_bind]
  congr 1; funext x ω
  cases x with
  | loc n => rfl
  | d d =>
    dsimp only [DW]
    cases seqD d <;> rfl
theorem s_forR1 {G : Tg} : SW (sForR1 f G a ρ ω) N R B C X = RW (f ρ ω) (fun x ω => IWn x fun j => (-(2 ^ 62) ≤ j ∧ j < 2 ^ 62) ∧ SW (loopL G a (rangeD 0 j.toNat) ρ ω) N R B C X) fun e ω => X e ρ ω := by
  unfold sForR1
  rw [SW_bind]
  congr 1; funext x ω
  cases x with
  | loc n => rfl
  | d d =>
    cases d with
    | int j =>
      dsimp only [IWn]
      by_cases h : -(2 ^ 62) ≤ j ∧ j < 2 ^ 62
      · rw [if_pos h]; simp only [h, true_and, and_self]
      · rw [if_neg h]; simp only [h, false_and]; rfl
    | _ => rfl
theorem s_raise {m : Fx D} : SW (sRaise m ρ ω) N R B C X = RW (m ρ ω) (fun d ω => X d ρ ω) fun _ _ => False := by
  unfold sRaise
  cases m ρ ω <;> rfl
theorem w_emk {K : D → Store → Prop} {E : D → Store → Prop} {c : Str} {ns : List Str} : RW (eMk c ns fs ρ ω) K E = RW (fs ρ ω) (fun xs ω => OW (plain xs) fun ds => ds.length = ns.length ∧ K (.exc c (ns.zip ds).reverse) ω) E := by
  unfold eMk
  rw [RW_bind]
  congr 1; funext xs ω
  cases plain xs with
  | none => rfl
  | some ds =>
    dsimp only [OW]
    rw [RW_ite]; rfl
/-- what a try does with an exception -/
def XW (sub : Str → Str → Option Bool) (c : Str) (e : D) (yes : D → Prop) (no : Prop) : Prop := match e with
  | .exc cn fs => OW (sub cn c) fun b => Br b (yes (.exc cn fs)) no
  | _ => False
theorem XW_exc {sub : Str → Str → Option Bool} {c cn : Str} {fs : List (Str × D)} {yes : D → Prop} {no : Prop} : XW sub c (.exc cn fs) yes no = OW (sub cn c) fun b => Br b (yes (.exc cn fs)) no := rfl
theorem s_try {sub : Str → Str → Option Bool} {c : Str} {i : Nat} : SW (sTry sub c i a b ρ ω) N R B C X = SW (a ρ ω) N R B C (fun e ρ' ω' => XW sub c e (fun e => SW (b (ρ'.set i (some (.d e))) ω') (fun ρ ω => N (ρ.set i none) ω) R (fun ρ ω => B (ρ.set i none) ω) (fun ρ ω => C (ρ.set i none) ω) (fun _ _ _ => False)) (X e ρ' ω')) := by
  unfold sTry
  cases a ρ ω with
  | exc e ρ' ω' =>
    cases e with
    | exc cn fs =>
      dsimp only [SW, XW]
      cases sub cn c with
      | none => rfl
      | some v =>
        cases v with
        | false => dsimp only [OW]; rw [Br_f]
        | true =>
          dsimp only [OW]; rw [Br_t]
          cases b (ρ'.set i (some (.d (.exc cn fs)))) ω' <;> rfl
    | _ => rfl
  | _ => rfl
end
/-! ### calls -/
section
variable {K : Val → Store → Prop} {E : D → Store → Prop} {ρ : Env} {ω : Store} {f fo : Fx Val} {fs ks : Fx (List Val)}
/-- a call, its values being there -/
def CW (F : Fn) (n m : Nat) (ix : List Nat) (dvs xs ys : List Val) (ω : Store) (K : Val → Store → Prop) (E : D → Store → Prop) : Prop := (xs.length = n ∧ ys.length = m) ∧ RW (F (pick ix (xs ++ ys ++ dvs)) ω) K E
theorem w_call {F : Fn} {n m : Nat} {ix : List Nat} {dvs : List Val} : RW (eCall F n m ix dvs fs ks ρ ω) K E = RW (fs ρ ω) (fun xs ω => RW (ks ρ ω) (fun ys ω => CW F n m ix dvs xs ys ω K E) E) E := by
  unfold eCall
  rw [RW_bind]
  congr 1; funext xs ω
  rw [RW_bind]
  congr 1; funext ys ω
  rw [RW_ite]; rfl
theorem cw_go {F : Fn} {n m : Nat} {ix : List Nat} {dvs xs ys zs : List Val} (h1 : xs.length = n) (h2 : ys.length = m) (h3 : pick ix (xs ++ ys ++ dvs) = zs) (k : RW (F zs ω) K E) : CW F n m ix dvs xs ys ω K E := ⟨⟨h1, h2⟩, by rw [h3]; exact k⟩
def pkc {α : Type} : Option α → List α → List α
  | some x, l => x :: l
  | none, l => l
theorem pick_nil {α : Type} {xs : List α} : pick [] xs = [] := rfl
theorem pick_cons {α : Type} {i : Nat} {ix : List Nat} {xs : List α} : pick (i :: ix) xs = pkc xs[i]? (pick ix xs) := by
  unfold pick
  rw [List.filterMap_cons]
  cases xs[i]? <;> rfl
theorem pkc_some {α : Type} {x : α} {l : List α} : pkc (some x) l = x :: l := rfl
/-- behind a def -/
def LV (x : Val) (n : Nat) (ω' : Store) (K : Val → Store → Prop) : Prop := match x with
  | .d d => K (.d d) (ω'.take n)
  | .loc m => Br (decide (m < n)) (K (.loc m) (ω'.take n)) (MW ω'[m]? fun c => K (.loc n) (ω'.take n ++ [some c]))
theorem LV_d {d : D} {n : Nat} {ω' : Store} : LV (.d d) n ω' K = K (.d d) (ω'.take n) := rfl
theorem LV_loc {m n : Nat} {ω' : Store} : LV (.loc m) n ω' K = Br (decide (m < n)) (K (.loc m) (ω'.take n)) (MW ω'[m]? fun c => K (.loc n) (ω'.take n ++ [some c])) := rfl
theorem lv_go {d : D} {n : Nat} {ω' ω2 : Store} (h : ω'.take n = ω2) (k : K (.d d) ω2) : LV (.d d) n ω' K := by
  rw [LV_d, h]; exact k
theorem setIx_go {ω ω' : Store} {z : D} {n : Nat} {i : Int} {ds : List D} {j : Nat} {k : Store → Prop} (h1 : ω[n]? = some (some (.lst ds))) (h2 : ixN ds.length i = some j) (h3 : ω.set n (some (.lst (ds.set j z))) = ω') (q : k ω') : OW (setIx (.d z) (.loc n) (.d (.int i)) ω) k := by
  rw [OW_setIx]
  refine lw_go h1 (ow_go h2 ?_)
  rw [h3]; exact q
theorem set_go {N : Kn} {X : D → Env → Store → Prop} {B : Kn} {C : Kn} {R : Val → Store → Prop} {i : Nat} {ρ : Env} (h : RW (f ρ ω) (fun x ω => ∃ ρ', ρ.set i (some x) = ρ' ∧ N ρ' ω) fun e ω => X e ρ ω) : SW (sSet i f ρ ω) N R B C X := by
  rw [s_set]
  refine h.imp (fun x ω q => ?_) fun _ _ q => q
  obtain ⟨ρ', e, q⟩ := q
  rw [e]; exact q
theorem env_go {α : Type} {P : α → Prop} {ρ ρ' : α} (h : ρ = ρ') (q : P ρ') : ∃ ρ', ρ = ρ' ∧ P ρ' := ⟨ρ', h, q⟩
theorem asg_go {N : Kn} {X : D → Env → Store → Prop} {B : Kn} {C : Kn} {R : Val → Store → Prop} {G : Tg} {ρ : Env} (h : RW (f ρ ω) (fun x ω => DW x fun d => OW (G d ρ) fun ρ0 => ∃ ρ', ρ0 = ρ' ∧ N ρ' ω) fun e ω => X e ρ ω) : SW (sAsg G f ρ ω) N R B C X := by
  rw [s_asg]
  refine h.imp (fun x ω q => ?_) fun _ _ q => q
  cases x with
  | loc n => exact q.elim
  | d d =>
    dsimp only [DW] at q ⊢
    obtain ⟨ρ0, e, ρ', rfl, q⟩ := OW_obt q
    rw [e]; exact q
theorem w_leave {n : Nat} {r : SRes} : RW (leave n r) K E = SW r (fun _ ω' => K (.d .non) (ω'.take n)) (fun x ω' => LV x n ω' K) (fun _ _ => False) (fun _ _ => False) (fun e _ ω' => E e (ω'.take n)) := by
  cases r with
  | rt x ω' =>
    cases x with
    | d d => rfl
    | loc m =>
      unfold leave
      dsimp only [SW, LV]
      by_cases h : m < n
      · rw [if_pos h, decide_eq_true h, Br_t]; rfl
      · rw [if_neg h, decide_eq_false h, Br_f]
        cases ω'[m]? with
        | none => rfl
        | some o => cases o <;> rfl
  | _ => rfl
theorem w_fn {N : Nat} {b : Sx} {xs : List Val} : RW (fnD N b xs ω) K E = SW (b (xs.map some ++ List.replicate (N - xs.length) none) ω) (fun _ ω' => K (.d .non) (ω'.take ω.length)) (fun x ω' => LV x ω.length ω' K) (fun _ _ => False) (fun _ _ => False) (fun e _ ω' => E e (ω'.take ω.length)) := by
  unfold fnD
  exact w_leave
theorem fn_go {N : Nat} {b : Sx} {xs : List Val} {ρ : Env} {m : Nat} (h1 : xs.map some ++ List.replicate (N - xs.length) none = ρ) (h2 : ω.length = m) (h : SW (b ρ ω) (fun _ ω' => K (.d .non) (ω'.take m)) (fun x ω' => LV x m ω' K) (fun _ _ => False) (fun _ _ => False) (fun e _ ω' => E e (ω'.take m))) : RW (fnD N b xs ω) K E := by
  subst h1; subst h2
  rw [w_fn]; exact h
theorem w_fnL {N : Nat} {fb : D → (Store → Res Val) → Sx} {lm : D} {act : Store → Res Val} : RW (fnL N fb lm act ω) K E = SW (fb lm act ([some (.d lm)] ++ List.replicate (N - 1) none) ω) (fun _ ω' => K (.d .non) (ω'.take ω.length)) (fun x ω' => LV x ω.length ω' K) (fun _ _ => False) (fun _ _ => False) (fun e _ ω' => E e (ω'.take ω.length)) := by
  unfold fnL
  exact w_leave
theorem w_lam {N : Nat} {fb : D → (Store → Res Val) → Sx} {n : Nat} {cap : List Nat} {fl : Fx Val} {v : Val} {ω' : Store} (h : ∀ f c q σ, RW (fnL N fb (.lam f c q σ (capD cap ρ)) (fun ω => fl (envN n (capD cap ρ)) ω) ω) (fun x w => x = v ∧ w = ω') fun _ _ => False) (k : K v ω') : RW (eLam N fb n cap fl ρ ω) K E := by
  rw [eLam_eq fun f c q σ => (h f c q σ).ok_of]
  exact k
theorem lam_go {N : Nat} {fb : D → (Store → Res Val) → Sx} {n : Nat} {cap : List Nat} {fl : Fx Val} {v : Val} {ω' : Store} {ρ' : Env} (e : envN n (capD cap ρ) = ρ') (h : ∀ lm, fnL N fb lm (fun ω => fl ρ' ω) ω = .ok v ω') (k : K v ω') : RW (eLam N fb n cap fl ρ ω) K E := by
  subst e
  exact w_lam (fun f c q σ => by rw [h]; exact ⟨rfl, rfl⟩) k
theorem w_act {i : Nat} {lm : D} {act : Store → Res Val} (h : ρ[i]? = some (some (.d lm))) : RW (eAct i lm act ρ ω) K E = RW (act ω) K E := by
  unfold eAct
  rw [if_pos h]
theorem w_callM {T : String} {F : D → List D → Option D} : RW (callM T F fo fs ρ ω) K E = RW (fo ρ ω) (fun x ω => OW (x.look ω) fun d => tyD T d = true ∧ RW (fs ρ ω) (fun xs ω => OW (x.look ω) fun d => OW (looks ω xs) fun ds => OW (F d ds) fun z => K (.d z) ω) E) E := by
  unfold callM
  rw [RW_bind]
  congr 1; funext x ω
  cases x.look ω with
  | none => rfl
  | some d =>
    dsimp only [OW]
    rw [RW_ite, RW_bind]
    congr 2
    funext xs ω
    cases x.look ω with
    | none => rfl
    | some d =>
      dsimp only [OW]
      cases looks ω xs with
      | none => rfl
      | some ds =>
        dsimp only [OW]
        cases F d ds <;> rfl
def FW (fld : Str → Str → Bool) (f : Str) (x : Val) (k : D → Prop) : Prop := match x with
  | .d (.exc c fs) => fld c f = true ∧ OW (fs.lookup f) k
  | _ => False
theorem FW_exc {fld : Str → Str → Bool} {f c : Str} {fs : List (Str × D)} {k : D → Prop} : FW fld f (.d (.exc c fs)) k = (fld c f = true ∧ OW (fs.lookup f) k) := rfl
theorem w_xf {fld : Str → Str → Bool} {n : Str} : RW (eXf fld n f ρ ω) K E = RW (f ρ ω) (fun x ω => FW fld n x fun z => K (.d z) ω) E := by
  unfold eXf
  rw [RW_bind]
  congr 1; funext x ω
  cases x with
  | loc n => rfl
  | d d =>
    cases d with
    | exc c fs =>
      dsimp only [FW]
      rw [RW_ite]
      cases fs.lookup n <;> rfl
    | _ => rfl
theorem w_app {fv : Fx Val} : RW (eApp fo fv ρ ω) K E = RW (fo ρ ω) (fun x ω => NW x fun n => LW ω[n]? fun _ => RW (fv ρ ω) (fun y ω => DW y fun z => LW ω[n]? fun ds => ds.length < sizeLine ∧ K (.d .non) (ω.set n (some (.lst (ds ++ [z]))))) E) E := by
  unfold eApp
  rw [RW_bind]
  congr 1; funext x ω
  cases x with
  | d d => rfl
  | loc n =>
    dsimp only [NW]
    rw [look_loc]
    have key : ∀ (ω : Store) (y : Val), RW (match y, ω[n]? with
      | .d z, some (some (.lst ds)) => if ds.length < sizeLine then .ok (.d .non) (ω.set n (some (.lst (ds ++ [z])))) else .bad
      | _, _ => .bad) K E = DW y fun z => LW ω[n]? fun ds => ds.length < sizeLine ∧ K (.d .non) (ω.set n (some (.lst (ds ++ [z])))) := fun ω y => by
      cases y with
      | loc m => rfl
      | d z =>
        dsimp only [DW]
        cases ω[n]? with
        | none => rfl
        | some o =>
          cases o with
          | none => rfl
          | some m =>
            cases m with
            | lst ds => dsimp only [LW]; rw [RW_ite]; rfl
            | _ => rfl
    cases ω[n]? with
    | none => rfl
    | some o =>
      cases o with
      | none => rfl
      | some m =>
        cases m with
        | lst ds => dsimp only [lookM, LW]; rw [RW_bind]; congr 1; funext y ω; exact key ω y
        | _ => rfl
end
/-! ### loops -/
theorem loop_w {G : Tg} {body : Sx} {I : Nat → Env → Store → Prop} {N : Kn} {R : Val → Store → Prop} {B C : Kn} {X : D → Env → Store → Prop} {ds : List D} {ρ : Env} {ω : Store} (h0 : I 0 ρ ω)
    (step : ∀ i d ρ ω, ds[i]? = some d → I i ρ ω → OW (G d ρ) fun ρ1 => SW (body ρ1 ω) (I (i + 1)) R N (I (i + 1)) X) (hend : ∀ ρ ω, I ds.length ρ ω → N ρ ω) : SW (loopL G body ds ρ ω) N R B C X := by
  suffices h : ∀ (n : Nat) (es : List D), es = ds.drop n → n ≤ ds.length → ∀ ρ ω, I n ρ ω → SW (loopL G body es ρ ω) N R B C X from h 0 ds (by simp) (Nat.zero_le _) ρ ω h0
  intro n es
  induction es generalizing n with
  | nil =>
    intro e hn ρ ω hi
    have : ds.length ≤ n := by
      have := congrArg List.length e
      simp at this; omega
    obtain rfl : n = ds.length := by omega
    exact hend ρ ω hi
  | cons d es ih =>
    intro e hn ρ ω hi
    have hd : ds[n]? = some d := by
      have := congrArg (fun l => l[0]?) e
      simpa [List.getElem?_drop] using this.symm
    have hl : n < ds.length := (List.getElem?_eq_some_iff.mp hd).1
    have he : es = ds.drop (n + 1) := by
      have := congrArg List.tail e
      simpa [List.tail_drop] using this
    obtain ⟨ρ1, h1, h2⟩ := OW_obt (step n d ρ ω hd hi)
    unfold loopL
    rw [h1]
    dsimp only
    cases q : body ρ1 ω with
    | nx ρ2 ω2 => rw [q] at h2; exact ih (n + 1) he hl ρ2 ω2 h2
    | ct ρ2 ω2 => rw [q] at h2; exact ih (n + 1) he hl ρ2 ω2 h2
    | bk ρ2 ω2 => rw [q] at h2; exact h2
    | rt x ω2 => rw [q] at h2; exact h2
    | exc x ρ2 ω2 => rw [q] at h2; exact h2
    | bad => rw [q] at h2; exact h2.elim
theorem range_len {lo : Int} {n : Nat} : (rangeD lo n).length = n := by unfold rangeD; simp
theorem range_at {lo : Int} {n i : Nat} {d : D} (h : (rangeD lo n)[i]? = some d) : i < n ∧ d = .int (lo + i) := by
  have hl := (List.getElem?_eq_some_iff.mp h).1
  rw [range_len] at hl
  rw [range_get hl] at h
  cases h
  exact ⟨hl, rfl⟩
section
variable {G : Tg} {ft : Fx Bool} {fe : Fx Val} {K : Val → Store → Prop} {E : D → Store → Prop} {ρ : Env} {ω : Store}
/-- a comprehension by an invariant: of what is made and of the store -/
theorem lc_w {I : Nat → List D → Store → Prop} {n : Nat} {ds : List D} (hn : ω.length = n) (h0 : I 0 [] ω)
    (step : ∀ i d acc ω0, ds[i]? = some d → ω0.length = n → I i acc ω0 → OW (G d ρ) fun ρ1 => RW (ft ρ1 (ω0 ++ [some (.lst acc)])) (fun b ω => Br b
      (RW (fe ρ1 ω) (fun y ω => ∃ z ω1, y = .d z ∧ ω = ω1 ++ [some (.lst acc)] ∧ ω1.length = n ∧ acc.length < sizeLine ∧ I (i + 1) (acc ++ [z]) ω1) fun _ _ => False)
      (∃ ω1, ω = ω1 ++ [some (.lst acc)] ∧ ω1.length = n ∧ I (i + 1) acc ω1)) fun _ _ => False)
    (hend : ∀ acc ω0, ω0.length = n → I ds.length acc ω0 → K (.d (.lst acc)) ω0) : RW (lcL n G ft fe ρ ds (ω ++ [some (.lst [])])) K E := by
  suffices h : ∀ (m : Nat) (es : List D), es = ds.drop m → m ≤ ds.length → ∀ acc ω, ω.length = n → I m acc ω → RW (lcL n G ft fe ρ es (ω ++ [some (.lst acc)])) K E from h 0 ds (by simp) (Nat.zero_le _) [] ω hn h0
  intro m es
  induction es generalizing m with
  | nil =>
    intro e hm acc ω hl hi
    have : ds.length ≤ m := by
      have := congrArg List.length e
      simp at this; omega
    obtain rfl : m = ds.length := by omega
    unfold lcL
    rw [List.getElem?_append_right (by omega), hl, Nat.sub_self, List.getElem?_cons_zero]
    dsimp only
    rw [RW_ok, List.take_append_of_le_length (by omega), ← hl, List.take_length]
    exact hend acc ω hl hi
  | cons d es ih =>
    intro e hm acc ω hl hi
    have hd : ds[m]? = some d := by
      have := congrArg (fun l => l[0]?) e
      simpa [List.getElem?_drop] using this.symm
    have hlt : m < ds.length := (List.getElem?_eq_some_iff.mp hd).1
    have he : es = ds.drop (m + 1) := by
      have := congrArg List.tail e
      simpa [List.tail_drop] using this
    obtain ⟨ρ1, h1, h2⟩ := OW_obt (step m d acc ω hd hl hi)
    unfold lcL
    rw [h1]
    dsimp only
    obtain ⟨b, ω2, e2, h3⟩ := RW.obt h2
    rw [e2]
    dsimp only [Res.calm, Res.bind]
    cases b with
    | false =>
      rw [Br_f] at h3
      obtain ⟨ω1, rfl, l1, i1⟩ := h3
      exact ih (m + 1) he hlt acc ω1 l1 i1
    | true =>
      rw [Br_t] at h3
      obtain ⟨y, ω3, e3, z, ω1, rfl, rfl, l1, sz, i1⟩ := RW.obt h3
      rw [if_pos rfl, e3]
      dsimp only [Res.calm, Res.bind]
      rw [List.getElem?_append_right (by omega), l1, Nat.sub_self, List.getElem?_cons_zero]
      dsimp only
      rw [if_pos sz]
      have e4 : (ω1 ++ [some (MO.lst acc)]).set n (some (.lst (acc ++ [z]))) = ω1 ++ [some (.lst (acc ++ [z]))] := by
        rw [List.set_append_right _ _ (by omega), l1, Nat.sub_self]; rfl
      rw [e4]
      exact ih (m + 1) he hlt (acc ++ [z]) ω1 l1 i1
theorem w_lc {vs : List Nat} {f : Fx Val} : RW (eLc vs f G ft fe ρ ω) K E = RW (f ρ ω) (fun x ω => DW x fun d => OW (seqD d) fun ds => RW (lcL ω.length G ft fe (wipeD ρ vs) ds (ω ++ [some (.lst [])])) K E) E := by
  unfold eLc
  rw [RW_bind]
  congr 1; funext x ω
  cases x with
  | loc n => rfl
  | d d =>
    dsimp only [DW]
    cases seqD d <;> rfl
theorem w_lcR1 {vs : List Nat} {f : Fx Val} : RW (eLcR1 vs f G ft fe ρ ω) K E = RW (f ρ ω) (fun x ω => IWn x fun j => (-(2 ^ 62) ≤ j ∧ j < 2 ^ 62) ∧ RW (lcL ω.length G ft fe (wipeD ρ vs) (rangeD 0 j.toNat) (ω ++ [some (.lst [])])) K E) E := by
  unfold eLcR1
  rw [RW_bind]
  congr 1; funext x ω
  cases x with
  | loc n => rfl
  | d d =>
    cases d with
    | int j => dsimp only [IWn]; rw [RW_ite]
    | _ => rfl
/-- nothing changes but the new list -/
theorem lc_pure {n : Nat} {ds es : List D} (hn : ω.length = n) (hsz : es.length ≤ sizeLine) (hl : es.length = ds.length)
    (h : ∀ (i : Nat) (d e : D), ds[i]? = some d → es[i]? = some e → ∃ ρ1, G d ρ = some ρ1 ∧ ∀ acc, ft ρ1 (ω ++ [some (.lst acc)]) = .ok true (ω ++ [some (.lst acc)]) ∧ fe ρ1 (ω ++ [some (.lst acc)]) = .ok (.d e) (ω ++ [some (.lst acc)]))
    (k : K (.d (.lst es)) ω) : RW (lcL n G ft fe ρ ds (ω ++ [some (.lst [])])) K E := by
  refine lc_w (I := fun i acc ω0 => ω0 = ω ∧ acc = es.take i) hn ⟨rfl, by simp⟩ (fun i d acc ω0 hd _ hi => ?_) (fun acc ω0 _ hi => ?_)
  · obtain ⟨rfl, rfl⟩ := hi
    have hlt : i < es.length := by rw [hl]; exact (List.getElem?_eq_some_iff.mp hd).1
    obtain ⟨ρ1, h1, h2⟩ := h i d es[i] hd (List.getElem?_eq_getElem hlt)
    obtain ⟨h3, h4⟩ := h2 (es.take i)
    rw [h1, OW_some, h3, RW_ok, Br_t, h4, RW_ok]
    refine ⟨_, _, rfl, rfl, hn, ?_, rfl, ?_⟩
    · rw [List.length_take]; omega
    · rw [List.take_succ, List.getElem?_eq_getElem hlt]; rfl
  · obtain ⟨rfl, rfl⟩ := hi
    rw [← hl, List.take_length]; exact k
end
theorem lc_nil {G : Tg} {ft : Fx Bool} {fe : Fx Val} {ρ : Env} {ω : Store} {acc : List D} {K : Val → Store → Prop} {E : D → Store → Prop} (q : K (.d (.lst acc)) ω) : RW (lcL ω.length G ft fe ρ [] (ω ++ [some (.lst acc)])) K E := by
  unfold lcL
  rw [List.getElem?_append_right (Nat.le_refl _), Nat.sub_self, List.getElem?_cons_zero]
  dsimp only
  rw [RW_ok, List.take_left]
  exact q
theorem lc_cons {G : Tg} {ft : Fx Bool} {fe : Fx Val} {ρ : Env} {ω : Store} {acc ds : List D} {d : D} {K : Val → Store → Prop} {E : D → Store → Prop}
    (q : OW (G d ρ) fun ρ0 => ∃ ρ1, ρ0 = ρ1 ∧ RW (ft ρ1 (ω ++ [some (.lst acc)])) (fun b ω1 => Br b
      (RW (fe ρ1 ω1) (fun y ω2 => DW y fun z => ω2 = ω ++ [some (.lst acc)] ∧ acc.length < sizeLine ∧ ∃ acc', acc ++ [z] = acc' ∧ RW (lcL ω.length G ft fe ρ ds (ω ++ [some (.lst acc')])) K E) fun _ _ => False)
      (ω1 = ω ++ [some (.lst acc)] ∧ RW (lcL ω.length G ft fe ρ ds (ω ++ [some (.lst acc)])) K E)) fun _ _ => False) : RW (lcL ω.length G ft fe ρ (d :: ds) (ω ++ [some (.lst acc)])) K E := by
  obtain ⟨ρ0, h1, _, rfl, h2⟩ := OW_obt q
  unfold lcL
  rw [h1]
  dsimp only
  obtain ⟨b, ω2, e2, h3⟩ := RW.obt h2
  rw [e2]
  dsimp only [Res.calm, Res.bind]
  cases b with
  | false =>
    rw [Br_f] at h3
    obtain ⟨rfl, h4⟩ := h3
    exact h4
  | true =>
    rw [Br_t] at h3
    obtain ⟨y, ω3, e3, h4⟩ := RW.obt h3
    rw [if_pos rfl, e3]
    cases y with
    | loc n => exact h4.elim
    | d z =>
      obtain ⟨rfl, sz, _, rfl, h5⟩ := h4
      dsimp only [Res.calm, Res.bind]
      rw [List.getElem?_append_right (Nat.le_refl _), Nat.sub_self, List.getElem?_cons_zero]
      dsimp only
      rw [if_pos sz]
      have e4 : (ω ++ [some (MO.lst acc)]).set ω.length (some (.lst (acc ++ [z]))) = ω ++ [some (.lst (acc ++ [z]))] := by
        rw [List.set_append_right _ _ (Nat.le_refl _), Nat.sub_self]; rfl
      rw [e4]
      exact h5
/-! ### leaves -/
section
variable {i j : Int} {x y : Str}
theorem ii_eq {F : Int → Int → D} : iiD F (.int i) (.int j) = some (F i j) := rfl
theorem ic_eq {C : Int → Int → Bool} {F : Int → Int → D} : iiC C F (.int i) (.int j) = if C i j = true then some (F i j) else none := rfl
theorem add_ii : addD (.int i) (.int j) = some (.int (i + j)) := rfl
theorem mul_ii : mulA (.int i) (.int j) = if MulOk i j then some (.int (i * j)) else none := rfl
theorem neg_i : negD (.int i) = some (.int (-i)) := rfl
theorem ow_mod {k : D → Prop} (h : 0 < j) (q : k (.int (i % j))) : OW (modD (.int i) (.int j)) k := by
  show OW (if decide (0 < j) = true then some (D.int (i % j)) else none) k
  rw [if_pos (decide_eq_true h)]; exact q
theorem ow_fdiv {k : D → Prop} (h : 0 < j) (h2 : j ≤ 10 ^ 60) (q : k (.int (i / j))) : OW (fdivD (.int i) (.int j)) k := by
  show OW (if (decide (0 < j) && decide (j.natAbs.log2 < 9000)) = true then some (D.int (i / j)) else none) k
  have h3 : j.natAbs.log2 < 9000 := by
    have h4 : j.natAbs < 2 ^ 200 := by
      have : (10 : Int) ^ 60 < 2 ^ 200 := by decide
      omega
    exact Nat.lt_of_lt_of_le (PySem.Flt.log2_lt_of (by decide) h4) (by decide)
  rw [if_pos (by simp [h, h3])]; exact q
theorem ow_mul {k : D → Prop} (h : MulOk i j) (q : k (.int (i * j))) : OW (mulA (.int i) (.int j)) k := by
  rw [mul_ii, if_pos h]; exact q
theorem ow_pow {k : D → Prop} {z : Int} (h : 0 ≤ j ∧ j ≤ 1000000 ∧ i.natAbs < 2 ^ 64) (e : i ^ j.toNat = z) (q : k (.int z)) : OW (powD (.int i) (.int j)) k := by
  show OW (if (decide (0 ≤ j) && decide (j ≤ 1000000) && decide (i.natAbs < 2 ^ 64)) = true then some (D.int (i ^ j.toNat)) else none) k
  rw [if_pos (by simp only [h.1, h.2.1, h.2.2, decide_true, Bool.and_self]), e]; exact q
theorem ow_gt {k : D → Prop} (q : k (.bl (decide (j < i)))) : OW (gtD (.int i) (.int j)) k := q
theorem ow_lt {k : D → Prop} (q : k (.bl (decide (i < j)))) : OW (ltD (.int i) (.int j)) k := q
theorem ow_ge {k : D → Prop} (q : k (.bl (decide (j ≤ i)))) : OW (geD (.int i) (.int j)) k := q
theorem ow_le {k : D → Prop} (q : k (.bl (decide (i ≤ j)))) : OW (leD (.int i) (.int j)) k := q
theorem ow_sub {k : D → Prop} (q : k (.int (i - j))) : OW (subD (.int i) (.int j)) k := q
/-! ### == of data -/
/-- data that == speaks of -/
theorem eqB_of {a b : D} {p q : PyData} (h1 : a.pd = some p) (h2 : b.pd = some q) (h3 : SeqAt.shaped p = true) (h4 : SeqAt.shaped q = true) : eqB a b = some (PyData.eqv p q) := by
  have e : eqP a b = some (PyData.eqv p q) := by
    unfold eqP
    rw [h1, h2]
    dsimp only
    rw [if_pos ⟨h3, h4⟩]
  unfold eqB
  split
  · cases h1; cases h2; simp [PyData.eqv]
  · exact e
theorem pd_ints : ∀ cs : List Int, pdL (cs.map .int) = some (cs.map .int)
  | [] => rfl
  | c :: cs => by rw [List.map_cons, pdL, pd_ints cs]; rfl
end
/-! ### steps by instances -/
class Stp {γ : Type} (r : Res γ) (out : outParam ((γ → Store → Prop) → (D → Store → Prop) → Prop)) : Prop where
  eq : ∀ K E, RW r K E = out K E
theorem stp {γ : Type} {r : Res γ} {out : (γ → Store → Prop) → (D → Store → Prop) → Prop} [i : Stp r out] {K : γ → Store → Prop} {E : D → Store → Prop} (h : out K E) : RW r K E := by rw [i.eq]; exact h
class StS (r : SRes) (out : outParam (Kn → (Val → Store → Prop) → Kn → Kn → (D → Env → Store → Prop) → Prop)) : Prop where
  imp : ∀ N R B C X, out N R B C X → SW r N R B C X
theorem sts {r : SRes} {out : Kn → (Val → Store → Prop) → Kn → Kn → (D → Env → Store → Prop) → Prop} [i : StS r out] {N R B C X} (h : out N R B C X) : SW r N R B C X := i.imp _ _ _ _ _ h
class OwS {α : Type} (o : Option α) (x : outParam α) : Prop where
  eq : o = some x
theorem ows {α : Type} {o : Option α} {x : α} [i : OwS o x] {k : α → Prop} (q : k x) : OW o k := by rw [i.eq]; exact q
section
variable {ρ : Env} {ω : Store} {f fa fb fc fv fo fi fk : Fx Val} {fs ks : Fx (List Val)} {t u : Fx Bool} {F G : D → D → Option D} {a b : Sx}
instance {i : Nat} : Stp (eVar i ρ ω) (fun K E => VW ρ[i]? fun x => K x ω) := ⟨fun K E => w_var⟩
instance {d : D} : Stp (eC d ρ ω) (fun K E => K (.d d) ω) := ⟨fun K E => w_c⟩
instance  : Stp (eOp F fa fb ρ ω) (fun K E => RW (fa ρ ω) (fun x ω => RW (fb ρ ω) (fun y ω => OW (x.look ω) fun a => OW (y.look ω) fun b => OW (F a b) fun z => K (.d z) ω) E) E) := ⟨fun K E => w_op⟩
instance {F : D → Option D} : Stp (eUn F fa ρ ω) (fun K E => RW (fa ρ ω) (fun x ω => OW (x.look ω) fun a => OW (F a) fun z => K (.d z) ω) E) := ⟨fun K E => w_un⟩
instance {F : List D → Option D} : Stp (callB F fs ρ ω) (fun K E => RW (fs ρ ω) (fun xs ω => OW (looks ω xs) fun ds => OW (F ds) fun z => K (.d z) ω) E) := ⟨fun K E => w_callB⟩
instance  : Stp (aNil ρ ω) (fun K E => K [] ω) := ⟨fun K E => w_nil⟩
instance  : Stp (aCons f fs ρ ω) (fun K E => RW (f ρ ω) (fun x ω => RW (fs ρ ω) (fun xs ω => K (x :: xs) ω) E) E) := ⟨fun K E => w_cons⟩
instance {F : List D → D} : Stp (mk F fs ρ ω) (fun K E => RW (fs ρ ω) (fun xs ω => OW (plain xs) fun ds => ds.length ≤ sizeLine ∧ K (.d (F ds)) ω) E) := ⟨fun K E => w_mk⟩
instance  : Stp (eNewL fs ρ ω) (fun K E => RW (fs ρ ω) (fun xs ω => OW (plain xs) fun ds => ds.length ≤ sizeLine ∧ K (.loc ω.length) (ω ++ [some (.lst ds)])) E) := ⟨fun K E => w_newL⟩
instance  : Stp (oNo ρ ω) (fun K E => K none ω) := ⟨fun K E => w_no⟩
instance  : Stp (oSome f ρ ω) (fun K E => RW (f ρ ω) (fun x ω => IWn x fun i => K (some i) ω) E) := ⟨fun K E => w_some⟩
instance {l h : Fx (Option Int)} : Stp (eSl f l h ρ ω) (fun K E => RW (f ρ ω) (fun x ω => RW (l ρ ω) (fun lo ω => RW (h ρ ω) (fun hi ω => OW (x.look ω) fun d => OW (slD d lo hi) fun z => K (.d z) ω) E) E) E) := ⟨fun K E => w_sl⟩
instance  : Stp (eIf t fa fb ρ ω) (fun K E => RW (t ρ ω) (fun c ω => Br c (RW (fa ρ ω) K E) (RW (fb ρ ω) K E)) E) := ⟨fun K E => w_if⟩
instance  : Stp (eAnd fa fb ρ ω) (fun K E => RW (fa ρ ω) (fun x ω => BW x fun c => Br c (RW (fb ρ ω) K E) (K (.d (.bl false)) ω)) E) := ⟨fun K E => w_and⟩
instance  : Stp (eOr fa fb ρ ω) (fun K E => RW (fa ρ ω) (fun x ω => BW x fun c => Br c (K (.d (.bl true)) ω) (RW (fb ρ ω) K E)) E) := ⟨fun K E => w_or⟩
instance  : Stp (eNot fa ρ ω) (fun K E => RW (fa ρ ω) (fun x ω => BW x fun c => K (.d (.bl (!c))) ω) E) := ⟨fun K E => w_not⟩
instance  : Stp (eChain F G fa fb fc ρ ω) (fun K E => RW (fa ρ ω) (fun x ω => RW (fb ρ ω) (fun y ω => OW (x.look ω) fun a => OW (y.look ω) fun b => OW (F a b) fun z => BW (.d z) fun k => Br k (RW (fc ρ ω) (fun z ω => OW (y.look ω) fun b => OW (z.look ω) fun c => OW (G b c) fun z => K (.d z) ω) E) (K (.d (.bl false)) ω)) E) E) := ⟨fun K E => w_chain⟩
instance  : Stp (tst f ρ ω) (fun K E => RW (f ρ ω) (fun x ω => BW x fun c => K c ω) E) := ⟨fun K E => w_tst⟩
instance  : Stp (truth f ρ ω) (fun K E => RW (f ρ ω) (fun x ω => OW (x.look ω) fun d => OW (truD d) fun c => K c ω) E) := ⟨fun K E => w_truth⟩
instance  : Stp (tAndD t u ρ ω) (fun K E => RW (t ρ ω) (fun c ω => Br c (RW (u ρ ω) K E) (K false ω)) E) := ⟨fun K E => w_tand⟩
instance  : Stp (tOrD t u ρ ω) (fun K E => RW (t ρ ω) (fun c ω => Br c (K true ω) (RW (u ρ ω) K E)) E) := ⟨fun K E => w_tor⟩
instance  : Stp (tNotD t ρ ω) (fun K E => RW (t ρ ω) (fun c ω => K (!c) ω) E) := ⟨fun K E => w_tnot⟩
instance  : Stp (tYesD ρ ω) (fun K E => K true ω) := ⟨fun K E => w_yes⟩
instance {c : Str} {ns : List Str} : Stp (eMk c ns fs ρ ω) (fun K E => RW (fs ρ ω) (fun xs ω => OW (plain xs) fun ds => ds.length = ns.length ∧ K (.exc c (ns.zip ds).reverse) ω) E) := ⟨fun K E => w_emk⟩
instance {F : Fn} {n m : Nat} {ix : List Nat} {dvs : List Val} : Stp (eCall F n m ix dvs fs ks ρ ω) (fun K E => RW (fs ρ ω) (fun xs ω => RW (ks ρ ω) (fun ys ω => CW F n m ix dvs xs ys ω K E) E) E) := ⟨fun K E => w_call⟩
instance {T : String} {F : D → List D → Option D} : Stp (callM T F fo fs ρ ω) (fun K E => RW (fo ρ ω) (fun x ω => OW (x.look ω) fun d => tyD T d = true ∧ RW (fs ρ ω) (fun xs ω => OW (x.look ω) fun d => OW (looks ω xs) fun ds => OW (F d ds) fun z => K (.d z) ω) E) E) := ⟨fun K E => w_callM⟩
instance {fld : Str → Str → Bool} {n : Str} : Stp (eXf fld n f ρ ω) (fun K E => RW (f ρ ω) (fun x ω => FW fld n x fun z => K (.d z) ω) E) := ⟨fun K E => w_xf⟩
instance  : Stp (eApp fo fv ρ ω) (fun K E => RW (fo ρ ω) (fun x ω => NW x fun n => LW ω[n]? fun _ => RW (fv ρ ω) (fun y ω => DW y fun z => LW ω[n]? fun ds => ds.length < sizeLine ∧ K (.d .non) (ω.set n (some (.lst (ds ++ [z]))))) E) E) := ⟨fun K E => w_app⟩
instance {vs : List Nat} {G : Tg} {ft : Fx Bool} {fe : Fx Val} : Stp (eLc vs f G ft fe ρ ω) (fun K E => RW (f ρ ω) (fun x ω => DW x fun d => OW (seqD d) fun ds => ∃ ρ', wipeD ρ vs = ρ' ∧ RW (lcL ω.length G ft fe ρ' ds (ω ++ [some (.lst [])])) K E) E) := ⟨fun K E => by
  rw [w_lc]
  simp only [exists_eq_left']⟩
instance {vs : List Nat} {G : Tg} {ft : Fx Bool} {fe : Fx Val} : Stp (eLcR1 vs f G ft fe ρ ω) (fun K E => RW (f ρ ω) (fun x ω => IWn x fun j => (-(2 ^ 62) ≤ j ∧ j < 2 ^ 62) ∧ ∃ ρ', wipeD ρ vs = ρ' ∧ RW (lcL ω.length G ft fe ρ' (rangeD 0 j.toNat) (ω ++ [some (.lst [])])) K E) E) := ⟨fun K E => by
  rw [w_lcR1]
  simp only [exists_eq_left']⟩
instance {γ : Type} {x : γ} {ω : Store} : Stp (.ok x ω : Res γ) (fun K E => K x ω) := ⟨fun K E => RW_ok⟩
instance {γ : Type} {x : D} {ω : Store} : Stp (.exc x ω : Res γ) (fun K E => E x ω) := ⟨fun K E => RW_exc⟩
instance  : StS (sSeq a b ρ ω) (fun N R B C X => SW (a ρ ω) (fun ρ ω => SW (b ρ ω) N R B C X) R B C X) := ⟨fun N R B C X h => by rw [s_seq]; exact h⟩
instance  : StS (sPass ρ ω) (fun N R B C X => N ρ ω) := ⟨fun N R B C X h => by rw [s_pass]; exact h⟩
instance  : StS (sBreak ρ ω) (fun N R B C X => B ρ ω) := ⟨fun N R B C X h => by rw [s_brk]; exact h⟩
instance  : StS (sCont ρ ω) (fun N R B C X => C ρ ω) := ⟨fun N R B C X h => by rw [s_cont]; exact h⟩
instance  : StS (sRet f ρ ω) (fun N R B C X => RW (f ρ ω) (fun x ω => R x ω) fun e ω => X e ρ ω) := ⟨fun N R B C X h => by rw [s_ret]; exact h⟩
instance  : StS (sRetN ρ ω) (fun N R B C X => R (.d .non) ω) := ⟨fun N R B C X h => by rw [s_retN]; exact h⟩
instance  : StS (sDrop f ρ ω) (fun N R B C X => RW (f ρ ω) (fun x ω => N ρ ω) fun e ω => X e ρ ω) := ⟨fun N R B C X h => by rw [s_drop]; exact h⟩
instance  : StS (sIf t a b ρ ω) (fun N R B C X => RW (t ρ ω) (fun c ω => Br c (SW (a ρ ω) N R B C X) (SW (b ρ ω) N R B C X)) fun e ω => X e ρ ω) := ⟨fun N R B C X h => by rw [s_if]; exact h⟩
instance {i j : Nat} : StS (sPar i j fs ρ ω) (fun N R B C X => RW (fs ρ ω) (fun xs ω => PrW xs fun x y => ∃ ρ', ((ρ.set i (some x)).set j (some y)) = ρ' ∧ N ρ' ω) fun e ω => X e ρ ω) := ⟨fun N R B C X h => by
  rw [s_par]
  refine h.imp (fun xs ω q => ?_) fun _ _ q => q
  unfold PrW at q ⊢
  split at q
  · obtain ⟨_, rfl, q⟩ := q; exact q
  · exact q.elim⟩
instance  : StS (sSetIx fv fo fi ρ ω) (fun N R B C X => RW (fv ρ ω) (fun x ω => RW (fo ρ ω) (fun o ω => RW (fi ρ ω) (fun i ω => OW (setIx x o i ω) fun ω' => N ρ ω') fun e ω => X e ρ ω) fun e ω => X e ρ ω) fun e ω => X e ρ ω) := ⟨fun N R B C X h => by rw [s_setIx]; exact h⟩
instance {G : Tg} : StS (sFor f G a ρ ω) (fun N R B C X => RW (f ρ ω) (fun x ω => DW x fun d => OW (seqD d) fun ds => SW (loopL G a ds ρ ω) N R B C X) fun e ω => X e ρ ω) := ⟨fun N R B C X h => by rw [s_for]; exact h⟩
instance {G : Tg} : StS (sForR1 f G a ρ ω) (fun N R B C X => RW (f ρ ω) (fun x ω => IWn x fun j => (-(2 ^ 62) ≤ j ∧ j < 2 ^ 62) ∧ SW (loopL G a (rangeD 0 j.toNat) ρ ω) N R B C X) fun e ω => X e ρ ω) := ⟨fun N R B C X h => by rw [s_forR1]; exact h⟩
instance {m : Fx D} : StS (sRaise m ρ ω) (fun N R B C X => RW (m ρ ω) (fun d ω => X d ρ ω) fun _ _ => False) := ⟨fun N R B C X h => by rw [s_raise]; exact h⟩
instance {sub : Str → Str → Option Bool} {c : Str} {i : Nat} : StS (sTry sub c i a b ρ ω) (fun N R B C X => SW (a ρ ω) N R B C (fun e ρ' ω' => XW sub c e (fun e => ∃ ρ1, ρ'.set i (some (.d e)) = ρ1 ∧ SW (b ρ1 ω') (fun ρ ω => ∃ ρ2, ρ.set i none = ρ2 ∧ N ρ2 ω) R (fun ρ ω => ∃ ρ2, ρ.set i none = ρ2 ∧ B ρ2 ω) (fun ρ ω => ∃ ρ2, ρ.set i none = ρ2 ∧ C ρ2 ω) (fun _ _ _ => False)) (X e ρ' ω'))) := ⟨fun N R B C X h => by
  rw [s_try]
  refine h.imp (fun _ _ q => q) (fun _ _ q => q) (fun _ _ q => q) (fun _ _ q => q) fun e ρ ω q => ?_
  unfold XW at q ⊢
  split at q
  · obtain ⟨v, e1, q⟩ := OW_obt q
    rw [e1]
    refine ⟨fun hv => ?_, fun hv => q.2 hv⟩
    obtain ⟨_, rfl, q1⟩ := q.1 hv
    refine q1.imp (fun _ _ q => ?_) (fun _ _ q => q) (fun _ _ q => ?_) (fun _ _ q => ?_) fun _ _ _ q => q
    · obtain ⟨_, rfl, q⟩ := q; exact q
    · obtain ⟨_, rfl, q⟩ := q; exact q
    · obtain ⟨_, rfl, q⟩ := q; exact q
  · exact q.elim⟩
instance {i : Nat} : StS (sSet i f ρ ω) (fun N R B C X => RW (f ρ ω) (fun x ω => ∃ ρ', ρ.set i (some x) = ρ' ∧ N ρ' ω) fun e ω => X e ρ ω) := ⟨fun N R B C X h => set_go h⟩
instance {G : Tg} : StS (sAsg G f ρ ω) (fun N R B C X => RW (f ρ ω) (fun x ω => DW x fun d => OW (G d ρ) fun ρ0 => ∃ ρ', ρ0 = ρ' ∧ N ρ' ω) fun e ω => X e ρ ω) := ⟨fun N R B C X h => asg_go h⟩
instance {d : D} : OwS (Val.look ω (.d d)) d := ⟨rfl⟩
instance {F : Int → Int → D} {i j : Int} : OwS (iiD F (.int i) (.int j)) (F i j) := ⟨rfl⟩
instance {i j : Int} : OwS (addD (.int i) (.int j)) (.int (i + j)) := ⟨rfl⟩
instance {i : Int} : OwS (negD (.int i)) (.int (-i)) := ⟨rfl⟩
instance : OwS (looks ω []) [] := ⟨rfl⟩
instance {d : D} {xs : List Val} {ds : List D} [i : OwS (looks ω xs) ds] : OwS (looks ω (.d d :: xs)) (d :: ds) := ⟨by rw [looks_cons, i.eq]; rfl⟩
instance : OwS (plain []) [] := ⟨rfl⟩
instance {d : D} {xs : List Val} {ds : List D} [i : OwS (plain xs) ds] : OwS (plain (.d d :: xs)) (d :: ds) := ⟨by rw [plain_cons, i.eq]; rfl⟩
instance {i : Int} : OwS (intD [.int i]) (.int i) := ⟨rfl⟩
instance {i : Int} : OwS (absD [.int i]) (.int (if i < 0 then -i else i)) := ⟨rfl⟩
instance {l : List D} : OwS (lenD [.lst l]) (.int l.length) := ⟨rfl⟩
instance {l : List D} : OwS (lenD [.tup l]) (.int l.length) := ⟨rfl⟩
instance {l : List D} : OwS (lenD [.frl l]) (.int l.length) := ⟨rfl⟩
instance {l : List D} : OwS (seqD (.lst l)) l := ⟨rfl⟩
instance {l : List D} : OwS (seqD (.tup l)) l := ⟨rfl⟩
instance {l : List D} : OwS (seqD (.frl l)) l := ⟨rfl⟩
instance {x y : Str} : OwS (eqD (.str x) (.str y)) (.bl (x == y)) := ⟨rfl⟩
instance {x y : Str} : OwS (neD (.str x) (.str y)) (.bl (!(x == y))) := ⟨rfl⟩
instance {x y : Int} : OwS (eqD (.int x) (.int y)) (.bl (x == y)) := ⟨rfl⟩
instance {x y : Int} : OwS (neD (.int x) (.int y)) (.bl (!(x == y))) := ⟨rfl⟩
end
/-! ### dict displays -/
section
variable {ρ : Env} {ω : Store} {E : D → Store → Prop}
theorem w_pairs0 {K : List (Val × Val) → Store → Prop} : RW (pairsF [] ρ ω) K E = K [] ω := rfl
theorem w_pairs {fk fv : Fx Val} {r : List (Fx Val × Fx Val)} {K : List (Val × Val) → Store → Prop} : RW (pairsF ((fk, fv) :: r) ρ ω) K E = RW (fk ρ ω) (fun x ω => RW (fv ρ ω) (fun y ω => RW (pairsF r ρ ω) (fun ps ω => K ((x, y) :: ps) ω) E) E) E := by
  rw [pairsF]
  simp only [RW_bind, RW_ok]
/-- the new dict is still empty -/
def EmW (o : Option (Option MO)) (ω' : Store) (n : Nat) (k : Store → Prop) : Prop := o = some (some (.dct [])) ∧ k (ω'.take n)
theorem em_go {o : Option (Option MO)} {ω' ω2 : Store} {n : Nat} {k : Store → Prop} (h1 : o = some (some (.dct []))) (h2 : ω'.take n = ω2) (q : k ω2) : EmW o ω' n k := ⟨h1, by rw [h2]; exact q⟩
theorem w_disp {l : List (Fx Val × Fx Val)} {K : Val → Store → Prop} : RW (eDisp l ρ ω) K E = RW (pairsF l ρ (ω ++ [some (.dct [])])) (fun ps ω' => OW (keyed ps) fun kzs => EmW ω'[ω.length]? ω' ω.length fun ω2 => kzs.length ≤ 15 ∧ K (.d (.dct (mergeD [] kzs))) ω2) E := by
  unfold eDisp
  rw [RW_bind]
  congr 1; funext ps ω'
  cases keyed ps with
  | none => rfl
  | some kzs =>
    dsimp only [OW]
    unfold EmW
    cases ω'[ω.length]? with
    | none => simp [RW_bad]
    | some o =>
      cases o with
      | none => simp [RW_bad]
      | some m =>
        cases m with
        | dct ds =>
          cases ds with
          | nil => dsimp only; rw [RW_ite]; simp [RW_ok]
          | cons p r => simp [RW_bad]
        | _ => simp [RW_bad]
theorem w_disp0 {K : Val → Store → Prop} : RW (eDisp0 ρ ω) K E = K (.d (.dct [])) ω := rfl
instance : Stp (pairsF [] ρ ω) (fun K E => K [] ω) := ⟨fun K E => w_pairs0⟩
instance {fk fv : Fx Val} {r : List (Fx Val × Fx Val)} : Stp (pairsF ((fk, fv) :: r) ρ ω) (fun K E => RW (fk ρ ω) (fun x ω => RW (fv ρ ω) (fun y ω => RW (pairsF r ρ ω) (fun ps ω => K ((x, y) :: ps) ω) E) E) E) := ⟨fun K E => w_pairs⟩
instance {l : List (Fx Val × Fx Val)} : Stp (eDisp l ρ ω) (fun K E => RW (pairsF l ρ (ω ++ [some (.dct [])])) (fun ps ω' => OW (keyed ps) fun kzs => EmW ω'[ω.length]? ω' ω.length fun ω2 => kzs.length ≤ 15 ∧ K (.d (.dct (mergeD [] kzs))) ω2) E) := ⟨fun K E => w_disp⟩
instance : Stp (eDisp0 ρ ω) (fun K E => K (.d (.dct [])) ω) := ⟨fun K E => w_disp0⟩
end
end DL

/-! The D-layer: the helpers of the laws: pen, draw, pick. -/
namespace DL
open PySem PySem.Spec PyProof.Rows L2
local macro_rules | `(tactic| walk_at "dwN") => `(tactic| ((try simp only [List.set_cons_zero, List.set_cons_succ, List.map_cons, List.map_nil, List.replicate, List.length_cons, List.length_nil, List.cons_append, List.nil_append, List.append_nil, List.take_succ_cons, List.take_length, List.take_zero, List.take_left, Nat.reduceAdd, Nat.reduceSub, Int.reduceToNat, pick_nil, pick_cons, pkc_some, wipeD, List.getElem?_cons_zero, List.getElem?_cons_succ]); exact rfl))
local macro_rules | `(tactic| walk_at "dwO") => `(tactic| first
  | ((with_reducible refine' vw_go ?k1 ?_); case k1 => exact rfl)
  | ((with_reducible show OW _ _); first
    | (with_reducible refine ows ?_)
    | ((with_reducible refine ow_ne_same ?k1 ?_); case k1 => (first | rfl | kernel_rfl)) | ((with_reducible refine ow_eq_same ?k1 ?_); case k1 => (first | rfl | kernel_rfl))
    | ((with_reducible refine' ow_go (o := inD _ _) ?k1 ?_); case k1 => exact rfl) | ((with_reducible refine' ow_go (o := notInD _ _) ?k1 ?_); case k1 => exact rfl)
    | ((with_reducible refine' ow_go (o := truD _) ?k1 ?_); case k1 => exact rfl)
    | ((with_reducible refine' ow_go (o := subX _ _) ?k1 ?_); case k1 => exact rfl)
    | ((with_reducible refine' ow_go (o := isaD _ _) ?k1 ?_); case k1 => exact rfl)
    | ((with_reducible refine' ow_go (o := listD _) ?k1 ?_); case k1 => exact rfl) | ((with_reducible refine' ow_go (o := tupD _) ?k1 ?_); case k1 => exact rfl)
    | ((with_reducible refine' ow_go (o := isNonD _ _) ?k1 ?_); case k1 => exact rfl)
    | ((with_reducible refine ow_mod ?k1 ?_); case k1 => (first | decide | omega))
    | ((with_reducible refine ow_fdiv ?k1 ?k2 ?_); (case k1 => (first | decide | omega)); (case k2 => (first | decide | omega)))
    | ((with_reducible refine ow_mul ?k1 ?_); case k1 => (first | exact .inl (by decide) | exact .inr (.inl (by decide)) | exact .inl (by omega) | exact .inr (.inl (by omega))))
    | ((with_reducible refine' ow_pow ?k1 ?k2 ?_); (case k1 => (first | decide | exact ⟨by decide, by decide, by omega⟩)); (case k2 => ((try simp only [Int.reduceToNat, Int.reducePow]); exact rfl)))
    | ((with_reducible refine' setIx_go ?k1 ?k2 ?k3 ?_); (case k1 => exact rfl); (case k2 => exact rfl); (case k3 => walk_at "dwN"))
    | ((with_reducible refine' ow_go (o := ixD _ _) ?k1 ?_); case k1 => exact rfl) | ((with_reducible refine' ow_go (o := Val.look _ _) ?k1 ?_); case k1 => exact rfl)
    | ((with_reducible refine' ow_go (o := looks _ _) ?k1 ?_); case k1 => exact rfl)
    | ((with_reducible refine' ow_go (o := keyed _) ?k1 ?_); case k1 => exact rfl)
    | ((with_reducible refine' ow_go (o := cntD _ _) ?k1 ?_); case k1 => (first | exact rfl | kernel_rfl)) | ((with_reducible refine' ow_go (o := idxD _ _) ?k1 ?_); case k1 => (first | exact rfl | kernel_rfl))
    | ((with_reducible refine' ow_go (o := List.lookup _ _) ?k1 ?_); case k1 => exact rfl) | ((with_reducible refine' ow_go (o := gSeq _ _ _ _) ?k1 ?_); case k1 => exact rfl) | ((with_reducible refine' ow_go (o := gNm _ _ _) ?k1 ?_); case k1 => exact rfl)
    | ((with_reducible refine' ow_go (o := mulA _ _) ?k1 ?_); case k1 => exact rfl) | ((with_reducible refine' ow_go (o := addD _ _) ?k1 ?_); case k1 => exact rfl) | ((with_reducible refine' ow_go (o := sumD _) ?k1 ?_); case k1 => exact rfl)
    | ((with_reducible refine' ow_go (o := some _) rfl ?_)))
  | (with_reducible refine lc_nil ?_) | (with_reducible refine lc_cons ?_) | (with_reducible refine Eq.mpr PrW_mk ?_)
  | (with_reducible refine Eq.mpr BW_bl ?_) | (with_reducible refine Eq.mpr DW_d ?_) | (with_reducible refine Eq.mpr IWn_int ?_) | (with_reducible refine Eq.mpr NW_loc ?_)
  | ((with_reducible refine' cw_go ?k1 ?k2 ?k3 ?_); (case k1 => exact rfl); (case k2 => exact rfl); (case k3 => walk_at "dwN"))
  | ((with_reducible refine' em_go ?k1 ?k2 ?_); (case k1 => (first | rfl | simp)); (case k2 => (first | walk_at "dwN" | (simp only [List.take_append_of_le_length, List.take_left, List.cons_append, List.length_cons, List.take_succ_cons]; exact rfl))))
  | (with_reducible refine Eq.mpr XW_exc ?_) | (with_reducible refine Eq.mpr FW_exc ?_)
  | ((with_reducible refine' lv_go ?k1 ?_); case k1 => walk_at "dwN")
  | ((with_reducible refine' env_go ?k1 ?_); case k1 => walk_at "dwN")
  | ((with_reducible refine And.intro ?k1 ?_); case k1 => (first | exact rfl | (simp only [List.length_cons, List.length_nil, Nat.reduceAdd, sizeLine]; decide) | decide | (simp only [List.length_cons, List.length_nil, Nat.reduceAdd, Nat.reduceLeDiff]; done) | (simp only [List.length_append, List.length_cons, List.length_nil, Nat.reduceAdd, sizeLine]; decide)))
  | ((with_reducible refine Eq.mpr Br_t ?_)) | ((with_reducible refine Eq.mpr Br_f ?_))
  | ((with_reducible show Br _ _ _); first | ((with_reducible refine Br.tt ?k1 ?_); case k1 => exact rfl) | ((with_reducible refine Br.ff ?k1 ?_); case k1 => exact rfl)))
local macro_rules | `(tactic| walk_at "dw1") => `(tactic| first | (with_reducible refine stp ?_) | ((with_reducible refine Eq.mpr (w_act ?k1) ?_); case k1 => exact rfl) | (with_reducible refine sts ?_) | walk_at "dwO")
local macro_rules | `(tactic| walk_at "dw") => `(tactic| ((repeat walk_at "dw1"); try dsimp only))
/-- the pen: the cells, the next one's number, what is left of a great one -/
abbrev pn (cs : List Int) (at_ g : Int) : Option MO := some (.lst [.lst (cs.map .int), .int at_, .int g])
def penB : Sx := (sRet (eNewL (aCons (callB listD (aCons (eSl (eVar 0) oNo (oSome (eC (.int 63)))) aNil)) (aCons (eC (.int 0)) (aCons (eC (.int 0)) aNil)))))
/-- the end of draw: the cell is mixed -/
def mixB (A B C F : Int) : Sx := (sSeq (sSet 4 (eOp modD (callB intD (aCons (eOp powD (eOp addD (eOp addD (eOp modD (callB intD (aCons (eVar 3) aNil)) (eC (.int 2147483549))) (eOp mulA (eC (.int C)) (eVar 2))) (eC (.int B))) (eC (.int 3))) aNil)) (eC (.int 2147483629)))) (sSeq (sSet 4 (eOp modD (callB intD (aCons (eOp powD (eOp addD (eOp addD (eOp mulA (eVar 4) (eOp addD (eOp mulA (eC (.int 2)) (eVar 2)) (eC (.int F)))) (eOp mulA (eOp mulA (eC (.int A)) (eVar 2)) (eVar 2))) (eC (.int C))) (eC (.int 5))) aNil)) (eC (.int 2147483563)))) (sRet (eOp modD (callB intD (aCons (eOp fdivD (eVar 4) (eC (.int 16))) aNil)) (eVar 1)))))
def drawB (A B C F : Int) : Sx := (sSeq (sIf (tst (eOp ltD (eVar 1) (eC (.int 2)))) (sRet (eC (.int 0))) sPass) (sSeq (sIf (tst (eOp gtD (eOp ixD (eVar 0) (eC (.int 2))) (eC (.int 0)))) (sSeq (sSet 5 (eOp modD (callB intD (aCons (eOp ixD (eVar 0) (eC (.int 2))) aNil)) (eVar 1))) (sSeq (sSetIx (eOp fdivD (callB intD (aCons (eOp ixD (eVar 0) (eC (.int 2))) aNil)) (eVar 1)) (eVar 0) (eC (.int 2))) (sRet (eVar 5)))) sPass) (sSeq (sSet 2 (eOp ixD (eVar 0) (eC (.int 1)))) (sSeq (sSetIx (eOp addD (eVar 2) (eC (.int 1))) (eVar 0) (eC (.int 1))) (sSeq (sSet 3 (eOp addD (eOp mulA (eC (.int A)) (eVar 2)) (eC (.int B)))) (sSeq (sIf (tst (eOp neD (eOp ixD (eVar 0) (eC (.int 0))) (eLst aNil))) (sSet 3 (eOp ixD (eOp ixD (eVar 0) (eC (.int 0))) (eOp modD (callB intD (aCons (eVar 2) aNil)) (callB lenD (aCons (eOp ixD (eVar 0) (eC (.int 0))) aNil))))) sPass) (sSeq (sIf (tAndD (tst (eOp ltD (eVar 2) (callB lenD (aCons (eOp ixD (eVar 0) (eC (.int 0))) aNil)))) (tst (eOp geD (callB absD (aCons (eVar 3) aNil)) (eOp powD (eC (.int 10)) (eC (.int 18)))))) (sSeq (sSet 6 (eOp addD (eOp mulA (eC (.int 2)) (eOp subD (callB absD (aCons (eVar 3) aNil)) (eOp powD (eC (.int 10)) (eC (.int 18))))) (callB intD (aCons (eOp ltD (eVar 3) (eC (.int 0))) aNil)))) (sSeq (sSetIx (eOp fdivD (callB intD (aCons (eVar 6) aNil)) (eVar 1)) (eVar 0) (eC (.int 2))) (sRet (eOp modD (callB intD (aCons (eVar 6) aNil)) (eVar 1))))) sPass) (mixB A B C F))))))))
def pickB (A B C F : Int) : Sx := (sRet (eOp ixD (eVar 1) (eCall (fnD 7 (drawB A B C F)) 2 0 [0, 1] [] (aCons (eVar 0) (aCons (callB lenD (aCons (eVar 1) aNil)) aNil)) aNil)))
theorem atI_map {cs : List Int} {x : Int} (h0 : 0 ≤ x) (h1 : x < ((cs.map D.int).length : Int)) : ∃ c, atI (cs.map D.int) x = some (.int c) := by
  obtain ⟨n, rfl⟩ := Int.eq_ofNat_of_zero_le h0
  have h2 : n < cs.length := by simpa using h1
  refine ⟨cs[n], ?_⟩
  unfold atI ixN
  rw [if_pos (by omega), if_pos h1]
  simp [h2]
theorem cut_all (ds : List D) (h : ds.length ≤ 63) : cutD ds none (some 63) = ds := by
  unfold cutD
  have h1 : HT.sIx ds.length 0 none = 0 := rfl
  have h2 : HT.sIx ds.length ds.length (some 63) = ds.length := by
    unfold HT.sIx
    simp
    omega
  rw [h1, h2]
  simp
theorem pen_w {ns : List Int} {ω : Store} (h : ns.length ≤ 63) : fnD 1 penB [.d (.frl (ns.map .int))] ω = .ok (.loc ω.length) (ω ++ [pn ns 0 0]) := by
  refine RW.ok_of ?_
  refine' fn_go ?k1 ?k2 ?_
  case k1 => walk_at "dwN"
  case k2 => exact rfl
  unfold penB
  walk_at "dw"
  refine ow_go (x := .lst (ns.map .int)) (by
    have e := cut_all (ns.map .int) (by simpa using h)
    show some (D.lst (cutD (ns.map .int) none (some 63))) = _
    rw [e]) ?_
  walk_at "dw"
  refine ow_go rfl ?_
  walk_at "dw"
  refine Br.decF (by omega) ?_
  refine mw_go (x := .lst [.lst (ns.map .int), .int 0, .int 0]) (by simp) ?_
  exact ⟨rfl, by simp⟩
theorem canInts : ∀ cs : List Int, PyData.canLayAll0 (cs.map .int) = true
  | [] => rfl
  | c :: cs => by rw [List.map_cons, PyData.canLayAll0, canInts cs]; rfl
theorem depthInts : ∀ cs : List Int, PyData.depthAll (cs.map .int) = 0
  | [] => rfl
  | c :: cs => by rw [List.map_cons, PyData.depthAll, depthInts cs]; rfl
theorem shapedInts (cs : List Int) : SeqAt.shaped (.list (cs.map .int)) = true := by
  unfold SeqAt.shaped
  rw [show PyData.canLay0 (.list (cs.map .int)) = PyData.canLayAll0 (cs.map .int) from rfl, canInts, show PyData.depth (.list (cs.map .int)) = PyData.depthAll (cs.map .int) + 1 from rfl, depthInts]
  rfl
theorem ne_nil (cs : List Int) : neD (.lst (cs.map .int)) (.lst []) = some (.bl (!cs.isEmpty)) := by
  unfold neD
  rw [eqB_of (p := .list (cs.map .int)) (q := .list []) (by unfold D.pd; rw [pd_ints]; rfl) rfl (shapedInts cs) rfl]
  cases cs <;> rfl
theorem natAbs_lt {x : Int} (h : -18446744073709551616 < x) (h2 : x < 18446744073709551616) : x.natAbs < 2 ^ 64 := by omega
theorem mix_small {m a A C F : Int} (h0 : 0 ≤ m) (h1 : m < 2147483629) (a0 : 0 ≤ a) (a1 : a ≤ 1000000) (A0 : 0 ≤ A) (A1 : A ≤ 100000) (C0 : 0 ≤ C) (C1 : C ≤ 100000) (F0 : 0 ≤ F) (F1 : F ≤ 100000) :
    0 ≤ m * (2 * a + F) + A * a * a + C ∧ m * (2 * a + F) + A * a * a + C < 18446744073709551616 := by
  have e1 : 0 ≤ 2 * a + F := by omega
  have e2 : m * (2 * a + F) ≤ 2147483629 * 2100000 := Int.mul_le_mul (by omega) (by omega) e1 (by omega)
  have e3 : 0 ≤ m * (2 * a + F) := Int.mul_nonneg h0 e1
  have e4 : 0 ≤ A * a := Int.mul_nonneg A0 a0
  have e5 : A * a ≤ 100000 * 1000000 := Int.mul_le_mul A1 a1 a0 (by omega)
  have e6 : 0 ≤ A * a * a := Int.mul_nonneg e4 a0
  have e7 : A * a * a ≤ (100000 * 1000000) * 1000000 := Int.mul_le_mul e5 a1 a0 (by omega)
  omega
theorem mix_w {A B C F many a cell : Int} {N : Kn} {R : Val → Store → Prop} {Bk Ct : Kn} {X : D → Env → Store → Prop} {p1 p2 p3 : Option Val} {ω : Store} (hA : 0 ≤ A ∧ A ≤ 100000) (hB : 0 ≤ B ∧ B ≤ 100000) (hC : 0 ≤ C ∧ C ≤ 100000) (hF : 0 ≤ F ∧ F ≤ 100000)
    (hm : 0 < many) (hm1 : many ≤ 10 ^ 60) (h0 : 0 ≤ a) (h1 : a ≤ 1000000) (k : ∀ d, 0 ≤ d → d < many → R (.d (.int d)) ω) : SW (mixB A B C F [p1, some (.d (.int many)), some (.d (.int a)), some (.d (.int cell)), p2, p3, none] ω) N R Bk Ct X := by
  unfold mixB
  have eC : 0 ≤ C * a := Int.mul_nonneg hC.1 h0
  have eC1 : C * a ≤ 100000 * 1000000 := Int.mul_le_mul hC.2 h1 h0 (by omega)
  have eA : 0 ≤ A * a := Int.mul_nonneg hA.1 h0
  have eA1 : A * a ≤ 100000 * 1000000 := Int.mul_le_mul hA.2 h1 h0 (by omega)
  walk_at "dw"
  have M0 : 0 ≤ (cell % 2147483549 + C * a + B) ^ 3 % 2147483629 := Int.emod_nonneg _ (by decide)
  have M1 : (cell % 2147483549 + C * a + B) ^ 3 % 2147483629 < 2147483629 := Int.emod_lt_of_pos _ (by decide)
  obtain ⟨S0, S1⟩ := mix_small M0 M1 h0 h1 hA.1 hA.2 hC.1 hC.2 hF.1 hF.2
  refine ow_pow ⟨by decide, by decide, natAbs_lt (by omega) S1⟩ rfl ?_
  walk_at "dw"
  exact k _ (Int.emod_nonneg _ (by omega)) (Int.emod_lt_of_pos _ (by omega))
theorem draw_w {A B C F many : Int} {cs : List Int} {at_ g : Int} {ω2 : Store} {K : Val → Store → Prop} {E} (hA : 0 ≤ A ∧ A ≤ 100000) (hB : 0 ≤ B ∧ B ≤ 100000) (hC : 0 ≤ C ∧ C ≤ 100000) (hF : 0 ≤ F ∧ F ≤ 100000)
    (hm : many ≤ 10 ^ 60) (h0 : 0 ≤ at_) (h1 : at_ ≤ 1000000) (hg : 0 ≤ g)
    (k : ∀ d at' g', 0 ≤ d → (d < many ∨ (many < 2 ∧ d = 0)) → at_ ≤ at' → at' ≤ at_ + 1 → 0 ≤ g' → K (.d (.int d)) (pn cs at' g' :: ω2)) : RW (fnD 7 (drawB A B C F) [.loc 0, .d (.int many)] (pn cs at_ g :: ω2)) K E := by
  refine' fn_go ?k1 ?k2 ?_
  case k1 => walk_at "dwN"
  case k2 => walk_at "dwN"
  unfold drawB
  walk_at "dw"
  refine Br.dec (fun hlt => ?_) (fun hge => ?_)
  · walk_at "dw"
    exact k 0 _ _ (by omega) (.inr ⟨hlt, rfl⟩) (by omega) (by omega) hg
  walk_at "dw"
  refine Br.dec (fun hgp => ?_) (fun hgn => ?_)
  · walk_at "dw"
    exact k _ _ _ (Int.emod_nonneg _ (by omega)) (.inl (Int.emod_lt_of_pos _ (by omega))) (by omega) (by omega) (Int.ediv_nonneg hg (by omega))
  walk_at "dw"
  refine ow_go (ne_nil cs) ?_
  walk_at "dw"
  cases cs with
  | nil =>
    refine Br.ff rfl ?_
    walk_at "dw"
    refine Br.decF (by simp; omega) ?_
    walk_at "dw"
    refine mix_w hA hB hC hF (by omega) hm h0 h1 fun d d0 d1 => ?_
    walk_at "dw"
    exact k d _ _ d0 (.inl d1) (by omega) (by omega) hg
  | cons c cs =>
    refine Br.tt rfl ?_
    walk_at "dw"
    have hl : (0 : Int) < ((List.map D.int (c :: cs)).length : Int) := by simp
    refine ow_mod hl ?_
    obtain ⟨cell, hc⟩ : ∃ cell, ixD (.lst (List.map D.int (c :: cs))) (.int (at_ % ((List.map D.int (c :: cs)).length : Int))) = some (.int cell) := by
      have q0 := Int.emod_nonneg at_ (b := ((List.map D.int (c :: cs)).length : Int)) (by omega)
      have q1 := Int.emod_lt_of_pos at_ hl
      generalize at_ % ((List.map D.int (c :: cs)).length : Int) = x at q0 q1
      exact atI_map q0 q1
    walk_at "dw"
    refine ow_go hc ?_
    walk_at "dw"
    refine Br.dec (fun hat => ?_) (fun hat => ?_)
    · walk_at "dw"
      refine Br.dec (fun hbig => ?_) (fun hbig => ?_)
      · walk_at "dw"
        refine ow_go rfl ?_
        walk_at "dw"
        refine k _ _ _ (Int.emod_nonneg _ (by omega)) (.inl (Int.emod_lt_of_pos _ (by omega))) (by omega) (by omega) (Int.ediv_nonneg ?_ (by omega))
        split <;> omega
      · walk_at "dw"
        refine mix_w hA hB hC hF (by omega) hm h0 h1 fun d d0 d1 => ?_
        walk_at "dw"
        exact k d _ _ d0 (.inl d1) (by omega) (by omega) hg
    · walk_at "dw"
      refine mix_w hA hB hC hF (by omega) hm h0 h1 fun d d0 d1 => ?_
      walk_at "dw"
      exact k d _ _ d0 (.inl d1) (by omega) (by omega) hg
theorem draw_w1 {A B C F many : Int} {cs : List Int} {at_ g : Int} {ω2 : Store} {K : Val → Store → Prop} {E} (hA : 0 ≤ A ∧ A ≤ 100000) (hB : 0 ≤ B ∧ B ≤ 100000) (hC : 0 ≤ C ∧ C ≤ 100000) (hF : 0 ≤ F ∧ F ≤ 100000)
    (hm : 1 ≤ many ∧ many ≤ 10 ^ 60) (h : (0 ≤ at_ ∧ at_ ≤ 1000000) ∧ 0 ≤ g)
    (k : ∀ d at' g', (0 ≤ d ∧ d < many) → (at_ ≤ at' ∧ at' ≤ at_ + 1) ∧ 0 ≤ g' → K (.d (.int d)) (pn cs at' g' :: ω2)) : RW (fnD 7 (drawB A B C F) [.loc 0, .d (.int many)] (pn cs at_ g :: ω2)) K E :=
  draw_w hA hB hC hF hm.2 h.1.1 h.1.2 h.2 fun d at' g' d0 d1 a0 a1 g0 => k d at' g' ⟨d0, by omega⟩ ⟨⟨a0, a1⟩, g0⟩
/-- one of some things -/
theorem pick_w {A B C F : Int} {cs : List Int} {at_ g : Int} {ω2 : Store} {ds : List D} {K : Val → Store → Prop} {E} (hA : 0 ≤ A ∧ A ≤ 100000) (hB : 0 ≤ B ∧ B ≤ 100000) (hC : 0 ≤ C ∧ C ≤ 100000) (hF : 0 ≤ F ∧ F ≤ 100000)
    (hd : 0 < ds.length) (hd2 : (ds.length : Int) ≤ 10 ^ 60) (h0 : 0 ≤ at_) (h1 : at_ ≤ 1000000) (hg : 0 ≤ g)
    (k : ∀ (i : Nat) (x : D) at' g', ds[i]? = some x → at_ ≤ at' → at' ≤ at_ + 1 → 0 ≤ g' → K (.d x) (pn cs at' g' :: ω2)) : RW (fnD 2 (pickB A B C F) [.loc 0, .d (.lst ds)] (pn cs at_ g :: ω2)) K E := by
  refine' fn_go ?k1 ?k2 ?_
  case k1 => walk_at "dwN"
  case k2 => walk_at "dwN"
  unfold pickB
  walk_at "dw"
  refine draw_w hA hB hC hF hd2 h0 h1 hg fun d at' g' d0 d1 a0 a1 g0 => ?_
  walk_at "dw"
  obtain ⟨n, rfl⟩ := Int.eq_ofNat_of_zero_le d0
  have hn : n < ds.length := by omega
  refine ow_go (x := ds[n]) (by
    show atI ds (n : Int) = _
    unfold atI ixN
    rw [if_pos (by omega), if_pos (by omega)]
    simp [hn]) ?_
  walk_at "dw"
  exact k n _ _ _ (List.getElem?_eq_getElem hn) a0 a1 g0
end DL

/-! The D-layer: what the laws of this package have in common: its errors, isinstance. -/
namespace DL
open PySem PySem.Spec PyProof.Rows L2
/-- data that == speaks of, whatever it is -/
def okD (a : D) : Bool := match a.pd with
  | some p => SeqAt.shaped p
  | none => false
theorem eqB_same {a : D} (h : okD a = true) : eqB a a = some true := by
  unfold okD at h
  split at h
  · rename_i p e
    rw [eqB_of e e h h, SeqAt.eqv_refl p (SeqAt.canLay_of_shaped h)]
  · cases h
theorem ow_ne_same {a : D} {k : D → Prop} (h : okD a = true) (q : k (.bl false)) : OW (neD a a) k := by
  unfold neD
  rw [eqB_same h]; exact q
theorem ow_eq_same {a : D} {k : D → Prop} (h : okD a = true) (q : k (.bl true)) : OW (eqD a a) k := by
  unfold eqD
  rw [eqB_same h]; exact q
instance (priority := high) {x : Str} : OwS (neD (.str x) (.str x)) (.bl false) := ⟨by show some (D.bl (!(x == x))) = _; rw [beq_self_eq_true]; rfl⟩
instance (priority := high) {x : Str} : OwS (eqD (.str x) (.str x)) (.bl true) := ⟨by show some (D.bl (x == x)) = _; rw [beq_self_eq_true]⟩
instance {a b : Bool} : OwS (isNotBD (.bl a) (.bl b)) (.bl (!decide (a = b))) := ⟨rfl⟩
instance {a b : Bool} : OwS (isBD (.bl a) (.bl b)) (.bl (decide (a = b))) := ⟨rfl⟩
theorem showInt {a : Int} (h : a.natAbs < 10 ^ 60) : (PyData.shown (.int a)).length ≤ 61 := by
  have e := int_text_length_le10 (k := 60) (by decide) h
  show (Str.ofString (toString a)).length ≤ 61
  rw [PySem.ofString_length]; exact e
theorem log60 {a : Int} (h : a.natAbs < 10 ^ 60) : a.natAbs.log2 < 200 := PySem.Flt.log2_lt_of (by decide) (Nat.lt_trans h (by decide))
theorem repr_pair {a b : Int} (ha : a.natAbs < 10 ^ 60) (hb : b.natAbs < 10 ^ 60) : reprD [.tup [.int a, .int b]] = some (.str (PyData.shown (.tuple [.int a, .int b]))) := by
  have h1 := log60 ha
  have h2 := log60 hb
  have w : ∀ c : Int, c.natAbs.log2 < 200 → PyData.weight (.int c) ≤ 200 := fun c hc => by
    simp only [PyData.weight]
    split <;> omega
  have l : PyData.leavesShort 61 (.tuple [.int a, .int b]) = true := by
    simp only [PyData.leavesShort, PyData.leavesShortAll, decide_eq_true (showInt ha), decide_eq_true (showInt hb), Bool.and_self]
  have q := PyData.shown_le 61 (by decide) _ l
  have q2 : PyData.weight (.tuple [.int a, .int b]) ≤ 402 := by
    have w1 := w a h1
    have w2 := w b h2
    simp only [PyData.weight, PyData.weightAll] at w1 w2 ⊢
    omega
  have q3 : (PyData.shown (.tuple [.int a, .int b])).length ≤ sizeLine := by
    have : sizeLine = 16777216 := by decide
    omega
  have s : PyData.showable (.tuple [.int a, .int b]) = true := by
    simp only [PyData.showable, PyData.showableAll, Bool.and_eq_true, decide_eq_true_eq]
    exact ⟨by omega, by omega, trivial⟩
  show (if _ then _ else _) = _
  rw [if_pos ⟨s, rfl, (by show max 0 (max 0 0) + 1 ≤ 100; decide), q3⟩]
def errs : List Str := ["PerError", "BadValue", "BadNumber", "BadFunction", "BadRow", "BadWord", "BadText", "NoName", "Misfit", "Nothing", "TooMany"]
def errsI : List Str := ["BadValue", "BadNumber", "BadFunction", "BadRow", "BadWord", "BadText", "NoName", "Misfit", "Nothing", "TooMany"]
def subX (c y : Str) : Option Bool := if c ∈ errsI ∧ y ∈ errs then some (decide (c = y) || decide (y = "PerError")) else none
def fldL : List (Str × List Str) := [("BadValue", ["part"]), ("BadNumber", ["part"]), ("BadFunction", ["index"]), ("BadRow", ["function", "block", "row"]), ("BadWord", ["word"]), ("BadText", ["line", "word"]), ("NoName", ["name"]), ("Misfit", ["part"]), ("Nothing", ["word"]), ("TooMany", ["what", "most"])]
def fldX (c f : Str) : Bool := match fldL.lookup c with
  | some l => decide (f ∈ l)
  | none => false
local macro_rules | `(tactic| walk_at "dwN") => `(tactic| ((try simp only [List.set_cons_zero, List.set_cons_succ, List.map_cons, List.map_nil, List.replicate, List.length_cons, List.length_nil, List.cons_append, List.nil_append, List.append_nil, List.take_succ_cons, List.take_length, List.take_zero, List.take_left, Nat.reduceAdd, Nat.reduceSub, Int.reduceToNat, pick_nil, pick_cons, pkc_some, wipeD, List.getElem?_cons_zero, List.getElem?_cons_succ]); exact rfl))
local macro_rules | `(tactic| walk_at "dwO") => `(tactic| first
  | ((with_reducible refine' vw_go ?k1 ?_); case k1 => exact rfl)
  | ((with_reducible show OW _ _); first
    | (with_reducible refine ows ?_)
    | ((with_reducible refine ow_ne_same ?k1 ?_); case k1 => (first | rfl | kernel_rfl)) | ((with_reducible refine ow_eq_same ?k1 ?_); case k1 => (first | rfl | kernel_rfl))
    | ((with_reducible refine' ow_go (o := inD _ _) ?k1 ?_); case k1 => exact rfl) | ((with_reducible refine' ow_go (o := notInD _ _) ?k1 ?_); case k1 => exact rfl)
    | ((with_reducible refine' ow_go (o := truD _) ?k1 ?_); case k1 => exact rfl)
    | ((with_reducible refine' ow_go (o := subX _ _) ?k1 ?_); case k1 => exact rfl)
    | ((with_reducible refine' ow_go (o := isaD _ _) ?k1 ?_); case k1 => exact rfl)
    | ((with_reducible refine' ow_go (o := listD _) ?k1 ?_); case k1 => exact rfl) | ((with_reducible refine' ow_go (o := tupD _) ?k1 ?_); case k1 => exact rfl)
    | ((with_reducible refine' ow_go (o := isNonD _ _) ?k1 ?_); case k1 => exact rfl)
    | ((with_reducible refine ow_mod ?k1 ?_); case k1 => (first | decide | omega))
    | ((with_reducible refine ow_fdiv ?k1 ?k2 ?_); (case k1 => (first | decide | omega)); (case k2 => (first | decide | omega)))
    | ((with_reducible refine ow_mul ?k1 ?_); case k1 => (first | exact .inl (by decide) | exact .inr (.inl (by decide)) | exact .inl (by omega) | exact .inr (.inl (by omega))))
    | ((with_reducible refine' ow_pow ?k1 ?k2 ?_); (case k1 => (first | decide | exact ⟨by decide, by decide, by omega⟩)); (case k2 => ((try simp only [Int.reduceToNat, Int.reducePow]); exact rfl)))
    | ((with_reducible refine' setIx_go ?k1 ?k2 ?k3 ?_); (case k1 => exact rfl); (case k2 => exact rfl); (case k3 => walk_at "dwN"))
    | ((with_reducible refine' ow_go (o := ixD _ _) ?k1 ?_); case k1 => exact rfl) | ((with_reducible refine' ow_go (o := Val.look _ _) ?k1 ?_); case k1 => exact rfl)
    | ((with_reducible refine' ow_go (o := looks _ _) ?k1 ?_); case k1 => exact rfl)
    | ((with_reducible refine' ow_go (o := keyed _) ?k1 ?_); case k1 => exact rfl)
    | ((with_reducible refine' ow_go (o := cntD _ _) ?k1 ?_); case k1 => (first | exact rfl | kernel_rfl)) | ((with_reducible refine' ow_go (o := idxD _ _) ?k1 ?_); case k1 => (first | exact rfl | kernel_rfl))
    | ((with_reducible refine' ow_go (o := List.lookup _ _) ?k1 ?_); case k1 => exact rfl) | ((with_reducible refine' ow_go (o := gSeq _ _ _ _) ?k1 ?_); case k1 => exact rfl) | ((with_reducible refine' ow_go (o := gNm _ _ _) ?k1 ?_); case k1 => exact rfl)
    | ((with_reducible refine' ow_go (o := mulA _ _) ?k1 ?_); case k1 => exact rfl) | ((with_reducible refine' ow_go (o := addD _ _) ?k1 ?_); case k1 => exact rfl) | ((with_reducible refine' ow_go (o := sumD _) ?k1 ?_); case k1 => exact rfl)
    | ((with_reducible refine' ow_go (o := some _) rfl ?_)))
  | (with_reducible refine lc_nil ?_) | (with_reducible refine lc_cons ?_) | (with_reducible refine Eq.mpr PrW_mk ?_)
  | (with_reducible refine Eq.mpr BW_bl ?_) | (with_reducible refine Eq.mpr DW_d ?_) | (with_reducible refine Eq.mpr IWn_int ?_) | (with_reducible refine Eq.mpr NW_loc ?_)
  | ((with_reducible refine' cw_go ?k1 ?k2 ?k3 ?_); (case k1 => exact rfl); (case k2 => exact rfl); (case k3 => walk_at "dwN"))
  | ((with_reducible refine' em_go ?k1 ?k2 ?_); (case k1 => (first | rfl | simp)); (case k2 => (first | walk_at "dwN" | (simp only [List.take_append_of_le_length, List.take_left, List.cons_append, List.length_cons, List.take_succ_cons]; exact rfl))))
  | (with_reducible refine Eq.mpr XW_exc ?_) | (with_reducible refine Eq.mpr FW_exc ?_)
  | ((with_reducible refine' lv_go ?k1 ?_); case k1 => walk_at "dwN")
  | ((with_reducible refine' env_go ?k1 ?_); case k1 => walk_at "dwN")
  | ((with_reducible refine And.intro ?k1 ?_); case k1 => (first | exact rfl | (simp only [List.length_cons, List.length_nil, Nat.reduceAdd, sizeLine]; decide) | decide | (simp only [List.length_cons, List.length_nil, Nat.reduceAdd, Nat.reduceLeDiff]; done) | (simp only [List.length_append, List.length_cons, List.length_nil, Nat.reduceAdd, sizeLine]; decide)))
  | ((with_reducible refine Eq.mpr Br_t ?_)) | ((with_reducible refine Eq.mpr Br_f ?_))
  | ((with_reducible show Br _ _ _); first | ((with_reducible refine Br.tt ?k1 ?_); case k1 => exact rfl) | ((with_reducible refine Br.ff ?k1 ?_); case k1 => exact rfl)))
local macro_rules | `(tactic| walk_at "dw1") => `(tactic| first | (with_reducible refine stp ?_) | ((with_reducible refine Eq.mpr (w_act ?k1) ?_); case k1 => exact rfl) | (with_reducible refine sts ?_) | walk_at "dwO")
local macro_rules | `(tactic| walk_at "dw") => `(tactic| ((repeat walk_at "dw1"); try dsimp only))
theorem kb_NoneType_int : kitB "NoneType" "int" = some false := by decide +kernel
theorem kb_NoneType_bool : kitB "NoneType" "bool" = some false := by decide +kernel
theorem kb_NoneType_str : kitB "NoneType" "str" = some false := by decide +kernel
theorem kb_NoneType_list : kitB "NoneType" "list" = some false := by decide +kernel
theorem kb_NoneType_tuple : kitB "NoneType" "tuple" = some false := by decide +kernel
theorem kb_NoneType_dict : kitB "NoneType" "dict" = some false := by decide +kernel
theorem kb_bool_int : kitB "bool" "int" = some true := by decide +kernel
theorem kb_bool_bool : kitB "bool" "bool" = some true := by decide +kernel
theorem kb_bool_str : kitB "bool" "str" = some false := by decide +kernel
theorem kb_bool_list : kitB "bool" "list" = some false := by decide +kernel
theorem kb_bool_tuple : kitB "bool" "tuple" = some false := by decide +kernel
theorem kb_bool_dict : kitB "bool" "dict" = some false := by decide +kernel
theorem kb_int_int : kitB "int" "int" = some true := by decide +kernel
theorem kb_int_bool : kitB "int" "bool" = some false := by decide +kernel
theorem kb_int_str : kitB "int" "str" = some false := by decide +kernel
theorem kb_int_list : kitB "int" "list" = some false := by decide +kernel
theorem kb_int_tuple : kitB "int" "tuple" = some false := by decide +kernel
theorem kb_int_dict : kitB "int" "dict" = some false := by decide +kernel
theorem kb_str_int : kitB "str" "int" = some false := by decide +kernel
theorem kb_str_bool : kitB "str" "bool" = some false := by decide +kernel
theorem kb_str_str : kitB "str" "str" = some true := by decide +kernel
theorem kb_str_list : kitB "str" "list" = some false := by decide +kernel
theorem kb_str_tuple : kitB "str" "tuple" = some false := by decide +kernel
theorem kb_str_dict : kitB "str" "dict" = some false := by decide +kernel
theorem kb_tuple_int : kitB "tuple" "int" = some false := by decide +kernel
theorem kb_tuple_bool : kitB "tuple" "bool" = some false := by decide +kernel
theorem kb_tuple_str : kitB "tuple" "str" = some false := by decide +kernel
theorem kb_tuple_list : kitB "tuple" "list" = some false := by decide +kernel
theorem kb_tuple_tuple : kitB "tuple" "tuple" = some true := by decide +kernel
theorem kb_tuple_dict : kitB "tuple" "dict" = some false := by decide +kernel
theorem kb_list_int : kitB "list" "int" = some false := by decide +kernel
theorem kb_list_bool : kitB "list" "bool" = some false := by decide +kernel
theorem kb_list_str : kitB "list" "str" = some false := by decide +kernel
theorem kb_list_list : kitB "list" "list" = some true := by decide +kernel
theorem kb_list_tuple : kitB "list" "tuple" = some false := by decide +kernel
theorem kb_list_dict : kitB "list" "dict" = some false := by decide +kernel
theorem kb_dict_int : kitB "dict" "int" = some false := by decide +kernel
theorem kb_dict_bool : kitB "dict" "bool" = some false := by decide +kernel
theorem kb_dict_str : kitB "dict" "str" = some false := by decide +kernel
theorem kb_dict_list : kitB "dict" "list" = some false := by decide +kernel
theorem kb_dict_tuple : kitB "dict" "tuple" = some false := by decide +kernel
theorem kb_dict_dict : kitB "dict" "dict" = some true := by decide +kernel
theorem isa_ty {sub : Str → Str → Option Bool} {x : D} {t c : String} {r : Bool} (h0 : isxD sub [x, .ty c] = none) (h1 : tyName x = some t) (h2 : kitB t c = some r) : isaD sub [x, .ty c] = some (.bl r) := by
  unfold isaD
  rw [h0]
  dsimp only
  unfold isiD
  dsimp only
  rw [h1, Option.bind_some, h2]; rfl
theorem isa_tup {sub : Str → Str → Option Bool} {x : D} {t c e : String} {r s : Bool} (h0 : isxD sub [x, .tup [.ty c, .ty e]] = none) (h1 : tyName x = some t) (h2 : kitB t c = some r) (h3 : kitB t e = some s) : isaD sub [x, .tup [.ty c, .ty e]] = some (.bl (r || s)) := by
  unfold isaD
  rw [h0]
  dsimp only
  unfold isiD
  dsimp only
  rw [h1, Option.bind_some, show tysD [.ty c, .ty e] = some [c, e] from rfl, Option.bind_some, kitAnyN, h2]
  cases r
  · dsimp only
    rw [kitAnyN, h3]
    cases s <;> rfl
  · rfl
section
variable {sub : Str → Str → Option Bool}
instance  : OwS (isaD sub [.non, .ty "int"]) (.bl false) := ⟨isa_ty rfl rfl kb_NoneType_int⟩
instance  : OwS (isaD sub [.non, .ty "bool"]) (.bl false) := ⟨isa_ty rfl rfl kb_NoneType_bool⟩
instance  : OwS (isaD sub [.non, .ty "str"]) (.bl false) := ⟨isa_ty rfl rfl kb_NoneType_str⟩
instance  : OwS (isaD sub [.non, .ty "list"]) (.bl false) := ⟨isa_ty rfl rfl kb_NoneType_list⟩
instance  : OwS (isaD sub [.non, .ty "tuple"]) (.bl false) := ⟨isa_ty rfl rfl kb_NoneType_tuple⟩
instance  : OwS (isaD sub [.non, .ty "dict"]) (.bl false) := ⟨isa_ty rfl rfl kb_NoneType_dict⟩
instance  : OwS (isaD sub [.non, .tup [.ty "list", .ty "tuple"]]) (.bl false) := ⟨isa_tup rfl rfl kb_NoneType_list kb_NoneType_tuple⟩
instance {b : Bool} : OwS (isaD sub [.bl b, .ty "int"]) (.bl true) := ⟨isa_ty rfl rfl kb_bool_int⟩
instance {b : Bool} : OwS (isaD sub [.bl b, .ty "bool"]) (.bl true) := ⟨isa_ty rfl rfl kb_bool_bool⟩
instance {b : Bool} : OwS (isaD sub [.bl b, .ty "str"]) (.bl false) := ⟨isa_ty rfl rfl kb_bool_str⟩
instance {b : Bool} : OwS (isaD sub [.bl b, .ty "list"]) (.bl false) := ⟨isa_ty rfl rfl kb_bool_list⟩
instance {b : Bool} : OwS (isaD sub [.bl b, .ty "tuple"]) (.bl false) := ⟨isa_ty rfl rfl kb_bool_tuple⟩
instance {b : Bool} : OwS (isaD sub [.bl b, .ty "dict"]) (.bl false) := ⟨isa_ty rfl rfl kb_bool_dict⟩
instance {b : Bool} : OwS (isaD sub [.bl b, .tup [.ty "list", .ty "tuple"]]) (.bl false) := ⟨isa_tup rfl rfl kb_bool_list kb_bool_tuple⟩
instance {i : Int} : OwS (isaD sub [.int i, .ty "int"]) (.bl true) := ⟨isa_ty rfl rfl kb_int_int⟩
instance {i : Int} : OwS (isaD sub [.int i, .ty "bool"]) (.bl false) := ⟨isa_ty rfl rfl kb_int_bool⟩
instance {i : Int} : OwS (isaD sub [.int i, .ty "str"]) (.bl false) := ⟨isa_ty rfl rfl kb_int_str⟩
instance {i : Int} : OwS (isaD sub [.int i, .ty "list"]) (.bl false) := ⟨isa_ty rfl rfl kb_int_list⟩
instance {i : Int} : OwS (isaD sub [.int i, .ty "tuple"]) (.bl false) := ⟨isa_ty rfl rfl kb_int_tuple⟩
instance {i : Int} : OwS (isaD sub [.int i, .ty "dict"]) (.bl false) := ⟨isa_ty rfl rfl kb_int_dict⟩
instance {i : Int} : OwS (isaD sub [.int i, .tup [.ty "list", .ty "tuple"]]) (.bl false) := ⟨isa_tup rfl rfl kb_int_list kb_int_tuple⟩
instance {x : Str} : OwS (isaD sub [.str x, .ty "int"]) (.bl false) := ⟨isa_ty rfl rfl kb_str_int⟩
instance {x : Str} : OwS (isaD sub [.str x, .ty "bool"]) (.bl false) := ⟨isa_ty rfl rfl kb_str_bool⟩
instance {x : Str} : OwS (isaD sub [.str x, .ty "str"]) (.bl true) := ⟨isa_ty rfl rfl kb_str_str⟩
instance {x : Str} : OwS (isaD sub [.str x, .ty "list"]) (.bl false) := ⟨isa_ty rfl rfl kb_str_list⟩
instance {x : Str} : OwS (isaD sub [.str x, .ty "tuple"]) (.bl false) := ⟨isa_ty rfl rfl kb_str_tuple⟩
instance {x : Str} : OwS (isaD sub [.str x, .ty "dict"]) (.bl false) := ⟨isa_ty rfl rfl kb_str_dict⟩
instance {x : Str} : OwS (isaD sub [.str x, .tup [.ty "list", .ty "tuple"]]) (.bl false) := ⟨isa_tup rfl rfl kb_str_list kb_str_tuple⟩
instance {l : List D} : OwS (isaD sub [.tup l, .ty "int"]) (.bl false) := ⟨isa_ty rfl rfl kb_tuple_int⟩
instance {l : List D} : OwS (isaD sub [.tup l, .ty "bool"]) (.bl false) := ⟨isa_ty rfl rfl kb_tuple_bool⟩
instance {l : List D} : OwS (isaD sub [.tup l, .ty "str"]) (.bl false) := ⟨isa_ty rfl rfl kb_tuple_str⟩
instance {l : List D} : OwS (isaD sub [.tup l, .ty "list"]) (.bl false) := ⟨isa_ty rfl rfl kb_tuple_list⟩
instance {l : List D} : OwS (isaD sub [.tup l, .ty "tuple"]) (.bl true) := ⟨isa_ty rfl rfl kb_tuple_tuple⟩
instance {l : List D} : OwS (isaD sub [.tup l, .ty "dict"]) (.bl false) := ⟨isa_ty rfl rfl kb_tuple_dict⟩
instance {l : List D} : OwS (isaD sub [.tup l, .tup [.ty "list", .ty "tuple"]]) (.bl true) := ⟨isa_tup rfl rfl kb_tuple_list kb_tuple_tuple⟩
instance {l : List D} : OwS (isaD sub [.lst l, .ty "int"]) (.bl false) := ⟨isa_ty rfl rfl kb_list_int⟩
instance {l : List D} : OwS (isaD sub [.lst l, .ty "bool"]) (.bl false) := ⟨isa_ty rfl rfl kb_list_bool⟩
instance {l : List D} : OwS (isaD sub [.lst l, .ty "str"]) (.bl false) := ⟨isa_ty rfl rfl kb_list_str⟩
instance {l : List D} : OwS (isaD sub [.lst l, .ty "list"]) (.bl true) := ⟨isa_ty rfl rfl kb_list_list⟩
instance {l : List D} : OwS (isaD sub [.lst l, .ty "tuple"]) (.bl false) := ⟨isa_ty rfl rfl kb_list_tuple⟩
instance {l : List D} : OwS (isaD sub [.lst l, .ty "dict"]) (.bl false) := ⟨isa_ty rfl rfl kb_list_dict⟩
instance {l : List D} : OwS (isaD sub [.lst l, .tup [.ty "list", .ty "tuple"]]) (.bl true) := ⟨isa_tup rfl rfl kb_list_list kb_list_tuple⟩
instance {l : List D} : OwS (isaD sub [.frl l, .ty "int"]) (.bl false) := ⟨isa_ty rfl rfl kb_list_int⟩
instance {l : List D} : OwS (isaD sub [.frl l, .ty "bool"]) (.bl false) := ⟨isa_ty rfl rfl kb_list_bool⟩
instance {l : List D} : OwS (isaD sub [.frl l, .ty "str"]) (.bl false) := ⟨isa_ty rfl rfl kb_list_str⟩
instance {l : List D} : OwS (isaD sub [.frl l, .ty "list"]) (.bl true) := ⟨isa_ty rfl rfl kb_list_list⟩
instance {l : List D} : OwS (isaD sub [.frl l, .ty "tuple"]) (.bl false) := ⟨isa_ty rfl rfl kb_list_tuple⟩
instance {l : List D} : OwS (isaD sub [.frl l, .ty "dict"]) (.bl false) := ⟨isa_ty rfl rfl kb_list_dict⟩
instance {l : List D} : OwS (isaD sub [.frl l, .tup [.ty "list", .ty "tuple"]]) (.bl true) := ⟨isa_tup rfl rfl kb_list_list kb_list_tuple⟩
instance {m : List (D × D)} : OwS (isaD sub [.dct m, .ty "int"]) (.bl false) := ⟨isa_ty rfl rfl kb_dict_int⟩
instance {m : List (D × D)} : OwS (isaD sub [.dct m, .ty "bool"]) (.bl false) := ⟨isa_ty rfl rfl kb_dict_bool⟩
instance {m : List (D × D)} : OwS (isaD sub [.dct m, .ty "str"]) (.bl false) := ⟨isa_ty rfl rfl kb_dict_str⟩
instance {m : List (D × D)} : OwS (isaD sub [.dct m, .ty "list"]) (.bl false) := ⟨isa_ty rfl rfl kb_dict_list⟩
instance {m : List (D × D)} : OwS (isaD sub [.dct m, .ty "tuple"]) (.bl false) := ⟨isa_ty rfl rfl kb_dict_tuple⟩
instance {m : List (D × D)} : OwS (isaD sub [.dct m, .ty "dict"]) (.bl true) := ⟨isa_ty rfl rfl kb_dict_dict⟩
instance {m : List (D × D)} : OwS (isaD sub [.dct m, .tup [.ty "list", .ty "tuple"]]) (.bl false) := ⟨isa_tup rfl rfl kb_dict_list kb_dict_tuple⟩
end
/-- the laws' _law_heard -/
noncomputable def heardB (lm : D) (act : Store → Res Val) : Sx := (sSeq (sAsg (gSeq 2 (gsCons (gNm 3) (gsCons (gNm 4) gsNil))) (eTup (aCons (eC .non) (aCons (eC .non) aNil)))) (sSeq (sTry subX "PerError" 1 (sSet 3 (eAct 0 lm act)) (sSet 4 (eVar 1))) (sSeq (sIf (tst (eOp isNonD (eVar 4) (eC .non))) (sRet (eLst (aCons (eVar 3) aNil))) sPass) (sSeq (sIf (truth (callB (isaD subX) (aCons (eVar 4) (aCons (eC (.glo "TooMany")) aNil)))) (sRet (eTup (aCons (eC (.str "many")) (aCons (eXf fldX "what" (eVar 4)) (aCons (eXf fldX "most" (eVar 4)) aNil))))) sPass) (sSeq (sIf (truth (callB (isaD subX) (aCons (eVar 4) (aCons (eC (.glo "BadRow")) aNil)))) (sRet (eTup (aCons (eC (.str "row")) (aCons (eXf fldX "function" (eVar 4)) (aCons (eXf fldX "block" (eVar 4)) (aCons (eXf fldX "row" (eVar 4)) aNil)))))) sPass) (sSeq (sIf (truth (callB (isaD subX) (aCons (eVar 4) (aCons (eC (.glo "BadFunction")) aNil)))) (sRet (eTup (aCons (eC (.str "function")) (aCons (eXf fldX "index" (eVar 4)) aNil)))) sPass) (sSeq (sIf (truth (callB (isaD subX) (aCons (eVar 4) (aCons (eC (.glo "NoName")) aNil)))) (sRet (eTup (aCons (eC (.str "noname")) (aCons (callB reprD (aCons (eXf fldX "name" (eVar 4)) aNil)) aNil)))) sPass) (sSeq (sIf (truth (callB (isaD subX) (aCons (eVar 4) (aCons (eC (.glo "BadText")) aNil)))) (sRet (eTup (aCons (eC (.str "text")) (aCons (eXf fldX "line" (eVar 4)) (aCons (eXf fldX "word" (eVar 4)) aNil))))) sPass) (sSeq (sIf (truth (callB (isaD subX) (aCons (eVar 4) (aCons (eTup (aCons (eC (.glo "BadWord")) (aCons (eC (.glo "Nothing")) aNil))) aNil)))) (sRet (eTup (aCons (eIf (truth (callB (isaD subX) (aCons (eVar 4) (aCons (eC (.glo "BadWord")) aNil)))) (eC (.str "word")) (eC (.str "nothing"))) (aCons (eXf fldX "word" (eVar 4)) aNil)))) sPass) (sSeq (sSet 2 (eLst (aCons (callB (isaD subX) (aCons (eVar 4) (aCons (eC (.glo "BadValue")) aNil))) (aCons (callB (isaD subX) (aCons (eVar 4) (aCons (eC (.glo "BadNumber")) aNil))) (aCons (callB (isaD subX) (aCons (eVar 4) (aCons (eC (.glo "Misfit")) aNil))) aNil))))) (sRet (eIf (tst (eOp eqD (callM "list" cntD (eVar 2) (aCons (eC (.bl true)) aNil)) (eC (.int 1)))) (eTup (aCons (eOp ixD (eLst (aCons (eC (.str "value")) (aCons (eC (.str "number")) (aCons (eC (.str "misfit")) aNil)))) (callM "list" idxD (eVar 2) (aCons (eC (.bl true)) aNil))) (aCons (eXf fldX "part" (eVar 4)) aNil))) (eTup (aCons (eC (.str "other")) aNil))))))))))))))
section
variable {lm p q r : D} {act : Store → Res Val} {ω : Store}
theorem heard_value (h : act ω = .exc (.exc "BadValue" [("part", p)]) ω) : fnL 5 heardB lm act ω = .ok (.d (.tup [.str "value", p])) ω := by
  refine RW.ok_of (Eq.mpr w_fnL ?_)
  unfold heardB
  walk_at "dw"
  rw [h, RW_exc]
  walk_at "dw"
  try exact List.take_length
theorem heard_number (h : act ω = .exc (.exc "BadNumber" [("part", p)]) ω) : fnL 5 heardB lm act ω = .ok (.d (.tup [.str "number", p])) ω := by
  refine RW.ok_of (Eq.mpr w_fnL ?_)
  unfold heardB
  walk_at "dw"
  rw [h, RW_exc]
  walk_at "dw"
  try exact List.take_length
theorem heard_misfit (h : act ω = .exc (.exc "Misfit" [("part", p)]) ω) : fnL 5 heardB lm act ω = .ok (.d (.tup [.str "misfit", p])) ω := by
  refine RW.ok_of (Eq.mpr w_fnL ?_)
  unfold heardB
  walk_at "dw"
  rw [h, RW_exc]
  walk_at "dw"
  try exact List.take_length
theorem heard_many (h : act ω = .exc (.exc "TooMany" [("most", q), ("what", p)]) ω) : fnL 5 heardB lm act ω = .ok (.d (.tup [.str "many", p, q])) ω := by
  refine RW.ok_of (Eq.mpr w_fnL ?_)
  unfold heardB
  walk_at "dw"
  rw [h, RW_exc]
  walk_at "dw"
  try exact List.take_length
theorem heard_row (h : act ω = .exc (.exc "BadRow" [("row", r), ("block", q), ("function", p)]) ω) : fnL 5 heardB lm act ω = .ok (.d (.tup [.str "row", p, q, r])) ω := by
  refine RW.ok_of (Eq.mpr w_fnL ?_)
  unfold heardB
  walk_at "dw"
  rw [h, RW_exc]
  walk_at "dw"
  try exact List.take_length
theorem heard_function (h : act ω = .exc (.exc "BadFunction" [("index", p)]) ω) : fnL 5 heardB lm act ω = .ok (.d (.tup [.str "function", p])) ω := by
  refine RW.ok_of (Eq.mpr w_fnL ?_)
  unfold heardB
  walk_at "dw"
  rw [h, RW_exc]
  walk_at "dw"
  try exact List.take_length
theorem heard_text (h : act ω = .exc (.exc "BadText" [("word", q), ("line", p)]) ω) : fnL 5 heardB lm act ω = .ok (.d (.tup [.str "text", p, q])) ω := by
  refine RW.ok_of (Eq.mpr w_fnL ?_)
  unfold heardB
  walk_at "dw"
  rw [h, RW_exc]
  walk_at "dw"
  try exact List.take_length
theorem heard_word (h : act ω = .exc (.exc "BadWord" [("word", p)]) ω) : fnL 5 heardB lm act ω = .ok (.d (.tup [.str "word", p])) ω := by
  refine RW.ok_of (Eq.mpr w_fnL ?_)
  unfold heardB
  walk_at "dw"
  rw [h, RW_exc]
  walk_at "dw"
  try exact List.take_length
theorem heard_nothing (h : act ω = .exc (.exc "Nothing" [("word", p)]) ω) : fnL 5 heardB lm act ω = .ok (.d (.tup [.str "nothing", p])) ω := by
  refine RW.ok_of (Eq.mpr w_fnL ?_)
  unfold heardB
  walk_at "dw"
  rw [h, RW_exc]
  walk_at "dw"
  try exact List.take_length
theorem heard_ok (h : act ω = .ok (.d p) ω) : fnL 5 heardB lm act ω = .ok (.d (.lst [p])) ω := by
  refine RW.ok_of (Eq.mpr w_fnL ?_)
  unfold heardB
  walk_at "dw"
  rw [h, RW_ok]
  walk_at "dw"
  try exact List.take_length
end
end DL

namespace G
open PySem PySem.Spec PyProof.Rows L2 DL
def top (i : Nat) : Stmt := PySem.Challenge.pw_peranswer_k20_what_views_weigh.main.body.getD i (.Pass ⟨0, 0, 0, 0⟩)
def errs : List Str := ["PerError", "BadValue", "BadNumber", "BadFunction", "BadRow", "BadWord", "BadText", "NoName", "Misfit", "Nothing", "TooMany"]
def errsI : List Str := ["BadValue", "BadNumber", "BadFunction", "BadRow", "BadWord", "BadText", "NoName", "Misfit", "Nothing", "TooMany"]
def subX (c y : Str) : Option Bool := if c ∈ errsI ∧ y ∈ errs then some (decide (c = y) || decide (y = "PerError")) else none
def fldL : List (Str × List Str) := [("BadValue", ["part"]), ("BadNumber", ["part"]), ("BadFunction", ["index"]), ("BadRow", ["function", "block", "row"]), ("BadWord", ["word"]), ("BadText", ["line", "word"]), ("NoName", ["name"]), ("Misfit", ["part"]), ("Nothing", ["word"]), ("TooMany", ["what", "most"])]
def fldX (c f : Str) : Bool := match fldL.lookup c with
  | some l => decide (f ∈ l)
  | none => false
def eBad : Fx Val := fun _ _ => .bad
def tBad : Fx Bool := fun _ _ => .bad
def sBad : Sx := fun _ _ => .bad
theorem ex_bad {T : List (Addr × Str)} {X : Cx} {W : WX} {e : Expr} : EX T X W e eBad := ⟨fun pins s σ H Q I ⟨ρ, ω, α, sr, rs, p⟩ => p.elim⟩
theorem tx_bad {T : List (Addr × Str)} {X : Cx} {W : WX} {e : Expr} : TX T X W e tBad := ⟨fun pins s σ H Q I ⟨ρ, ω, α, sr, rs, p⟩ => p.elim⟩
theorem sx_bad {T : List (Addr × Str)} {X : Cx} {W : WX} {e : Stmt} : SX T X W e sBad := ⟨fun pins s σ H D I ⟨ρ, ω, α, sr, rs, p⟩ => p.elim⟩
/-- what the head tells -/
structure Fa (P : Program) (w : World) (K : PySem.W.Frag) (mg : Str → Option Value) (bs : Heap) where
  tab : ∀ {T : List (Addr × Str)}, XTab ⟨K, mg, T⟩ subX fldX
  s_ABOVE : ∃ t, mg "ABOVE" = some (.str "above" t)
  s_AT : ∃ t, mg "AT" = some (.str "at" t)
  s_BELOW : ∃ t, mg "BELOW" = some (.str "below" t)
  c_BadFunction : Addr
  ci_BadFunction : Addr
  cd_BadFunction : FuncData
  g_BadFunction : mg "BadFunction" = some (.ref c_BadFunction)
  o_BadFunction : OexC K c_BadFunction
  i_BadFunction : PySem.W.findIn K (.ref c_BadFunction) "__init__" = some (some (.ref ci_BadFunction))
  t_BadFunction : PySem.W.typeIn K (.ref ci_BadFunction) = some (.type "function")
  x_BadFunction : FnOk P w K mg bs (L2.CX P w) 1 ci_BadFunction cd_BadFunction ["self", "index"] (spI c_BadFunction ["index"])
  b_BadFunction : Binds K cd_BadFunction ["self", "index"] []
  c_BadNumber : Addr
  ci_BadNumber : Addr
  cd_BadNumber : FuncData
  g_BadNumber : mg "BadNumber" = some (.ref c_BadNumber)
  o_BadNumber : OexC K c_BadNumber
  i_BadNumber : PySem.W.findIn K (.ref c_BadNumber) "__init__" = some (some (.ref ci_BadNumber))
  t_BadNumber : PySem.W.typeIn K (.ref ci_BadNumber) = some (.type "function")
  x_BadNumber : FnOk P w K mg bs (L2.CX P w) 1 ci_BadNumber cd_BadNumber ["self", "part"] (spI c_BadNumber ["part"])
  b_BadNumber : Binds K cd_BadNumber ["self", "part"] []
  c_BadRow : Addr
  ci_BadRow : Addr
  cd_BadRow : FuncData
  g_BadRow : mg "BadRow" = some (.ref c_BadRow)
  o_BadRow : OexC K c_BadRow
  i_BadRow : PySem.W.findIn K (.ref c_BadRow) "__init__" = some (some (.ref ci_BadRow))
  t_BadRow : PySem.W.typeIn K (.ref ci_BadRow) = some (.type "function")
  x_BadRow : FnOk P w K mg bs (L2.CX P w) 1 ci_BadRow cd_BadRow ["self", "function", "block", "row"] (spI c_BadRow ["function", "block", "row"])
  b_BadRow : Binds K cd_BadRow ["self", "function", "block", "row"] []
  c_BadText : Addr
  ci_BadText : Addr
  cd_BadText : FuncData
  g_BadText : mg "BadText" = some (.ref c_BadText)
  o_BadText : OexC K c_BadText
  i_BadText : PySem.W.findIn K (.ref c_BadText) "__init__" = some (some (.ref ci_BadText))
  t_BadText : PySem.W.typeIn K (.ref ci_BadText) = some (.type "function")
  x_BadText : FnOk P w K mg bs (L2.CX P w) 1 ci_BadText cd_BadText ["self", "line", "word"] (spI c_BadText ["line", "word"])
  b_BadText : Binds K cd_BadText ["self", "line", "word"] []
  c_BadValue : Addr
  ci_BadValue : Addr
  cd_BadValue : FuncData
  g_BadValue : mg "BadValue" = some (.ref c_BadValue)
  o_BadValue : OexC K c_BadValue
  i_BadValue : PySem.W.findIn K (.ref c_BadValue) "__init__" = some (some (.ref ci_BadValue))
  t_BadValue : PySem.W.typeIn K (.ref ci_BadValue) = some (.type "function")
  x_BadValue : FnOk P w K mg bs (L2.CX P w) 1 ci_BadValue cd_BadValue ["self", "part"] (spI c_BadValue ["part"])
  b_BadValue : Binds K cd_BadValue ["self", "part"] []
  c_BadWord : Addr
  ci_BadWord : Addr
  cd_BadWord : FuncData
  g_BadWord : mg "BadWord" = some (.ref c_BadWord)
  o_BadWord : OexC K c_BadWord
  i_BadWord : PySem.W.findIn K (.ref c_BadWord) "__init__" = some (some (.ref ci_BadWord))
  t_BadWord : PySem.W.typeIn K (.ref ci_BadWord) = some (.type "function")
  x_BadWord : FnOk P w K mg bs (L2.CX P w) 1 ci_BadWord cd_BadWord ["self", "word"] (spI c_BadWord ["word"])
  b_BadWord : Binds K cd_BadWord ["self", "word"] []
  s_FLAT : ∃ t, mg "FLAT" = some (.str "flat" t)
  c_Misfit : Addr
  ci_Misfit : Addr
  cd_Misfit : FuncData
  g_Misfit : mg "Misfit" = some (.ref c_Misfit)
  o_Misfit : OexC K c_Misfit
  i_Misfit : PySem.W.findIn K (.ref c_Misfit) "__init__" = some (some (.ref ci_Misfit))
  t_Misfit : PySem.W.typeIn K (.ref ci_Misfit) = some (.type "function")
  x_Misfit : FnOk P w K mg bs (L2.CX P w) 1 ci_Misfit cd_Misfit ["self", "part"] (spI c_Misfit ["part"])
  b_Misfit : Binds K cd_Misfit ["self", "part"] []
  c_NoName : Addr
  ci_NoName : Addr
  cd_NoName : FuncData
  g_NoName : mg "NoName" = some (.ref c_NoName)
  o_NoName : OexC K c_NoName
  i_NoName : PySem.W.findIn K (.ref c_NoName) "__init__" = some (some (.ref ci_NoName))
  t_NoName : PySem.W.typeIn K (.ref ci_NoName) = some (.type "function")
  x_NoName : FnOk P w K mg bs (L2.CX P w) 1 ci_NoName cd_NoName ["self", "name"] (spI c_NoName ["name"])
  b_NoName : Binds K cd_NoName ["self", "name"] []
  c_Nothing : Addr
  ci_Nothing : Addr
  cd_Nothing : FuncData
  g_Nothing : mg "Nothing" = some (.ref c_Nothing)
  o_Nothing : OexC K c_Nothing
  i_Nothing : PySem.W.findIn K (.ref c_Nothing) "__init__" = some (some (.ref ci_Nothing))
  t_Nothing : PySem.W.typeIn K (.ref ci_Nothing) = some (.type "function")
  x_Nothing : FnOk P w K mg bs (L2.CX P w) 1 ci_Nothing cd_Nothing ["self", "word"] (spI c_Nothing ["word"])
  b_Nothing : Binds K cd_Nothing ["self", "word"] []
  c_PerError : Addr
  g_PerError : mg "PerError" = some (.ref c_PerError)
  s_STEEP : ∃ t, mg "STEEP" = some (.str "steep" t)
  c_TooMany : Addr
  ci_TooMany : Addr
  cd_TooMany : FuncData
  g_TooMany : mg "TooMany" = some (.ref c_TooMany)
  o_TooMany : OexC K c_TooMany
  i_TooMany : PySem.W.findIn K (.ref c_TooMany) "__init__" = some (some (.ref ci_TooMany))
  t_TooMany : PySem.W.typeIn K (.ref ci_TooMany) = some (.type "function")
  x_TooMany : FnOk P w K mg bs (L2.CX P w) 1 ci_TooMany cd_TooMany ["self", "what", "most"] (spI c_TooMany ["what", "most"])
  b_TooMany : Binds K cd_TooMany ["self", "what", "most"] []
  a__law_draw : Addr
  d__law_draw : FuncData
  g__law_draw : mg "_law_draw" = some (.ref a__law_draw)
  F__law_draw : FunD K "_law_draw" "_law_draw" (defArgs (top 28)) (defBody (top 28)) (defScope (top 28)) [] [] a__law_draw d__law_draw
  a__law_heard : Addr
  d__law_heard : FuncData
  g__law_heard : mg "_law_heard" = some (.ref a__law_heard)
  F__law_heard : FunD K "_law_heard" "_law_heard" (defArgs (top 30)) (defBody (top 30)) (defScope (top 30)) [] [] a__law_heard d__law_heard
  a__law_pen : Addr
  d__law_pen : FuncData
  g__law_pen : mg "_law_pen" = some (.ref a__law_pen)
  F__law_pen : FunD K "_law_pen" "_law_pen" (defArgs (top 27)) (defBody (top 27)) (defScope (top 27)) [] [] a__law_pen d__law_pen
  a__law_pick : Addr
  d__law_pick : FuncData
  g__law_pick : mg "_law_pick" = some (.ref a__law_pick)
  F__law_pick : FunD K "_law_pick" "_law_pick" (defArgs (top 29)) (defBody (top 29)) (defScope (top 29)) [] [] a__law_pick d__law_pick
  a__law_sum : Addr
  d__law_sum : FuncData
  g__law_sum : mg "_law_sum" = some (.ref a__law_sum)
  F__law_sum : FunD K "_law_sum" "_law_sum" (defArgs (top 32)) (defBody (top 32)) (defScope (top 32)) [] [] a__law_sum d__law_sum
  a__law_view : Addr
  d__law_view : FuncData
  g__law_view : mg "_law_view" = some (.ref a__law_view)
  F__law_view : FunD K "_law_view" "_law_view" (defArgs (top 33)) (defBody (top 33)) (defScope (top 33)) [] [] a__law_view d__law_view
  a__law_worth : Addr
  d__law_worth : FuncData
  g__law_worth : mg "_law_worth" = some (.ref a__law_worth)
  F__law_worth : FunD K "_law_worth" "_law_worth" (defArgs (top 31)) (defBody (top 31)) (defScope (top 31)) [] [] a__law_worth d__law_worth
  n_abs : mg "abs" = none
  n_bool : mg "bool" = none
  n_int : mg "int" = none
  a_is_integer : Addr
  d_is_integer : FuncData
  g_is_integer : mg "is_integer" = some (.ref a_is_integer)
  F_is_integer : FunD K "is_integer" "is_integer" (defArgs (top 1)) (defBody (top 1)) (defScope (top 1)) [] [] a_is_integer d_is_integer
  a_is_listed : Addr
  d_is_listed : FuncData
  g_is_listed : mg "is_listed" = some (.ref a_is_listed)
  F_is_listed : FunD K "is_listed" "is_listed" (defArgs (top 2)) (defBody (top 2)) (defScope (top 2)) [] [] a_is_listed d_is_listed
  a_is_row : Addr
  d_is_row : FuncData
  g_is_row : mg "is_row" = some (.ref a_is_row)
  F_is_row : FunD K "is_row" "is_row" (defArgs (top 3)) (defBody (top 3)) (defScope (top 3)) [] [] a_is_row d_is_row
  a_is_view : Addr
  d_is_view : FuncData
  g_is_view : mg "is_view" = some (.ref a_is_view)
  F_is_view : FunD K "is_view" "is_view" (defArgs (top 22)) (defBody (top 22)) (defScope (top 22)) [] [] a_is_view d_is_view
  n_isinstance : mg "isinstance" = none
  a_law : Addr
  d_law : FuncData
  g_law : mg "law" = some (.ref a_law)
  F_law : FunD K "law" "law" (defArgs (top 34)) (defBody (top 34)) (defScope (top 34)) [] [] a_law d_law
  ca_law : Addr
  ct_law : Addr
  cc_law : d_law.code = .ref ca_law
  tb_law : LamX.TabB bs mg ca_law ct_law
  n_len : mg "len" = none
  n_list : mg "list" = none
  a_need_view : Addr
  d_need_view : FuncData
  g_need_view : mg "need_view" = some (.ref a_need_view)
  F_need_view : FunD K "need_view" "need_view" (defArgs (top 23)) (defBody (top 23)) (defScope (top 23)) [] [] a_need_view d_need_view
  n_range : mg "range" = none
  n_repr : mg "repr" = none
  n_str : mg "str" = none
  n_sum : mg "sum" = none
  n_tuple : mg "tuple" = none
  a_worth : Addr
  d_worth : FuncData
  g_worth : mg "worth" = some (.ref a_worth)
  F_worth : FunD K "worth" "worth" (defArgs (top 25)) (defBody (top 25)) (defScope (top 25)) [] [] a_worth d_worth
  a_worth_of : Addr
  d_worth_of : FuncData
  g_worth_of : mg "worth_of" = some (.ref a_worth_of)
  F_worth_of : FunD K "worth_of" "worth_of" (defArgs (top 24)) (defBody (top 24)) (defScope (top 24)) [] [] a_worth_of d_worth_of
noncomputable section
variable {P : Program} {w : World} {K : PySem.W.Frag} {mg : Str → Option Value} {bs : Heap} {T : List (Addr × Str)}
theorem sc__law_sum : FnScope ["pairs", "one", "other"] ["pairs"] (defScope (top 32)) := ⟨rfl, rfl, rfl, by decide +kernel, rfl, by decide +kernel, by decide +kernel⟩
def b__law_sum : Sx := (sRet (eTup (aCons (callB sumD (aCons (eLc [1, 2] (eVar 0) (gSeq 2 (gsCons (gNm 1) (gsCons (gNm 2) gsNil))) tYesD (eVar 1)) aNil)) (aCons (callB sumD (aCons (eLc [1, 2] (eVar 0) (gSeq 2 (gsCons (gNm 1) (gsCons (gNm 2) gsNil))) tYesD (eVar 2)) aNil)) aNil))))
abbrev f__law_sum : Fn := fnD 3 b__law_sum
theorem ok__law_sum (Z : Fa P w K mg bs) : DOk P w ⟨K, mg, T⟩ bs 1 Z.a__law_sum Z.d__law_sum ["pairs"] f__law_sum := dok_of Z.F__law_sum sc__law_sum fun cdv A outer s H E hr =>
  (bx_one (sx_ret (ex_tup (ax_cons (ex_callB (cr_sum rfl) c_sum (by rfl) Z.n_sum (by rfl) (ax_cons (ex_lc (own := [("one", 1), ("other", 2)]) rfl sc__law_sum.nd (ex_var (i := 0) (by rfl) (by first | exact .inl rfl | exact .inr (.inl rfl) | exact .inr (.inr rfl))) (blkOk_by (N := ["pairs", "one", "other"]) (sc := defScope (top 32)) (by decide +kernel)) (fun s H C cl fp => (gw_seq rfl (gws_cons (gw_name (i := 1) sc__law_sum.nd rfl (by first | exact .inl rfl | exact .inr rfl)) (gws_cons (gw_name (i := 2) sc__law_sum.nd rfl (by first | exact .inl rfl | exact .inr rfl)) gws_nil)))) bt_nil (fun s H C cl fp => (ex_var (i := 1) (by rfl) (by first | exact .inl rfl | exact .inr (.inl rfl) | exact .inr (.inr rfl))))) ax_nil)) (ax_cons (ex_callB (cr_sum rfl) c_sum (by rfl) Z.n_sum (by rfl) (ax_cons (ex_lc (own := [("one", 1), ("other", 2)]) rfl sc__law_sum.nd (ex_var (i := 0) (by rfl) (by first | exact .inl rfl | exact .inr (.inl rfl) | exact .inr (.inr rfl))) (blkOk_by (N := ["pairs", "one", "other"]) (sc := defScope (top 32)) (by decide +kernel)) (fun s H C cl fp => (gw_seq rfl (gws_cons (gw_name (i := 1) sc__law_sum.nd rfl (by first | exact .inl rfl | exact .inr rfl)) (gws_cons (gw_name (i := 2) sc__law_sum.nd rfl (by first | exact .inl rfl | exact .inr rfl)) gws_nil)))) bt_nil (fun s H C cl fp => (ex_var (i := 2) (by rfl) (by first | exact .inl rfl | exact .inr (.inl rfl) | exact .inr (.inr rfl))))) ax_nil)) ax_nil)))))

theorem sc__law_pen : FnScope ["script"] ["script"] (defScope (top 27)) := ⟨rfl, rfl, rfl, by decide +kernel, rfl, by decide +kernel, by decide +kernel⟩
def b__law_pen : Sx := (sRet (eNewL (aCons (callB listD (aCons (eSl (eVar 0) oNo (oSome (eC (.int 63)))) aNil)) (aCons (eC (.int 0)) (aCons (eC (.int 0)) aNil)))))
abbrev f__law_pen : Fn := fnD 1 b__law_pen
theorem ok__law_pen (Z : Fa P w K mg bs) : DOk P w ⟨K, mg, T⟩ bs 1 Z.a__law_pen Z.d__law_pen ["script"] f__law_pen := dok_of Z.F__law_pen sc__law_pen fun cdv A outer s H E hr =>
  (bx_one (sx_ret (ex_newL (ax_cons (ex_callTy call_list_of c_list (by rfl) Z.n_list (by rfl) (ax_cons (ex_sl (ex_var (i := 0) (by rfl) (by first | exact .inl rfl | exact .inr (.inl rfl) | exact .inr (.inr rfl))) ox_none (ox_some ex_int)) ax_nil)) (ax_cons ex_int (ax_cons ex_int ax_nil))))))

theorem sc__law_draw : FnScope ["pen", "many", "at", "cell", "mixed", "digit", "great"] ["pen", "many"] (defScope (top 28)) := ⟨rfl, rfl, rfl, by decide +kernel, rfl, by decide +kernel, by decide +kernel⟩
def b__law_draw : Sx := (sSeq (sIf (tst (eOp ltD (eVar 1) (eC (.int 2)))) (sRet (eC (.int 0))) sPass) (sSeq (sIf (tst (eOp gtD (eOp ixD (eVar 0) (eC (.int 2))) (eC (.int 0)))) (sSeq (sSet 5 (eOp modD (callB intD (aCons (eOp ixD (eVar 0) (eC (.int 2))) aNil)) (eVar 1))) (sSeq (sSetIx (eOp fdivD (callB intD (aCons (eOp ixD (eVar 0) (eC (.int 2))) aNil)) (eVar 1)) (eVar 0) (eC (.int 2))) (sRet (eVar 5)))) sPass) (sSeq (sSet 2 (eOp ixD (eVar 0) (eC (.int 1)))) (sSeq (sSetIx (eOp addD (eVar 2) (eC (.int 1))) (eVar 0) (eC (.int 1))) (sSeq (sSet 3 (eOp addD (eOp mulA (eC (.int 61887)) (eVar 2)) (eC (.int 8537)))) (sSeq (sIf (tst (eOp neD (eOp ixD (eVar 0) (eC (.int 0))) (eLst aNil))) (sSet 3 (eOp ixD (eOp ixD (eVar 0) (eC (.int 0))) (eOp modD (callB intD (aCons (eVar 2) aNil)) (callB lenD (aCons (eOp ixD (eVar 0) (eC (.int 0))) aNil))))) sPass) (sSeq (sIf (tAndD (tst (eOp ltD (eVar 2) (callB lenD (aCons (eOp ixD (eVar 0) (eC (.int 0))) aNil)))) (tst (eOp geD (callB absD (aCons (eVar 3) aNil)) (eOp powD (eC (.int 10)) (eC (.int 18)))))) (sSeq (sSet 6 (eOp addD (eOp mulA (eC (.int 2)) (eOp subD (callB absD (aCons (eVar 3) aNil)) (eOp powD (eC (.int 10)) (eC (.int 18))))) (callB intD (aCons (eOp ltD (eVar 3) (eC (.int 0))) aNil)))) (sSeq (sSetIx (eOp fdivD (callB intD (aCons (eVar 6) aNil)) (eVar 1)) (eVar 0) (eC (.int 2))) (sRet (eOp modD (callB intD (aCons (eVar 6) aNil)) (eVar 1))))) sPass) (sSeq (sSet 4 (eOp modD (callB intD (aCons (eOp powD (eOp addD (eOp addD (eOp modD (callB intD (aCons (eVar 3) aNil)) (eC (.int 2147483549))) (eOp mulA (eC (.int 35783)) (eVar 2))) (eC (.int 8537))) (eC (.int 3))) aNil)) (eC (.int 2147483629)))) (sSeq (sSet 4 (eOp modD (callB intD (aCons (eOp powD (eOp addD (eOp addD (eOp mulA (eVar 4) (eOp addD (eOp mulA (eC (.int 2)) (eVar 2)) (eC (.int 7269)))) (eOp mulA (eOp mulA (eC (.int 61887)) (eVar 2)) (eVar 2))) (eC (.int 35783))) (eC (.int 5))) aNil)) (eC (.int 2147483563)))) (sRet (eOp modD (callB intD (aCons (eOp fdivD (eVar 4) (eC (.int 16))) aNil)) (eVar 1))))))))))))
abbrev f__law_draw : Fn := fnD 7 b__law_draw
theorem ok__law_draw (Z : Fa P w K mg bs) : DOk P w ⟨K, mg, T⟩ bs 1 Z.a__law_draw Z.d__law_draw ["pen", "many"] f__law_draw := dok_of Z.F__law_draw sc__law_draw fun cdv A outer s H E hr =>
  (bx_cons (sx_if (tx_cmp op_lt o_lt (ex_var (i := 1) (by rfl) (by first | exact .inl rfl | exact .inr (.inl rfl) | exact .inr (.inr rfl))) ex_int (nomark _)) (bx_one (sx_ret ex_int)) bx_nil) (bx_cons (sx_if (tx_cmp op_gt o_gt (ex_ix hr.u1 (ex_var (i := 0) (by rfl) (by first | exact .inl rfl | exact .inr (.inl rfl) | exact .inr (.inr rfl))) ex_int) ex_int (nomark _)) (bx_cons (sx_set (i := 5) sc__law_draw.nd rfl (by first | exact .inl rfl | exact .inr rfl) (ex_op op_mod o_mod (ex_callTy call_int1 c_int (by rfl) Z.n_int (by rfl) (ax_cons (ex_ix hr.u1 (ex_var (i := 0) (by rfl) (by first | exact .inl rfl | exact .inr (.inl rfl) | exact .inr (.inr rfl))) ex_int) ax_nil)) (ex_var (i := 1) (by rfl) (by first | exact .inl rfl | exact .inr (.inl rfl) | exact .inr (.inr rfl))))) (bx_cons (sx_setIx (ex_op op_fdivW o_fdiv (ex_callTy call_int1 c_int (by rfl) Z.n_int (by rfl) (ax_cons (ex_ix hr.u1 (ex_var (i := 0) (by rfl) (by first | exact .inl rfl | exact .inr (.inl rfl) | exact .inr (.inr rfl))) ex_int) ax_nil)) (ex_var (i := 1) (by rfl) (by first | exact .inl rfl | exact .inr (.inl rfl) | exact .inr (.inr rfl)))) (ex_var (i := 0) (by rfl) (by first | exact .inl rfl | exact .inr (.inl rfl) | exact .inr (.inr rfl))) ex_int (fun _ => rfl)) (bx_one (sx_ret (ex_var (i := 5) (by rfl) (by first | exact .inl rfl | exact .inr (.inl rfl) | exact .inr (.inr rfl))))))) bx_nil) (bx_cons (sx_set (i := 2) sc__law_draw.nd rfl (by first | exact .inl rfl | exact .inr rfl) (ex_ix hr.u1 (ex_var (i := 0) (by rfl) (by first | exact .inl rfl | exact .inr (.inl rfl) | exact .inr (.inr rfl))) ex_int)) (bx_cons (sx_setIx (ex_op h_add o_add (ex_var (i := 2) (by rfl) (by first | exact .inl rfl | exact .inr (.inl rfl) | exact .inr (.inr rfl))) ex_int) (ex_var (i := 0) (by rfl) (by first | exact .inl rfl | exact .inr (.inl rfl) | exact .inr (.inr rfl))) ex_int (fun _ => rfl)) (bx_cons (sx_set (i := 3) sc__law_draw.nd rfl (by first | exact .inl rfl | exact .inr rfl) (ex_op h_add o_add (ex_op h_mulA o_mulA ex_int (ex_var (i := 2) (by rfl) (by first | exact .inl rfl | exact .inr (.inl rfl) | exact .inr (.inr rfl)))) ex_int)) (bx_cons (sx_if (tx_cmp (op_neA hr.u64) o_ne (ex_ix hr.u1 (ex_var (i := 0) (by rfl) (by first | exact .inl rfl | exact .inr (.inl rfl) | exact .inr (.inr rfl))) ex_int) (ex_lst ax_nil) (nomark _)) (bx_one (sx_set (i := 3) sc__law_draw.nd rfl (by first | exact .inl rfl | exact .inr rfl) (ex_ix hr.u1 (ex_ix hr.u1 (ex_var (i := 0) (by rfl) (by first | exact .inl rfl | exact .inr (.inl rfl) | exact .inr (.inr rfl))) ex_int) (ex_op op_mod o_mod (ex_callTy call_int1 c_int (by rfl) Z.n_int (by rfl) (ax_cons (ex_var (i := 2) (by rfl) (by first | exact .inl rfl | exact .inr (.inl rfl) | exact .inr (.inr rfl))) ax_nil)) (ex_callB call_len c_len (by rfl) Z.n_len (by rfl) (ax_cons (ex_ix hr.u1 (ex_var (i := 0) (by rfl) (by first | exact .inl rfl | exact .inr (.inl rfl) | exact .inr (.inr rfl))) ex_int) ax_nil)))))) bx_nil) (bx_cons (sx_if (tx_bool (wx_and (tx_cmp op_lt o_lt (ex_var (i := 2) (by rfl) (by first | exact .inl rfl | exact .inr (.inl rfl) | exact .inr (.inr rfl))) (ex_callB call_len c_len (by rfl) Z.n_len (by rfl) (ax_cons (ex_ix hr.u1 (ex_var (i := 0) (by rfl) (by first | exact .inl rfl | exact .inr (.inl rfl) | exact .inr (.inr rfl))) ex_int) ax_nil)) (nomark _)) (wx_and1 (tx_cmp op_ge o_ge (ex_callB call_abs c_abs (by rfl) Z.n_abs (by rfl) (ax_cons (ex_var (i := 3) (by rfl) (by first | exact .inl rfl | exact .inr (.inl rfl) | exact .inr (.inr rfl))) ax_nil)) (ex_op op_pow o_pow ex_int ex_int) (nomark _))))) (bx_cons (sx_set (i := 6) sc__law_draw.nd rfl (by first | exact .inl rfl | exact .inr rfl) (ex_op h_add o_add (ex_op h_mulA o_mulA ex_int (ex_op op_sub o_sub (ex_callB call_abs c_abs (by rfl) Z.n_abs (by rfl) (ax_cons (ex_var (i := 3) (by rfl) (by first | exact .inl rfl | exact .inr (.inl rfl) | exact .inr (.inr rfl))) ax_nil)) (ex_op op_pow o_pow ex_int ex_int))) (ex_callTy call_int1 c_int (by rfl) Z.n_int (by rfl) (ax_cons (ex_cmp op_lt o_lt (ex_var (i := 3) (by rfl) (by first | exact .inl rfl | exact .inr (.inl rfl) | exact .inr (.inr rfl))) ex_int (nomark _)) ax_nil)))) (bx_cons (sx_setIx (ex_op op_fdivW o_fdiv (ex_callTy call_int1 c_int (by rfl) Z.n_int (by rfl) (ax_cons (ex_var (i := 6) (by rfl) (by first | exact .inl rfl | exact .inr (.inl rfl) | exact .inr (.inr rfl))) ax_nil)) (ex_var (i := 1) (by rfl) (by first | exact .inl rfl | exact .inr (.inl rfl) | exact .inr (.inr rfl)))) (ex_var (i := 0) (by rfl) (by first | exact .inl rfl | exact .inr (.inl rfl) | exact .inr (.inr rfl))) ex_int (fun _ => rfl)) (bx_one (sx_ret (ex_op op_mod o_mod (ex_callTy call_int1 c_int (by rfl) Z.n_int (by rfl) (ax_cons (ex_var (i := 6) (by rfl) (by first | exact .inl rfl | exact .inr (.inl rfl) | exact .inr (.inr rfl))) ax_nil)) (ex_var (i := 1) (by rfl) (by first | exact .inl rfl | exact .inr (.inl rfl) | exact .inr (.inr rfl)))))))) bx_nil) (bx_cons (sx_set (i := 4) sc__law_draw.nd rfl (by first | exact .inl rfl | exact .inr rfl) (ex_op op_mod o_mod (ex_callTy call_int1 c_int (by rfl) Z.n_int (by rfl) (ax_cons (ex_op op_pow o_pow (ex_op h_add o_add (ex_op h_add o_add (ex_op op_mod o_mod (ex_callTy call_int1 c_int (by rfl) Z.n_int (by rfl) (ax_cons (ex_var (i := 3) (by rfl) (by first | exact .inl rfl | exact .inr (.inl rfl) | exact .inr (.inr rfl))) ax_nil)) ex_int) (ex_op h_mulA o_mulA ex_int (ex_var (i := 2) (by rfl) (by first | exact .inl rfl | exact .inr (.inl rfl) | exact .inr (.inr rfl))))) ex_int) ex_int) ax_nil)) ex_int)) (bx_cons (sx_set (i := 4) sc__law_draw.nd rfl (by first | exact .inl rfl | exact .inr rfl) (ex_op op_mod o_mod (ex_callTy call_int1 c_int (by rfl) Z.n_int (by rfl) (ax_cons (ex_op op_pow o_pow (ex_op h_add o_add (ex_op h_add o_add (ex_op h_mulA o_mulA (ex_var (i := 4) (by rfl) (by first | exact .inl rfl | exact .inr (.inl rfl) | exact .inr (.inr rfl))) (ex_op h_add o_add (ex_op h_mulA o_mulA ex_int (ex_var (i := 2) (by rfl) (by first | exact .inl rfl | exact .inr (.inl rfl) | exact .inr (.inr rfl)))) ex_int)) (ex_op h_mulA o_mulA (ex_op h_mulA o_mulA ex_int (ex_var (i := 2) (by rfl) (by first | exact .inl rfl | exact .inr (.inl rfl) | exact .inr (.inr rfl)))) (ex_var (i := 2) (by rfl) (by first | exact .inl rfl | exact .inr (.inl rfl) | exact .inr (.inr rfl))))) ex_int) ex_int) ax_nil)) ex_int)) (bx_one (sx_ret (ex_op op_mod o_mod (ex_callTy call_int1 c_int (by rfl) Z.n_int (by rfl) (ax_cons (ex_op op_fdivW o_fdiv (ex_var (i := 4) (by rfl) (by first | exact .inl rfl | exact .inr (.inl rfl) | exact .inr (.inr rfl))) ex_int) ax_nil)) (ex_var (i := 1) (by rfl) (by first | exact .inl rfl | exact .inr (.inl rfl) | exact .inr (.inr rfl)))))))))))))))

theorem sc__law_pick : FnScope ["pen", "some"] ["pen", "some"] (defScope (top 29)) := ⟨rfl, rfl, rfl, by decide +kernel, rfl, by decide +kernel, by decide +kernel⟩
def b__law_pick : Sx := (sRet (eOp ixD (eVar 1) (eCall f__law_draw 2 0 [0, 1] [] (aCons (eVar 0) (aCons (callB lenD (aCons (eVar 1) aNil)) aNil)) aNil)))
abbrev f__law_pick : Fn := fnD 2 b__law_pick
theorem ok__law_pick (Z : Fa P w K mg bs) : DOk P w ⟨K, mg, T⟩ bs 2 Z.a__law_pick Z.d__law_pick ["pen", "some"] f__law_pick := dok_of Z.F__law_pick sc__law_pick fun cdv A outer s H E hr =>
  (bx_one (sx_ret (ex_ix hr.u1 (ex_var (i := 1) (by rfl) (by first | exact .inl rfl | exact .inr (.inl rfl) | exact .inr (.inr rfl))) (ex_call (ok__law_draw Z) (hr.mono (by decide)) (by rfl) Z.g__law_draw Z.F__law_draw.kp (bnd_of (ix := [0, 1]) (ks := []) Z.F__law_draw (fun _ _ _ _ _ _ us ws h1 h2 => match us, ws, h1, h2 with | [_, _], [], _, _ => rfl) (fun xs h => match xs, h with | [_, _], _ => rfl)) no_d tkC (ax_cons (ex_var (i := 0) (by rfl) (by first | exact .inl rfl | exact .inr (.inl rfl) | exact .inr (.inr rfl))) (ax_cons (ex_callB call_len c_len (by rfl) Z.n_len (by rfl) (ax_cons (ex_var (i := 1) (by rfl) (by first | exact .inl rfl | exact .inr (.inl rfl) | exact .inr (.inr rfl))) ax_nil)) ax_nil))))))

theorem sc__law_heard : FnScope ["ask", "error", "kinds", "found", "caught"] ["ask"] (defScope (top 30)) := ⟨rfl, rfl, rfl, by decide +kernel, rfl, by decide +kernel, by decide +kernel⟩
def b__law_heard (lm : D) (act : Store → Res Val) : Sx := (sSeq (sAsg (gSeq 2 (gsCons (gNm 3) (gsCons (gNm 4) gsNil))) (eTup (aCons (eC .non) (aCons (eC .non) aNil)))) (sSeq (sTry subX "PerError" 1 (sSet 3 (eAct 0 lm act)) (sSet 4 (eVar 1))) (sSeq (sIf (tst (eOp isNonD (eVar 4) (eC .non))) (sRet (eLst (aCons (eVar 3) aNil))) sPass) (sSeq (sIf (truth (callB (isaD subX) (aCons (eVar 4) (aCons (eC (.glo "TooMany")) aNil)))) (sRet (eTup (aCons (eC (.str "many")) (aCons (eXf fldX "what" (eVar 4)) (aCons (eXf fldX "most" (eVar 4)) aNil))))) sPass) (sSeq (sIf (truth (callB (isaD subX) (aCons (eVar 4) (aCons (eC (.glo "BadRow")) aNil)))) (sRet (eTup (aCons (eC (.str "row")) (aCons (eXf fldX "function" (eVar 4)) (aCons (eXf fldX "block" (eVar 4)) (aCons (eXf fldX "row" (eVar 4)) aNil)))))) sPass) (sSeq (sIf (truth (callB (isaD subX) (aCons (eVar 4) (aCons (eC (.glo "BadFunction")) aNil)))) (sRet (eTup (aCons (eC (.str "function")) (aCons (eXf fldX "index" (eVar 4)) aNil)))) sPass) (sSeq (sIf (truth (callB (isaD subX) (aCons (eVar 4) (aCons (eC (.glo "NoName")) aNil)))) (sRet (eTup (aCons (eC (.str "noname")) (aCons (callB reprD (aCons (eXf fldX "name" (eVar 4)) aNil)) aNil)))) sPass) (sSeq (sIf (truth (callB (isaD subX) (aCons (eVar 4) (aCons (eC (.glo "BadText")) aNil)))) (sRet (eTup (aCons (eC (.str "text")) (aCons (eXf fldX "line" (eVar 4)) (aCons (eXf fldX "word" (eVar 4)) aNil))))) sPass) (sSeq (sIf (truth (callB (isaD subX) (aCons (eVar 4) (aCons (eTup (aCons (eC (.glo "BadWord")) (aCons (eC (.glo "Nothing")) aNil))) aNil)))) (sRet (eTup (aCons (eIf (truth (callB (isaD subX) (aCons (eVar 4) (aCons (eC (.glo "BadWord")) aNil)))) (eC (.str "word")) (eC (.str "nothing"))) (aCons (eXf fldX "word" (eVar 4)) aNil)))) sPass) (sSeq (sSet 2 (eLst (aCons (callB (isaD subX) (aCons (eVar 4) (aCons (eC (.glo "BadValue")) aNil))) (aCons (callB (isaD subX) (aCons (eVar 4) (aCons (eC (.glo "BadNumber")) aNil))) (aCons (callB (isaD subX) (aCons (eVar 4) (aCons (eC (.glo "Misfit")) aNil))) aNil))))) (sRet (eIf (tst (eOp eqD (callM "list" cntD (eVar 2) (aCons (eC (.bl true)) aNil)) (eC (.int 1)))) (eTup (aCons (eOp ixD (eLst (aCons (eC (.str "value")) (aCons (eC (.str "number")) (aCons (eC (.str "misfit")) aNil)))) (callM "list" idxD (eVar 2) (aCons (eC (.bl true)) aNil))) (aCons (eXf fldX "part" (eVar 4)) aNil))) (eTup (aCons (eC (.str "other")) aNil))))))))))))))
theorem lam__law_heard {k : Nat} (Z : Fa P w K mg bs) (cdv : Value) (A : Around) (outer : List PySem.Env) (s : Shared) (H : Hp) (E : XK) (lm : D) (act : Store → Res Val) (hr : RoomG (k + 1) (A.deeper (envOfC "_law_heard" (defScope (top 30)) s.heap.objs.size Z.a__law_heard cdv)))
    (act' : ∀ (W : WX) (pn : List (Addr × Obj)) (xe : Value → Shared → Prop) (p1 p2 : Pos), L2.Takes ((cxOf (L2.CX P w) P w K mg bs ["ask", "error", "kinds", "found", "caught"] "_law_heard" (defScope (top 30)) Z.a__law_heard cdv A outer s H E).tr pn xe) W →
      EX T ((cxOf (L2.CX P w) P w K mg bs ["ask", "error", "kinds", "found", "caught"] "_law_heard" (defScope (top 30)) Z.a__law_heard cdv A outer s H E).tr pn xe) W (.Call (.Name "ask" p1) [] [] p2) (eAct 0 lm act)) :
    BX T (cxOf (L2.CX P w) P w K mg bs ["ask", "error", "kinds", "found", "caught"] "_law_heard" (defScope (top 30)) Z.a__law_heard cdv A outer s H E) (fun c d _ H => E c d H) (defBody (top 30)) (b__law_heard lm act) :=
  (bx_cons (sx_asg (ex_tup (ax_cons ex_non (ax_cons ex_non ax_nil))) (gx_seq rfl (gxs_cons (gx_name (i := 3) sc__law_heard.nd rfl (by first | exact .inl rfl | exact .inr rfl)) (gxs_cons (gx_name (i := 4) sc__law_heard.nd rfl (by first | exact .inl rfl | exact .inr rfl)) gxs_nil)))) (bx_cons (sx_try (i := 1) Z.tab rfl rfl rfl sc__law_heard.nd rfl rfl (by rfl) Z.g_PerError tkC (fun W pn xe tk po => (bx_one (sx_set (i := 3) sc__law_heard.nd rfl (by first | exact .inl rfl | exact .inr rfl) (act' _ _ _ _ _ tk)))) (fun a => (bx_one (sx_set (i := 4) sc__law_heard.nd rfl (by first | exact .inl rfl | exact .inr rfl) (ex_var (i := 1) (by rfl) (by first | exact .inl rfl | exact .inr (.inl rfl) | exact .inr (.inr rfl))))))) (bx_cons (sx_if (tx_cmp op_isN o_isN (ex_var (i := 4) (by rfl) (by first | exact .inl rfl | exact .inr (.inl rfl) | exact .inr (.inr rfl))) ex_non (nomark _)) (bx_one (sx_ret (ex_lst (ax_cons (ex_var (i := 3) (by rfl) (by first | exact .inl rfl | exact .inr (.inl rfl) | exact .inr (.inr rfl))) ax_nil)))) bx_nil) (bx_cons (sx_if (tx_truth (ex_callB h_isa (c_isa Z.tab) (by rfl) Z.n_isinstance (by rfl) (ax_cons (ex_var (i := 4) (by rfl) (by first | exact .inl rfl | exact .inr (.inl rfl) | exact .inr (.inr rfl))) (ax_cons (ex_glo (by rfl) Z.g_TooMany) ax_nil)))) (bx_one (sx_ret (ex_tup (ax_cons ex_str (ax_cons (ex_xf Z.tab (ex_var (i := 4) (by rfl) (by first | exact .inl rfl | exact .inr (.inl rfl) | exact .inr (.inr rfl)))) (ax_cons (ex_xf Z.tab (ex_var (i := 4) (by rfl) (by first | exact .inl rfl | exact .inr (.inl rfl) | exact .inr (.inr rfl)))) ax_nil)))))) bx_nil) (bx_cons (sx_if (tx_truth (ex_callB h_isa (c_isa Z.tab) (by rfl) Z.n_isinstance (by rfl) (ax_cons (ex_var (i := 4) (by rfl) (by first | exact .inl rfl | exact .inr (.inl rfl) | exact .inr (.inr rfl))) (ax_cons (ex_glo (by rfl) Z.g_BadRow) ax_nil)))) (bx_one (sx_ret (ex_tup (ax_cons ex_str (ax_cons (ex_xf Z.tab (ex_var (i := 4) (by rfl) (by first | exact .inl rfl | exact .inr (.inl rfl) | exact .inr (.inr rfl)))) (ax_cons (ex_xf Z.tab (ex_var (i := 4) (by rfl) (by first | exact .inl rfl | exact .inr (.inl rfl) | exact .inr (.inr rfl)))) (ax_cons (ex_xf Z.tab (ex_var (i := 4) (by rfl) (by first | exact .inl rfl | exact .inr (.inl rfl) | exact .inr (.inr rfl)))) ax_nil))))))) bx_nil) (bx_cons (sx_if (tx_truth (ex_callB h_isa (c_isa Z.tab) (by rfl) Z.n_isinstance (by rfl) (ax_cons (ex_var (i := 4) (by rfl) (by first | exact .inl rfl | exact .inr (.inl rfl) | exact .inr (.inr rfl))) (ax_cons (ex_glo (by rfl) Z.g_BadFunction) ax_nil)))) (bx_one (sx_ret (ex_tup (ax_cons ex_str (ax_cons (ex_xf Z.tab (ex_var (i := 4) (by rfl) (by first | exact .inl rfl | exact .inr (.inl rfl) | exact .inr (.inr rfl)))) ax_nil))))) bx_nil) (bx_cons (sx_if (tx_truth (ex_callB h_isa (c_isa Z.tab) (by rfl) Z.n_isinstance (by rfl) (ax_cons (ex_var (i := 4) (by rfl) (by first | exact .inl rfl | exact .inr (.inl rfl) | exact .inr (.inr rfl))) (ax_cons (ex_glo (by rfl) Z.g_NoName) ax_nil)))) (bx_one (sx_ret (ex_tup (ax_cons ex_str (ax_cons (ex_callB (call_repr hr.2 hr.u) c_repr (by rfl) Z.n_repr (by rfl) (ax_cons (ex_xf Z.tab (ex_var (i := 4) (by rfl) (by first | exact .inl rfl | exact .inr (.inl rfl) | exact .inr (.inr rfl)))) ax_nil)) ax_nil))))) bx_nil) (bx_cons (sx_if (tx_truth (ex_callB h_isa (c_isa Z.tab) (by rfl) Z.n_isinstance (by rfl) (ax_cons (ex_var (i := 4) (by rfl) (by first | exact .inl rfl | exact .inr (.inl rfl) | exact .inr (.inr rfl))) (ax_cons (ex_glo (by rfl) Z.g_BadText) ax_nil)))) (bx_one (sx_ret (ex_tup (ax_cons ex_str (ax_cons (ex_xf Z.tab (ex_var (i := 4) (by rfl) (by first | exact .inl rfl | exact .inr (.inl rfl) | exact .inr (.inr rfl)))) (ax_cons (ex_xf Z.tab (ex_var (i := 4) (by rfl) (by first | exact .inl rfl | exact .inr (.inl rfl) | exact .inr (.inr rfl)))) ax_nil)))))) bx_nil) (bx_cons (sx_if (tx_truth (ex_callB h_isa (c_isa Z.tab) (by rfl) Z.n_isinstance (by rfl) (ax_cons (ex_var (i := 4) (by rfl) (by first | exact .inl rfl | exact .inr (.inl rfl) | exact .inr (.inr rfl))) (ax_cons (ex_tup (ax_cons (ex_glo (by rfl) Z.g_BadWord) (ax_cons (ex_glo (by rfl) Z.g_Nothing) ax_nil))) ax_nil)))) (bx_one (sx_ret (ex_tup (ax_cons (ex_if (tx_truth (ex_callB h_isa (c_isa Z.tab) (by rfl) Z.n_isinstance (by rfl) (ax_cons (ex_var (i := 4) (by rfl) (by first | exact .inl rfl | exact .inr (.inl rfl) | exact .inr (.inr rfl))) (ax_cons (ex_glo (by rfl) Z.g_BadWord) ax_nil)))) ex_str ex_str) (ax_cons (ex_xf Z.tab (ex_var (i := 4) (by rfl) (by first | exact .inl rfl | exact .inr (.inl rfl) | exact .inr (.inr rfl)))) ax_nil))))) bx_nil) (bx_cons (sx_set (i := 2) sc__law_heard.nd rfl (by first | exact .inl rfl | exact .inr rfl) (ex_lst (ax_cons (ex_callB h_isa (c_isa Z.tab) (by rfl) Z.n_isinstance (by rfl) (ax_cons (ex_var (i := 4) (by rfl) (by first | exact .inl rfl | exact .inr (.inl rfl) | exact .inr (.inr rfl))) (ax_cons (ex_glo (by rfl) Z.g_BadValue) ax_nil))) (ax_cons (ex_callB h_isa (c_isa Z.tab) (by rfl) Z.n_isinstance (by rfl) (ax_cons (ex_var (i := 4) (by rfl) (by first | exact .inl rfl | exact .inr (.inl rfl) | exact .inr (.inr rfl))) (ax_cons (ex_glo (by rfl) Z.g_BadNumber) ax_nil))) (ax_cons (ex_callB h_isa (c_isa Z.tab) (by rfl) Z.n_isinstance (by rfl) (ax_cons (ex_var (i := 4) (by rfl) (by first | exact .inl rfl | exact .inr (.inl rfl) | exact .inr (.inr rfl))) (ax_cons (ex_glo (by rfl) Z.g_Misfit) ax_nil))) ax_nil))))) (bx_one (sx_ret (ex_if (tx_cmp (op_eqA hr.u64) o_eq (ex_m PySem.F.plainAttrs_list PySem.F.slot_list_count PySem.F.type_list_count (mt_countD hr.u65) m_count (ex_var (i := 2) (by rfl) (by first | exact .inl rfl | exact .inr (.inl rfl) | exact .inr (.inr rfl))) (ax_cons ex_bl ax_nil)) ex_int (nomark _)) (ex_tup (ax_cons (ex_ix hr.u1 (ex_lst (ax_cons ex_str (ax_cons ex_str (ax_cons ex_str ax_nil)))) (ex_m PySem.F.plainAttrs_list PySem.F.slot_list_index PySem.F.type_list_index (mt_indexD hr.u65) m_index (ex_var (i := 2) (by rfl) (by first | exact .inl rfl | exact .inr (.inl rfl) | exact .inr (.inr rfl))) (ax_cons ex_bl ax_nil))) (ax_cons (ex_xf Z.tab (ex_var (i := 4) (by rfl) (by first | exact .inl rfl | exact .inr (.inl rfl) | exact .inr (.inr rfl)))) ax_nil))) (ex_tup (ax_cons ex_str ax_nil)))))))))))))))

theorem sc__law_view : FnScope ["pen", "top", "bottom"] ["pen"] (defScope (top 33)) := ⟨rfl, rfl, rfl, by decide +kernel, rfl, by decide +kernel, by decide +kernel⟩
def b__law_view : Sx := (sSeq (sPar 1 2 (aCons (eCall f__law_draw 2 0 [0, 1] [] (aCons (eVar 0) (aCons (eC (.int 12)) aNil)) aNil) (aCons (eOp addD (eC (.int 1)) (eCall f__law_draw 2 0 [0, 1] [] (aCons (eVar 0) (aCons (eC (.int 3)) aNil)) aNil)) aNil))) (sRet (eCall f__law_pick 2 0 [0, 1] [] (aCons (eVar 0) (aCons (eOp addD (eLst (aCons (eTup (aCons (eC (.str "steep")) aNil)) (aCons (eTup (aCons (eC (.str "flat")) aNil)) (aCons (eTup (aCons (eC (.str "above")) (aCons (eVar 1) (aCons (eVar 2) aNil)))) aNil)))) (eOp mulA (eLst (aCons (eTup (aCons (eC (.str "at")) (aCons (eVar 1) (aCons (eVar 2) aNil)))) (aCons (eTup (aCons (eC (.str "below")) (aCons (eVar 1) (aCons (eVar 2) aNil)))) aNil))) (eC (.int 3)))) aNil)) aNil)))
abbrev f__law_view : Fn := fnD 3 b__law_view
theorem ok__law_view (Z : Fa P w K mg bs) : DOk P w ⟨K, mg, T⟩ bs 3 Z.a__law_view Z.d__law_view ["pen"] f__law_view := dok_of Z.F__law_view sc__law_view fun cdv A outer s H E hr =>
  (bx_cons (sx_par (i := 1) (j := 2) rfl sc__law_view.nd rfl rfl (by decide) rfl rfl (ax_cons (ex_call (ok__law_draw Z) (hr.mono (by decide)) (by rfl) Z.g__law_draw Z.F__law_draw.kp (bnd_of (ix := [0, 1]) (ks := []) Z.F__law_draw (fun _ _ _ _ _ _ us ws h1 h2 => match us, ws, h1, h2 with | [_, _], [], _, _ => rfl) (fun xs h => match xs, h with | [_, _], _ => rfl)) no_d tkC (ax_cons (ex_var (i := 0) (by rfl) (by first | exact .inl rfl | exact .inr (.inl rfl) | exact .inr (.inr rfl))) (ax_cons ex_int ax_nil))) (ax_cons (ex_op h_add o_add ex_int (ex_call (ok__law_draw Z) (hr.mono (by decide)) (by rfl) Z.g__law_draw Z.F__law_draw.kp (bnd_of (ix := [0, 1]) (ks := []) Z.F__law_draw (fun _ _ _ _ _ _ us ws h1 h2 => match us, ws, h1, h2 with | [_, _], [], _, _ => rfl) (fun xs h => match xs, h with | [_, _], _ => rfl)) no_d tkC (ax_cons (ex_var (i := 0) (by rfl) (by first | exact .inl rfl | exact .inr (.inl rfl) | exact .inr (.inr rfl))) (ax_cons ex_int ax_nil)))) ax_nil)) rfl) (bx_one (sx_ret (ex_call (ok__law_pick Z) (hr.mono (by decide)) (by rfl) Z.g__law_pick Z.F__law_pick.kp (bnd_of (ix := [0, 1]) (ks := []) Z.F__law_pick (fun _ _ _ _ _ _ us ws h1 h2 => match us, ws, h1, h2 with | [_, _], [], _, _ => rfl) (fun xs h => match xs, h with | [_, _], _ => rfl)) no_d tkC (ax_cons (ex_var (i := 0) (by rfl) (by first | exact .inl rfl | exact .inr (.inl rfl) | exact .inr (.inr rfl))) (ax_cons (ex_op h_add o_add (ex_lst (ax_cons (ex_tup (ax_cons ex_str ax_nil)) (ax_cons (ex_tup (ax_cons ex_str ax_nil)) (ax_cons (ex_tup (ax_cons ex_str (ax_cons (ex_var (i := 1) (by rfl) (by first | exact .inl rfl | exact .inr (.inl rfl) | exact .inr (.inr rfl))) (ax_cons (ex_var (i := 2) (by rfl) (by first | exact .inl rfl | exact .inr (.inl rfl) | exact .inr (.inr rfl))) ax_nil)))) ax_nil)))) (ex_op h_mulA o_mulA (ex_lst (ax_cons (ex_tup (ax_cons ex_str (ax_cons (ex_var (i := 1) (by rfl) (by first | exact .inl rfl | exact .inr (.inl rfl) | exact .inr (.inr rfl))) (ax_cons (ex_var (i := 2) (by rfl) (by first | exact .inl rfl | exact .inr (.inl rfl) | exact .inr (.inr rfl))) ax_nil)))) (ax_cons (ex_tup (ax_cons ex_str (ax_cons (ex_var (i := 1) (by rfl) (by first | exact .inl rfl | exact .inr (.inl rfl) | exact .inr (.inr rfl))) (ax_cons (ex_var (i := 2) (by rfl) (by first | exact .inl rfl | exact .inr (.inl rfl) | exact .inr (.inr rfl))) ax_nil)))) ax_nil))) ex_int)) ax_nil))))))

theorem sc_is_listed : FnScope ["value"] ["value"] (defScope (top 2)) := ⟨rfl, rfl, rfl, by decide +kernel, rfl, by decide +kernel, by decide +kernel⟩
def b_is_listed : Sx := (sRet (callB (isaD subX) (aCons (eVar 0) (aCons (eTup (aCons (eC (.ty "list")) (aCons (eC (.ty "tuple")) aNil))) aNil))))
abbrev f_is_listed : Fn := fnD 1 b_is_listed
theorem ok_is_listed (Z : Fa P w K mg bs) : DOk P w ⟨K, mg, T⟩ bs 1 Z.a_is_listed Z.d_is_listed ["value"] f_is_listed := dok_of Z.F_is_listed sc_is_listed fun cdv A outer s H E hr =>
  (bx_one (sx_ret (ex_callB h_isa (c_isa Z.tab) (by rfl) Z.n_isinstance (by rfl) (ax_cons (ex_var (i := 0) (by rfl) (by first | exact .inl rfl | exact .inr (.inl rfl) | exact .inr (.inr rfl))) (ax_cons (ex_tup (ax_cons (ex_ty (by rfl) Z.n_list (by rfl)) (ax_cons (ex_ty (by rfl) Z.n_tuple (by rfl)) ax_nil))) ax_nil)))))

theorem sc_is_row : FnScope ["value", "least", "most"] ["value", "least", "most"] (defScope (top 3)) := ⟨rfl, rfl, rfl, by decide +kernel, rfl, by decide +kernel, by decide +kernel⟩
def b_is_row : Sx := (sRet (eAnd (eCall f_is_listed 1 0 [0] [] (aCons (eVar 0) aNil) aNil) (eChain leD leD (eVar 1) (callB lenD (aCons (eVar 0) aNil)) (eVar 2))))
abbrev f_is_row : Fn := fnD 3 b_is_row
theorem ok_is_row (Z : Fa P w K mg bs) : DOk P w ⟨K, mg, T⟩ bs 2 Z.a_is_row Z.d_is_row ["value", "least", "most"] f_is_row := dok_of Z.F_is_row sc_is_row fun cdv A outer s H E hr =>
  (bx_one (sx_ret (ex_and (ex_call (ok_is_listed Z) (hr.mono (by decide)) (by rfl) Z.g_is_listed Z.F_is_listed.kp (bnd_of (ix := [0]) (ks := []) Z.F_is_listed (fun _ _ _ _ _ _ us ws h1 h2 => match us, ws, h1, h2 with | [_], [], _, _ => rfl) (fun xs h => match xs, h with | [_], _ => rfl)) no_d tkC (ax_cons (ex_var (i := 0) (by rfl) (by first | exact .inl rfl | exact .inr (.inl rfl) | exact .inr (.inr rfl))) ax_nil)) (ex_one (ex_chain op_le op_le o_le o_le (ex_var (i := 1) (by rfl) (by first | exact .inl rfl | exact .inr (.inl rfl) | exact .inr (.inr rfl))) (ex_callB call_len c_len (by rfl) Z.n_len (by rfl) (ax_cons (ex_var (i := 0) (by rfl) (by first | exact .inl rfl | exact .inr (.inl rfl) | exact .inr (.inr rfl))) ax_nil)) (ex_var (i := 2) (by rfl) (by first | exact .inl rfl | exact .inr (.inl rfl) | exact .inr (.inr rfl))))))))

theorem sc_is_integer : FnScope ["value"] ["value"] (defScope (top 1)) := ⟨rfl, rfl, rfl, by decide +kernel, rfl, by decide +kernel, by decide +kernel⟩
def b_is_integer : Sx := (sRet (eAnd (callB (isaD subX) (aCons (eVar 0) (aCons (eC (.ty "int")) aNil))) (eNot (callB (isaD subX) (aCons (eVar 0) (aCons (eC (.ty "bool")) aNil))))))
abbrev f_is_integer : Fn := fnD 1 b_is_integer
theorem ok_is_integer (Z : Fa P w K mg bs) : DOk P w ⟨K, mg, T⟩ bs 1 Z.a_is_integer Z.d_is_integer ["value"] f_is_integer := dok_of Z.F_is_integer sc_is_integer fun cdv A outer s H E hr =>
  (bx_one (sx_ret (ex_and (ex_callB h_isa (c_isa Z.tab) (by rfl) Z.n_isinstance (by rfl) (ax_cons (ex_var (i := 0) (by rfl) (by first | exact .inl rfl | exact .inr (.inl rfl) | exact .inr (.inr rfl))) (ax_cons (ex_ty (by rfl) Z.n_int (by rfl)) ax_nil))) (ex_one (ex_not (ex_callB h_isa (c_isa Z.tab) (by rfl) Z.n_isinstance (by rfl) (ax_cons (ex_var (i := 0) (by rfl) (by first | exact .inl rfl | exact .inr (.inl rfl) | exact .inr (.inr rfl))) (ax_cons (ex_ty (by rfl) Z.n_bool (by rfl)) ax_nil))))))))

theorem sc_is_view : FnScope ["value"] ["value"] (defScope (top 22)) := ⟨rfl, rfl, rfl, by decide +kernel, rfl, by decide +kernel, by decide +kernel⟩
def b_is_view : Sx := (sSeq (sIf (tOrD (tNotD (truth (eCall f_is_row 3 0 [0, 1, 2] [] (aCons (eVar 0) (aCons (eC (.int 1)) (aCons (eC (.int 3)) aNil))) aNil))) (tNotD (truth (callB (isaD subX) (aCons (eOp ixD (eVar 0) (eC (.int 0))) (aCons (eC (.ty "str")) aNil)))))) (sRet (eC (.bl false))) sPass) (sSeq (sIf (tst (eOp inD (eOp ixD (eVar 0) (eC (.int 0))) (eTup (aCons (eC (.str "steep")) (aCons (eC (.str "flat")) aNil))))) (sRet (eOp eqD (callB lenD (aCons (eVar 0) aNil)) (eC (.int 1)))) sPass) (sSeq (sIf (tOrD (tst (eOp notInD (eOp ixD (eVar 0) (eC (.int 0))) (eTup (aCons (eC (.str "at")) (aCons (eC (.str "below")) (aCons (eC (.str "above")) aNil)))))) (tst (eOp neD (callB lenD (aCons (eVar 0) aNil)) (eC (.int 3))))) (sRet (eC (.bl false))) sPass) (sRet (eAnd (eCall f_is_integer 1 0 [0] [] (aCons (eOp ixD (eVar 0) (eC (.int 1))) aNil) aNil) (eAnd (eCall f_is_integer 1 0 [0] [] (aCons (eOp ixD (eVar 0) (eC (.int 2))) aNil) aNil) (eOp geD (eOp ixD (eVar 0) (eC (.int 2))) (eC (.int 1)))))))))
abbrev f_is_view : Fn := fnD 1 b_is_view
theorem ok_is_view (Z : Fa P w K mg bs) : DOk P w ⟨K, mg, T⟩ bs 3 Z.a_is_view Z.d_is_view ["value"] f_is_view := dok_of Z.F_is_view sc_is_view fun cdv A outer s H E hr =>
  (bx_cons (sx_if (tx_bool (wx_or (tx_not (tx_truth (ex_call (ok_is_row Z) (hr.mono (by decide)) (by rfl) Z.g_is_row Z.F_is_row.kp (bnd_of (ix := [0, 1, 2]) (ks := []) Z.F_is_row (fun _ _ _ _ _ _ us ws h1 h2 => match us, ws, h1, h2 with | [_, _, _], [], _, _ => rfl) (fun xs h => match xs, h with | [_, _, _], _ => rfl)) no_d tkC (ax_cons (ex_var (i := 0) (by rfl) (by first | exact .inl rfl | exact .inr (.inl rfl) | exact .inr (.inr rfl))) (ax_cons ex_int (ax_cons ex_int ax_nil)))))) (wx_or1 (tx_not (tx_truth (ex_callB h_isa (c_isa Z.tab) (by rfl) Z.n_isinstance (by rfl) (ax_cons (ex_ix hr.u1 (ex_var (i := 0) (by rfl) (by first | exact .inl rfl | exact .inr (.inl rfl) | exact .inr (.inr rfl))) ex_int) (ax_cons (ex_ty (by rfl) Z.n_str (by rfl)) ax_nil)))))))) (bx_one (sx_ret ex_bl)) bx_nil) (bx_cons (sx_if (tx_cmp op_in_seq o_in (ex_ix hr.u1 (ex_var (i := 0) (by rfl) (by first | exact .inl rfl | exact .inr (.inl rfl) | exact .inr (.inr rfl))) ex_int) (ex_tup (ax_cons (ex_gstr (by rfl) Z.s_STEEP) (ax_cons (ex_gstr (by rfl) Z.s_FLAT) ax_nil))) rfl) (bx_one (sx_ret (ex_cmp (op_eqA hr.u64) o_eq (ex_callB call_len c_len (by rfl) Z.n_len (by rfl) (ax_cons (ex_var (i := 0) (by rfl) (by first | exact .inl rfl | exact .inr (.inl rfl) | exact .inr (.inr rfl))) ax_nil)) ex_int (nomark _)))) bx_nil) (bx_cons (sx_if (tx_bool (wx_or (tx_cmp op_notIn_seq o_notIn (ex_ix hr.u1 (ex_var (i := 0) (by rfl) (by first | exact .inl rfl | exact .inr (.inl rfl) | exact .inr (.inr rfl))) ex_int) (ex_tup (ax_cons (ex_gstr (by rfl) Z.s_AT) (ax_cons (ex_gstr (by rfl) Z.s_BELOW) (ax_cons (ex_gstr (by rfl) Z.s_ABOVE) ax_nil)))) rfl) (wx_or1 (tx_cmp (op_neA hr.u64) o_ne (ex_callB call_len c_len (by rfl) Z.n_len (by rfl) (ax_cons (ex_var (i := 0) (by rfl) (by first | exact .inl rfl | exact .inr (.inl rfl) | exact .inr (.inr rfl))) ax_nil)) ex_int (nomark _))))) (bx_one (sx_ret ex_bl)) bx_nil) (bx_one (sx_ret (ex_and (ex_call (ok_is_integer Z) (hr.mono (by decide)) (by rfl) Z.g_is_integer Z.F_is_integer.kp (bnd_of (ix := [0]) (ks := []) Z.F_is_integer (fun _ _ _ _ _ _ us ws h1 h2 => match us, ws, h1, h2 with | [_], [], _, _ => rfl) (fun xs h => match xs, h with | [_], _ => rfl)) no_d tkC (ax_cons (ex_ix hr.u1 (ex_var (i := 0) (by rfl) (by first | exact .inl rfl | exact .inr (.inl rfl) | exact .inr (.inr rfl))) ex_int) ax_nil)) (ex_and (ex_call (ok_is_integer Z) (hr.mono (by decide)) (by rfl) Z.g_is_integer Z.F_is_integer.kp (bnd_of (ix := [0]) (ks := []) Z.F_is_integer (fun _ _ _ _ _ _ us ws h1 h2 => match us, ws, h1, h2 with | [_], [], _, _ => rfl) (fun xs h => match xs, h with | [_], _ => rfl)) no_d tkC (ax_cons (ex_ix hr.u1 (ex_var (i := 0) (by rfl) (by first | exact .inl rfl | exact .inr (.inl rfl) | exact .inr (.inr rfl))) ex_int) ax_nil)) (ex_one (ex_cmp op_ge o_ge (ex_ix hr.u1 (ex_var (i := 0) (by rfl) (by first | exact .inl rfl | exact .inr (.inl rfl) | exact .inr (.inr rfl))) ex_int) ex_int (nomark _))))))))))

theorem sc_need_view : FnScope ["value"] ["value"] (defScope (top 23)) := ⟨rfl, rfl, rfl, by decide +kernel, rfl, by decide +kernel, by decide +kernel⟩
def b_need_view : Sx := (sSeq (sIf (tNotD (truth (eCall f_is_view 1 0 [0] [] (aCons (eVar 0) aNil) aNil))) (sRaise (eMk "BadValue" ["part"] (aCons (eC (.str "view")) aNil))) sPass) (sRet (callB tupD (aCons (eVar 0) aNil))))
abbrev f_need_view : Fn := fnD 1 b_need_view
theorem ok_need_view (Z : Fa P w K mg bs) : DOk P w ⟨K, mg, T⟩ bs 4 Z.a_need_view Z.d_need_view ["value"] f_need_view := dok_of Z.F_need_view sc_need_view fun cdv A outer s H E hr =>
  (bx_cons (sx_if (tx_not (tx_truth (ex_call (ok_is_view Z) (hr.mono (by decide)) (by rfl) Z.g_is_view Z.F_is_view.kp (bnd_of (ix := [0]) (ks := []) Z.F_is_view (fun _ _ _ _ _ _ us ws h1 h2 => match us, ws, h1, h2 with | [_], [], _, _ => rfl) (fun xs h => match xs, h with | [_], _ => rfl)) no_d tkC (ax_cons (ex_var (i := 0) (by rfl) (by first | exact .inl rfl | exact .inr (.inl rfl) | exact .inr (.inr rfl))) ax_nil)))) (bx_one (sx_raise rfl tkC Z.o_BadValue Z.i_BadValue Z.t_BadValue (Z.x_BadValue) (by decide) (hr.1.mono (by decide)) Z.b_BadValue rfl Z.g_BadValue (ax_cons ex_str ax_nil))) bx_nil) (bx_one (sx_ret (ex_callTy call_tuple_of c_tup (by rfl) Z.n_tuple (by rfl) (ax_cons (ex_var (i := 0) (by rfl) (by first | exact .inl rfl | exact .inr (.inl rfl) | exact .inr (.inr rfl))) ax_nil)))))

theorem sc_worth_of : FnScope ["view", "cost", "marks", "told"] ["view", "cost", "marks"] (defScope (top 24)) := ⟨rfl, rfl, rfl, by decide +kernel, rfl, by decide +kernel, by decide +kernel⟩
def b_worth_of : Sx := (sSeq (sIf (tst (eOp eqD (eOp ixD (eVar 0) (eC (.int 0))) (eC (.str "steep")))) (sRet (eTup (aCons (eOp subD (eC (.int 0)) (eVar 2)) (aCons (eVar 1) aNil)))) sPass) (sSeq (sIf (tst (eOp eqD (eOp ixD (eVar 0) (eC (.int 0))) (eC (.str "flat")))) (sRet (eTup (aCons (eVar 2) (aCons (eVar 1) aNil)))) sPass) (sSeq (sSet 3 (eOp subD (eOp mulA (eOp ixD (eVar 0) (eC (.int 2))) (eVar 1)) (eOp mulA (eOp ixD (eVar 0) (eC (.int 1))) (eVar 2)))) (sSeq (sIf (tst (eOp eqD (eOp ixD (eVar 0) (eC (.int 0))) (eC (.str "at")))) (sRet (eTup (aCons (eVar 3) (aCons (eC (.int 0)) aNil)))) sPass) (sRet (eTup (aCons (eVar 3) (aCons (eIf (tst (eOp eqD (eOp ixD (eVar 0) (eC (.int 0))) (eC (.str "below")))) (eVar 2) (eOp subD (eC (.int 0)) (eVar 2))) aNil))))))))
abbrev f_worth_of : Fn := fnD 4 b_worth_of
theorem ok_worth_of (Z : Fa P w K mg bs) : DOk P w ⟨K, mg, T⟩ bs 1 Z.a_worth_of Z.d_worth_of ["view", "cost", "marks"] f_worth_of := dok_of Z.F_worth_of sc_worth_of fun cdv A outer s H E hr =>
  (bx_cons (sx_if (tx_cmp (op_eqA hr.u64) o_eq (ex_ix hr.u1 (ex_var (i := 0) (by rfl) (by first | exact .inl rfl | exact .inr (.inl rfl) | exact .inr (.inr rfl))) ex_int) (ex_gstr (by rfl) Z.s_STEEP) (nomark _)) (bx_one (sx_ret (ex_tup (ax_cons (ex_op op_sub o_sub ex_int (ex_var (i := 2) (by rfl) (by first | exact .inl rfl | exact .inr (.inl rfl) | exact .inr (.inr rfl)))) (ax_cons (ex_var (i := 1) (by rfl) (by first | exact .inl rfl | exact .inr (.inl rfl) | exact .inr (.inr rfl))) ax_nil))))) bx_nil) (bx_cons (sx_if (tx_cmp (op_eqA hr.u64) o_eq (ex_ix hr.u1 (ex_var (i := 0) (by rfl) (by first | exact .inl rfl | exact .inr (.inl rfl) | exact .inr (.inr rfl))) ex_int) (ex_gstr (by rfl) Z.s_FLAT) (nomark _)) (bx_one (sx_ret (ex_tup (ax_cons (ex_var (i := 2) (by rfl) (by first | exact .inl rfl | exact .inr (.inl rfl) | exact .inr (.inr rfl))) (ax_cons (ex_var (i := 1) (by rfl) (by first | exact .inl rfl | exact .inr (.inl rfl) | exact .inr (.inr rfl))) ax_nil))))) bx_nil) (bx_cons (sx_set (i := 3) sc_worth_of.nd rfl (by first | exact .inl rfl | exact .inr rfl) (ex_op op_sub o_sub (ex_op h_mulA o_mulA (ex_ix hr.u1 (ex_var (i := 0) (by rfl) (by first | exact .inl rfl | exact .inr (.inl rfl) | exact .inr (.inr rfl))) ex_int) (ex_var (i := 1) (by rfl) (by first | exact .inl rfl | exact .inr (.inl rfl) | exact .inr (.inr rfl)))) (ex_op h_mulA o_mulA (ex_ix hr.u1 (ex_var (i := 0) (by rfl) (by first | exact .inl rfl | exact .inr (.inl rfl) | exact .inr (.inr rfl))) ex_int) (ex_var (i := 2) (by rfl) (by first | exact .inl rfl | exact .inr (.inl rfl) | exact .inr (.inr rfl)))))) (bx_cons (sx_if (tx_cmp (op_eqA hr.u64) o_eq (ex_ix hr.u1 (ex_var (i := 0) (by rfl) (by first | exact .inl rfl | exact .inr (.inl rfl) | exact .inr (.inr rfl))) ex_int) (ex_gstr (by rfl) Z.s_AT) (nomark _)) (bx_one (sx_ret (ex_tup (ax_cons (ex_var (i := 3) (by rfl) (by first | exact .inl rfl | exact .inr (.inl rfl) | exact .inr (.inr rfl))) (ax_cons ex_int ax_nil))))) bx_nil) (bx_one (sx_ret (ex_tup (ax_cons (ex_var (i := 3) (by rfl) (by first | exact .inl rfl | exact .inr (.inl rfl) | exact .inr (.inr rfl))) (ax_cons (ex_if (tx_cmp (op_eqA hr.u64) o_eq (ex_ix hr.u1 (ex_var (i := 0) (by rfl) (by first | exact .inl rfl | exact .inr (.inl rfl) | exact .inr (.inr rfl))) ex_int) (ex_gstr (by rfl) Z.s_BELOW) (nomark _)) (ex_var (i := 2) (by rfl) (by first | exact .inl rfl | exact .inr (.inl rfl) | exact .inr (.inr rfl))) (ex_op op_sub o_sub ex_int (ex_var (i := 2) (by rfl) (by first | exact .inl rfl | exact .inr (.inl rfl) | exact .inr (.inr rfl))))) ax_nil)))))))))

theorem sc_worth : FnScope ["view", "cost", "marks", "told"] ["view", "cost", "marks"] (defScope (top 25)) := ⟨rfl, rfl, rfl, by decide +kernel, rfl, by decide +kernel, by decide +kernel⟩
def b_worth : Sx := (sSeq (sSet 3 (eCall f_need_view 1 0 [0] [] (aCons (eVar 0) aNil) aNil)) (sSeq (sIf (tNotD (truth (eCall f_is_integer 1 0 [0] [] (aCons (eVar 1) aNil) aNil))) (sRaise (eMk "BadNumber" ["part"] (aCons (eC (.str "cost")) aNil))) sPass) (sSeq (sIf (tNotD (truth (eCall f_is_integer 1 0 [0] [] (aCons (eVar 2) aNil) aNil))) (sRaise (eMk "BadNumber" ["part"] (aCons (eC (.str "marks")) aNil))) sPass) (sRet (eCall f_worth_of 3 0 [0, 1, 2] [] (aCons (eVar 3) (aCons (eVar 1) (aCons (eVar 2) aNil))) aNil)))))
abbrev f_worth : Fn := fnD 4 b_worth
theorem ok_worth (Z : Fa P w K mg bs) : DOk P w ⟨K, mg, T⟩ bs 5 Z.a_worth Z.d_worth ["view", "cost", "marks"] f_worth := dok_of Z.F_worth sc_worth fun cdv A outer s H E hr =>
  (bx_cons (sx_set (i := 3) sc_worth.nd rfl (by first | exact .inl rfl | exact .inr rfl) (ex_call (ok_need_view Z) (hr.mono (by decide)) (by rfl) Z.g_need_view Z.F_need_view.kp (bnd_of (ix := [0]) (ks := []) Z.F_need_view (fun _ _ _ _ _ _ us ws h1 h2 => match us, ws, h1, h2 with | [_], [], _, _ => rfl) (fun xs h => match xs, h with | [_], _ => rfl)) no_d tkC (ax_cons (ex_var (i := 0) (by rfl) (by first | exact .inl rfl | exact .inr (.inl rfl) | exact .inr (.inr rfl))) ax_nil))) (bx_cons (sx_if (tx_not (tx_truth (ex_call (ok_is_integer Z) (hr.mono (by decide)) (by rfl) Z.g_is_integer Z.F_is_integer.kp (bnd_of (ix := [0]) (ks := []) Z.F_is_integer (fun _ _ _ _ _ _ us ws h1 h2 => match us, ws, h1, h2 with | [_], [], _, _ => rfl) (fun xs h => match xs, h with | [_], _ => rfl)) no_d tkC (ax_cons (ex_var (i := 1) (by rfl) (by first | exact .inl rfl | exact .inr (.inl rfl) | exact .inr (.inr rfl))) ax_nil)))) (bx_one (sx_raise rfl tkC Z.o_BadNumber Z.i_BadNumber Z.t_BadNumber (Z.x_BadNumber) (by decide) (hr.1.mono (by decide)) Z.b_BadNumber rfl Z.g_BadNumber (ax_cons ex_str ax_nil))) bx_nil) (bx_cons (sx_if (tx_not (tx_truth (ex_call (ok_is_integer Z) (hr.mono (by decide)) (by rfl) Z.g_is_integer Z.F_is_integer.kp (bnd_of (ix := [0]) (ks := []) Z.F_is_integer (fun _ _ _ _ _ _ us ws h1 h2 => match us, ws, h1, h2 with | [_], [], _, _ => rfl) (fun xs h => match xs, h with | [_], _ => rfl)) no_d tkC (ax_cons (ex_var (i := 2) (by rfl) (by first | exact .inl rfl | exact .inr (.inl rfl) | exact .inr (.inr rfl))) ax_nil)))) (bx_one (sx_raise rfl tkC Z.o_BadNumber Z.i_BadNumber Z.t_BadNumber (Z.x_BadNumber) (by decide) (hr.1.mono (by decide)) Z.b_BadNumber rfl Z.g_BadNumber (ax_cons ex_str ax_nil))) bx_nil) (bx_one (sx_ret (ex_call (ok_worth_of Z) (hr.mono (by decide)) (by rfl) Z.g_worth_of Z.F_worth_of.kp (bnd_of (ix := [0, 1, 2]) (ks := []) Z.F_worth_of (fun _ _ _ _ _ _ us ws h1 h2 => match us, ws, h1, h2 with | [_, _, _], [], _, _ => rfl) (fun xs h => match xs, h with | [_, _, _], _ => rfl)) no_d tkC (ax_cons (ex_var (i := 3) (by rfl) (by first | exact .inl rfl | exact .inr (.inl rfl) | exact .inr (.inr rfl))) (ax_cons (ex_var (i := 1) (by rfl) (by first | exact .inl rfl | exact .inr (.inl rfl) | exact .inr (.inr rfl))) (ax_cons (ex_var (i := 2) (by rfl) (by first | exact .inl rfl | exact .inr (.inl rfl) | exact .inr (.inr rfl))) ax_nil)))))))))

theorem sc__law_worth : FnScope ["view", "cost", "marks"] ["view", "cost", "marks"] (defScope (top 31)) := ⟨rfl, rfl, rfl, by decide +kernel, rfl, by decide +kernel, by decide +kernel⟩
def b__law_worth : Sx := (sSeq (sIf (tst (eOp eqD (eOp ixD (eVar 0) (eC (.int 0))) (eC (.str "steep")))) (sRet (eTup (aCons (eOp subD (eC (.int 0)) (eVar 2)) (aCons (eVar 1) aNil)))) sPass) (sSeq (sIf (tst (eOp eqD (eOp ixD (eVar 0) (eC (.int 0))) (eC (.str "flat")))) (sRet (eTup (aCons (eVar 2) (aCons (eVar 1) aNil)))) sPass) (sRet (eTup (aCons (eOp subD (eOp mulA (eOp ixD (eVar 0) (eC (.int 2))) (eVar 1)) (eOp mulA (eOp ixD (eVar 0) (eC (.int 1))) (eVar 2))) (aCons (eOp ixD (eDisp [((eC (.str "at")), (eC (.int 0))), ((eC (.str "below")), (eVar 2)), ((eC (.str "above")), (eOp subD (eC (.int 0)) (eVar 2)))]) (eOp ixD (eVar 0) (eC (.int 0)))) aNil))))))
abbrev f__law_worth : Fn := fnD 3 b__law_worth
theorem ok__law_worth (Z : Fa P w K mg bs) : DOk P w ⟨K, mg, T⟩ bs 1 Z.a__law_worth Z.d__law_worth ["view", "cost", "marks"] f__law_worth := dok_of Z.F__law_worth sc__law_worth fun cdv A outer s H E hr =>
  (bx_cons (sx_if (tx_cmp (op_eqA hr.u64) o_eq (ex_ix hr.u1 (ex_var (i := 0) (by rfl) (by first | exact .inl rfl | exact .inr (.inl rfl) | exact .inr (.inr rfl))) ex_int) ex_str (nomark _)) (bx_one (sx_ret (ex_tup (ax_cons (ex_op op_sub o_sub ex_int (ex_var (i := 2) (by rfl) (by first | exact .inl rfl | exact .inr (.inl rfl) | exact .inr (.inr rfl)))) (ax_cons (ex_var (i := 1) (by rfl) (by first | exact .inl rfl | exact .inr (.inl rfl) | exact .inr (.inr rfl))) ax_nil))))) bx_nil) (bx_cons (sx_if (tx_cmp (op_eqA hr.u64) o_eq (ex_ix hr.u1 (ex_var (i := 0) (by rfl) (by first | exact .inl rfl | exact .inr (.inl rfl) | exact .inr (.inr rfl))) ex_int) ex_str (nomark _)) (bx_one (sx_ret (ex_tup (ax_cons (ex_var (i := 2) (by rfl) (by first | exact .inl rfl | exact .inr (.inl rfl) | exact .inr (.inr rfl))) (ax_cons (ex_var (i := 1) (by rfl) (by first | exact .inl rfl | exact .inr (.inl rfl) | exact .inr (.inr rfl))) ax_nil))))) bx_nil) (bx_one (sx_ret (ex_tup (ax_cons (ex_op op_sub o_sub (ex_op h_mulA o_mulA (ex_ix hr.u1 (ex_var (i := 0) (by rfl) (by first | exact .inl rfl | exact .inr (.inl rfl) | exact .inr (.inr rfl))) ex_int) (ex_var (i := 1) (by rfl) (by first | exact .inl rfl | exact .inr (.inl rfl) | exact .inr (.inr rfl)))) (ex_op h_mulA o_mulA (ex_ix hr.u1 (ex_var (i := 0) (by rfl) (by first | exact .inl rfl | exact .inr (.inl rfl) | exact .inr (.inr rfl))) ex_int) (ex_var (i := 2) (by rfl) (by first | exact .inl rfl | exact .inr (.inl rfl) | exact .inr (.inr rfl))))) (ax_cons (ex_ix hr.u1 (ex_disp (.cons ex_str ex_int (.cons ex_str (ex_var (i := 2) (by rfl) (by first | exact .inl rfl | exact .inr (.inl rfl) | exact .inr (.inr rfl))) (.cons ex_str (ex_op op_sub o_sub ex_int (ex_var (i := 2) (by rfl) (by first | exact .inl rfl | exact .inr (.inl rfl) | exact .inr (.inr rfl)))) .nil))) (by simp) (by decide)) (ex_ix hr.u1 (ex_var (i := 0) (by rfl) (by first | exact .inl rfl | exact .inr (.inl rfl) | exact .inr (.inr rfl))) ex_int)) ax_nil)))))))

theorem sc_law : FnScope ["script", "pen", "turn", "view", "due", "bad", "odd", "cost", "marks", "more", "other"] ["script"] (defScope (top 34)) := ⟨rfl, rfl, rfl, by decide +kernel, rfl, by decide +kernel, by decide +kernel⟩
def b_law : Sx := (sSeq (sSet 1 (eCall f__law_pen 1 0 [0] [] (aCons (eVar 0) aNil) aNil)) (sSeq (sForR1 (eC (.int 12)) (gNm 2) (sSeq (sSet 3 (eCall f__law_pick 2 0 [0, 1] [] (aCons (eVar 1) (aCons (eLst (aCons (eCall f__law_view 1 0 [0] [] (aCons (eVar 1) aNil) aNil) (aCons (eTup (aCons (eC (.str "at")) (aCons (eOp subD (eCall f__law_draw 2 0 [0, 1] [] (aCons (eVar 1) (aCons (eC (.int 9)) aNil)) aNil) (eC (.int 4))) (aCons (eOp addD (eC (.int 1)) (eCall f__law_draw 2 0 [0, 1] [] (aCons (eVar 1) (aCons (eOp powD (eC (.int 10)) (eC (.int 6))) aNil)) aNil)) aNil)))) (aCons (eTup (aCons (eC (.str "below")) (aCons (eOp subD (eC (.int 0)) (eCall f__law_draw 2 0 [0, 1] [] (aCons (eVar 1) (aCons (eOp powD (eC (.int 10)) (eC (.int 12))) aNil)) aNil)) (aCons (eC (.int 7)) aNil)))) aNil)))) aNil)) aNil)) (sSeq (sAsg (gSeq 2 (gsCons (gNm 7) (gsCons (gNm 8) gsNil))) (eTup (aCons (eOp subD (eCall f__law_draw 2 0 [0, 1] [] (aCons (eVar 1) (aCons (eCall f__law_pick 2 0 [0, 1] [] (aCons (eVar 1) (aCons (eLst (aCons (eC (.int 5)) (aCons (eOp powD (eC (.int 10)) (eC (.int 9))) aNil))) aNil)) aNil) aNil)) aNil) (eC (.int 2))) (aCons (eOp subD (eCall f__law_draw 2 0 [0, 1] [] (aCons (eVar 1) (aCons (eCall f__law_pick 2 0 [0, 1] [] (aCons (eVar 1) (aCons (eLst (aCons (eC (.int 3)) (aCons (eOp powD (eC (.int 10)) (eC (.int 9))) aNil))) aNil)) aNil) aNil)) aNil) (eC (.int 1))) aNil)))) (sSeq (sSet 4 (eCall f__law_worth 3 0 [0, 1, 2] [] (aCons (eVar 3) (aCons (eVar 7) (aCons (eVar 8) aNil))) aNil)) (sSeq (sIf (tOrD (tst (eOp neD (callB reprD (aCons (eCall f_worth 3 0 [0, 1, 2] [] (aCons (eVar 3) (aCons (eVar 7) (aCons (eVar 8) aNil))) aNil) aNil)) (callB reprD (aCons (eVar 4) aNil)))) (tOrD (tst (eOp neD (eCall f_worth 0 3 [2, 1, 0] [] aNil (aCons (eVar 8) (aCons (eVar 7) (aCons (callB listD (aCons (eVar 3) aNil)) aNil)))) (eVar 4))) (tOrD (tst (eOp isNotBD (eCall f_is_view 1 0 [0] [] (aCons (eVar 3) aNil) aNil) (eC (.bl true)))) (tst (eOp isNotBD (eCall f_is_view 0 1 [0] [] aNil (aCons (callB listD (aCons (eVar 3) aNil)) aNil)) (eC (.bl true))))))) (sRet (eC (.bl false))) sPass) (sSeq (sPar 9 10 (aCons (eCall f__law_draw 2 0 [0, 1] [] (aCons (eVar 1) (aCons (eC (.int 100)) aNil)) aNil) (aCons (eCall f__law_draw 2 0 [0, 1] [] (aCons (eVar 1) (aCons (eC (.int 9)) aNil)) aNil) aNil))) (sSeq (sIf (tst (eOp neD (eCall f__law_sum 1 0 [0] [] (aCons (eLst (aCons (eCall f_worth 3 0 [0, 1, 2] [] (aCons (eVar 3) (aCons (eVar 7) (aCons (eVar 8) aNil))) aNil) (aCons (eCall f_worth 3 0 [0, 1, 2] [] (aCons (eVar 3) (aCons (eVar 9) (aCons (eVar 10) aNil))) aNil) aNil))) aNil) aNil) (eCall f_worth 3 0 [0, 1, 2] [] (aCons (eVar 3) (aCons (eOp addD (eVar 7) (eVar 9)) (aCons (eOp addD (eVar 8) (eVar 10)) aNil))) aNil))) (sRet (eC (.bl false))) sPass) (sSeq (sSet 5 (eCall f__law_pick 2 0 [0, 1] [] (aCons (eVar 1) (aCons (eLst (aCons (eC .non) (aCons (eC (.int 5)) (aCons (eTup aNil) (aCons (eTup (aCons (eC (.str "at")) aNil)) (aCons (eTup (aCons (eC (.str "at")) (aCons (eC (.int 3)) aNil))) (aCons (eTup (aCons (eC (.str "at")) (aCons (eC (.int 3)) (aCons (eC (.int 0)) aNil)))) (aCons (eTup (aCons (eC (.str "at")) (aCons (eC (.bl true)) (aCons (eC (.int 1)) aNil)))) (aCons (eTup (aCons (eC (.str "at")) (aCons (eC (.int 3)) (aCons (eUn negD (eC (.int 1))) aNil)))) (aCons (eTup (aCons (eC (.str "steep")) (aCons (eC (.int 1)) aNil))) (aCons (eTup (aCons (eC (.str "flat")) (aCons (eC (.int 1)) (aCons (eC (.int 2)) aNil)))) (aCons (eTup (aCons (eC (.str "beyond")) (aCons (eC (.int 3)) (aCons (eC (.int 1)) aNil)))) (aCons (eTup (aCons (eC (.str "above")) (aCons (eC (.int 3)) aNil))) (aCons (eC (.str "steep")) (aCons (eTup (aCons (eC (.int 5)) (aCons (eC (.int 3)) (aCons (eC (.int 1)) aNil)))) (aCons (eLst (aCons (eC (.str "below")) (aCons (eC .non) (aCons (eC (.int 1)) aNil)))) (aCons eDisp0 aNil))))))))))))))))) aNil)) aNil)) (sSeq (sSet 6 (eCall f__law_pick 2 0 [0, 1] [] (aCons (eVar 1) (aCons (eLst (aCons (eC .non) (aCons (eC (.str "1")) (aCons (eC (.bl true)) (aCons (eTup aNil) (aCons (eOp mulA (eC (.int 5)) (eC (.str "a"))) (aCons eDisp0 aNil))))))) aNil)) aNil)) (sSeq (sIf (tOrD (tst (eOp isNotBD (eCall f_is_view 1 0 [0] [] (aCons (eVar 5) aNil) aNil) (eC (.bl false)))) (tst (eOp neD (eLam 5 b__law_heard 11 [5, 6] (eCall f_worth 3 0 [0, 1, 2] [] (aCons (eVar 5) (aCons (eVar 6) (aCons (eVar 6) aNil))) aNil)) (eTup (aCons (eC (.str "value")) (aCons (eC (.str "view")) aNil)))))) (sRet (eC (.bl false))) sPass) (sIf (tst (eOp neD (eLst (aCons (eLam 5 b__law_heard 11 [3, 6] (eCall f_worth 3 0 [0, 1, 2] [] (aCons (eVar 3) (aCons (eVar 6) (aCons (eVar 6) aNil))) aNil)) (aCons (eLam 5 b__law_heard 11 [3, 6, 7] (eCall f_worth 3 0 [0, 1, 2] [] (aCons (eVar 3) (aCons (eVar 7) (aCons (eVar 6) aNil))) aNil)) aNil))) (eLst (aCons (eTup (aCons (eC (.str "number")) (aCons (eC (.str "cost")) aNil))) (aCons (eTup (aCons (eC (.str "number")) (aCons (eC (.str "marks")) aNil))) aNil))))) (sRet (eC (.bl false))) sPass))))))))))) (sRet (eC (.bl true)))))
abbrev f_law : Fn := fnD 11 b_law
theorem ok_law (Z : Fa P w K mg bs) (hT : (Z.ct_law, (("law" : Str) ++ (".<locals>." : Str) ++ ("<lambda>" : Str))) ∈ T ∧ ∀ p ∈ T, p.1 = Z.ct_law → p.2 = (("law" : Str) ++ (".<locals>." : Str) ++ ("<lambda>" : Str))) : DOk P w ⟨K, mg, T⟩ bs 8 Z.a_law Z.d_law ["script"] f_law := dok_ofC Z.F_law sc_law fun cdv A outer s H E hcd hr =>
  (bx_cons (sx_set (i := 1) sc_law.nd rfl (by first | exact .inl rfl | exact .inr rfl) (ex_call (ok__law_pen Z) (hr.mono (by decide)) (by rfl) Z.g__law_pen Z.F__law_pen.kp (bnd_of (ix := [0]) (ks := []) Z.F__law_pen (fun _ _ _ _ _ _ us ws h1 h2 => match us, ws, h1, h2 with | [_], [], _, _ => rfl) (fun xs h => match xs, h with | [_], _ => rfl)) no_d tkC (ax_cons (ex_var (i := 0) (by rfl) (by first | exact .inl rfl | exact .inr (.inl rfl) | exact .inr (.inr rfl))) ax_nil))) (bx_cons (sx_forR1 poC rfl rfl Z.n_range ex_int (gx_name (i := 2) sc_law.nd rfl (by first | exact .inl rfl | exact .inr rfl)) (bx_cons (sx_set (i := 3) sc_law.nd rfl (by first | exact .inl rfl | exact .inr rfl) (ex_call (ok__law_pick Z) (hr.mono (by decide)) (by rfl) Z.g__law_pick Z.F__law_pick.kp (bnd_of (ix := [0, 1]) (ks := []) Z.F__law_pick (fun _ _ _ _ _ _ us ws h1 h2 => match us, ws, h1, h2 with | [_, _], [], _, _ => rfl) (fun xs h => match xs, h with | [_, _], _ => rfl)) no_d tkC (ax_cons (ex_var (i := 1) (by rfl) (by first | exact .inl rfl | exact .inr (.inl rfl) | exact .inr (.inr rfl))) (ax_cons (ex_lst (ax_cons (ex_call (ok__law_view Z) (hr.mono (by decide)) (by rfl) Z.g__law_view Z.F__law_view.kp (bnd_of (ix := [0]) (ks := []) Z.F__law_view (fun _ _ _ _ _ _ us ws h1 h2 => match us, ws, h1, h2 with | [_], [], _, _ => rfl) (fun xs h => match xs, h with | [_], _ => rfl)) no_d tkC (ax_cons (ex_var (i := 1) (by rfl) (by first | exact .inl rfl | exact .inr (.inl rfl) | exact .inr (.inr rfl))) ax_nil)) (ax_cons (ex_tup (ax_cons ex_str (ax_cons (ex_op op_sub o_sub (ex_call (ok__law_draw Z) (hr.mono (by decide)) (by rfl) Z.g__law_draw Z.F__law_draw.kp (bnd_of (ix := [0, 1]) (ks := []) Z.F__law_draw (fun _ _ _ _ _ _ us ws h1 h2 => match us, ws, h1, h2 with | [_, _], [], _, _ => rfl) (fun xs h => match xs, h with | [_, _], _ => rfl)) no_d tkC (ax_cons (ex_var (i := 1) (by rfl) (by first | exact .inl rfl | exact .inr (.inl rfl) | exact .inr (.inr rfl))) (ax_cons ex_int ax_nil))) ex_int) (ax_cons (ex_op h_add o_add ex_int (ex_call (ok__law_draw Z) (hr.mono (by decide)) (by rfl) Z.g__law_draw Z.F__law_draw.kp (bnd_of (ix := [0, 1]) (ks := []) Z.F__law_draw (fun _ _ _ _ _ _ us ws h1 h2 => match us, ws, h1, h2 with | [_, _], [], _, _ => rfl) (fun xs h => match xs, h with | [_, _], _ => rfl)) no_d tkC (ax_cons (ex_var (i := 1) (by rfl) (by first | exact .inl rfl | exact .inr (.inl rfl) | exact .inr (.inr rfl))) (ax_cons (ex_op op_pow o_pow ex_int ex_int) ax_nil)))) ax_nil)))) (ax_cons (ex_tup (ax_cons ex_str (ax_cons (ex_op op_sub o_sub ex_int (ex_call (ok__law_draw Z) (hr.mono (by decide)) (by rfl) Z.g__law_draw Z.F__law_draw.kp (bnd_of (ix := [0, 1]) (ks := []) Z.F__law_draw (fun _ _ _ _ _ _ us ws h1 h2 => match us, ws, h1, h2 with | [_, _], [], _, _ => rfl) (fun xs h => match xs, h with | [_, _], _ => rfl)) no_d tkC (ax_cons (ex_var (i := 1) (by rfl) (by first | exact .inl rfl | exact .inr (.inl rfl) | exact .inr (.inr rfl))) (ax_cons (ex_op op_pow o_pow ex_int ex_int) ax_nil)))) (ax_cons ex_int ax_nil)))) ax_nil)))) ax_nil)))) (bx_cons (sx_asg (ex_tup (ax_cons (ex_op op_sub o_sub (ex_call (ok__law_draw Z) (hr.mono (by decide)) (by rfl) Z.g__law_draw Z.F__law_draw.kp (bnd_of (ix := [0, 1]) (ks := []) Z.F__law_draw (fun _ _ _ _ _ _ us ws h1 h2 => match us, ws, h1, h2 with | [_, _], [], _, _ => rfl) (fun xs h => match xs, h with | [_, _], _ => rfl)) no_d tkC (ax_cons (ex_var (i := 1) (by rfl) (by first | exact .inl rfl | exact .inr (.inl rfl) | exact .inr (.inr rfl))) (ax_cons (ex_call (ok__law_pick Z) (hr.mono (by decide)) (by rfl) Z.g__law_pick Z.F__law_pick.kp (bnd_of (ix := [0, 1]) (ks := []) Z.F__law_pick (fun _ _ _ _ _ _ us ws h1 h2 => match us, ws, h1, h2 with | [_, _], [], _, _ => rfl) (fun xs h => match xs, h with | [_, _], _ => rfl)) no_d tkC (ax_cons (ex_var (i := 1) (by rfl) (by first | exact .inl rfl | exact .inr (.inl rfl) | exact .inr (.inr rfl))) (ax_cons (ex_lst (ax_cons ex_int (ax_cons (ex_op op_pow o_pow ex_int ex_int) ax_nil))) ax_nil))) ax_nil))) ex_int) (ax_cons (ex_op op_sub o_sub (ex_call (ok__law_draw Z) (hr.mono (by decide)) (by rfl) Z.g__law_draw Z.F__law_draw.kp (bnd_of (ix := [0, 1]) (ks := []) Z.F__law_draw (fun _ _ _ _ _ _ us ws h1 h2 => match us, ws, h1, h2 with | [_, _], [], _, _ => rfl) (fun xs h => match xs, h with | [_, _], _ => rfl)) no_d tkC (ax_cons (ex_var (i := 1) (by rfl) (by first | exact .inl rfl | exact .inr (.inl rfl) | exact .inr (.inr rfl))) (ax_cons (ex_call (ok__law_pick Z) (hr.mono (by decide)) (by rfl) Z.g__law_pick Z.F__law_pick.kp (bnd_of (ix := [0, 1]) (ks := []) Z.F__law_pick (fun _ _ _ _ _ _ us ws h1 h2 => match us, ws, h1, h2 with | [_, _], [], _, _ => rfl) (fun xs h => match xs, h with | [_, _], _ => rfl)) no_d tkC (ax_cons (ex_var (i := 1) (by rfl) (by first | exact .inl rfl | exact .inr (.inl rfl) | exact .inr (.inr rfl))) (ax_cons (ex_lst (ax_cons ex_int (ax_cons (ex_op op_pow o_pow ex_int ex_int) ax_nil))) ax_nil))) ax_nil))) ex_int) ax_nil))) (gx_seq rfl (gxs_cons (gx_name (i := 7) sc_law.nd rfl (by first | exact .inl rfl | exact .inr rfl)) (gxs_cons (gx_name (i := 8) sc_law.nd rfl (by first | exact .inl rfl | exact .inr rfl)) gxs_nil)))) (bx_cons (sx_set (i := 4) sc_law.nd rfl (by first | exact .inl rfl | exact .inr rfl) (ex_call (ok__law_worth Z) (hr.mono (by decide)) (by rfl) Z.g__law_worth Z.F__law_worth.kp (bnd_of (ix := [0, 1, 2]) (ks := []) Z.F__law_worth (fun _ _ _ _ _ _ us ws h1 h2 => match us, ws, h1, h2 with | [_, _, _], [], _, _ => rfl) (fun xs h => match xs, h with | [_, _, _], _ => rfl)) no_d tkC (ax_cons (ex_var (i := 3) (by rfl) (by first | exact .inl rfl | exact .inr (.inl rfl) | exact .inr (.inr rfl))) (ax_cons (ex_var (i := 7) (by rfl) (by first | exact .inl rfl | exact .inr (.inl rfl) | exact .inr (.inr rfl))) (ax_cons (ex_var (i := 8) (by rfl) (by first | exact .inl rfl | exact .inr (.inl rfl) | exact .inr (.inr rfl))) ax_nil))))) (bx_cons (sx_if (tx_bool (wx_or (tx_cmp (op_neA hr.u64) o_ne (ex_callB (call_repr hr.2 hr.u) c_repr (by rfl) Z.n_repr (by rfl) (ax_cons (ex_call (ok_worth Z) (hr.mono (by decide)) (by rfl) Z.g_worth Z.F_worth.kp (bnd_of (ix := [0, 1, 2]) (ks := []) Z.F_worth (fun _ _ _ _ _ _ us ws h1 h2 => match us, ws, h1, h2 with | [_, _, _], [], _, _ => rfl) (fun xs h => match xs, h with | [_, _, _], _ => rfl)) no_d tkC (ax_cons (ex_var (i := 3) (by rfl) (by first | exact .inl rfl | exact .inr (.inl rfl) | exact .inr (.inr rfl))) (ax_cons (ex_var (i := 7) (by rfl) (by first | exact .inl rfl | exact .inr (.inl rfl) | exact .inr (.inr rfl))) (ax_cons (ex_var (i := 8) (by rfl) (by first | exact .inl rfl | exact .inr (.inl rfl) | exact .inr (.inr rfl))) ax_nil)))) ax_nil)) (ex_callB (call_repr hr.2 hr.u) c_repr (by rfl) Z.n_repr (by rfl) (ax_cons (ex_var (i := 4) (by rfl) (by first | exact .inl rfl | exact .inr (.inl rfl) | exact .inr (.inr rfl))) ax_nil)) (nomark _)) (wx_or (tx_cmp (op_neA hr.u64) o_ne (ex_callK0 (ok_worth Z) (hr.mono (by decide)) (by rfl) Z.g_worth Z.F_worth.kp (bnd_of (ix := [2, 1, 0]) (ks := ["marks", "cost", "view"]) Z.F_worth (fun _ _ _ _ _ _ us ws h1 h2 => match us, ws, h1, h2 with | [], [_, _, _], _, _ => rfl) (fun xs h => match xs, h with | [_, _, _], _ => rfl)) no_d tkC (kx_cons (ex_var (i := 8) (by rfl) (by first | exact .inl rfl | exact .inr (.inl rfl) | exact .inr (.inr rfl))) (kx_cons (ex_var (i := 7) (by rfl) (by first | exact .inl rfl | exact .inr (.inl rfl) | exact .inr (.inr rfl))) (kx_cons (ex_callTy call_list_of c_list (by rfl) Z.n_list (by rfl) (ax_cons (ex_var (i := 3) (by rfl) (by first | exact .inl rfl | exact .inr (.inl rfl) | exact .inr (.inr rfl))) ax_nil)) kx_nil)))) (ex_var (i := 4) (by rfl) (by first | exact .inl rfl | exact .inr (.inl rfl) | exact .inr (.inr rfl))) (nomark _)) (wx_or (tx_cmp op_notBl o_isNotB (ex_call (ok_is_view Z) (hr.mono (by decide)) (by rfl) Z.g_is_view Z.F_is_view.kp (bnd_of (ix := [0]) (ks := []) Z.F_is_view (fun _ _ _ _ _ _ us ws h1 h2 => match us, ws, h1, h2 with | [_], [], _, _ => rfl) (fun xs h => match xs, h with | [_], _ => rfl)) no_d tkC (ax_cons (ex_var (i := 3) (by rfl) (by first | exact .inl rfl | exact .inr (.inl rfl) | exact .inr (.inr rfl))) ax_nil)) ex_bl (nomark _)) (wx_or1 (tx_cmp op_notBl o_isNotB (ex_callK0 (ok_is_view Z) (hr.mono (by decide)) (by rfl) Z.g_is_view Z.F_is_view.kp (bnd_of (ix := [0]) (ks := ["value"]) Z.F_is_view (fun _ _ _ _ _ _ us ws h1 h2 => match us, ws, h1, h2 with | [], [_], _, _ => rfl) (fun xs h => match xs, h with | [_], _ => rfl)) no_d tkC (kx_cons (ex_callTy call_list_of c_list (by rfl) Z.n_list (by rfl) (ax_cons (ex_var (i := 3) (by rfl) (by first | exact .inl rfl | exact .inr (.inl rfl) | exact .inr (.inr rfl))) ax_nil)) kx_nil)) ex_bl (nomark _))))))) (bx_one (sx_ret ex_bl)) bx_nil) (bx_cons (sx_par (i := 9) (j := 10) rfl sc_law.nd rfl rfl (by decide) rfl rfl (ax_cons (ex_call (ok__law_draw Z) (hr.mono (by decide)) (by rfl) Z.g__law_draw Z.F__law_draw.kp (bnd_of (ix := [0, 1]) (ks := []) Z.F__law_draw (fun _ _ _ _ _ _ us ws h1 h2 => match us, ws, h1, h2 with | [_, _], [], _, _ => rfl) (fun xs h => match xs, h with | [_, _], _ => rfl)) no_d tkC (ax_cons (ex_var (i := 1) (by rfl) (by first | exact .inl rfl | exact .inr (.inl rfl) | exact .inr (.inr rfl))) (ax_cons ex_int ax_nil))) (ax_cons (ex_call (ok__law_draw Z) (hr.mono (by decide)) (by rfl) Z.g__law_draw Z.F__law_draw.kp (bnd_of (ix := [0, 1]) (ks := []) Z.F__law_draw (fun _ _ _ _ _ _ us ws h1 h2 => match us, ws, h1, h2 with | [_, _], [], _, _ => rfl) (fun xs h => match xs, h with | [_, _], _ => rfl)) no_d tkC (ax_cons (ex_var (i := 1) (by rfl) (by first | exact .inl rfl | exact .inr (.inl rfl) | exact .inr (.inr rfl))) (ax_cons ex_int ax_nil))) ax_nil)) rfl) (bx_cons (sx_if (tx_cmp (op_neA hr.u64) o_ne (ex_call (ok__law_sum Z) (hr.mono (by decide)) (by rfl) Z.g__law_sum Z.F__law_sum.kp (bnd_of (ix := [0]) (ks := []) Z.F__law_sum (fun _ _ _ _ _ _ us ws h1 h2 => match us, ws, h1, h2 with | [_], [], _, _ => rfl) (fun xs h => match xs, h with | [_], _ => rfl)) no_d tkC (ax_cons (ex_lst (ax_cons (ex_call (ok_worth Z) (hr.mono (by decide)) (by rfl) Z.g_worth Z.F_worth.kp (bnd_of (ix := [0, 1, 2]) (ks := []) Z.F_worth (fun _ _ _ _ _ _ us ws h1 h2 => match us, ws, h1, h2 with | [_, _, _], [], _, _ => rfl) (fun xs h => match xs, h with | [_, _, _], _ => rfl)) no_d tkC (ax_cons (ex_var (i := 3) (by rfl) (by first | exact .inl rfl | exact .inr (.inl rfl) | exact .inr (.inr rfl))) (ax_cons (ex_var (i := 7) (by rfl) (by first | exact .inl rfl | exact .inr (.inl rfl) | exact .inr (.inr rfl))) (ax_cons (ex_var (i := 8) (by rfl) (by first | exact .inl rfl | exact .inr (.inl rfl) | exact .inr (.inr rfl))) ax_nil)))) (ax_cons (ex_call (ok_worth Z) (hr.mono (by decide)) (by rfl) Z.g_worth Z.F_worth.kp (bnd_of (ix := [0, 1, 2]) (ks := []) Z.F_worth (fun _ _ _ _ _ _ us ws h1 h2 => match us, ws, h1, h2 with | [_, _, _], [], _, _ => rfl) (fun xs h => match xs, h with | [_, _, _], _ => rfl)) no_d tkC (ax_cons (ex_var (i := 3) (by rfl) (by first | exact .inl rfl | exact .inr (.inl rfl) | exact .inr (.inr rfl))) (ax_cons (ex_var (i := 9) (by rfl) (by first | exact .inl rfl | exact .inr (.inl rfl) | exact .inr (.inr rfl))) (ax_cons (ex_var (i := 10) (by rfl) (by first | exact .inl rfl | exact .inr (.inl rfl) | exact .inr (.inr rfl))) ax_nil)))) ax_nil))) ax_nil)) (ex_call (ok_worth Z) (hr.mono (by decide)) (by rfl) Z.g_worth Z.F_worth.kp (bnd_of (ix := [0, 1, 2]) (ks := []) Z.F_worth (fun _ _ _ _ _ _ us ws h1 h2 => match us, ws, h1, h2 with | [_, _, _], [], _, _ => rfl) (fun xs h => match xs, h with | [_, _, _], _ => rfl)) no_d tkC (ax_cons (ex_var (i := 3) (by rfl) (by first | exact .inl rfl | exact .inr (.inl rfl) | exact .inr (.inr rfl))) (ax_cons (ex_op h_add o_add (ex_var (i := 7) (by rfl) (by first | exact .inl rfl | exact .inr (.inl rfl) | exact .inr (.inr rfl))) (ex_var (i := 9) (by rfl) (by first | exact .inl rfl | exact .inr (.inl rfl) | exact .inr (.inr rfl)))) (ax_cons (ex_op h_add o_add (ex_var (i := 8) (by rfl) (by first | exact .inl rfl | exact .inr (.inl rfl) | exact .inr (.inr rfl))) (ex_var (i := 10) (by rfl) (by first | exact .inl rfl | exact .inr (.inl rfl) | exact .inr (.inr rfl)))) ax_nil)))) (nomark _)) (bx_one (sx_ret ex_bl)) bx_nil) (bx_cons (sx_set (i := 5) sc_law.nd rfl (by first | exact .inl rfl | exact .inr rfl) (ex_call (ok__law_pick Z) (hr.mono (by decide)) (by rfl) Z.g__law_pick Z.F__law_pick.kp (bnd_of (ix := [0, 1]) (ks := []) Z.F__law_pick (fun _ _ _ _ _ _ us ws h1 h2 => match us, ws, h1, h2 with | [_, _], [], _, _ => rfl) (fun xs h => match xs, h with | [_, _], _ => rfl)) no_d tkC (ax_cons (ex_var (i := 1) (by rfl) (by first | exact .inl rfl | exact .inr (.inl rfl) | exact .inr (.inr rfl))) (ax_cons (ex_lst (ax_cons ex_non (ax_cons ex_int (ax_cons (ex_tup ax_nil) (ax_cons (ex_tup (ax_cons ex_str ax_nil)) (ax_cons (ex_tup (ax_cons ex_str (ax_cons ex_int ax_nil))) (ax_cons (ex_tup (ax_cons ex_str (ax_cons ex_int (ax_cons ex_int ax_nil)))) (ax_cons (ex_tup (ax_cons ex_str (ax_cons ex_bl (ax_cons ex_int ax_nil)))) (ax_cons (ex_tup (ax_cons ex_str (ax_cons ex_int (ax_cons (ex_un un_neg o_neg ex_int) ax_nil)))) (ax_cons (ex_tup (ax_cons ex_str (ax_cons ex_int ax_nil))) (ax_cons (ex_tup (ax_cons ex_str (ax_cons ex_int (ax_cons ex_int ax_nil)))) (ax_cons (ex_tup (ax_cons ex_str (ax_cons ex_int (ax_cons ex_int ax_nil)))) (ax_cons (ex_tup (ax_cons ex_str (ax_cons ex_int ax_nil))) (ax_cons ex_str (ax_cons (ex_tup (ax_cons ex_int (ax_cons ex_int (ax_cons ex_int ax_nil)))) (ax_cons (ex_lst (ax_cons ex_str (ax_cons ex_non (ax_cons ex_int ax_nil)))) (ax_cons ex_disp0 ax_nil))))))))))))))))) ax_nil)))) (bx_cons (sx_set (i := 6) sc_law.nd rfl (by first | exact .inl rfl | exact .inr rfl) (ex_call (ok__law_pick Z) (hr.mono (by decide)) (by rfl) Z.g__law_pick Z.F__law_pick.kp (bnd_of (ix := [0, 1]) (ks := []) Z.F__law_pick (fun _ _ _ _ _ _ us ws h1 h2 => match us, ws, h1, h2 with | [_, _], [], _, _ => rfl) (fun xs h => match xs, h with | [_, _], _ => rfl)) no_d tkC (ax_cons (ex_var (i := 1) (by rfl) (by first | exact .inl rfl | exact .inr (.inl rfl) | exact .inr (.inr rfl))) (ax_cons (ex_lst (ax_cons ex_non (ax_cons ex_str (ax_cons ex_bl (ax_cons (ex_tup ax_nil) (ax_cons (ex_op h_mulA o_mulA ex_int ex_str) (ax_cons ex_disp0 ax_nil))))))) ax_nil)))) (bx_cons (sx_if (tx_bool (wx_or (tx_cmp op_notBl o_isNotB (ex_call (ok_is_view Z) (hr.mono (by decide)) (by rfl) Z.g_is_view Z.F_is_view.kp (bnd_of (ix := [0]) (ks := []) Z.F_is_view (fun _ _ _ _ _ _ us ws h1 h2 => match us, ws, h1, h2 with | [_], [], _, _ => rfl) (fun xs h => match xs, h with | [_], _ => rfl)) no_d tkC (ax_cons (ex_var (i := 5) (by rfl) (by first | exact .inl rfl | exact .inr (.inl rfl) | exact .inr (.inr rfl))) ax_nil)) ex_bl (nomark _)) (wx_or1 (tx_cmp (op_neA hr.u64) o_ne (ex_lamF (k := 5) (cap := [5, 6]) Z.F__law_heard (by rfl) Z.g__law_heard (Z.F__law_heard.bindsN fun _ _ _ _ _ _ us hl => match us, hl with | [_], _ => rfl) sc__law_heard (by rfl) (by first | exact .inl rfl | exact .inr (.inl rfl) | exact .inr (.inr rfl)) (fun cdv A outer s H E lm act hr hact => lam__law_heard Z cdv A outer s H E lm act hr hact) Z.tb_law (hcd.symm.trans Z.cc_law) hT.1 hT.2 (hr.mono (by decide)) (LamX.lamS_by (sc := defScope (top 34)) (by decide +kernel)) (by rfl) (fun _ _ _ _ _ => by rfl) (fun A outer s H E f c hr => (ex_call (ok_worth Z) (hr.mono (by decide)) (by rfl) Z.g_worth Z.F_worth.kp (bnd_of (ix := [0, 1, 2]) (ks := []) Z.F_worth (fun _ _ _ _ _ _ us ws h1 h2 => match us, ws, h1, h2 with | [_, _, _], [], _, _ => rfl) (fun xs h => match xs, h with | [_, _, _], _ => rfl)) no_d tkL (ax_cons (ex_var (i := 5) (by rfl) (by first | exact .inl rfl | exact .inr (.inl rfl) | exact .inr (.inr rfl))) (ax_cons (ex_var (i := 6) (by rfl) (by first | exact .inl rfl | exact .inr (.inl rfl) | exact .inr (.inr rfl))) (ax_cons (ex_var (i := 6) (by rfl) (by first | exact .inl rfl | exact .inr (.inl rfl) | exact .inr (.inr rfl))) ax_nil))))) tkC) (ex_tup (ax_cons ex_str (ax_cons ex_str ax_nil))) (nomark _))))) (bx_one (sx_ret ex_bl)) bx_nil) (bx_one (sx_if (tx_cmp (op_neA hr.u64) o_ne (ex_lst (ax_cons (ex_lamF (k := 5) (cap := [3, 6]) Z.F__law_heard (by rfl) Z.g__law_heard (Z.F__law_heard.bindsN fun _ _ _ _ _ _ us hl => match us, hl with | [_], _ => rfl) sc__law_heard (by rfl) (by first | exact .inl rfl | exact .inr (.inl rfl) | exact .inr (.inr rfl)) (fun cdv A outer s H E lm act hr hact => lam__law_heard Z cdv A outer s H E lm act hr hact) Z.tb_law (hcd.symm.trans Z.cc_law) hT.1 hT.2 (hr.mono (by decide)) (LamX.lamS_by (sc := defScope (top 34)) (by decide +kernel)) (by rfl) (fun _ _ _ _ _ => by rfl) (fun A outer s H E f c hr => (ex_call (ok_worth Z) (hr.mono (by decide)) (by rfl) Z.g_worth Z.F_worth.kp (bnd_of (ix := [0, 1, 2]) (ks := []) Z.F_worth (fun _ _ _ _ _ _ us ws h1 h2 => match us, ws, h1, h2 with | [_, _, _], [], _, _ => rfl) (fun xs h => match xs, h with | [_, _, _], _ => rfl)) no_d tkL (ax_cons (ex_var (i := 3) (by rfl) (by first | exact .inl rfl | exact .inr (.inl rfl) | exact .inr (.inr rfl))) (ax_cons (ex_var (i := 6) (by rfl) (by first | exact .inl rfl | exact .inr (.inl rfl) | exact .inr (.inr rfl))) (ax_cons (ex_var (i := 6) (by rfl) (by first | exact .inl rfl | exact .inr (.inl rfl) | exact .inr (.inr rfl))) ax_nil))))) tkC) (ax_cons (ex_lamD (k := 5) (cap := [3, 6, 7]) (a1 := "a1") Z.F__law_heard (by rfl) Z.g__law_heard (Z.F__law_heard.bindsN fun _ _ _ _ _ _ us hl => match us, hl with | [_], _ => rfl) sc__law_heard (by rfl) (by first | exact .inl rfl | exact .inr (.inl rfl) | exact .inr (.inr rfl)) (fun cdv A outer s H E lm act hr hact => lam__law_heard Z cdv A outer s H E lm act hr hact) Z.tb_law (hcd.symm.trans Z.cc_law) hT.1 hT.2 (hr.mono (by decide)) (lamSD_by (N := ["script", "pen", "turn", "view", "due", "bad", "odd", "cost", "marks", "more", "other"]) (sc := defScope (top 34)) (by decide +kernel)) (by rfl) (by rfl) pe_int (fun _ _ _ _ _ _ _ _ => ⟨_, by rfl, by rfl⟩) (fun A outer s H E f c hr => (ex_call (ok_worth Z) (hr.mono (by decide)) (by rfl) Z.g_worth Z.F_worth.kp (bnd_of (ix := [0, 1, 2]) (ks := []) Z.F_worth (fun _ _ _ _ _ _ us ws h1 h2 => match us, ws, h1, h2 with | [_, _, _], [], _, _ => rfl) (fun xs h => match xs, h with | [_, _, _], _ => rfl)) no_d tkL (ax_cons (ex_var (i := 3) (by rfl) (by first | exact .inl rfl | exact .inr (.inl rfl) | exact .inr (.inr rfl))) (ax_cons (ex_var (i := 7) (by rfl) (by first | exact .inl rfl | exact .inr (.inl rfl) | exact .inr (.inr rfl))) (ax_cons (ex_var (i := 6) (by rfl) (by first | exact .inl rfl | exact .inr (.inl rfl) | exact .inr (.inr rfl))) ax_nil))))) tkC) ax_nil))) (ex_lst (ax_cons (ex_tup (ax_cons ex_str (ax_cons ex_str ax_nil))) (ax_cons (ex_tup (ax_cons ex_str (ax_cons ex_str ax_nil))) ax_nil))) (nomark _)) (bx_one (sx_ret ex_bl)) bx_nil)))))))))))) (bx_one (sx_ret ex_bl))))

end
end G

namespace G
open PySem PySem.Spec PyProof.Rows L2 DL
def clsB : Stmt → List Stmt
  | .ClassDef (body := b) .. => b
  | _ => []
def meth (i j : Nat) : Stmt := (clsB (top i)).getD j (.Pass ⟨0, 0, 0, 0⟩)
def fa : List He.Fa := ([.str "ABOVE" "above", .str "AT" "at", .str "BELOW" "below", .glo "BadFunction", .glo "BadNumber", .glo "BadRow", .glo "BadText", .glo "BadValue", .glo "BadWord", .str "FLAT" "flat", .glo "Misfit", .glo "NoName", .glo "Nothing", .glo "PerError", .str "STEEP" "steep", .glo "TooMany", .glo "_law_draw", .glo "_law_heard", .glo "_law_pen", .glo "_law_pick"] : List He.Fa) ++ ([.glo "_law_sum", .glo "_law_view", .glo "_law_worth", .free "abs", .free "bool", .free "int", .glo "is_integer", .glo "is_listed", .glo "is_row", .glo "is_view", .free "isinstance", .glo "law", .free "len", .free "list", .glo "need_view", .free "range", .free "repr", .free "str", .free "sum", .free "tuple"] : List He.Fa) ++ ([.glo "worth", .glo "worth_of", .free "super"] : List He.Fa) ++ errs.map He.Fa.glo
def mkD (x : Str) (i : Nat) : He.DefD := ⟨(x, none), x, x, defArgs (top i), defBody (top i), defScope (top i), [], []⟩
def fn : List He.DefD := ([mkD "_law_draw" 28, mkD "_law_heard" 30, mkD "_law_pen" 27, mkD "_law_pick" 29, mkD "_law_sum" 32, mkD "_law_view" 33, mkD "_law_worth" 31, mkD "is_integer" 1, mkD "is_listed" 2, mkD "is_row" 3, mkD "is_view" 22, mkD "law" 34, mkD "need_view" 23, mkD "worth" 25, mkD "worth_of" 24] : List He.DefD)
def xcd (x q : Str) (i j : Nat) (fl : List Str) : XcD := ⟨x, q, defArgs (meth i j), defBody (meth i j), defScope (meth i j), fl⟩
def xs : List XcD := ([xcd "BadValue" "BadValue.__init__" 6 0 ["part"], xcd "BadNumber" "BadNumber.__init__" 7 0 ["part"], xcd "BadFunction" "BadFunction.__init__" 8 0 ["index"], xcd "BadRow" "BadRow.__init__" 9 0 ["function", "block", "row"], xcd "BadWord" "BadWord.__init__" 10 0 ["word"], xcd "BadText" "BadText.__init__" 11 0 ["line", "word"], xcd "NoName" "NoName.__init__" 12 0 ["name"], xcd "Misfit" "Misfit.__init__" 13 0 ["part"], xcd "Nothing" "Nothing.__init__" 14 0 ["word"], xcd "TooMany" "TooMany.__init__" 15 0 ["what", "most"]] : List XcD)
def ss : List (Str × Str × Bool) := ([("BadValue", "PerError", true), ("BadValue", "BadValue", true), ("BadValue", "BadNumber", false), ("BadValue", "BadFunction", false), ("BadValue", "BadRow", false), ("BadValue", "BadWord", false), ("BadValue", "BadText", false), ("BadValue", "NoName", false), ("BadValue", "Misfit", false), ("BadValue", "Nothing", false), ("BadValue", "TooMany", false), ("BadNumber", "PerError", true), ("BadNumber", "BadValue", false), ("BadNumber", "BadNumber", true), ("BadNumber", "BadFunction", false), ("BadNumber", "BadRow", false), ("BadNumber", "BadWord", false), ("BadNumber", "BadText", false), ("BadNumber", "NoName", false), ("BadNumber", "Misfit", false)] : List (Str × Str × Bool)) ++ ([("BadNumber", "Nothing", false), ("BadNumber", "TooMany", false), ("BadFunction", "PerError", true), ("BadFunction", "BadValue", false), ("BadFunction", "BadNumber", false), ("BadFunction", "BadFunction", true), ("BadFunction", "BadRow", false), ("BadFunction", "BadWord", false), ("BadFunction", "BadText", false), ("BadFunction", "NoName", false), ("BadFunction", "Misfit", false), ("BadFunction", "Nothing", false), ("BadFunction", "TooMany", false), ("BadRow", "PerError", true), ("BadRow", "BadValue", false), ("BadRow", "BadNumber", false), ("BadRow", "BadFunction", false), ("BadRow", "BadRow", true), ("BadRow", "BadWord", false), ("BadRow", "BadText", false)] : List (Str × Str × Bool)) ++ ([("BadRow", "NoName", false), ("BadRow", "Misfit", false), ("BadRow", "Nothing", false), ("BadRow", "TooMany", false), ("BadWord", "PerError", true), ("BadWord", "BadValue", false), ("BadWord", "BadNumber", false), ("BadWord", "BadFunction", false), ("BadWord", "BadRow", false), ("BadWord", "BadWord", true), ("BadWord", "BadText", false), ("BadWord", "NoName", false), ("BadWord", "Misfit", false), ("BadWord", "Nothing", false), ("BadWord", "TooMany", false), ("BadText", "PerError", true), ("BadText", "BadValue", false), ("BadText", "BadNumber", false), ("BadText", "BadFunction", false), ("BadText", "BadRow", false)] : List (Str × Str × Bool)) ++ ([("BadText", "BadWord", false), ("BadText", "BadText", true), ("BadText", "NoName", false), ("BadText", "Misfit", false), ("BadText", "Nothing", false), ("BadText", "TooMany", false), ("NoName", "PerError", true), ("NoName", "BadValue", false), ("NoName", "BadNumber", false), ("NoName", "BadFunction", false), ("NoName", "BadRow", false), ("NoName", "BadWord", false), ("NoName", "BadText", false), ("NoName", "NoName", true), ("NoName", "Misfit", false), ("NoName", "Nothing", false), ("NoName", "TooMany", false), ("Misfit", "PerError", true), ("Misfit", "BadValue", false), ("Misfit", "BadNumber", false)] : List (Str × Str × Bool)) ++ ([("Misfit", "BadFunction", false), ("Misfit", "BadRow", false), ("Misfit", "BadWord", false), ("Misfit", "BadText", false), ("Misfit", "NoName", false), ("Misfit", "Misfit", true), ("Misfit", "Nothing", false), ("Misfit", "TooMany", false), ("Nothing", "PerError", true), ("Nothing", "BadValue", false), ("Nothing", "BadNumber", false), ("Nothing", "BadFunction", false), ("Nothing", "BadRow", false), ("Nothing", "BadWord", false), ("Nothing", "BadText", false), ("Nothing", "NoName", false), ("Nothing", "Misfit", false), ("Nothing", "Nothing", true), ("Nothing", "TooMany", false), ("TooMany", "PerError", true)] : List (Str × Str × Bool)) ++ ([("TooMany", "BadValue", false), ("TooMany", "BadNumber", false), ("TooMany", "BadFunction", false), ("TooMany", "BadRow", false), ("TooMany", "BadWord", false), ("TooMany", "BadText", false), ("TooMany", "NoName", false), ("TooMany", "Misfit", false), ("TooMany", "Nothing", false), ("TooMany", "TooMany", true)] : List (Str × Str × Bool))
abbrev R : PySem.W.OpenRow := PySem.W.OpenLaw.row PySem.Challenge.rw_peranswer_k20_what_views_weigh
abbrev file : Str := PySem.Challenge.pw_peranswer_k20_what_views_weigh.main.file
abbrev hk : PySem.W.Hook := hookX 6 file fa fn xs ss
def ob (s : PySem.W.SharedT) : AlX := obsXG 6 file fa fn xs ss (HandSHeadRun.getT s)
def names : List PySem.Str := (["is_integer", "is_listed", "is_row", "PerError", "BadValue", "BadNumber", "BadFunction", "BadRow", "BadWord", "BadText", "NoName", "Misfit", "Nothing", "TooMany", "AT", "BELOW", "ABOVE", "STEEP", "FLAT", "is_view"] : List PySem.Str) ++ (["need_view", "worth_of", "worth", "_law_pen", "_law_draw", "_law_pick", "_law_heard", "_law_worth", "_law_sum", "_law_view"] : List PySem.Str)
theorem ob_eq (s : PySem.W.SharedT) : ob s = hk.obs s.abs := obsXG_eq (HandSHeadRun.getT_eq s)
theorem run (w : World) : HandSHeadRun.RunEq R (PySem.W.view R.prog [34]) hk ob 4000 names w := by
  intro os
  kernel_rfl

theorem xs_cls : xs.map (·.cls) = errsI := rfl
theorem ss_all : ∀ c ∈ errsI, ∀ y ∈ errs, (c, y, decide (c = y) || decide (y = "PerError")) ∈ ss := by decide +kernel
theorem fld_all : ∀ x l, fldL.lookup x = some l → ∀ f ∈ l, ∃ d ∈ xs, d.cls = x ∧ f ∈ d.flds := fun x l h f hf => by
  have e : fldL = xs.map (fun d => (d.cls, d.flds)) := rfl
  have m := PySem.mem_of_lookup h
  rw [e] at m
  obtain ⟨d, hd, q⟩ := List.mem_map.mp m
  cases q
  exact ⟨d, hd, rfl, hf⟩

theorem fi_BadValue {w : World} {K : PySem.W.Frag} {mg : Str → Option Value} {bs : Heap} {fd : FuncData} (o : XcOk PySem.Challenge.pw_peranswer_k20_what_views_weigh K (xcd "BadValue" "BadValue.__init__" 6 0 ["part"]) fd) (hms : mg "super" = none) :
    FnOk PySem.Challenge.pw_peranswer_k20_what_views_weigh w K mg bs (L2.CX PySem.Challenge.pw_peranswer_k20_what_views_weigh w) 1 (iAd K (xcd "BadValue" "BadValue.__init__" 6 0 ["part"])) fd ["self", "part"] (spI (He.ga K "BadValue") ["part"]) :=
  init_ok (N := ["self", "part"]) (k := 0) (js := [1]) o.init ⟨rfl, rfl, rfl, by decide +kernel, rfl, by decide +kernel, by decide +kernel, by decide +kernel⟩ rfl rfl rfl rfl hms rfl (by simp) (by decide) o.fl rfl (by decide) ⟨_, fun env => rfl⟩ (fun env => rfl) (by decide) (fun env => rfl) (fun env => rfl)
    (fun cdv cc A outer s H E => ⟨(tCons (tVar 1) tNil), (pa_cons (pe_var (i := 1) rfl (.inl rfl)) pa_nil), fun σ H Q h q => by obtain ⟨v1, h1⟩ := h 1 (by simp); exact ⟨v1, h1, q [v1] rfl⟩⟩) (fun cdv cc A outer s H E => (pss_cons (ps_ost (pe_var (i := 0) rfl (.inl rfl)) (pe_var (i := 1) rfl (.inl rfl))) pss_nil))
theorem fi_BadNumber {w : World} {K : PySem.W.Frag} {mg : Str → Option Value} {bs : Heap} {fd : FuncData} (o : XcOk PySem.Challenge.pw_peranswer_k20_what_views_weigh K (xcd "BadNumber" "BadNumber.__init__" 7 0 ["part"]) fd) (hms : mg "super" = none) :
    FnOk PySem.Challenge.pw_peranswer_k20_what_views_weigh w K mg bs (L2.CX PySem.Challenge.pw_peranswer_k20_what_views_weigh w) 1 (iAd K (xcd "BadNumber" "BadNumber.__init__" 7 0 ["part"])) fd ["self", "part"] (spI (He.ga K "BadNumber") ["part"]) :=
  init_ok (N := ["self", "part"]) (k := 0) (js := [1]) o.init ⟨rfl, rfl, rfl, by decide +kernel, rfl, by decide +kernel, by decide +kernel, by decide +kernel⟩ rfl rfl rfl rfl hms rfl (by simp) (by decide) o.fl rfl (by decide) ⟨_, fun env => rfl⟩ (fun env => rfl) (by decide) (fun env => rfl) (fun env => rfl)
    (fun cdv cc A outer s H E => ⟨(tCons (tVar 1) tNil), (pa_cons (pe_var (i := 1) rfl (.inl rfl)) pa_nil), fun σ H Q h q => by obtain ⟨v1, h1⟩ := h 1 (by simp); exact ⟨v1, h1, q [v1] rfl⟩⟩) (fun cdv cc A outer s H E => (pss_cons (ps_ost (pe_var (i := 0) rfl (.inl rfl)) (pe_var (i := 1) rfl (.inl rfl))) pss_nil))
theorem fi_BadFunction {w : World} {K : PySem.W.Frag} {mg : Str → Option Value} {bs : Heap} {fd : FuncData} (o : XcOk PySem.Challenge.pw_peranswer_k20_what_views_weigh K (xcd "BadFunction" "BadFunction.__init__" 8 0 ["index"]) fd) (hms : mg "super" = none) :
    FnOk PySem.Challenge.pw_peranswer_k20_what_views_weigh w K mg bs (L2.CX PySem.Challenge.pw_peranswer_k20_what_views_weigh w) 1 (iAd K (xcd "BadFunction" "BadFunction.__init__" 8 0 ["index"])) fd ["self", "index"] (spI (He.ga K "BadFunction") ["index"]) :=
  init_ok (N := ["self", "index"]) (k := 0) (js := [1]) o.init ⟨rfl, rfl, rfl, by decide +kernel, rfl, by decide +kernel, by decide +kernel, by decide +kernel⟩ rfl rfl rfl rfl hms rfl (by simp) (by decide) o.fl rfl (by decide) ⟨_, fun env => rfl⟩ (fun env => rfl) (by decide) (fun env => rfl) (fun env => rfl)
    (fun cdv cc A outer s H E => ⟨(tCons (tVar 1) tNil), (pa_cons (pe_var (i := 1) rfl (.inl rfl)) pa_nil), fun σ H Q h q => by obtain ⟨v1, h1⟩ := h 1 (by simp); exact ⟨v1, h1, q [v1] rfl⟩⟩) (fun cdv cc A outer s H E => (pss_cons (ps_ost (pe_var (i := 0) rfl (.inl rfl)) (pe_var (i := 1) rfl (.inl rfl))) pss_nil))
theorem fi_BadRow {w : World} {K : PySem.W.Frag} {mg : Str → Option Value} {bs : Heap} {fd : FuncData} (o : XcOk PySem.Challenge.pw_peranswer_k20_what_views_weigh K (xcd "BadRow" "BadRow.__init__" 9 0 ["function", "block", "row"]) fd) (hms : mg "super" = none) :
    FnOk PySem.Challenge.pw_peranswer_k20_what_views_weigh w K mg bs (L2.CX PySem.Challenge.pw_peranswer_k20_what_views_weigh w) 1 (iAd K (xcd "BadRow" "BadRow.__init__" 9 0 ["function", "block", "row"])) fd ["self", "function", "block", "row"] (spI (He.ga K "BadRow") ["function", "block", "row"]) :=
  init_ok (N := ["self", "function", "block", "row"]) (k := 0) (js := [1, 2, 3]) o.init ⟨rfl, rfl, rfl, by decide +kernel, rfl, by decide +kernel, by decide +kernel, by decide +kernel⟩ rfl rfl rfl rfl hms rfl (by simp) (by decide) o.fl rfl (by decide) ⟨_, fun env => rfl⟩ (fun env => rfl) (by decide) (fun env => rfl) (fun env => rfl)
    (fun cdv cc A outer s H E => ⟨(tCons (tVar 1) (tCons (tVar 2) (tCons (tVar 3) tNil))), (pa_cons (pe_var (i := 1) rfl (.inl rfl)) (pa_cons (pe_var (i := 2) rfl (.inl rfl)) (pa_cons (pe_var (i := 3) rfl (.inl rfl)) pa_nil))), fun σ H Q h q => by obtain ⟨v1, h1⟩ := h 1 (by simp); obtain ⟨v2, h2⟩ := h 2 (by simp); obtain ⟨v3, h3⟩ := h 3 (by simp); exact ⟨v1, h1, ⟨v2, h2, ⟨v3, h3, q [v1, v2, v3] rfl⟩⟩⟩⟩) (fun cdv cc A outer s H E => (pss_cons (ps_ost (pe_var (i := 0) rfl (.inl rfl)) (pe_var (i := 1) rfl (.inl rfl))) (pss_cons (ps_ost (pe_var (i := 0) rfl (.inl rfl)) (pe_var (i := 2) rfl (.inl rfl))) (pss_cons (ps_ost (pe_var (i := 0) rfl (.inl rfl)) (pe_var (i := 3) rfl (.inl rfl))) pss_nil))))
theorem fi_BadWord {w : World} {K : PySem.W.Frag} {mg : Str → Option Value} {bs : Heap} {fd : FuncData} (o : XcOk PySem.Challenge.pw_peranswer_k20_what_views_weigh K (xcd "BadWord" "BadWord.__init__" 10 0 ["word"]) fd) (hms : mg "super" = none) :
    FnOk PySem.Challenge.pw_peranswer_k20_what_views_weigh w K mg bs (L2.CX PySem.Challenge.pw_peranswer_k20_what_views_weigh w) 1 (iAd K (xcd "BadWord" "BadWord.__init__" 10 0 ["word"])) fd ["self", "word"] (spI (He.ga K "BadWord") ["word"]) :=
  init_ok (N := ["self", "word"]) (k := 0) (js := [1]) o.init ⟨rfl, rfl, rfl, by decide +kernel, rfl, by decide +kernel, by decide +kernel, by decide +kernel⟩ rfl rfl rfl rfl hms rfl (by simp) (by decide) o.fl rfl (by decide) ⟨_, fun env => rfl⟩ (fun env => rfl) (by decide) (fun env => rfl) (fun env => rfl)
    (fun cdv cc A outer s H E => ⟨(tCons (tVar 1) tNil), (pa_cons (pe_var (i := 1) rfl (.inl rfl)) pa_nil), fun σ H Q h q => by obtain ⟨v1, h1⟩ := h 1 (by simp); exact ⟨v1, h1, q [v1] rfl⟩⟩) (fun cdv cc A outer s H E => (pss_cons (ps_ost (pe_var (i := 0) rfl (.inl rfl)) (pe_var (i := 1) rfl (.inl rfl))) pss_nil))
theorem fi_BadText {w : World} {K : PySem.W.Frag} {mg : Str → Option Value} {bs : Heap} {fd : FuncData} (o : XcOk PySem.Challenge.pw_peranswer_k20_what_views_weigh K (xcd "BadText" "BadText.__init__" 11 0 ["line", "word"]) fd) (hms : mg "super" = none) :
    FnOk PySem.Challenge.pw_peranswer_k20_what_views_weigh w K mg bs (L2.CX PySem.Challenge.pw_peranswer_k20_what_views_weigh w) 1 (iAd K (xcd "BadText" "BadText.__init__" 11 0 ["line", "word"])) fd ["self", "line", "word"] (spI (He.ga K "BadText") ["line", "word"]) :=
  init_ok (N := ["self", "line", "word"]) (k := 0) (js := [1, 2]) o.init ⟨rfl, rfl, rfl, by decide +kernel, rfl, by decide +kernel, by decide +kernel, by decide +kernel⟩ rfl rfl rfl rfl hms rfl (by simp) (by decide) o.fl rfl (by decide) ⟨_, fun env => rfl⟩ (fun env => rfl) (by decide) (fun env => rfl) (fun env => rfl)
    (fun cdv cc A outer s H E => ⟨(tCons (tVar 1) (tCons (tVar 2) tNil)), (pa_cons (pe_var (i := 1) rfl (.inl rfl)) (pa_cons (pe_var (i := 2) rfl (.inl rfl)) pa_nil)), fun σ H Q h q => by obtain ⟨v1, h1⟩ := h 1 (by simp); obtain ⟨v2, h2⟩ := h 2 (by simp); exact ⟨v1, h1, ⟨v2, h2, q [v1, v2] rfl⟩⟩⟩) (fun cdv cc A outer s H E => (pss_cons (ps_ost (pe_var (i := 0) rfl (.inl rfl)) (pe_var (i := 1) rfl (.inl rfl))) (pss_cons (ps_ost (pe_var (i := 0) rfl (.inl rfl)) (pe_var (i := 2) rfl (.inl rfl))) pss_nil)))
theorem fi_NoName {w : World} {K : PySem.W.Frag} {mg : Str → Option Value} {bs : Heap} {fd : FuncData} (o : XcOk PySem.Challenge.pw_peranswer_k20_what_views_weigh K (xcd "NoName" "NoName.__init__" 12 0 ["name"]) fd) (hms : mg "super" = none) :
    FnOk PySem.Challenge.pw_peranswer_k20_what_views_weigh w K mg bs (L2.CX PySem.Challenge.pw_peranswer_k20_what_views_weigh w) 1 (iAd K (xcd "NoName" "NoName.__init__" 12 0 ["name"])) fd ["self", "name"] (spI (He.ga K "NoName") ["name"]) :=
  init_ok (N := ["self", "name"]) (k := 0) (js := [1]) o.init ⟨rfl, rfl, rfl, by decide +kernel, rfl, by decide +kernel, by decide +kernel, by decide +kernel⟩ rfl rfl rfl rfl hms rfl (by simp) (by decide) o.fl rfl (by decide) ⟨_, fun env => rfl⟩ (fun env => rfl) (by decide) (fun env => rfl) (fun env => rfl)
    (fun cdv cc A outer s H E => ⟨(tCons (tVar 1) tNil), (pa_cons (pe_var (i := 1) rfl (.inl rfl)) pa_nil), fun σ H Q h q => by obtain ⟨v1, h1⟩ := h 1 (by simp); exact ⟨v1, h1, q [v1] rfl⟩⟩) (fun cdv cc A outer s H E => (pss_cons (ps_ost (pe_var (i := 0) rfl (.inl rfl)) (pe_var (i := 1) rfl (.inl rfl))) pss_nil))
theorem fi_Misfit {w : World} {K : PySem.W.Frag} {mg : Str → Option Value} {bs : Heap} {fd : FuncData} (o : XcOk PySem.Challenge.pw_peranswer_k20_what_views_weigh K (xcd "Misfit" "Misfit.__init__" 13 0 ["part"]) fd) (hms : mg "super" = none) :
    FnOk PySem.Challenge.pw_peranswer_k20_what_views_weigh w K mg bs (L2.CX PySem.Challenge.pw_peranswer_k20_what_views_weigh w) 1 (iAd K (xcd "Misfit" "Misfit.__init__" 13 0 ["part"])) fd ["self", "part"] (spI (He.ga K "Misfit") ["part"]) :=
  init_ok (N := ["self", "part"]) (k := 0) (js := [1]) o.init ⟨rfl, rfl, rfl, by decide +kernel, rfl, by decide +kernel, by decide +kernel, by decide +kernel⟩ rfl rfl rfl rfl hms rfl (by simp) (by decide) o.fl rfl (by decide) ⟨_, fun env => rfl⟩ (fun env => rfl) (by decide) (fun env => rfl) (fun env => rfl)
    (fun cdv cc A outer s H E => ⟨(tCons (tVar 1) tNil), (pa_cons (pe_var (i := 1) rfl (.inl rfl)) pa_nil), fun σ H Q h q => by obtain ⟨v1, h1⟩ := h 1 (by simp); exact ⟨v1, h1, q [v1] rfl⟩⟩) (fun cdv cc A outer s H E => (pss_cons (ps_ost (pe_var (i := 0) rfl (.inl rfl)) (pe_var (i := 1) rfl (.inl rfl))) pss_nil))
theorem fi_Nothing {w : World} {K : PySem.W.Frag} {mg : Str → Option Value} {bs : Heap} {fd : FuncData} (o : XcOk PySem.Challenge.pw_peranswer_k20_what_views_weigh K (xcd "Nothing" "Nothing.__init__" 14 0 ["word"]) fd) (hms : mg "super" = none) :
    FnOk PySem.Challenge.pw_peranswer_k20_what_views_weigh w K mg bs (L2.CX PySem.Challenge.pw_peranswer_k20_what_views_weigh w) 1 (iAd K (xcd "Nothing" "Nothing.__init__" 14 0 ["word"])) fd ["self", "word"] (spI (He.ga K "Nothing") ["word"]) :=
  init_ok (N := ["self", "word"]) (k := 0) (js := [1]) o.init ⟨rfl, rfl, rfl, by decide +kernel, rfl, by decide +kernel, by decide +kernel, by decide +kernel⟩ rfl rfl rfl rfl hms rfl (by simp) (by decide) o.fl rfl (by decide) ⟨_, fun env => rfl⟩ (fun env => rfl) (by decide) (fun env => rfl) (fun env => rfl)
    (fun cdv cc A outer s H E => ⟨(tCons (tVar 1) tNil), (pa_cons (pe_var (i := 1) rfl (.inl rfl)) pa_nil), fun σ H Q h q => by obtain ⟨v1, h1⟩ := h 1 (by simp); exact ⟨v1, h1, q [v1] rfl⟩⟩) (fun cdv cc A outer s H E => (pss_cons (ps_ost (pe_var (i := 0) rfl (.inl rfl)) (pe_var (i := 1) rfl (.inl rfl))) pss_nil))
theorem fi_TooMany {w : World} {K : PySem.W.Frag} {mg : Str → Option Value} {bs : Heap} {fd : FuncData} (o : XcOk PySem.Challenge.pw_peranswer_k20_what_views_weigh K (xcd "TooMany" "TooMany.__init__" 15 0 ["what", "most"]) fd) (hms : mg "super" = none) :
    FnOk PySem.Challenge.pw_peranswer_k20_what_views_weigh w K mg bs (L2.CX PySem.Challenge.pw_peranswer_k20_what_views_weigh w) 1 (iAd K (xcd "TooMany" "TooMany.__init__" 15 0 ["what", "most"])) fd ["self", "what", "most"] (spI (He.ga K "TooMany") ["what", "most"]) :=
  init_ok (N := ["self", "what", "most"]) (k := 0) (js := [1, 2]) o.init ⟨rfl, rfl, rfl, by decide +kernel, rfl, by decide +kernel, by decide +kernel, by decide +kernel⟩ rfl rfl rfl rfl hms rfl (by simp) (by decide) o.fl rfl (by decide) ⟨_, fun env => rfl⟩ (fun env => rfl) (by decide) (fun env => rfl) (fun env => rfl)
    (fun cdv cc A outer s H E => ⟨(tCons (tVar 1) (tCons (tVar 2) tNil)), (pa_cons (pe_var (i := 1) rfl (.inl rfl)) (pa_cons (pe_var (i := 2) rfl (.inl rfl)) pa_nil)), fun σ H Q h q => by obtain ⟨v1, h1⟩ := h 1 (by simp); obtain ⟨v2, h2⟩ := h 2 (by simp); exact ⟨v1, h1, ⟨v2, h2, q [v1, v2] rfl⟩⟩⟩) (fun cdv cc A outer s H E => (pss_cons (ps_ost (pe_var (i := 0) rfl (.inl rfl)) (pe_var (i := 1) rfl (.inl rfl))) (pss_cons (ps_ost (pe_var (i := 0) rfl (.inl rfl)) (pe_var (i := 2) rfl (.inl rfl))) pss_nil)))
theorem mkFa {w : World} {K : PySem.W.Frag} {h bs : Heap} {mg : Str → Option Value} (X : K.In h) (G : h.Ns mainGlobals mg) (c : SaysX file fa fn xs ss K) (ca_law ct_law : Addr) (hc_law : ∀ oc od fd osl, K.lookup (He.ga K "law") = some ⟨oc, od, .func fd, osl⟩ → fd.code = .ref ca_law) (tb_law : LamX.TabB bs mg ca_law ct_law) : ∃ Z : Fa PySem.Challenge.pw_peranswer_k20_what_views_weigh w K mg bs, Z.a_law = He.ga K "law" ∧ Z.ct_law = ct_law := by
  have hs := He.free_ok X G (c.factM (f := .free "super") (List.mem_append_left _ (by simp)))
  obtain ⟨d__law_draw, F__law_draw⟩ := c.d.def_ 0 (d := mkD "_law_draw" 28) rfl
  obtain ⟨d__law_heard, F__law_heard⟩ := c.d.def_ 1 (d := mkD "_law_heard" 30) rfl
  obtain ⟨d__law_pen, F__law_pen⟩ := c.d.def_ 2 (d := mkD "_law_pen" 27) rfl
  obtain ⟨d__law_pick, F__law_pick⟩ := c.d.def_ 3 (d := mkD "_law_pick" 29) rfl
  obtain ⟨d__law_sum, F__law_sum⟩ := c.d.def_ 4 (d := mkD "_law_sum" 32) rfl
  obtain ⟨d__law_view, F__law_view⟩ := c.d.def_ 5 (d := mkD "_law_view" 33) rfl
  obtain ⟨d__law_worth, F__law_worth⟩ := c.d.def_ 6 (d := mkD "_law_worth" 31) rfl
  obtain ⟨d_is_integer, F_is_integer⟩ := c.d.def_ 7 (d := mkD "is_integer" 1) rfl
  obtain ⟨d_is_listed, F_is_listed⟩ := c.d.def_ 8 (d := mkD "is_listed" 2) rfl
  obtain ⟨d_is_row, F_is_row⟩ := c.d.def_ 9 (d := mkD "is_row" 3) rfl
  obtain ⟨d_is_view, F_is_view⟩ := c.d.def_ 10 (d := mkD "is_view" 22) rfl
  obtain ⟨d_law, F_law⟩ := c.d.def_ 11 (d := mkD "law" 34) rfl
  obtain ⟨d_need_view, F_need_view⟩ := c.d.def_ 12 (d := mkD "need_view" 23) rfl
  obtain ⟨d_worth, F_worth⟩ := c.d.def_ 13 (d := mkD "worth" 25) rfl
  obtain ⟨d_worth_of, F_worth_of⟩ := c.d.def_ 14 (d := mkD "worth_of" 24) rfl
  obtain ⟨cd_BadFunction, o_BadFunction⟩ := c.clsM (by kernel_rfl) (d := xcd "BadFunction" "BadFunction.__init__" 8 0 ["index"]) (by unfold xs; simp)
  obtain ⟨cd_BadNumber, o_BadNumber⟩ := c.clsM (by kernel_rfl) (d := xcd "BadNumber" "BadNumber.__init__" 7 0 ["part"]) (by unfold xs; simp)
  obtain ⟨cd_BadRow, o_BadRow⟩ := c.clsM (by kernel_rfl) (d := xcd "BadRow" "BadRow.__init__" 9 0 ["function", "block", "row"]) (by unfold xs; simp)
  obtain ⟨cd_BadText, o_BadText⟩ := c.clsM (by kernel_rfl) (d := xcd "BadText" "BadText.__init__" 11 0 ["line", "word"]) (by unfold xs; simp)
  obtain ⟨cd_BadValue, o_BadValue⟩ := c.clsM (by kernel_rfl) (d := xcd "BadValue" "BadValue.__init__" 6 0 ["part"]) (by unfold xs; simp)
  obtain ⟨cd_BadWord, o_BadWord⟩ := c.clsM (by kernel_rfl) (d := xcd "BadWord" "BadWord.__init__" 10 0 ["word"]) (by unfold xs; simp)
  obtain ⟨cd_Misfit, o_Misfit⟩ := c.clsM (by kernel_rfl) (d := xcd "Misfit" "Misfit.__init__" 13 0 ["part"]) (by unfold xs; simp)
  obtain ⟨cd_NoName, o_NoName⟩ := c.clsM (by kernel_rfl) (d := xcd "NoName" "NoName.__init__" 12 0 ["name"]) (by unfold xs; simp)
  obtain ⟨cd_Nothing, o_Nothing⟩ := c.clsM (by kernel_rfl) (d := xcd "Nothing" "Nothing.__init__" 14 0 ["word"]) (by unfold xs; simp)
  obtain ⟨cd_TooMany, o_TooMany⟩ := c.clsM (by kernel_rfl) (d := xcd "TooMany" "TooMany.__init__" 15 0 ["what", "most"]) (by unfold xs; simp)
  refine ⟨{
    tab := fun {T} => xtab X G c (by kernel_rfl) (fun x y b e => ?_) (fun x f e => ?_),
    a__law_draw := He.ga K "_law_draw",
    d__law_draw := d__law_draw,
    g__law_draw := He.glo_ok X G (c.factM (f := .glo "_law_draw") (List.mem_append_left _ (by simp))), F__law_draw := F__law_draw,
    a__law_heard := He.ga K "_law_heard",
    d__law_heard := d__law_heard,
    g__law_heard := He.glo_ok X G (c.factM (f := .glo "_law_heard") (List.mem_append_left _ (by simp))), F__law_heard := F__law_heard,
    a__law_pen := He.ga K "_law_pen",
    d__law_pen := d__law_pen,
    g__law_pen := He.glo_ok X G (c.factM (f := .glo "_law_pen") (List.mem_append_left _ (by simp))), F__law_pen := F__law_pen,
    a__law_pick := He.ga K "_law_pick",
    d__law_pick := d__law_pick,
    g__law_pick := He.glo_ok X G (c.factM (f := .glo "_law_pick") (List.mem_append_left _ (by simp))), F__law_pick := F__law_pick,
    a__law_sum := He.ga K "_law_sum",
    d__law_sum := d__law_sum,
    g__law_sum := He.glo_ok X G (c.factM (f := .glo "_law_sum") (List.mem_append_left _ (by simp))), F__law_sum := F__law_sum,
    a__law_view := He.ga K "_law_view",
    d__law_view := d__law_view,
    g__law_view := He.glo_ok X G (c.factM (f := .glo "_law_view") (List.mem_append_left _ (by simp))), F__law_view := F__law_view,
    a__law_worth := He.ga K "_law_worth",
    d__law_worth := d__law_worth,
    g__law_worth := He.glo_ok X G (c.factM (f := .glo "_law_worth") (List.mem_append_left _ (by simp))), F__law_worth := F__law_worth,
    a_is_integer := He.ga K "is_integer",
    d_is_integer := d_is_integer,
    g_is_integer := He.glo_ok X G (c.factM (f := .glo "is_integer") (List.mem_append_left _ (by simp))), F_is_integer := F_is_integer,
    a_is_listed := He.ga K "is_listed",
    d_is_listed := d_is_listed,
    g_is_listed := He.glo_ok X G (c.factM (f := .glo "is_listed") (List.mem_append_left _ (by simp))), F_is_listed := F_is_listed,
    a_is_row := He.ga K "is_row",
    d_is_row := d_is_row,
    g_is_row := He.glo_ok X G (c.factM (f := .glo "is_row") (List.mem_append_left _ (by simp))), F_is_row := F_is_row,
    a_is_view := He.ga K "is_view",
    d_is_view := d_is_view,
    g_is_view := He.glo_ok X G (c.factM (f := .glo "is_view") (List.mem_append_left _ (by simp))), F_is_view := F_is_view,
    a_law := He.ga K "law",
    d_law := d_law,
    g_law := He.glo_ok X G (c.factM (f := .glo "law") (List.mem_append_left _ (by simp))), F_law := F_law,
    ca_law := ca_law,
    ct_law := ct_law,
    cc_law := (by obtain ⟨oc, od, dV, kV, doc, pm, an, cdv, ct, osl, e, lk, _⟩ := F_law.ex; exact hc_law _ _ _ _ lk),
    tb_law := tb_law,
    a_need_view := He.ga K "need_view",
    d_need_view := d_need_view,
    g_need_view := He.glo_ok X G (c.factM (f := .glo "need_view") (List.mem_append_left _ (by simp))), F_need_view := F_need_view,
    a_worth := He.ga K "worth",
    d_worth := d_worth,
    g_worth := He.glo_ok X G (c.factM (f := .glo "worth") (List.mem_append_left _ (by simp))), F_worth := F_worth,
    a_worth_of := He.ga K "worth_of",
    d_worth_of := d_worth_of,
    g_worth_of := He.glo_ok X G (c.factM (f := .glo "worth_of") (List.mem_append_left _ (by simp))), F_worth_of := F_worth_of,
    s_ABOVE := He.str_ok X G (c.factM (f := .str "ABOVE" "above") (List.mem_append_left _ (by simp))),
    s_AT := He.str_ok X G (c.factM (f := .str "AT" "at") (List.mem_append_left _ (by simp))),
    s_BELOW := He.str_ok X G (c.factM (f := .str "BELOW" "below") (List.mem_append_left _ (by simp))),
    c_BadFunction := He.ga K "BadFunction",
    ci_BadFunction := iAd K (xcd "BadFunction" "BadFunction.__init__" 8 0 ["index"]),
    cd_BadFunction := cd_BadFunction,
    g_BadFunction := PySem.W.mg_of X G o_BadFunction.glo,
    o_BadFunction := o_BadFunction.init.oex,
    i_BadFunction := o_BadFunction.iC,
    t_BadFunction := o_BadFunction.tI,
    x_BadFunction := fi_BadFunction o_BadFunction hs,
    b_BadFunction := o_BadFunction.binds fun _ _ _ _ _ _ us hl => match us, hl with | [_, _], _ => rfl,
    c_BadNumber := He.ga K "BadNumber",
    ci_BadNumber := iAd K (xcd "BadNumber" "BadNumber.__init__" 7 0 ["part"]),
    cd_BadNumber := cd_BadNumber,
    g_BadNumber := PySem.W.mg_of X G o_BadNumber.glo,
    o_BadNumber := o_BadNumber.init.oex,
    i_BadNumber := o_BadNumber.iC,
    t_BadNumber := o_BadNumber.tI,
    x_BadNumber := fi_BadNumber o_BadNumber hs,
    b_BadNumber := o_BadNumber.binds fun _ _ _ _ _ _ us hl => match us, hl with | [_, _], _ => rfl,
    c_BadRow := He.ga K "BadRow",
    ci_BadRow := iAd K (xcd "BadRow" "BadRow.__init__" 9 0 ["function", "block", "row"]),
    cd_BadRow := cd_BadRow,
    g_BadRow := PySem.W.mg_of X G o_BadRow.glo,
    o_BadRow := o_BadRow.init.oex,
    i_BadRow := o_BadRow.iC,
    t_BadRow := o_BadRow.tI,
    x_BadRow := fi_BadRow o_BadRow hs,
    b_BadRow := o_BadRow.binds fun _ _ _ _ _ _ us hl => match us, hl with | [_, _, _, _], _ => rfl,
    c_BadText := He.ga K "BadText",
    ci_BadText := iAd K (xcd "BadText" "BadText.__init__" 11 0 ["line", "word"]),
    cd_BadText := cd_BadText,
    g_BadText := PySem.W.mg_of X G o_BadText.glo,
    o_BadText := o_BadText.init.oex,
    i_BadText := o_BadText.iC,
    t_BadText := o_BadText.tI,
    x_BadText := fi_BadText o_BadText hs,
    b_BadText := o_BadText.binds fun _ _ _ _ _ _ us hl => match us, hl with | [_, _, _], _ => rfl,
    c_BadValue := He.ga K "BadValue",
    ci_BadValue := iAd K (xcd "BadValue" "BadValue.__init__" 6 0 ["part"]),
    cd_BadValue := cd_BadValue,
    g_BadValue := PySem.W.mg_of X G o_BadValue.glo,
    o_BadValue := o_BadValue.init.oex,
    i_BadValue := o_BadValue.iC,
    t_BadValue := o_BadValue.tI,
    x_BadValue := fi_BadValue o_BadValue hs,
    b_BadValue := o_BadValue.binds fun _ _ _ _ _ _ us hl => match us, hl with | [_, _], _ => rfl,
    c_BadWord := He.ga K "BadWord",
    ci_BadWord := iAd K (xcd "BadWord" "BadWord.__init__" 10 0 ["word"]),
    cd_BadWord := cd_BadWord,
    g_BadWord := PySem.W.mg_of X G o_BadWord.glo,
    o_BadWord := o_BadWord.init.oex,
    i_BadWord := o_BadWord.iC,
    t_BadWord := o_BadWord.tI,
    x_BadWord := fi_BadWord o_BadWord hs,
    b_BadWord := o_BadWord.binds fun _ _ _ _ _ _ us hl => match us, hl with | [_, _], _ => rfl,
    s_FLAT := He.str_ok X G (c.factM (f := .str "FLAT" "flat") (List.mem_append_left _ (by simp))),
    c_Misfit := He.ga K "Misfit",
    ci_Misfit := iAd K (xcd "Misfit" "Misfit.__init__" 13 0 ["part"]),
    cd_Misfit := cd_Misfit,
    g_Misfit := PySem.W.mg_of X G o_Misfit.glo,
    o_Misfit := o_Misfit.init.oex,
    i_Misfit := o_Misfit.iC,
    t_Misfit := o_Misfit.tI,
    x_Misfit := fi_Misfit o_Misfit hs,
    b_Misfit := o_Misfit.binds fun _ _ _ _ _ _ us hl => match us, hl with | [_, _], _ => rfl,
    c_NoName := He.ga K "NoName",
    ci_NoName := iAd K (xcd "NoName" "NoName.__init__" 12 0 ["name"]),
    cd_NoName := cd_NoName,
    g_NoName := PySem.W.mg_of X G o_NoName.glo,
    o_NoName := o_NoName.init.oex,
    i_NoName := o_NoName.iC,
    t_NoName := o_NoName.tI,
    x_NoName := fi_NoName o_NoName hs,
    b_NoName := o_NoName.binds fun _ _ _ _ _ _ us hl => match us, hl with | [_, _], _ => rfl,
    c_Nothing := He.ga K "Nothing",
    ci_Nothing := iAd K (xcd "Nothing" "Nothing.__init__" 14 0 ["word"]),
    cd_Nothing := cd_Nothing,
    g_Nothing := PySem.W.mg_of X G o_Nothing.glo,
    o_Nothing := o_Nothing.init.oex,
    i_Nothing := o_Nothing.iC,
    t_Nothing := o_Nothing.tI,
    x_Nothing := fi_Nothing o_Nothing hs,
    b_Nothing := o_Nothing.binds fun _ _ _ _ _ _ us hl => match us, hl with | [_, _], _ => rfl,
    c_PerError := He.ga K "PerError",
    g_PerError := He.glo_ok X G (c.factM (f := .glo "PerError") (List.mem_append_left _ (by simp))),
    s_STEEP := He.str_ok X G (c.factM (f := .str "STEEP" "steep") (List.mem_append_left _ (by simp))),
    c_TooMany := He.ga K "TooMany",
    ci_TooMany := iAd K (xcd "TooMany" "TooMany.__init__" 15 0 ["what", "most"]),
    cd_TooMany := cd_TooMany,
    g_TooMany := PySem.W.mg_of X G o_TooMany.glo,
    o_TooMany := o_TooMany.init.oex,
    i_TooMany := o_TooMany.iC,
    t_TooMany := o_TooMany.tI,
    x_TooMany := fi_TooMany o_TooMany hs,
    b_TooMany := o_TooMany.binds fun _ _ _ _ _ _ us hl => match us, hl with | [_, _, _], _ => rfl,
    n_abs := He.free_ok X G (c.factM (f := .free "abs") (List.mem_append_left _ (by simp))),
    n_bool := He.free_ok X G (c.factM (f := .free "bool") (List.mem_append_left _ (by simp))),
    n_int := He.free_ok X G (c.factM (f := .free "int") (List.mem_append_left _ (by simp))),
    n_isinstance := He.free_ok X G (c.factM (f := .free "isinstance") (List.mem_append_left _ (by simp))),
    n_len := He.free_ok X G (c.factM (f := .free "len") (List.mem_append_left _ (by simp))),
    n_list := He.free_ok X G (c.factM (f := .free "list") (List.mem_append_left _ (by simp))),
    n_range := He.free_ok X G (c.factM (f := .free "range") (List.mem_append_left _ (by simp))),
    n_repr := He.free_ok X G (c.factM (f := .free "repr") (List.mem_append_left _ (by simp))),
    n_str := He.free_ok X G (c.factM (f := .free "str") (List.mem_append_left _ (by simp))),
    n_sum := He.free_ok X G (c.factM (f := .free "sum") (List.mem_append_left _ (by simp))),
    n_tuple := He.free_ok X G (c.factM (f := .free "tuple") (List.mem_append_left _ (by simp))) }, rfl, rfl⟩
  · unfold subX at e
    split at e
    · rename_i hh
      cases e
      exact ⟨ss_all x hh.1 y hh.2, by rw [xs_cls]; exact hh.1, List.mem_append_right _ (List.mem_map_of_mem hh.2)⟩
    · cases e
  · unfold fldX at e
    split at e
    · rename_i l hl
      exact fld_all x l hl f (of_decide_eq_true e)
    · cases e
end G

namespace G
open PySem PySem.Spec PyProof.Rows L2 DL
local macro_rules | `(tactic| walk_at "dwN") => `(tactic| ((try simp only [List.set_cons_zero, List.set_cons_succ, List.map_cons, List.map_nil, List.replicate, List.length_cons, List.length_nil, List.cons_append, List.nil_append, List.append_nil, List.take_succ_cons, List.take_length, List.take_zero, List.take_left, Nat.reduceAdd, Nat.reduceSub, Int.reduceToNat, pick_nil, pick_cons, pkc_some, wipeD, List.getElem?_cons_zero, List.getElem?_cons_succ]); exact rfl))
local macro_rules | `(tactic| walk_at "dwO") => `(tactic| first
  | ((with_reducible refine' vw_go ?k1 ?_); case k1 => exact rfl)
  | ((with_reducible show OW _ _); first
    | (with_reducible refine ows ?_)
    | ((with_reducible refine ow_ne_same ?k1 ?_); case k1 => (first | rfl | kernel_rfl)) | ((with_reducible refine ow_eq_same ?k1 ?_); case k1 => (first | rfl | kernel_rfl))
    | ((with_reducible refine' ow_go (o := inD _ _) ?k1 ?_); case k1 => exact rfl) | ((with_reducible refine' ow_go (o := notInD _ _) ?k1 ?_); case k1 => exact rfl)
    | ((with_reducible refine' ow_go (o := truD _) ?k1 ?_); case k1 => exact rfl)
    | ((with_reducible refine' ow_go (o := subX _ _) ?k1 ?_); case k1 => exact rfl)
    | ((with_reducible refine' ow_go (o := isaD _ _) ?k1 ?_); case k1 => exact rfl)
    | ((with_reducible refine' ow_go (o := listD _) ?k1 ?_); case k1 => exact rfl) | ((with_reducible refine' ow_go (o := tupD _) ?k1 ?_); case k1 => exact rfl)
    | ((with_reducible refine' ow_go (o := isNonD _ _) ?k1 ?_); case k1 => exact rfl)
    | ((with_reducible refine ow_mod ?k1 ?_); case k1 => (first | decide | omega))
    | ((with_reducible refine ow_fdiv ?k1 ?k2 ?_); (case k1 => (first | decide | omega)); (case k2 => (first | decide | omega)))
    | ((with_reducible refine ow_mul ?k1 ?_); case k1 => (first | exact .inl (by decide) | exact .inr (.inl (by decide)) | exact .inl (by omega) | exact .inr (.inl (by omega))))
    | ((with_reducible refine' ow_pow ?k1 ?k2 ?_); (case k1 => (first | decide | exact ⟨by decide, by decide, by omega⟩)); (case k2 => ((try simp only [Int.reduceToNat, Int.reducePow]); exact rfl)))
    | ((with_reducible refine' setIx_go ?k1 ?k2 ?k3 ?_); (case k1 => exact rfl); (case k2 => exact rfl); (case k3 => walk_at "dwN"))
    | ((with_reducible refine' ow_go (o := ixD _ _) ?k1 ?_); case k1 => exact rfl) | ((with_reducible refine' ow_go (o := Val.look _ _) ?k1 ?_); case k1 => exact rfl)
    | ((with_reducible refine' ow_go (o := looks _ _) ?k1 ?_); case k1 => exact rfl)
    | ((with_reducible refine' ow_go (o := keyed _) ?k1 ?_); case k1 => exact rfl)
    | ((with_reducible refine' ow_go (o := cntD _ _) ?k1 ?_); case k1 => (first | exact rfl | kernel_rfl)) | ((with_reducible refine' ow_go (o := idxD _ _) ?k1 ?_); case k1 => (first | exact rfl | kernel_rfl))
    | ((with_reducible refine' ow_go (o := List.lookup _ _) ?k1 ?_); case k1 => exact rfl) | ((with_reducible refine' ow_go (o := gSeq _ _ _ _) ?k1 ?_); case k1 => exact rfl) | ((with_reducible refine' ow_go (o := gNm _ _ _) ?k1 ?_); case k1 => exact rfl)
    | ((with_reducible refine' ow_go (o := mulA _ _) ?k1 ?_); case k1 => exact rfl) | ((with_reducible refine' ow_go (o := addD _ _) ?k1 ?_); case k1 => exact rfl) | ((with_reducible refine' ow_go (o := sumD _) ?k1 ?_); case k1 => exact rfl)
    | ((with_reducible refine' ow_go (o := some _) rfl ?_)))
  | (with_reducible refine lc_nil ?_) | (with_reducible refine lc_cons ?_) | (with_reducible refine Eq.mpr PrW_mk ?_)
  | (with_reducible refine Eq.mpr BW_bl ?_) | (with_reducible refine Eq.mpr DW_d ?_) | (with_reducible refine Eq.mpr IWn_int ?_) | (with_reducible refine Eq.mpr NW_loc ?_)
  | ((with_reducible refine' cw_go ?k1 ?k2 ?k3 ?_); (case k1 => exact rfl); (case k2 => exact rfl); (case k3 => walk_at "dwN"))
  | ((with_reducible refine' em_go ?k1 ?k2 ?_); (case k1 => (first | rfl | simp)); (case k2 => (first | walk_at "dwN" | (simp only [List.take_append_of_le_length, List.take_left, List.cons_append, List.length_cons, List.take_succ_cons]; exact rfl))))
  | (with_reducible refine Eq.mpr XW_exc ?_) | (with_reducible refine Eq.mpr FW_exc ?_)
  | ((with_reducible refine' lv_go ?k1 ?_); case k1 => walk_at "dwN")
  | ((with_reducible refine' env_go ?k1 ?_); case k1 => walk_at "dwN")
  | ((with_reducible refine And.intro ?k1 ?_); case k1 => (first | exact rfl | (simp only [List.length_cons, List.length_nil, Nat.reduceAdd, sizeLine]; decide) | decide | (simp only [List.length_cons, List.length_nil, Nat.reduceAdd, Nat.reduceLeDiff]; done) | (simp only [List.length_append, List.length_cons, List.length_nil, Nat.reduceAdd, sizeLine]; decide)))
  | ((with_reducible refine Eq.mpr Br_t ?_)) | ((with_reducible refine Eq.mpr Br_f ?_))
  | ((with_reducible show Br _ _ _); first | ((with_reducible refine Br.tt ?k1 ?_); case k1 => exact rfl) | ((with_reducible refine Br.ff ?k1 ?_); case k1 => exact rfl)))
local macro_rules | `(tactic| walk_at "dw1") => `(tactic| first | (with_reducible refine stp ?_) | ((with_reducible refine Eq.mpr (w_act ?k1) ?_); case k1 => exact rfl) | (with_reducible refine sts ?_) | walk_at "dwO")
local macro_rules | `(tactic| walk_at "dw") => `(tactic| ((repeat walk_at "dw1"); try dsimp only))
section
variable {ω : Store}
theorem isint_0  : f_is_integer [.d (.non)] ω = .ok (.d (.bl false)) ω := by
  refine RW.ok_of ?_
  refine' fn_go ?k1 ?k2 ?_
  case k1 => walk_at "dwN"
  case k2 => exact rfl
  unfold b_is_integer
  walk_at "dw"
instance  : Stp (f_is_integer [.d (.non)] ω) (fun K E => K (.d (.bl false)) ω) := ⟨fun K E => by rw [isint_0, RW_ok]⟩
theorem isint_1 {b : Bool} : f_is_integer [.d (.bl b)] ω = .ok (.d (.bl false)) ω := by
  refine RW.ok_of ?_
  refine' fn_go ?k1 ?k2 ?_
  case k1 => walk_at "dwN"
  case k2 => exact rfl
  unfold b_is_integer
  walk_at "dw"
instance {b : Bool} : Stp (f_is_integer [.d (.bl b)] ω) (fun K E => K (.d (.bl false)) ω) := ⟨fun K E => by rw [isint_1, RW_ok]⟩
theorem isint_2 {i : Int} : f_is_integer [.d (.int i)] ω = .ok (.d (.bl true)) ω := by
  refine RW.ok_of ?_
  refine' fn_go ?k1 ?k2 ?_
  case k1 => walk_at "dwN"
  case k2 => exact rfl
  unfold b_is_integer
  walk_at "dw"
instance {i : Int} : Stp (f_is_integer [.d (.int i)] ω) (fun K E => K (.d (.bl true)) ω) := ⟨fun K E => by rw [isint_2, RW_ok]⟩
theorem isint_3 {x : Str} : f_is_integer [.d (.str x)] ω = .ok (.d (.bl false)) ω := by
  refine RW.ok_of ?_
  refine' fn_go ?k1 ?k2 ?_
  case k1 => walk_at "dwN"
  case k2 => exact rfl
  unfold b_is_integer
  walk_at "dw"
instance {x : Str} : Stp (f_is_integer [.d (.str x)] ω) (fun K E => K (.d (.bl false)) ω) := ⟨fun K E => by rw [isint_3, RW_ok]⟩
theorem isint_4 {l : List D} : f_is_integer [.d (.tup l)] ω = .ok (.d (.bl false)) ω := by
  refine RW.ok_of ?_
  refine' fn_go ?k1 ?k2 ?_
  case k1 => walk_at "dwN"
  case k2 => exact rfl
  unfold b_is_integer
  walk_at "dw"
instance {l : List D} : Stp (f_is_integer [.d (.tup l)] ω) (fun K E => K (.d (.bl false)) ω) := ⟨fun K E => by rw [isint_4, RW_ok]⟩
theorem isint_5 {l : List D} : f_is_integer [.d (.lst l)] ω = .ok (.d (.bl false)) ω := by
  refine RW.ok_of ?_
  refine' fn_go ?k1 ?k2 ?_
  case k1 => walk_at "dwN"
  case k2 => exact rfl
  unfold b_is_integer
  walk_at "dw"
instance {l : List D} : Stp (f_is_integer [.d (.lst l)] ω) (fun K E => K (.d (.bl false)) ω) := ⟨fun K E => by rw [isint_5, RW_ok]⟩
theorem isint_6 {l : List D} : f_is_integer [.d (.frl l)] ω = .ok (.d (.bl false)) ω := by
  refine RW.ok_of ?_
  refine' fn_go ?k1 ?k2 ?_
  case k1 => walk_at "dwN"
  case k2 => exact rfl
  unfold b_is_integer
  walk_at "dw"
instance {l : List D} : Stp (f_is_integer [.d (.frl l)] ω) (fun K E => K (.d (.bl false)) ω) := ⟨fun K E => by rw [isint_6, RW_ok]⟩
theorem isint_7 {m : List (D × D)} : f_is_integer [.d (.dct m)] ω = .ok (.d (.bl false)) ω := by
  refine RW.ok_of ?_
  refine' fn_go ?k1 ?k2 ?_
  case k1 => walk_at "dwN"
  case k2 => exact rfl
  unfold b_is_integer
  walk_at "dw"
instance {m : List (D × D)} : Stp (f_is_integer [.d (.dct m)] ω) (fun K E => K (.d (.bl false)) ω) := ⟨fun K E => by rw [isint_7, RW_ok]⟩
end
local macro_rules | `(tactic| walk_at "fn") => `(tactic| ((with_reducible refine' fn_go ?k1 ?k2 ?_); (case k1 => walk_at "dwN"); (case k2 => exact rfl)))
local macro_rules | `(tactic| walk_at "dw1") => `(tactic| ((with_reducible refine' fn_go (b := b_is_row) ?k1 ?k2 ?_); (case k1 => walk_at "dwN"); (case k2 => exact rfl); unfold b_is_row))
local macro_rules | `(tactic| walk_at "dw1") => `(tactic| ((with_reducible refine' fn_go (b := b_is_listed) ?k1 ?k2 ?_); (case k1 => walk_at "dwN"); (case k2 => exact rfl); unfold b_is_listed))
/-- a view's parts -/
def ViewD (v : List D) : Prop := v = [.str "steep"] ∨ v = [.str "flat"] ∨ ∃ t b : Int, (-10000000000000 ≤ t ∧ t ≤ 10000000000000 ∧ 1 ≤ b ∧ b ≤ 10000000) ∧ (v = [.str "at", .int t, .int b] ∨ v = [.str "below", .int t, .int b] ∨ v = [.str "above", .int t, .int b])
theorem view_tup {v : List D} (h : ViewD v) {ω : Store} : f_is_view [.d (.tup v)] ω = .ok (.d (.bl true)) ω := by
  refine RW.ok_of ?_
  walk_at "fn"
  unfold b_is_view
  rcases h with rfl | rfl | ⟨t, b, hb, rfl | rfl | rfl⟩
  · walk_at "dw"
  · walk_at "dw"
  all_goals
    walk_at "dw"
    rw [decide_eq_true hb.2.2.1]
    exact ⟨rfl, rfl⟩
theorem view_lst {v : List D} (h : ViewD v) {ω : Store} : f_is_view [.d (.lst v)] ω = .ok (.d (.bl true)) ω := by
  refine RW.ok_of ?_
  walk_at "fn"
  unfold b_is_view
  rcases h with rfl | rfl | ⟨t, b, hb, rfl | rfl | rfl⟩
  · walk_at "dw"
  · walk_at "dw"
  all_goals
    walk_at "dw"
    rw [decide_eq_true hb.2.2.1]
    exact ⟨rfl, rfl⟩
/-- values that are no views -/
def bads : List D := [.non, .int 5, .tup [], .tup [.str "at"], .tup [.str "at", .int 3], .tup [.str "at", .int 3, .int 0], .tup [.str "at", .bl true, .int 1], .tup [.str "at", .int 3, .int (-1)], .tup [.str "steep", .int 1], .tup [.str "flat", .int 1, .int 2],
  .tup [.str "beyond", .int 3, .int 1], .tup [.str "above", .int 3], .str "steep", .tup [.int 5, .int 3, .int 1], .lst [.str "below", .non, .int 1], .dct []]
theorem view_bad {x : D} (h : x ∈ bads) {ω : Store} : f_is_view [.d x] ω = .ok (.d (.bl false)) ω := by
  refine RW.ok_of ?_
  walk_at "fn"
  unfold b_is_view
  unfold bads at h
  simp only [List.mem_cons, List.not_mem_nil, or_false] at h
  rcases h with rfl | rfl | rfl | rfl | rfl | rfl | rfl | rfl | rfl | rfl | rfl | rfl | rfl | rfl | rfl | rfl
  all_goals walk_at "dw"
/-- what a cost and marks are worth -/
def wo (v : List D) (c m : Int) : Int × Int := match v with
  | [.str s] => if s = "steep" then (0 - m, c) else (m, c)
  | [.str s, .int t, .int b] => (b * c - t * m, if s = "at" then 0 else if s = "below" then m else 0 - m)
  | _ => (0, 0)
def SmallI (c : Int) : Prop := -10000000000 ≤ c ∧ c ≤ 10000000000
theorem worth_of_w {v : List D} {c m : Int} (h : ViewD v) (hc : SmallI c) (hm : SmallI m) {ω : Store} : f_worth_of [.d (.tup v), .d (.int c), .d (.int m)] ω = .ok (.d (.tup [.int (wo v c m).1, .int (wo v c m).2])) ω := by
  refine RW.ok_of ?_
  walk_at "fn"
  unfold b_worth_of
  unfold SmallI at hc hm
  rcases h with rfl | rfl | ⟨t, b, hb, rfl | rfl | rfl⟩
  all_goals walk_at "dw"
theorem lworth_w {v : List D} {c m : Int} (h : ViewD v) (hc : SmallI c) (hm : SmallI m) {ω : Store} : f__law_worth [.d (.tup v), .d (.int c), .d (.int m)] ω = .ok (.d (.tup [.int (wo v c m).1, .int (wo v c m).2])) ω := by
  refine RW.ok_of ?_
  walk_at "fn"
  unfold b__law_worth
  unfold SmallI at hc hm
  rcases h with rfl | rfl | ⟨t, b, hb, rfl | rfl | rfl⟩
  all_goals walk_at "dw"
theorem wo_add {v : List D} (h : ViewD v) (c m c' m' : Int) : wo v (c + c') (m + m') = ((wo v c m).1 + (wo v c' m').1, (wo v c m).2 + (wo v c' m').2) := by
  rcases h with rfl | rfl | ⟨t, b, hb, rfl | rfl | rfl⟩
  · show (0 - (m + m'), c + c') = (0 - m + (0 - m'), c + c')
    rw [show 0 - (m + m') = 0 - m + (0 - m') by omega]
  · rfl
  · show (b * (c + c') - t * (m + m'), (0 : Int)) = (b * c - t * m + (b * c' - t * m'), 0 + 0)
    rw [Int.mul_add, Int.mul_add]
    refine Prod.ext ?_ rfl
    show _ = _
    omega
  · show (b * (c + c') - t * (m + m'), m + m') = (b * c - t * m + (b * c' - t * m'), m + m')
    rw [Int.mul_add, Int.mul_add]
    refine Prod.ext ?_ rfl
    show _ = _
    omega
  · show (b * (c + c') - t * (m + m'), 0 - (m + m')) = (b * c - t * m + (b * c' - t * m'), 0 - m + (0 - m'))
    rw [Int.mul_add, Int.mul_add]
    refine Prod.ext ?_ ?_ <;> (show _ = _) <;> omega
section
variable {v : List D} {ω : Store}
theorem need_w (h : ViewD v) : f_need_view [.d (.tup v)] ω = .ok (.d (.tup v)) ω := by
  refine RW.ok_of ?_
  walk_at "fn"
  unfold b_need_view
  walk_at "dw"
  rw [view_tup h, RW_ok]
  walk_at "dw"
theorem need_l (h : ViewD v) : f_need_view [.d (.lst v)] ω = .ok (.d (.tup v)) ω := by
  refine RW.ok_of ?_
  walk_at "fn"
  unfold b_need_view
  walk_at "dw"
  rw [view_lst h, RW_ok]
  walk_at "dw"
theorem need_bad {x : D} (h : x ∈ bads) : f_need_view [.d x] ω = .exc (.exc "BadValue" [("part", .str "view")]) ω := by
  refine RW.exc_of ?_
  walk_at "fn"
  unfold b_need_view
  walk_at "dw"
  rw [view_bad h, RW_ok]
  walk_at "dw"
  exact List.take_length
theorem worth_w {c m : Int} (h : ViewD v) (hc : SmallI c) (hm : SmallI m) : f_worth [.d (.tup v), .d (.int c), .d (.int m)] ω = .ok (.d (.tup [.int (wo v c m).1, .int (wo v c m).2])) ω := by
  refine RW.ok_of ?_
  walk_at "fn"
  unfold b_worth
  walk_at "dw"
  rw [need_w h, RW_ok]
  walk_at "dw"
  rw [worth_of_w h hc hm, RW_ok]
  walk_at "dw"
theorem worth_l {c m : Int} (h : ViewD v) (hc : SmallI c) (hm : SmallI m) : f_worth [.d (.lst v), .d (.int c), .d (.int m)] ω = .ok (.d (.tup [.int (wo v c m).1, .int (wo v c m).2])) ω := by
  refine RW.ok_of ?_
  walk_at "fn"
  unfold b_worth
  walk_at "dw"
  rw [need_l h, RW_ok]
  walk_at "dw"
  rw [worth_of_w h hc hm, RW_ok]
  walk_at "dw"
theorem worth_b1 {x y z : D} (h : x ∈ bads) : f_worth [.d x, .d y, .d z] ω = .exc (.exc "BadValue" [("part", .str "view")]) ω := by
  refine RW.exc_of ?_
  walk_at "fn"
  unfold b_worth
  walk_at "dw"
  rw [need_bad h, RW_exc]
  walk_at "dw"
  exact List.take_length
/-- values that are no integers -/
def odds : List D := [.non, .str "1", .bl true, .tup [], .str "aaaaa", .dct []]
theorem int_odd {x : D} (h : x ∈ odds) : f_is_integer [.d x] ω = .ok (.d (.bl false)) ω := by
  unfold odds at h
  simp only [List.mem_cons, List.not_mem_nil, or_false] at h
  rcases h with rfl | rfl | rfl | rfl | rfl | rfl
  all_goals first | exact isint_0 | exact isint_1 | exact isint_3 | exact isint_4 | exact isint_7
theorem worth_b2 {y z : D} (h : ViewD v) (hy : y ∈ odds) : f_worth [.d (.tup v), .d y, .d z] ω = .exc (.exc "BadNumber" [("part", .str "cost")]) ω := by
  refine RW.exc_of ?_
  walk_at "fn"
  unfold b_worth
  walk_at "dw"
  rw [need_w h, RW_ok]
  walk_at "dw"
  rw [int_odd hy, RW_ok]
  walk_at "dw"
  exact List.take_length
theorem worth_b3 {c : Int} {z : D} (h : ViewD v) (hz : z ∈ odds) : f_worth [.d (.tup v), .d (.int c), .d z] ω = .exc (.exc "BadNumber" [("part", .str "marks")]) ω := by
  refine RW.exc_of ?_
  walk_at "fn"
  unfold b_worth
  walk_at "dw"
  rw [need_w h, RW_ok]
  walk_at "dw"
  rw [int_odd hz, RW_ok]
  walk_at "dw"
  exact List.take_length
theorem sum_w {a b c d : Int} : f__law_sum [.d (.lst [.tup [.int a, .int b], .tup [.int c, .int d]])] ω = .ok (.d (.tup [.int (a + c), .int (b + d)])) ω := by
  refine RW.ok_of ?_
  walk_at "fn"
  unfold b__law_sum
  walk_at "dw"
  simp only [List.sum_cons, List.sum_nil, Int.add_zero]
  exact ⟨trivial, trivial⟩
end
theorem draw_eq : b__law_draw = drawB 61887 8537 35783 7269 := rfl
theorem pen_eq : f__law_pen = fnD 1 penB := rfl
theorem pick_eq : f__law_pick = fnD 2 (pickB 61887 8537 35783 7269) := rfl
theorem heard_eq : b__law_heard = heardB := rfl
local macro_rules | `(tactic| walk_at "dw1") => `(tactic| ((with_reducible show RW (fnD 7 b__law_draw _ _) _ _); rw [draw_eq]; refine draw_w1 (by decide) (by decide) (by decide) (by decide) ?k1 ?k2 ?_; (case k1 => first | decide | omega); (case k2 => omega); intro _ _ _ _ _))
theorem lview_w {cs : List Int} {at_ g : Int} {ω2 : Store} {K : Val → Store → Prop} {E} (h : (0 ≤ at_ ∧ at_ ≤ 999990) ∧ 0 ≤ g)
    (k : ∀ v at' g', ViewD v → (at_ ≤ at' ∧ at' ≤ at_ + 3) ∧ 0 ≤ g' → K (.d (.tup v)) (pn cs at' g' :: ω2)) : RW (f__law_view [.loc 0] (pn cs at_ g :: ω2)) K E := by
  walk_at "fn"
  unfold b__law_view
  walk_at "dw"
  rename_i t a1 g1 ht ha1 b a2 g2 hb ha2
  rw [pick_eq]
  refine pick_w (by decide) (by decide) (by decide) (by decide) (Nat.succ_pos _) (by simp) (by omega) (by omega) (by omega) fun i x a3 g3 hx q1 q2 q3 => ?_
  have hm := List.mem_of_getElem? hx
  have hv : ∃ v, x = .tup v ∧ ViewD v := by
    simp [List.replicate, List.flatten, List.mem_cons] at hm
    rcases hm with rfl | rfl | rfl | rfl | rfl | rfl | rfl | rfl | rfl
    · exact ⟨_, rfl, .inl rfl⟩
    · exact ⟨_, rfl, .inr (.inl rfl)⟩
    · exact ⟨_, rfl, .inr (.inr ⟨t, 1 + b, by omega, .inr (.inr rfl)⟩)⟩
    all_goals first | exact ⟨_, rfl, .inr (.inr ⟨t, 1 + b, by omega, .inl rfl⟩)⟩ | exact ⟨_, rfl, .inr (.inr ⟨t, 1 + b, by omega, .inr (.inl rfl)⟩)⟩
  obtain ⟨v, rfl, hv⟩ := hv
  walk_at "dw"
  exact k v _ _ hv (by omega)
end G

namespace G
open PySem PySem.Spec PyProof.Rows L2 DL
local macro_rules | `(tactic| walk_at "dwN") => `(tactic| ((try simp only [List.set_cons_zero, List.set_cons_succ, List.map_cons, List.map_nil, List.replicate, List.length_cons, List.length_nil, List.cons_append, List.nil_append, List.append_nil, List.take_succ_cons, List.take_length, List.take_zero, List.take_left, Nat.reduceAdd, Nat.reduceSub, Int.reduceToNat, pick_nil, pick_cons, pkc_some, wipeD, List.getElem?_cons_zero, List.getElem?_cons_succ]); exact rfl))
local macro_rules | `(tactic| walk_at "dwO") => `(tactic| first
  | ((with_reducible refine' vw_go ?k1 ?_); case k1 => exact rfl)
  | ((with_reducible show OW _ _); first
    | (with_reducible refine ows ?_)
    | ((with_reducible refine ow_ne_same ?k1 ?_); case k1 => (first | rfl | kernel_rfl)) | ((with_reducible refine ow_eq_same ?k1 ?_); case k1 => (first | rfl | kernel_rfl))
    | ((with_reducible refine' ow_go (o := inD _ _) ?k1 ?_); case k1 => exact rfl) | ((with_reducible refine' ow_go (o := notInD _ _) ?k1 ?_); case k1 => exact rfl)
    | ((with_reducible refine' ow_go (o := truD _) ?k1 ?_); case k1 => exact rfl)
    | ((with_reducible refine' ow_go (o := subX _ _) ?k1 ?_); case k1 => exact rfl)
    | ((with_reducible refine' ow_go (o := isaD _ _) ?k1 ?_); case k1 => exact rfl)
    | ((with_reducible refine' ow_go (o := listD _) ?k1 ?_); case k1 => exact rfl) | ((with_reducible refine' ow_go (o := tupD _) ?k1 ?_); case k1 => exact rfl)
    | ((with_reducible refine' ow_go (o := isNonD _ _) ?k1 ?_); case k1 => exact rfl)
    | ((with_reducible refine ow_mod ?k1 ?_); case k1 => (first | decide | omega))
    | ((with_reducible refine ow_fdiv ?k1 ?k2 ?_); (case k1 => (first | decide | omega)); (case k2 => (first | decide | omega)))
    | ((with_reducible refine ow_mul ?k1 ?_); case k1 => (first | exact .inl (by decide) | exact .inr (.inl (by decide)) | exact .inl (by omega) | exact .inr (.inl (by omega))))
    | ((with_reducible refine' ow_pow ?k1 ?k2 ?_); (case k1 => (first | decide | exact ⟨by decide, by decide, by omega⟩)); (case k2 => ((try simp only [Int.reduceToNat, Int.reducePow]); exact rfl)))
    | ((with_reducible refine' setIx_go ?k1 ?k2 ?k3 ?_); (case k1 => exact rfl); (case k2 => exact rfl); (case k3 => walk_at "dwN"))
    | ((with_reducible refine' ow_go (o := ixD _ _) ?k1 ?_); case k1 => exact rfl) | ((with_reducible refine' ow_go (o := Val.look _ _) ?k1 ?_); case k1 => exact rfl)
    | ((with_reducible refine' ow_go (o := looks _ _) ?k1 ?_); case k1 => exact rfl)
    | ((with_reducible refine' ow_go (o := keyed _) ?k1 ?_); case k1 => exact rfl)
    | ((with_reducible refine' ow_go (o := cntD _ _) ?k1 ?_); case k1 => (first | exact rfl | kernel_rfl)) | ((with_reducible refine' ow_go (o := idxD _ _) ?k1 ?_); case k1 => (first | exact rfl | kernel_rfl))
    | ((with_reducible refine' ow_go (o := List.lookup _ _) ?k1 ?_); case k1 => exact rfl) | ((with_reducible refine' ow_go (o := gSeq _ _ _ _) ?k1 ?_); case k1 => exact rfl) | ((with_reducible refine' ow_go (o := gNm _ _ _) ?k1 ?_); case k1 => exact rfl)
    | ((with_reducible refine' ow_go (o := mulA _ _) ?k1 ?_); case k1 => exact rfl) | ((with_reducible refine' ow_go (o := addD _ _) ?k1 ?_); case k1 => exact rfl) | ((with_reducible refine' ow_go (o := sumD _) ?k1 ?_); case k1 => exact rfl)
    | ((with_reducible refine' ow_go (o := some _) rfl ?_)))
  | (with_reducible refine lc_nil ?_) | (with_reducible refine lc_cons ?_) | (with_reducible refine Eq.mpr PrW_mk ?_)
  | (with_reducible refine Eq.mpr BW_bl ?_) | (with_reducible refine Eq.mpr DW_d ?_) | (with_reducible refine Eq.mpr IWn_int ?_) | (with_reducible refine Eq.mpr NW_loc ?_)
  | ((with_reducible refine' cw_go ?k1 ?k2 ?k3 ?_); (case k1 => exact rfl); (case k2 => exact rfl); (case k3 => walk_at "dwN"))
  | ((with_reducible refine' em_go ?k1 ?k2 ?_); (case k1 => (first | rfl | simp)); (case k2 => (first | walk_at "dwN" | (simp only [List.take_append_of_le_length, List.take_left, List.cons_append, List.length_cons, List.take_succ_cons]; exact rfl))))
  | (with_reducible refine Eq.mpr XW_exc ?_) | (with_reducible refine Eq.mpr FW_exc ?_)
  | ((with_reducible refine' lv_go ?k1 ?_); case k1 => walk_at "dwN")
  | ((with_reducible refine' env_go ?k1 ?_); case k1 => walk_at "dwN")
  | ((with_reducible refine And.intro ?k1 ?_); case k1 => (first | exact rfl | (simp only [List.length_cons, List.length_nil, Nat.reduceAdd, sizeLine]; decide) | decide | (simp only [List.length_cons, List.length_nil, Nat.reduceAdd, Nat.reduceLeDiff]; done) | (simp only [List.length_append, List.length_cons, List.length_nil, Nat.reduceAdd, sizeLine]; decide)))
  | ((with_reducible refine Eq.mpr Br_t ?_)) | ((with_reducible refine Eq.mpr Br_f ?_))
  | ((with_reducible show Br _ _ _); first | ((with_reducible refine Br.tt ?k1 ?_); case k1 => exact rfl) | ((with_reducible refine Br.ff ?k1 ?_); case k1 => exact rfl)))
local macro_rules | `(tactic| walk_at "dw1") => `(tactic| first | (with_reducible refine stp ?_) | ((with_reducible refine Eq.mpr (w_act ?k1) ?_); case k1 => exact rfl) | (with_reducible refine sts ?_) | walk_at "dwO")
local macro_rules | `(tactic| walk_at "dw") => `(tactic| ((repeat walk_at "dw1"); try dsimp only))
local macro_rules | `(tactic| walk_at "fn") => `(tactic| ((with_reducible refine' fn_go ?k1 ?k2 ?_); (case k1 => walk_at "dwN"); (case k2 => exact rfl)))
local macro_rules | `(tactic| walk_at "dw1") => `(tactic| ((with_reducible show RW (fnD 7 b__law_draw _ _) _ _); rw [draw_eq]; refine draw_w1 (by decide) (by decide) (by decide) (by decide) ?k1 ?k2 ?_; (case k1 => first | decide | omega); (case k2 => omega); intro _ _ _ _ _))
local macro_rules | `(tactic| walk_at "dw1") => `(tactic| ((with_reducible show RW (fnD 7 (drawB _ _ _ _) _ _) _ _); refine draw_w1 (by decide) (by decide) (by decide) (by decide) ?k1 ?k2 ?_; (case k1 => first | decide | omega); (case k2 => omega); intro _ _ _ _ _))
theorem wo_small {v : List D} {c m : Int} (h : ViewD v) (hc : SmallI c) (hm : SmallI m) : (wo v c m).1.natAbs < 10 ^ 60 ∧ (wo v c m).2.natAbs < 10 ^ 60 := by
  unfold SmallI at hc hm
  have key : ∀ t b : Int, (-10000000000000 ≤ t ∧ t ≤ 10000000000000 ∧ 1 ≤ b ∧ b ≤ 10000000) → (b * c - t * m).natAbs < 10 ^ 60 := fun t b hb => by
    have h1 : (b * c).natAbs ≤ 10000000 * 10000000000 := by
      rw [Int.natAbs_mul]; exact Nat.mul_le_mul (by omega) (by omega)
    have h2 : (t * m).natAbs ≤ 10000000000000 * 10000000000 := by
      rw [Int.natAbs_mul]; exact Nat.mul_le_mul (by omega) (by omega)
    omega
  rcases h with rfl | rfl | ⟨t, b, hb, rfl | rfl | rfl⟩
  · exact ⟨by show (0 - m).natAbs < _; omega, by show c.natAbs < _; omega⟩
  · exact ⟨by show m.natAbs < _; omega, by show c.natAbs < _; omega⟩
  · exact ⟨key t b hb, by show (0 : Int).natAbs < _; decide⟩
  · exact ⟨key t b hb, by show m.natAbs < _; omega⟩
  · exact ⟨key t b hb, by show (0 - m).natAbs < _; omega⟩
def LI (ns : List Int) (i : Nat) (ρ : DL.Env) (ω : Store) : Prop := ∃ at_ g, ω = [pn ns at_ g] ∧ ((0 ≤ at_ ∧ at_ ≤ 100 * i) ∧ 0 ≤ g) ∧ ∃ a b c d e f h j k l, ρ = [a, some (.loc 0), b, c, d, e, f, h, j, k, l]
theorem plain (ns : List Int) (hl : ns.length ≤ 63) : ∃ ω, f_law [.d (.frl (ns.map .int))] [] = .ok (.d (.bl true)) ω := by
  refine ⟨[], RW.ok_of ?_⟩
  walk_at "fn"
  unfold b_law
  walk_at "dw"
  rw [pen_eq, pen_w hl, RW_ok]
  walk_at "dw"
  refine loop_w (I := LI ns) ⟨0, 0, rfl, by omega, _, _, _, _, _, _, _, _, _, _, rfl⟩ (fun i d ρ ω hd hI => ?_) (fun ρ ω hI => ?_)
  · obtain ⟨at_, g, rfl, ha, a, b, c, d, e, f, h, j, k, l, rfl⟩ := hI
    obtain ⟨hi, rfl⟩ := range_at hd
    have hi2 : i < 12 := hi
    walk_at "dw"
    refine lview_w (by omega) fun v a1 g1 hv ha1 => ?_
    walk_at "dw"
    rw [pick_eq]
    refine pick_w (by decide) (by decide) (by decide) (by decide) (Nat.succ_pos _) (by simp) (by omega) (by omega) (by omega) fun i1 x a3 g3 hx q1 q2 q3 => ?_
    have hv2 : ∃ w, x = .tup w ∧ ViewD w := by
      have hm := List.mem_of_getElem? hx
      simp only [List.mem_cons, List.not_mem_nil, or_false] at hm
      rcases hm with rfl | rfl | rfl
      · exact ⟨_, rfl, hv⟩
      · exact ⟨_, rfl, .inr (.inr ⟨_, _, by omega, .inl rfl⟩)⟩
      · exact ⟨_, rfl, .inr (.inr ⟨_, _, by omega, .inr (.inl rfl)⟩)⟩
    obtain ⟨w, rfl, hw⟩ := hv2
    clear hx hv
    walk_at "dw"
    refine pick_w (by decide) (by decide) (by decide) (by decide) (Nat.succ_pos _) (by simp) (by omega) (by omega) (by omega) fun i2 x a4 g4 hx q4 q5 q6 => ?_
    have hn : ∃ n : Int, x = .int n ∧ 1 ≤ n ∧ n ≤ 1000000000 := by
      have hm := List.mem_of_getElem? hx
      simp only [List.mem_cons, List.not_mem_nil, or_false] at hm
      rcases hm with rfl | rfl
      · exact ⟨_, rfl, by decide, by decide⟩
      · exact ⟨_, rfl, by decide, by decide⟩
    obtain ⟨n, rfl, n1, n2⟩ := hn
    clear hx
    walk_at "dw"
    rename_i c0 a5 g5 hc0 ha5
    refine pick_w (by decide) (by decide) (by decide) (by decide) (Nat.succ_pos _) (by simp) (by omega) (by omega) (by omega) fun i3 x a6 g6 hx q7 q8 q9 => ?_
    have hn : ∃ n : Int, x = .int n ∧ 1 ≤ n ∧ n ≤ 1000000000 := by
      have hm := List.mem_of_getElem? hx
      simp only [List.mem_cons, List.not_mem_nil, or_false] at hm
      rcases hm with rfl | rfl
      · exact ⟨_, rfl, by decide, by decide⟩
      · exact ⟨_, rfl, by decide, by decide⟩
    obtain ⟨n', rfl, n3, n4⟩ := hn
    clear hx
    walk_at "dw"
    rename_i m0 a7 g7 hm0 ha7
    have hc : SmallI (c0 - 2) := by unfold SmallI; omega
    have hm : SmallI (m0 - 1) := by unfold SmallI; omega
    rw [lworth_w hw hc hm, RW_ok]
    walk_at "dw"
    rw [worth_w hw hc hm, RW_ok]
    walk_at "dw"
    obtain ⟨r1, r2⟩ := wo_small hw hc hm
    refine ow_go (repr_pair r1 r2) ?_
    walk_at "dw"
    refine ow_go (repr_pair r1 r2) ?_
    walk_at "dw"
    rw [worth_l hw hc hm, RW_ok]
    walk_at "dw"
    rw [view_tup hw, RW_ok]
    walk_at "dw"
    rw [view_lst hw, RW_ok]
    walk_at "dw"
    rename_i more a8 g8 hmore ha8 other a9 g9 hother ha9
    rw [worth_w hw hc hm, RW_ok]
    walk_at "dw"
    rw [worth_w hw (by unfold SmallI; omega) (by unfold SmallI; omega), RW_ok]
    walk_at "dw"
    rw [sum_w, RW_ok]
    walk_at "dw"
    rw [worth_w hw (by unfold SmallI; omega) (by unfold SmallI; omega), RW_ok, wo_add hw]
    walk_at "dw"
    refine pick_w (by decide) (by decide) (by decide) (by decide) (Nat.succ_pos _) (by simp) (by omega) (by omega) (by omega) fun i4 x a10 g10 hx q10 q11 q12 => ?_
    have hbad : x ∈ bads := List.mem_of_getElem? hx
    clear hx
    walk_at "dw"
    refine pick_w (by decide) (by decide) (by decide) (by decide) (Nat.succ_pos _) (by simp) (by omega) (by omega) (by omega) fun i5 y a11 g11 hx q13 q14 q15 => ?_
    have hodd : y ∈ odds := List.mem_of_getElem? hx
    clear hx
    walk_at "dw"
    rw [view_bad hbad, RW_ok]
    walk_at "dw"
    refine lam_go (ρ' := [none, none, none, none, none, some (.d x), some (.d y), none, none, none, none]) rfl (fun lm => heard_value (p := D.str "view") (RW.exc_of ?_)) ?_
    · walk_at "dw"
      rw [worth_b1 hbad, RW_exc]
      exact ⟨rfl, rfl⟩
    walk_at "dw"
    refine lam_go (ρ' := [none, none, none, some (.d (.tup w)), none, none, some (.d y), none, none, none, none]) rfl (fun lm => heard_number (p := D.str "cost") (RW.exc_of ?_)) ?_
    · walk_at "dw"
      rw [worth_b2 hw hodd, RW_exc]
      exact ⟨rfl, rfl⟩
    walk_at "dw"
    refine lam_go (ρ' := [none, none, none, some (.d (.tup w)), none, none, some (.d y), some (.d (.int (c0 - 2))), none, none, none]) rfl (fun lm => heard_number (p := D.str "marks") (RW.exc_of ?_)) ?_
    · walk_at "dw"
      rw [worth_b3 hw hodd, RW_exc]
      exact ⟨rfl, rfl⟩
    walk_at "dw"
    exact ⟨_, _, rfl, by omega, _, _, _, _, _, _, _, _, _, _, rfl⟩
  · obtain ⟨at_, g, rfl, ha, a, b, c, d, e, f, h, j, k, l, rfl⟩ := hI
    walk_at "dw"
end G

namespace G
open PySem PySem.Spec PyProof.Rows L2 DL
theorem frl_rep {g : Gd} {B : Hp} {a : Addr} {ns : List Int} (h : SqL g.K B a (ns.map V.int)) : Rep g B (.ref a) (.frl (ns.map .int)) := .frl h (by
  clear h
  induction ns with
  | nil => exact .nil
  | cons i r ih => exact .cons (.int i) ih)
abbrev l : PySem.W.OpenLaw := PySem.Challenge.rw_peranswer_k20_what_views_weigh
theorem lawG {w : World} {mg : Str → Option Value} {f : Addr} {h : Heap} {K : PySem.W.Frag} (X : K.In h) (G : h.Ns mainGlobals mg) (c : SaysX file fa fn xs ss K) (nt : ∀ a o, K.lookup a = some o → isTab o = false) (hm : mg ("law" : Str) = some (.ref f)) (O : OwnC f h) : LawG l w K 63 "script" mg f h := by
  obtain ⟨o, fd, ca, ct, h1, h2, h3, h4, h5⟩ := O
  obtain ⟨d_law, F_law⟩ := c.d.def_ 11 (d := mkD "law" 34) rfl
  have ef := hm.symm.trans (He.glo_ok X G (c.factM (f := .glo "law") (List.mem_append_left _ (by simp))))
  cases ef
  obtain ⟨oc, od, dV, kV, doc, pm, an, cdv, cto, osl, efd, lk, hcd, hD, hK⟩ := id F_law.ex
  replace lk : K.lookup (He.ga K "law") = some ⟨oc, od, .func d_law, osl⟩ := lk
  have e1 := X _ _ lk
  have e2 : some o = some _ := h1.symm.trans e1
  cases e2
  cases h2
  have nK : K.lookup ct = none := by
    cases q : K.lookup ct with
    | none => rfl
    | some o =>
      have e3 := X _ _ q
      rw [h5] at e3
      cases e3
      exact absurd (nt _ _ q) (by decide)
  have hbind := F_law.bindsA (ps := ["script"]) fun _ _ _ _ _ _ us hl => match us, hl with | [_], _ => rfl
  refine ⟨fd, [(ca, ct)], spD ⟨K, mg, [(ct, ("law" : Str) ++ (".<locals>." : Str) ++ ("<lambda>" : Str))]⟩ 1 f_law, ?_, ?_, ?_, fun s u => hbind s [u] rfl, ?_, ?_⟩
  · intro p hp; rw [List.mem_singleton.mp hp]; exact h5
  · intro p hp; rw [List.mem_singleton.mp hp]; exact nK
  · intro p hp; rw [List.mem_singleton.mp hp]; exact h4
  · intro H a ns hl hb ht hS
    obtain ⟨ω', e⟩ := plain ns hl
    refine ⟨rfl, [.d (.frl (ns.map .int))], [], [], ⟨.nil, by simp [lv], ?_⟩, .cons (frl_rep ?_) .nil, ?_⟩
    · intro p hp
      rw [List.mem_singleton.mp hp]
      exact LamX.TabS.nil (ht (ca, ct) (List.mem_singleton.mpr rfl))
    · rw [show base ([] : Store) [] H = H from off_nil]; exact hS
    · rw [e]
      intro v α' H' go hv
      cases (show Rep _ _ v (.bl true) from hv)
      rfl
  · intro base KX NX TB
    obtain ⟨Z, ea, ec⟩ := mkFa (w := w) (bs := base) X G c ca ct (fun oc od fd osl q => by rw [lk] at q; cases q; exact h3) (TB (ca, ct) (List.mem_singleton.mpr rfl))
    have ok := ok_law (T := [(ct, ("law" : Str) ++ (".<locals>." : Str) ++ ("<lambda>" : Str))]) Z ⟨by rw [ec]; exact List.mem_singleton.mpr rfl, fun p hp _ => by rw [List.mem_singleton.mp hp]⟩
    have ed : Z.d_law = fd := by
      obtain ⟨oc', od', dV', kV', doc', pm', an', cdv', cto', osl', efd', lk', _⟩ := Z.F_law.ex
      rw [ea, lk] at lk'
      cases lk'
      rfl
    rw [ea, ed] at ok
    exact ok.runsC ⟨rfl, by decide, by decide⟩
end G
open PySem PySem.W PySem.Calls PyProof.Rows
set_option maxRecDepth 100000 in
set_option maxHeartbeats 0 in
theorem PySem.Challenge.cw_peranswer_k20_what_views_weigh_holds : PySem.Challenge.rw_peranswer_k20_what_views_weigh.Holds := by
  w_on; o_law
  refine HandSHeadRun.head_any (r := OpenLaw.row PySem.Challenge.rw_peranswer_k20_what_views_weigh) (q := view (OpenLaw.row PySem.Challenge.rw_peranswer_k20_what_views_weigh).prog [34]) (H := G.hk) (ob := G.ob) (M := 4000) (loose := G.names) (d := HandSHeadRun.topDef (OpenLaw.row PySem.Challenge.rw_peranswer_k20_what_views_weigh).prog 34) (kwd := []) G.ob_eq
    (by kernel_rfl) (fun s => by kernel_rfl) G.run (by kernel_rfl) (by kernel_rfl) (by kernel_rfl) (by rfl) (by first | assumption | decide +kernel) (by decide +kernel) ⟨rfl, rfl, rfl, rfl, rfl, by decide +kernel⟩ ?hw ?hc
  case hw => w_witness2
  case hc =>
    refine DL.walk_ofG (l := PySem.Challenge.rw_peranswer_k20_what_views_weigh) (n := 63) (x := "script") rfl (by decide) (by kernel_rfl) ?hrec ?F
    case hrec => kernel_rfl
    case F =>
      intro w mg fa h Y GN hmg0 O
      obtain ⟨K, KX, c, nt⟩ := Y
      have hmg : mg ("law" : PySem.Str) = some (.ref fa) := by
        have e : (HandSHeadRun.topDef (OpenLaw.row PySem.Challenge.rw_peranswer_k20_what_views_weigh).prog 34).name = ("law" : PySem.Str) := by kernel_rfl
        rw [← e]
        exact hmg0
      exact ⟨K, KX, G.lawG KX GN c nt hmg O⟩

